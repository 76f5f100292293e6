/- A slice of calls, as an argument. -/
import Derived.Test.YtmbmbmldpakbhaaB
import Derived.Test.YtmbmbmldpakbhaaSy4
namespace Go.Proofs.Ytmbmbmldpakbhaa
open Go Go.SY
theorem arg_acts {H : Type} {enc : TypeId × Value → H} {W : World} {r : Reach} {b0 : Nat} {t : TypeId} {v : Value} {sp : Nat → Bool} {held : Bool} {d : DataW H} {p : List MemPlace}
    (ht : Try.prog.underlying t = some (.slice 42))
    (h : Value.okWide Try.prog W r b0 t v) (hd : DataW.Trod enc Try.prog W 0 sp held t v d p) :
    ∃ (x : SV) (L : List (Int × Int × List UInt8)), v = x.val ∧ (HB.view (.st actS) x L).Is W x.blk ∧ (∀ y ∈ L, y.2.1 ≤ 9223372036854775807) ∧ L.length ≤ maxLen :=
  arg_slice (E := .st actS) (f := 5) (z := [.c (.int .i64 0), .c (.int .i64 0), .c (.str [])]) ht (by kernel_rfl) (by kernel_rfl)
    (fun y => y.2.1 ≤ 9223372036854775807) (fun l hl => by
      obtain ⟨_, _, rfl, ⟨a, rfl, _⟩, _, _, rfl, ⟨b, rfl, hb⟩, _, _, rfl, ⟨s, rfl, _⟩, hq⟩ := hl
      obtain rfl : _ = [] := hq
      exact ⟨(a, b, s), rfl, hb.2⟩) h hd
end Go.Proofs.Ytmbmbmldpakbhaa
