/- A slice of calls, as an argument. -/
import Derived.Test.YtchbadngbddmnaaB
import Derived.Test.YtchbadngbddmnaaSy4
set_option maxRecDepth 100000
namespace Go.Proofs.Ytchbadngbddmnaa
open Go Go.SY
theorem arg_acts {H : Type} {enc : TypeId × Value → H} {W : World} {r : Reach} {b0 : Nat} {t : TypeId} {v : Value} {sp : Nat → Bool} {held : Bool} {d : DataW H} {p : List MemPlace}
    (ht : Try.prog.underlying t = some (.slice 32))
    (h : Value.okWide Try.prog W r b0 t v) (hd : DataW.Trod enc Try.prog W 0 sp held t v d p) :
    ∃ (x : SV) (L : List ActT), v = x.val ∧ (HB.view (.st actS) x L).Is W x.blk ∧ (∀ y ∈ L, y.2.2.1 ≤ 9223372036854775807) ∧ L.length ≤ maxLen :=
  arg_slice (E := .st actS) (f := 8) (z := [.c (.int .i64 0), .c (.int .i64 0), .c (.int .i64 0), .c (.w64 0), .c (.str [])]) ht (by kernel_rfl) (by kernel_rfl)
    (fun y => y.2.2.1 ≤ 9223372036854775807) (fun l hl => by
      obtain ⟨_, _, rfl, ⟨a, rfl, _⟩, _, _, rfl, ⟨b, rfl, _⟩, _, _, rfl, ⟨c, rfl, hc⟩, _, _, rfl, ⟨m, rfl⟩, _, _, rfl, ⟨s, rfl, _⟩, hq⟩ := hl
      obtain rfl : _ = [] := hq
      exact ⟨(a, b, c, m, s), rfl, hc.2⟩) h hd
end Go.Proofs.Ytchbadngbddmnaa
