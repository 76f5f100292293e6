/- A slice of calls, as an argument. -/
import Derived.Test.YthkgegbhnhkacaaB
import Derived.Test.YthkgegbhnhkacaaSy4
namespace Go.Proofs.Ythkgegbhnhkacaa
open Go Go.SY
abbrev Call := Int × Int × Int × Int × Int
abbrev actS : EncS := ⟨Call, 5, fun x => [.c (.int .i64 x.1), .c (.int .i64 x.2.1), .c (.int .i64 x.2.2.1), .c (.int .i64 x.2.2.2.1), .c (.int .i64 x.2.2.2.2)], (0, 0, 0, 0, 0), fun _ => none, fun _ => rfl, fun _ _ h => by cases h⟩
theorem arg_acts {H : Type} {enc : TypeId × Value → H} {W : World} {r : Reach} {b0 : Nat} {t : TypeId} {v : Value} {sp : Nat → Bool} {held : Bool} {d : DataW H} {p : List MemPlace}
    (ht : Try.prog.underlying t = some (.slice 46))
    (h : Value.okWide Try.prog W r b0 t v) (hd : DataW.Trod enc Try.prog W 0 sp held t v d p) :
    ∃ (x : SV) (L : List Call), v = x.val ∧ (HB.view (.st actS) x L).Is W x.blk ∧ (∀ y ∈ L, True) ∧ L.length ≤ maxLen :=
  arg_slice (E := .st actS) (f := 8) (z := [.c (.int .i64 0), .c (.int .i64 0), .c (.int .i64 0), .c (.int .i64 0), .c (.int .i64 0)]) ht (by kernel_rfl) (by kernel_rfl)
    (fun y => True) (fun l hl => by
      obtain ⟨_, _, rfl, ⟨a, rfl, _⟩, _, _, rfl, ⟨b, rfl, _⟩, _, _, rfl, ⟨c, rfl, _⟩, _, _, rfl, ⟨d, rfl, _⟩, _, _, rfl, ⟨e, rfl, _⟩, hq⟩ := hl
      obtain rfl : _ = [] := hq
      exact ⟨(a, b, c, d, e), rfl, trivial⟩) h hd
end Go.Proofs.Ythkgegbhnhkacaa
