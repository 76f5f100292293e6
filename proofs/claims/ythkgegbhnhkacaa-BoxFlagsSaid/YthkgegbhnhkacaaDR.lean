/- A slice of pairs of numbers, as an argument. -/
import Derived.Test.YthkgegbhnhkacaaB
import Derived.Test.YthkgegbhnhkacaaSy4
namespace Go.Proofs.Ythkgegbhnhkacaa
open Go Go.SY
theorem arg_sets {H : Type} {enc : TypeId × Value → H} {W : World} {r : Reach} {b0 : Nat} {t : TypeId} {v : Value} {sp : Nat → Bool} {held : Bool} {d : DataW H} {p : List MemPlace}
    (ht : Try.prog.underlying t = some (.slice 31))
    (h : Value.okWide Try.prog W r b0 t v) (hd : DataW.Trod enc Try.prog W 0 sp held t v d p) :
    ∃ (x : SV) (L : List (List Int)), v = x.val ∧ (HB.view (.st pairS) x L).Is W x.blk ∧ (∀ y ∈ L, True) ∧ L.length ≤ maxLen :=
  arg_slice (E := .st pairS) (f := 5) (z := [.arr (.int .i64) 2 [(0 : Int), (0 : Int)]]) ht (by kernel_rfl) (by kernel_rfl)
    (fun y => True) (fun l hl => by
      obtain ⟨M, _, rfl, _, _, hq⟩ := hl
      obtain rfl : _ = [] := hq
      exact ⟨M, rfl, trivial⟩) h hd
end Go.Proofs.Ythkgegbhnhkacaa
