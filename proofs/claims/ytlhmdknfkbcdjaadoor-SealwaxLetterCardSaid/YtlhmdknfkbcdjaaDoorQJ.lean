/- strings.Join, as the kit's shelf tells it. -/
import Derived.Test.YtlhmdknfkbcdjaaDoorB
import Derived.Test.YtlhmdknfkbcdjaaDoorShelf
import Derived.Test.YtlhmdknfkbcdjaaDoorSy4
set_option linter.unusedVariables false
set_option linter.unusedSimpArgs false
set_option maxRecDepth 10000
set_option maxHeartbeats 1000000
namespace Go.Proofs.YtlhmdknfkbcdjaaDoor
open Go Go.SY
seal sx sxOps
theorem join_flat (l : List (List UInt8)) : Lib.join l [] = l.flatten := by
  cases l with
  | nil => rfl
  | cons a l =>
    induction l generalizing a with
    | nil => simp [Lib.join, List.intercalate]
    | cons b l ih =>
      have := ih b
      simp only [Lib.join, List.intercalate, List.flatten_cons] at this ⊢
      rw [List.intersperse_cons_cons, List.flatten_cons, List.flatten_cons, this]
      rfl
theorem join_ok (x : SV) (L : List (List UInt8)) (hL : L.length ≤ 1000000) (hF : L.flatten.length ≤ 1000000000) :
    CtrP R 79 [vl 0 x, vs []] [(0, x.blk, .view (.sc .str) x L)] (vs L.flatten) := by
  refine Ctr.lib ⟨_, Tryd.func79, by kernel_rfl, by kernel_rfl⟩ ⟨trivial, trivial⟩ fun w hw => ?_
  obtain ⟨hwf, hv⟩ := hw.is 0 x.blk (.view (.sc .str) x L) rfl
  cases x with
  | nil =>
    obtain rfl : L = [] := hv
    exact (Tryd.strings_Join_none none 0 ⟨#[]⟩ w).mono fun e w' ⟨he, hw⟩ => ⟨he, by rw [hw]; exact RowKit.Below.refl _ _⟩
  | «at» b o len cap =>
    obtain ⟨_, rfl, hlc, hlt, hcell⟩ := hv
    have e : (L.map fun s => (⟨⟨s⟩⟩ : ByteArray)).map (·.data.toList) = L := by rw [List.map_map]; exact List.map_id' L
    have ej : Lib.join ((L.map fun s => (⟨⟨s⟩⟩ : ByteArray)).map (·.data.toList)) [] = L.flatten := by rw [e, join_flat]
    have h := Tryd.strings_Join b o cap (L.map fun s => ⟨⟨s⟩⟩) ⟨#[]⟩ w (fun j y hy => by
      obtain ⟨s, hs, rfl⟩ : ∃ s, L[j]? = some s ∧ (⟨⟨s⟩⟩ : ByteArray) = y := by simpa [List.getElem?_map] using hy
      obtain ⟨hj, hjs⟩ := List.getElem?_eq_some_iff.1 hs
      have hg := Enc.vals_get (E := .sc .str) hwf (i := j) (j := 0) hj (by show 0 < 1; decide)
      refine hcell j _ ?_
      have e1 : j * (Enc.sc .str).sz + 0 = j := by show j * 1 + 0 = j; omega
      rw [e1] at hg
      rw [hg, gd_lt hj, hjs]
      rfl) hlt (by simp; omega) (by simp; omega) (by show (Lib.join _ []).length ≤ _; rw [ej]; omega)
    rw [List.length_map] at h
    refine h.mono fun e w' ⟨he, hw⟩ => ⟨?_, hw⟩
    rw [he]
    show Ending.returned (.string ⟨(Lib.join _ []).toArray⟩) = _
    rw [ej]
    rfl
end Go.Proofs.YtlhmdknfkbcdjaaDoor
