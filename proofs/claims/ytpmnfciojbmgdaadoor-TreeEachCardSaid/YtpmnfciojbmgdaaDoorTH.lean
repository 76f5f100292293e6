/- What is shown holds: plainly. -/
import Derived.Test.YtpmnfciojbmgdaaDoorTF
import Derived.Test.YtpmnfciojbmgdaaDoorTA
set_option linter.unusedVariables false
set_option linter.unusedSimpArgs false
set_option maxRecDepth 10000
namespace Go.Proofs.YtpmnfciojbmgdaaDoor
open Go Go.SY Go.Sha

theorem showS_get (D i : Nat) (L : List (List UInt8)) (n k : Nat) (h : k < n) : (showS D i L n).getD k [] = plc (L.take (2 ^ D)) k (sib (i / 2 ^ k)) := by
  rw [gd_lt (by rw [showS_length]; exact h)]
  simp only [showS, List.getElem_map, List.getElem_range]
  exact rowAt_plc D L k _
theorem way_plc (D i : Nat) (L : List (List UInt8)) (k : Nat) (hk : k ≤ D) :
    Sha.sum ((ways i ((L.take (2 ^ D)).getD i []) (showS D i L D) k).getD k []) = plc (L.take (2 ^ D)) k (i / 2 ^ k) := by
  induction k with
  | zero => simp only [Nat.pow_zero, Nat.div_one]; rfl
  | succ k ih =>
    have ih := ih (by omega)
    have hd : i / 2 ^ (k + 1) = i / 2 ^ k / 2 := by rw [Nat.pow_succ, ← Nat.div_div_eq_div_mul]
    rw [ways_last, ih, showS_get D i L D k (by omega), hd]
    obtain ⟨m, hm⟩ : ∃ m, m = i / 2 ^ k := ⟨_, rfl⟩
    rw [← hm]
    split
    · rename_i c
      have e : sib m = m + 1 := by unfold sib; rw [if_pos c]
      have e2 : 2 * (m / 2) = m := by omega
      rw [e]
      show nodeS _ _ = nodeS _ _
      rw [e2]
    · rename_i c
      have e : sib m = m - 1 := by unfold sib; rw [if_neg c]
      have e2 : 2 * (m / 2) = m - 1 := by omega
      have e3 : m - 1 + 1 = m := by omega
      rw [e]
      show nodeS _ _ = nodeS _ _
      rw [e2, e3]
theorem shown_holds (D i : Nat) (hD : D ≤ 16) (hi : i < 2 ^ D) (L : List (List UInt8)) : holdsS (rootS D L) (i : Int) (L.getD i []) (showS D i L D) = true := by
  have e : (L.take (2 ^ D)).getD i [] = L.getD i [] := by
    rw [List.getD_eq_getElem?_getD, List.getD_eq_getElem?_getD, List.getElem?_take, if_pos hi]
  unfold holdsS
  rw [showS_length, Bool.and_eq_true]
  refine ⟨decide_eq_true ⟨hD, by omega, by omega⟩, decide_eq_true ?_⟩
  rw [Int.toNat_natCast, ← e, way_plc D i L D (Nat.le_refl _), Nat.div_eq_of_lt hi, rootS_plc]
end Go.Proofs.YtpmnfciojbmgdaaDoor
