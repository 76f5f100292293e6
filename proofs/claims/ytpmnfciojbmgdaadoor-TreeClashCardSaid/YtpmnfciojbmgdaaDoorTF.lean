/- Two texts shown at one place of one root: plainly. -/
import Derived.Test.YtpmnfciojbmgdaaDoorT6
set_option linter.unusedVariables false
set_option linter.unusedSimpArgs false
set_option maxRecDepth 10000
namespace Go.Proofs.YtpmnfciojbmgdaaDoor
open Go Go.SY Go.Sha

theorem ways_get (i : Nat) (s : List UInt8) (l : List (List UInt8)) (k m : Nat) (h : k ≤ m) : (ways i s l m).getD k [] = (ways i s l k).getD k [] := by
  induction m with
  | zero => obtain rfl : k = 0 := by omega
            rfl
  | succ m ih =>
    by_cases e : k = m + 1
    · subst e; rfl
    · rw [← ih (by omega)]
      simp only [ways]
      rw [List.getD_eq_getElem?_getD, List.getElem?_append_left (by rw [ways_length]; omega), ← List.getD_eq_getElem?_getD]
theorem ways_last (i : Nat) (s : List UInt8) (l : List (List UInt8)) (k : Nat) : (ways i s l (k + 1)).getD (k + 1) [] = if i / 2 ^ k % 2 = 0 then nodeT (Sha.sum ((ways i s l k).getD k [])) (l.getD k []) else nodeT (l.getD k []) (Sha.sum ((ways i s l k).getD k [])) := by
  simp only [ways]
  rw [List.getD_eq_getElem?_getD, List.getElem?_append_right (by rw [ways_length]; exact Nat.le_refl _), ways_length, Nat.sub_self]; rfl
theorem nodeT_inj {a b c d : List UInt8} (h : nodeT a b = nodeT c d) (ha : a.length = 32) (hc : c.length = 32) : a = c ∧ b = d := by
  unfold nodeT at h
  rw [List.append_assoc, List.append_assoc] at h
  exact List.append_inj (List.append_cancel_left h) (by omega)
/-- Where no two that differ have one sum, what is at the top alike is at the bottom alike. -/
theorem ways_down (i : Nat) (a b : List UInt8) (x y : List (List UInt8)) (hx : ∀ z ∈ x, z.length = 32) (hy : ∀ z ∈ y, z.length = 32) (n : Nat) (hnx : n ≤ x.length) (hny : n ≤ y.length)
    (hno : ∀ k, k ≤ n → (ways i a x k).getD k [] = (ways i b y k).getD k [] ∨ Sha.sum ((ways i a x k).getD k []) ≠ Sha.sum ((ways i b y k).getD k [])) :
    Sha.sum ((ways i a x n).getD n []) = Sha.sum ((ways i b y n).getD n []) → a = b := by
  induction n with
  | zero =>
    intro h
    rcases hno 0 (Nat.le_refl _) with e | e
    · have e : leafT a = leafT b := e
      unfold leafT at e
      exact List.append_cancel_left e
    · exact absurd h e
  | succ n ih =>
    intro h
    refine ih (by omega) (by omega) (fun k hk => hno k (by omega)) ?_
    rcases hno (n + 1) (Nat.le_refl _) with e | e
    · rw [ways_last, ways_last] at e
      have h1 : (x.getD n []).length = 32 := by rw [gd_lt (by omega : n < x.length)]; exact hx _ (List.getElem_mem _)
      have h2 : (y.getD n []).length = 32 := by rw [gd_lt (by omega : n < y.length)]; exact hy _ (List.getElem_mem _)
      split at e
      · exact (nodeT_inj e (sum_length _) (sum_length _)).1
      · exact (nodeT_inj e h1 h2).2
    · exact absurd h e
end Go.Proofs.YtpmnfciojbmgdaaDoor
