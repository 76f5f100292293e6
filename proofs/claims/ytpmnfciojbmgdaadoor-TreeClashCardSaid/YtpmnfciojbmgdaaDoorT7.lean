/- Trees, plainly: a tree of one depth more. -/
import Derived.Test.YtpmnfciojbmgdaaDoorT4
set_option linter.unusedVariables false
set_option linter.unusedSimpArgs false
set_option maxRecDepth 10000
namespace Go.Proofs.YtpmnfciojbmgdaaDoor
open Go Go.SY Go.Sha

/-- What stands at a place of a height. -/
def plc (l : List (List UInt8)) : Nat → Nat → List UInt8
  | 0, i => leafS (l.getD i [])
  | h + 1, i => nodeS (plc l h (2 * i)) (plc l h (2 * i + 1))
theorem getD_none {α : Type} {l : List α} {i : Nat} {d : α} (h : l.length ≤ i) : l.getD i d = d := by
  rw [List.getD_eq_getElem?_getD, List.getElem?_eq_none h]; rfl
theorem ups_get (l : List (List UInt8)) (r : List UInt8) (n i : Nat) (h : i < n) (d : List UInt8) : (ups l r n).getD i d = nodeS (l.getD (2 * i) r) (l.getD (2 * i + 1) r) := by
  rw [gd_lt (by rw [ups_length]; exact h)]; simp [ups]
theorem rowAt_plc (D : Nat) (L : List (List UInt8)) (h : Nat) : ∀ i, (rowAt D L h).1.getD i (rowAt D L h).2 = plc (L.take (2 ^ D)) h i := by
  induction h with
  | zero =>
    intro i
    simp only [rowAt, plc]
    rcases Nat.lt_or_ge i (L.take (2 ^ D)).length with hi | hi
    · rw [gd_lt (by rw [List.length_map]; exact hi), gd_lt hi, List.getElem_map]
    · rw [getD_none (by rw [List.length_map]; exact hi), getD_none hi]
  | succ h ih =>
    intro i
    have e : (rowAt D L (h + 1)).1.getD i (rowAt D L (h + 1)).2 = nodeS ((rowAt D L h).1.getD (2 * i) (rowAt D L h).2) ((rowAt D L h).1.getD (2 * i + 1) (rowAt D L h).2) := by
      simp only [rowAt]
      rcases Nat.lt_or_ge i (((rowAt D L h).1.length + 1) / 2) with hi | hi
      · exact ups_get _ _ _ _ hi _
      · rw [getD_none (by rw [ups_length]; exact hi), getD_none (by omega), getD_none (by omega)]
    rw [e, ih, ih]; rfl
theorem plc_out (l : List (List UInt8)) (h : Nat) : ∀ i j, l.length ≤ i * 2 ^ h → plc l h i = plc [] h j := by
  induction h with
  | zero => intro i j hi; simp only [plc]; rw [getD_none (by omega), getD_none (by simp)]
  | succ h ih =>
    intro i j hi
    have e : i * 2 ^ (h + 1) = 2 * i * 2 ^ h := by rw [Nat.pow_succ, Nat.mul_comm (2 ^ h) 2, ← Nat.mul_assoc, Nat.mul_comm i 2]
    simp only [plc]
    rw [ih (2 * i) (2 * j) (by omega), ih (2 * i + 1) (2 * j + 1) (by rw [Nat.add_mul]; omega)]
theorem rootS_plc (D : Nat) (L : List (List UInt8)) : rootS D L = plc (L.take (2 ^ D)) D 0 := rowAt_plc D L D 0
theorem root_grows (q : Nat) (L : List (List UInt8)) (h : L.length ≤ 2 ^ q) : rootS (q + 1) L = nodeS (rootS q L) (rootS q []) := by
  rw [rootS_plc, rootS_plc, rootS_plc, List.take_of_length_le (by rw [Nat.pow_succ]; omega), List.take_of_length_le h, List.take_nil]
  show nodeS (plc L q 0) (plc L q 1) = _
  rw [plc_out L q 1 0 (by omega)]
end Go.Proofs.YtpmnfciojbmgdaaDoor
