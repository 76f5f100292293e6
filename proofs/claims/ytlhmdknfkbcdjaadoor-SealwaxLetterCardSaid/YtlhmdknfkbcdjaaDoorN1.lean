/- What was written is read: numbers, texts. -/
import Derived.Test.YtlhmdknfkbcdjaaDoorV4
import Derived.Test.YtlhmdknfkbcdjaaDoorV3
set_option linter.unusedVariables false
set_option linter.unusedSimpArgs false
set_option maxRecDepth 10000
set_option maxHeartbeats 1000000
namespace Go.Proofs.YtlhmdknfkbcdjaaDoor
open Go Go.SY
seal sx sxOps

theorem val8_be8 (N : Nat) (hN : N < 2 ^ 64) : ∀ j, j ≤ 8 → val8 (be8 N j) = N / 2 ^ (64 - 8 * j) := by
  intro j
  induction j with
  | zero =>
    intro _
    have h1 : N / 2 ^ 64 = 0 := Nat.div_eq_of_lt hN
    rw [Nat.mul_zero, Nat.sub_zero, h1]; rfl
  | succ j ih =>
    intro hj
    have ih := ih (by omega)
    have hp : 64 - 8 * j = (56 - 8 * j) + 8 := by omega
    have hq : 64 - 8 * (j + 1) = 56 - 8 * j := by omega
    rw [hp, Nat.pow_add, ← Nat.div_div_eq_div_mul] at ih
    rw [hq, be8_succ, val8_snoc, ih, UInt8.toNat_ofNat']
    omega
theorem num_back (n : Int) (rest : List UInt8) (hn : nz n ≤ 9223372036854775807) : numR (num8 n ++ rest, 0) = ((rest, 0), (nz n : Int)) := by
  have hl := num8_length n
  have e8 : nz 8 = 8 := rfl
  have hraw : rawR (num8 n ++ rest, 0) 8 = ((rest, 0), num8 n) := by
    unfold rawR
    rw [if_neg (by rw [e8, List.length_append, hl]; omega), e8]
    rw [List.drop_append_of_le_length (by omega), List.take_append_of_le_length (by omega), List.drop_of_length_le (by omega), List.take_of_length_le (by omega)]
    rfl
  have hne : num8 n ≠ [] := fun e => by rw [e] at hl; cases hl
  have hv : val8 (num8 n) = nz n := by
    have := val8_be8 (nz n) (by omega) 8 (by decide)
    rw [show 64 - 8 * 8 = 0 by decide, Nat.pow_zero, Nat.div_one] at this
    exact this
  have hb : ¬ 128 ≤ ((num8 n).getD 0 0).toNat := by
    have : (num8 n).getD 0 0 = UInt8.ofNat (nz n / 2 ^ 56) := rfl
    rw [this, UInt8.toNat_ofNat']
    omega
  unfold numR
  rw [hraw]
  rw [if_neg hne, if_neg hb, hv]
theorem text_back (s rest : List UInt8) (hs : s.length ≤ 1000000000) : textR (text8 s ++ rest, 0) = ((rest, 0), s) := by
  unfold textR text8
  rw [List.append_assoc, num_back (s.length : Int) (s ++ rest) (by unfold nz; omega)]
  have e : nz ((nz (s.length : Int) : Nat) : Int) = s.length := by unfold nz; omega
  unfold rawR
  rw [e, if_neg (by rw [List.length_append]; omega)]
  simp

end Go.Proofs.YtlhmdknfkbcdjaaDoor
