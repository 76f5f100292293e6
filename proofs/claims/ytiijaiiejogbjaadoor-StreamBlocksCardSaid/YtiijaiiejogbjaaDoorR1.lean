/- The document's left and number. -/
import Derived.Test.YtiijaiiejogbjaaDoorProg
import Derived.Test.YtiijaiiejogbjaaDoorChachaPlain
set_option linter.unusedVariables false
set_option linter.unusedSimpArgs false
set_option maxRecDepth 10000
namespace Go.Proofs.YtiijaiiejogbjaaDoor.Str
open Go Go.SX Go.Chacha

theorem turn_step {x : Int} (hx : 0 ≤ x ∧ x < 4294967296) {i : Nat} (hi : i < 32) : 2 * rotl x i % 4294967296 + rotl x i / 2147483648 = rotl x (i + 1) := by
  obtain ⟨m, hm⟩ : ∃ m, i + m = 31 := ⟨31 - i, by omega⟩
  unfold rotl
  rw [show 32 - i = m + 1 by omega, show 32 - (i + 1) = m by omega]
  have hP : (0 : Int) < 2 ^ i := Int.pow_pos (by omega)
  have hQ : (0 : Int) < 2 ^ m := Int.pow_pos (by omega)
  have hPQ : (2 : Int) ^ i * 2 ^ m = 2147483648 := by rw [← Int.pow_add, hm]; rfl
  have e1 : (2 : Int) ^ (m + 1) = 2 ^ m * 2 := Int.pow_succ ..
  have e2 : (2 : Int) ^ (i + 1) = 2 ^ i * 2 := Int.pow_succ ..
  rw [e1, e2]
  have hd2 : x / (2 ^ m * 2) = x / 2 ^ m / 2 := (Int.ediv_ediv_of_nonneg (by omega)).symm
  rw [hd2]
  have hxd : x = 2 ^ m * (x / 2 ^ m) + x % 2 ^ m := (Int.mul_ediv_add_emod x (2 ^ m)).symm
  have hd0 : 0 ≤ x / 2 ^ m := Int.ediv_nonneg hx.1 (by omega)
  have hr0 : 0 ≤ x % 2 ^ m := Int.emod_nonneg _ (by omega)
  have hr : x % 2 ^ m < 2 ^ m := Int.emod_lt_of_pos _ hQ
  have hd : x / 2 ^ m < 2 ^ i * 2 := (Int.ediv_lt_iff_lt_mul hQ).2 (by
    have : 2 ^ i * 2 * 2 ^ m = (4294967296 : Int) := by rw [Int.mul_assoc, Int.mul_comm 2, ← Int.mul_assoc, hPQ]; rfl
    omega)
  have hx1 : x * 2 ^ i = 2147483648 * (x / 2 ^ m) + (x % 2 ^ m) * 2 ^ i := by
    calc x * 2 ^ i = (2 ^ m * (x / 2 ^ m) + x % 2 ^ m) * 2 ^ i := by rw [← hxd]
      _ = (2 ^ i * 2 ^ m) * (x / 2 ^ m) + (x % 2 ^ m) * 2 ^ i := by rw [Int.add_mul, Int.mul_comm (2 ^ m) (x / 2 ^ m), Int.mul_assoc, Int.mul_comm (2 ^ m) (2 ^ i), Int.mul_comm (x / 2 ^ m)]
      _ = _ := by rw [hPQ]
  have hA0 : 0 ≤ (x % 2 ^ m) * 2 ^ i := Int.mul_nonneg hr0 (by omega)
  have hA1 : (x % 2 ^ m) * 2 ^ i ≤ (2 ^ m - 1) * 2 ^ i := Int.mul_le_mul_of_nonneg_right (by omega) (by omega)
  have hA2 : ((2 : Int) ^ m - 1) * 2 ^ i = 2147483648 - 2 ^ i := by rw [Int.sub_mul, Int.mul_comm (2 ^ m), hPQ, Int.one_mul]
  have hx2 : x * (2 ^ i * 2) = (x * 2 ^ i) * 2 := (Int.mul_assoc ..).symm
  rw [hx2, hx1]
  generalize x / 2 ^ m = d at *
  generalize (x % 2 ^ m) * 2 ^ i = A at *
  generalize (2 : Int) ^ i = P at *
  clear hx1 hx2 hxd e1 e2 hPQ hd2
  have h1 : A + d / 2 < 2147483648 := by omega
  have h2 : (2147483648 * d + A) % 4294967296 = (d % 2) * 2147483648 + A := by omega
  have h3 : (2147483648 * d + A) * 2 % 4294967296 = 2 * A := by omega
  rw [h2, h3]
  have h4 : (d % 2 * 2147483648 + A + d / 2) / 2147483648 = d % 2 := by omega
  have h5 : 2 * (d % 2 * 2147483648 + A + d / 2) % 4294967296 = 2 * (A + d / 2) := by omega
  rw [h4, h5]
  omega
theorem rotl_zero {x : Int} (hx : 0 ≤ x ∧ x < 4294967296) : rotl x 0 = x := by
  unfold rotl
  rw [show (2 : Int) ^ 0 = 1 from rfl, show (2 : Int) ^ (32 - 0) = 4294967296 from rfl]
  omega

theorem left {x : Int} (hx : 0 ≤ x ∧ x < 4294967296) {n : Nat} (hn : n ≤ 32) :
    Ctr Tryd.prog 26 [.int .i64 x, .int .i64 n] [] fun v H' => v = .b (.one (.int .i64 (rotl x n))) ∧ H' = [] := by
  refine Ctr.of (args := [.b (.one (.int .i64 x)), .b (.one (.int .i64 n))]) Tryd.func26 rfl (by kernel_rfl) rfl fun w0 => ?_
  refine LoopG.of (fun i : Nat => ([(5, .b (.one (.int .i64 i))), (0, .b (.one (.int .i64 (rotl x i)))), (1, .b (.one (.int .i64 n)))], [])) (fun i => i ≤ n) (fun i => n - i) 0 ?_ ?_
  · exact ⟨by omega, ⟨rfl, congrArg (fun z => some (TV.b (.one (.int .i64 z)))) (rotl_zero hx).symm, rfl, trivial⟩, trivial⟩
  · intro i hi
    have hr := rotl_w hx (n := i) (by omega)
    refine Br.by (fun h => ?_) (fun h => ?_)
    · have hi : (i : Int) < n := h
      refine Wr.i64 (by omega) ?_
      refine Chk.mk (by omega) ?_
      refine Chk.mk (by omega) ?_
      have h1 : (2 * rotl x i).tmod 4294967296 = 2 * rotl x i % 4294967296 := Int.tmod_eq_emod_of_nonneg (by omega)
      have h2 : (rotl x i).tdiv 2147483648 = rotl x i / 2147483648 := Int.tdiv_eq_ediv_of_nonneg (by omega)
      refine Wr.i64 (by rw [h2]; omega) ?_
      refine Wr.i64 (by rw [h1, h2]; omega) ?_
      refine Wr.i64 (by omega) ?_
      refine ⟨i + 1, by omega, (by show n - (i + 1) < n - i; omega), ⟨rfl, ?_, rfl, trivial⟩, trivial⟩
      exact congrArg (fun z => some (TV.b (.one (.int .i64 z)))) (by rw [h1, h2]; exact turn_step hx (by omega))
    · have hi : ¬ (i : Int) < n := h
      obtain rfl : i = n := by omega
      exact ⟨[], trivial, rfl, rfl⟩

theorem numberR (s : List UInt8) (h4 : 4 ≤ s.length) :
    Ctr Tryd.prog 22 [(SC.str s).val] [] fun v H' => v = .b (.one (.int .i64 (word (numsOf s) 0))) ∧ H' = [] := by
  refine Ctr.of (args := [.b (.one (.str s))]) Tryd.func22 rfl (by kernel_rfl) rfl fun w0 => ?_
  refine Draw.quiet (by kernel_rfl) (by kernel_rfl) ?_
  have hb : ∀ i : Nat, bat s i = (numsOf s).getD i 0 ∧ 0 ≤ bat s i ∧ bat s i < 256 := fun i => by
    have h2 : bat s i = (numsOf s).getD i 0 := by
      simp only [bat, numsOf, Int.toNat_natCast, List.getD_eq_getElem?_getD, List.getElem?_map]
      cases s[i]? <;> rfl
    refine ⟨h2, ?_, ?_⟩
    · unfold bat; omega
    · unfold bat
      have := (s.getD (i : Int).toNat 0).toNat_lt
      omega
  have b0 : bat s 0 = (numsOf s).getD 0 0 ∧ 0 ≤ bat s 0 ∧ bat s 0 < 256 := hb 0
  have b1 : bat s 1 = (numsOf s).getD 1 0 ∧ 0 ≤ bat s 1 ∧ bat s 1 < 256 := hb 1
  have b2 : bat s 2 = (numsOf s).getD 2 0 ∧ 0 ≤ bat s 2 ∧ bat s 2 < 256 := hb 2
  have b3 : bat s 3 = (numsOf s).getD 3 0 ∧ 0 ≤ bat s 3 ∧ bat s 3 < 256 := hb 3
  refine Chk.mk ⟨by omega, by omega⟩ ?_
  refine Wr.i64 (show -9223372036854775808 ≤ bat s 0 ∧ bat s 0 ≤ 9223372036854775807 by omega) ?_
  refine Chk.mk ⟨by omega, by omega⟩ ?_
  refine Wr.i64 (show -9223372036854775808 ≤ bat s 1 ∧ bat s 1 ≤ 9223372036854775807 by omega) ?_
  refine Wr.i64 (show -9223372036854775808 ≤ 256 * bat s 1 ∧ 256 * bat s 1 ≤ 9223372036854775807 by omega) ?_
  refine Wr.i64 (show -9223372036854775808 ≤ bat s 0 + 256 * bat s 1 ∧ bat s 0 + 256 * bat s 1 ≤ 9223372036854775807 by omega) ?_
  refine Chk.mk ⟨by omega, by omega⟩ ?_
  refine Wr.i64 (show -9223372036854775808 ≤ bat s 2 ∧ bat s 2 ≤ 9223372036854775807 by omega) ?_
  refine Wr.i64 (show -9223372036854775808 ≤ 65536 * bat s 2 ∧ 65536 * bat s 2 ≤ 9223372036854775807 by omega) ?_
  refine Wr.i64 (show -9223372036854775808 ≤ bat s 0 + 256 * bat s 1 + 65536 * bat s 2 ∧ bat s 0 + 256 * bat s 1 + 65536 * bat s 2 ≤ 9223372036854775807 by omega) ?_
  refine Chk.mk ⟨by omega, by omega⟩ ?_
  refine Wr.i64 (show -9223372036854775808 ≤ bat s 3 ∧ bat s 3 ≤ 9223372036854775807 by omega) ?_
  refine Wr.i64 (show -9223372036854775808 ≤ 16777216 * bat s 3 ∧ 16777216 * bat s 3 ≤ 9223372036854775807 by omega) ?_
  refine Wr.i64 (show -9223372036854775808 ≤ bat s 0 + 256 * bat s 1 + 65536 * bat s 2 + 16777216 * bat s 3 ∧ bat s 0 + 256 * bat s 1 + 65536 * bat s 2 + 16777216 * bat s 3 ≤ 9223372036854775807 by omega) ?_
  refine ⟨[], trivial, ?_, rfl⟩
  refine congrArg (fun z => TV.b (.one (.int .i64 z))) ?_
  show bat s 0 + 256 * bat s 1 + 65536 * bat s 2 + 16777216 * bat s 3 = word (numsOf s) 0
  unfold word
  have e0 := b0.1
  have e1 := b1.1
  have e2 := b2.1
  have e3 := b3.1
  simp only [Nat.zero_add]
  omega
end Go.Proofs.YtiijaiiejogbjaaDoor.Str
