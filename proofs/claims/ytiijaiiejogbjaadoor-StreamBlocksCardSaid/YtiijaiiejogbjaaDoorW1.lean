/- Walks of package stream. -/
import Derived.Test.YtiijaiiejogbjaaDoorProg
import Derived.Test.YtiijaiiejogbjaaDoorChachaPlain
set_option linter.unusedVariables false
set_option linter.unusedSimpArgs false
set_option maxRecDepth 10000
namespace Go.Proofs.YtiijaiiejogbjaaDoor.Str
open Go Go.SX Go.Chacha

theorem wrap_u32_mod (e : Int) : IntKind.u32.wrap e = e % 4294967296 := rfl
theorem bit31 (k : Nat) (hk : k < 32) : iand .u64 (k : Int) 31 = k := by
  rw [iand_nat rfl (by omega) (by simp only [IntKind.bits]; omega) (by omega) (by decide)]
  have : k &&& 31 = k % 32 := Nat.and_two_pow_sub_one_eq_mod k 5
  simp only [Int.toNat_natCast]
  show ((k &&& 31 : Nat) : Int) = k
  omega
theorem rot_eq {x : Int} (hx : 0 ≤ x ∧ x < 4294967296) {k : Nat} (hk : k ≤ 32) :
    ior .u32 (ishl .u32 x k) (ishr .u32 x ((32 - k : Nat) : Int)) = rotl x k := by
  have hk2 : 32 - k ≤ IntKind.u32.bits := by simp [IntKind.bits]
  rw [ishl_lit (k := .u32) (n := k) (by simpa [IntKind.bits] using hk), ishr_lit hk2, wrap_u32_mod]
  obtain ⟨m, hm⟩ : ∃ m, k + m = 32 := ⟨32 - k, by omega⟩
  have e : 32 - k = m := by omega
  have hw := rotl_w hx hk
  unfold rotl at hw ⊢
  rw [e] at hw ⊢
  have hp : (2 : Int) ^ k * 2 ^ m = 4294967296 := by rw [← Int.pow_add, hm]; rfl
  have h2k : (0 : Int) < 2 ^ k := Int.pow_pos (by omega)
  have h2m : (0 : Int) < 2 ^ m := Int.pow_pos (by omega)
  have hq : x / 2 ^ m < 2 ^ k := (Int.ediv_lt_iff_lt_mul h2m).2 (by rw [hp]; exact hx.2)
  have hq0 : 0 ≤ x / 2 ^ m := Int.ediv_nonneg hx.1 (by omega)
  have hA0 : 0 ≤ x * 2 ^ k % 4294967296 := Int.emod_nonneg _ (by decide)
  have hA1 : x * 2 ^ k % 4294967296 < 4294967296 := Int.emod_lt_of_pos _ (by decide)
  have hlt32 : x / 2 ^ m < 2 ^ IntKind.u32.bits := by simp only [IntKind.bits]; omega
  rw [ior_nat rfl hA0 (by simpa [IntKind.bits] using hA1) hq0 hlt32]
  -- the high part is a multiple of 2^k
  have hdm : x * 2 ^ k = (x % 2 ^ m) * 2 ^ k + 4294967296 * (x / 2 ^ m) := by
    have h1 : x = 2 ^ m * (x / 2 ^ m) + x % 2 ^ m := (Int.mul_ediv_add_emod x (2 ^ m)).symm
    calc x * 2 ^ k = (2 ^ m * (x / 2 ^ m) + x % 2 ^ m) * 2 ^ k := by rw [← h1]
      _ = (x % 2 ^ m) * 2 ^ k + (2 ^ k * 2 ^ m) * (x / 2 ^ m) := by rw [Int.add_mul, Int.mul_comm (2 ^ m) (x / 2 ^ m), Int.mul_assoc, Int.mul_comm (2 ^ m) (2 ^ k), Int.mul_comm (x / 2 ^ m), Int.add_comm]
      _ = _ := by rw [hp]
  have hr : x % 2 ^ m < 2 ^ m := Int.emod_lt_of_pos _ h2m
  have hr0 : 0 ≤ x % 2 ^ m := Int.emod_nonneg _ (by omega)
  have hlt : (x % 2 ^ m) * 2 ^ k ≤ (2 ^ m - 1) * 2 ^ k := Int.mul_le_mul_of_nonneg_right (by omega) (by omega)
  have he : ((2 : Int) ^ m - 1) * 2 ^ k = 4294967296 - 2 ^ k := by rw [Int.sub_mul, Int.mul_comm (2 ^ m), hp, Int.one_mul]
  have h0 : 0 ≤ (x % 2 ^ m) * 2 ^ k := Int.mul_nonneg hr0 (by omega)
  have hA : x * 2 ^ k % 4294967296 = (x % 2 ^ m) * 2 ^ k := by rw [hdm, Int.add_mul_emod_self_left, Int.emod_eq_of_lt h0 (by omega)]
  rw [hA]
  have hc : ((x % 2 ^ m) * 2 ^ k).toNat = (x % 2 ^ m).toNat * 2 ^ k := by
    rw [Int.toNat_mul hr0 (by omega)]
    congr 1
  have hn : (x / 2 ^ m).toNat < 2 ^ k := by
    have : ((x / 2 ^ m).toNat : Int) < ((2 ^ k : Nat) : Int) := by rw [Int.toNat_of_nonneg hq0]; push_cast; exact hq
    exact_mod_cast this
  rw [hc, Nat.or_comm, or_add hn]
  push_cast
  rw [Int.toNat_of_nonneg hq0, Int.toNat_of_nonneg hr0]
  omega

/-- bits.RotateLeft32. -/
theorem rot {x : Int} (hx : 0 ≤ x ∧ x < 4294967296) {k : Nat} (hk : k < 32) :
    Ctr Tryd.prog 25 [.int .u32 x, .int .i64 k] [] fun v H' => v = .b (.one (.int .u32 (rotl x k))) ∧ H' = [] := by
  refine Ctr.of (args := [.b (.one (.int .u32 x)), .b (.one (.int .i64 k))]) Tryd.func25 rfl (by kernel_rfl) rfl fun w0 => ?_
  have hb := bit31 k hk
  refine Wr.u64 (by omega) ?_
  refine Chk.mk (by omega) ?_
  refine Wr.u64 (by omega) ?_
  refine Chk.mk (by omega) ?_
  refine ⟨[], trivial, ?_, rfl⟩
  rw [hb, show (32 : Int) - (k : Int) = ((32 - k : Nat) : Int) by omega, rot_eq hx (by omega)]

/-- stream.number: of four bytes. -/
theorem number (b o len cap : Nat) (l : List Int) (hl : o + 4 ≤ l.length) (h4 : 4 ≤ len) (hb : Bytes l) :
    Ctr Tryd.prog 24 [(SC.sl 0 b 0 o 1 len cap).val] [(0, b, .seg 0 (.ints .u8 l))] fun v H' => v = .b (.one (.int .u32 (word l o))) ∧ H' = [] := by
  refine Ctr.of (args := [.b (.one (.sl 0 b 0 o 1 len cap))]) Tryd.func24 rfl (by kernel_rfl) rfl fun w0 => ?_
  have h0 := hb o
  have h1 := hb (o + 1)
  have h2 := hb (o + 2)
  have h3 := hb (o + 3)
  refine Draw.quiet (by kernel_rfl) (by kernel_rfl) ?_
  repeat (first | refine Chk.mk rfl ?_ | refine Chk.mk (by omega) ?_ | refine Wr.u32 ⟨(hb _).1, Int.le_trans (Int.le_of_lt (hb _).2) (by decide)⟩ ?_)
  refine ⟨[], trivial, ?_, rfl⟩
  have e : ∀ {a b : Int} {n : Nat}, 0 ≤ a → a < 2 ^ n → 0 ≤ b → b < 256 → n ≤ 24 → ior .u32 a (ishl .u32 b n) = a + b * 2 ^ n := by
    intro a b n ha ha' hb hb' hn
    have h2n : (0 : Int) < 2 ^ n := Int.pow_pos (by omega)
    have hle : (2 : Int) ^ n ≤ 2 ^ 24 := by exact_mod_cast Nat.pow_le_pow_right (by omega : 0 < 2) hn
    have hbn : b * 2 ^ n ≤ 255 * 2 ^ n := Int.mul_le_mul_of_nonneg_right (by omega) (by omega)
    have hbn0 : 0 ≤ b * 2 ^ n := Int.mul_nonneg hb (by omega)
    rw [ishl_lit (k := .u32) (n := n) (by simp only [IntKind.bits]; omega), wrap_u32_mod, Int.emod_eq_of_lt hbn0 (by omega)]
    rw [ior_nat rfl ha (by simp only [IntKind.bits]; omega) hbn0 (by simp only [IntKind.bits]; omega)]
    have hc : (b * 2 ^ n).toNat = b.toNat * 2 ^ n := by
      rw [Int.toNat_mul hb (by omega)]; congr 1
    have hn' : a.toNat < 2 ^ n := by
      have : (a.toNat : Int) < ((2 ^ n : Nat) : Int) := by rw [Int.toNat_of_nonneg ha]; push_cast; exact ha'
      exact_mod_cast this
    rw [hc, or_add hn']
    push_cast
    rw [Int.toNat_of_nonneg ha, Int.toNat_of_nonneg hb]
  have e1 := e (n := 8) h0.1 (by omega) h1.1 h1.2 (by omega)
  have e2 := e (a := l.getD o 0 + l.getD (o + 1) 0 * 2 ^ 8) (n := 16) (by omega) (by omega) h2.1 h2.2 (by omega)
  have e3 := e (a := l.getD o 0 + l.getD (o + 1) 0 * 2 ^ 8 + l.getD (o + 2) 0 * 2 ^ 16) (n := 24) (by omega) (by omega) h3.1 h3.2 (by omega)
  have e4 : word l o = l.getD o 0 + l.getD (o + 1) 0 * 2 ^ 8 + l.getD (o + 2) 0 * 2 ^ 16 + l.getD (o + 3) 0 * 2 ^ 24 := by unfold word; omega
  rw [e4, ← e3, ← e2, ← e1]
  rfl
end Go.Proofs.YtiijaiiejogbjaaDoor.Str
