/- Numbers: what wraps, bits. -/
import Derived.Test.YtiijaiiejogbjaaDoorSxSpec
set_option linter.unusedSimpArgs false
set_option linter.unusedVariables false
namespace Go.SX

theorem wrap_i64 {e : Int} (h : -9223372036854775808 ≤ e ∧ e ≤ 9223372036854775807) : IntKind.i64.wrap e = e := IntWalk.i64_in _ h
theorem wrap_u {k : IntKind} (hk : k.signed = false) {e : Int} (h : 0 ≤ e ∧ e < 2 ^ k.bits) : k.wrap e = e := by
  unfold IntKind.wrap
  simp only [hk, Bool.false_and, Bool.false_eq_true, if_false]
  exact Int.emod_eq_of_lt h.1 h.2
theorem wrap_u8 {e : Int} (h : 0 ≤ e ∧ e ≤ 255) : IntKind.u8.wrap e = e := wrap_u rfl ⟨h.1, by have := h.2; simp [IntKind.bits]; omega⟩
theorem wrap_u32 {e : Int} (h : 0 ≤ e ∧ e ≤ 4294967295) : IntKind.u32.wrap e = e := wrap_u rfl ⟨h.1, by have := h.2; simp [IntKind.bits]; omega⟩
theorem wrap_u64 {e : Int} (h : 0 ≤ e ∧ e ≤ 18446744073709551615) : IntKind.u64.wrap e = e := wrap_u rfl ⟨h.1, by have := h.2; simp [IntKind.bits]; omega⟩

theorem Wr.i64 {e : Int} {K : Int → Prop} (h : -9223372036854775808 ≤ e ∧ e ≤ 9223372036854775807) (hK : K e) : Wr .i64 e K := ⟨by rw [wrap_i64 h]; exact hK⟩
theorem Wr.u8 {e : Int} {K : Int → Prop} (h : 0 ≤ e ∧ e ≤ 255) (hK : K e) : Wr .u8 e K := ⟨by rw [wrap_u8 h]; exact hK⟩
theorem Wr.u32 {e : Int} {K : Int → Prop} (h : 0 ≤ e ∧ e ≤ 4294967295) (hK : K e) : Wr .u32 e K := ⟨by rw [wrap_u32 h]; exact hK⟩
theorem Wr.u64 {e : Int} {K : Int → Prop} (h : 0 ≤ e ∧ e ≤ 18446744073709551615) (hK : K e) : Wr .u64 e K := ⟨by rw [wrap_u64 h]; exact hK⟩

theorem Br.true' {b : Bool} {A B : Prop} (h : b = true) (hA : A) : Br b A B := ⟨fun _ => hA, fun h' => by rw [h] at h'; cases h'⟩
theorem Br.false' {b : Bool} {A B : Prop} (h : b = false) (hB : B) : Br b A B := ⟨fun h' => (by rw [h] at h'; cases h'), fun _ => hB⟩
theorem Br.dt {p : Prop} [Decidable p] {A B : Prop} (h : p) (hA : A) : Br (decide p) A B := Br.true' (decide_eq_true h) hA
theorem Br.df {p : Prop} [Decidable p] {A B : Prop} (h : ¬ p) (hB : B) : Br (decide p) A B := Br.false' (decide_eq_false h) hB
/-- Both ways. -/
theorem Br.by {p : Prop} [Decidable p] {A B : Prop} (hA : p → A) (hB : ¬ p → B) : Br (decide p) A B := ⟨fun h => hA (of_decide_eq_true h), fun h => hB (of_decide_eq_false h)⟩

/-! ### Bits of numbers that are not below 0 -/
theorem bv_nat {k : IntKind} {a : Int} (h0 : 0 ≤ a) (h : a < 2 ^ k.bits) : (BitVec.ofInt k.bits a).toNat = a.toNat := by
  rw [BitVec.toNat_ofInt, Int.emod_eq_of_lt h0 (by exact_mod_cast h)]
theorem wrap_nat {k : IntKind} (hk : k.signed = false) {n : Nat} (h : n < 2 ^ k.bits) : k.wrap (n : Int) = n := wrap_u hk ⟨by omega, by exact_mod_cast h⟩
theorem wrap_nat_i64 {n : Nat} (h : n < 2 ^ 63) : IntKind.i64.wrap (n : Int) = n := wrap_i64 ⟨by omega, by omega⟩

theorem toNat_lt {k : IntKind} {a : Int} (ha : 0 ≤ a) (ha' : a < 2 ^ k.bits) : a.toNat < 2 ^ k.bits := by
  have h2 : (a.toNat : Int) < (2 ^ k.bits : Nat) := by rw [Int.toNat_of_nonneg ha]; exact_mod_cast ha'
  exact_mod_cast h2
theorem iand_nat {k : IntKind} (hk : k.signed = false) {a b : Int} (ha : 0 ≤ a) (ha' : a < 2 ^ k.bits) (hb : 0 ≤ b) (hb' : b < 2 ^ k.bits) : iand k a b = ((a.toNat &&& b.toNat : Nat) : Int) := by
  unfold iand
  rw [BitVec.toNat_and, bv_nat ha ha', bv_nat hb hb']
  exact wrap_nat hk (Nat.lt_of_le_of_lt Nat.and_le_left (toNat_lt ha ha'))
theorem ior_nat {k : IntKind} (hk : k.signed = false) {a b : Int} (ha : 0 ≤ a) (ha' : a < 2 ^ k.bits) (hb : 0 ≤ b) (hb' : b < 2 ^ k.bits) : ior k a b = ((a.toNat ||| b.toNat : Nat) : Int) := by
  unfold ior
  rw [BitVec.toNat_or, bv_nat ha ha', bv_nat hb hb']
  exact wrap_nat hk (Nat.or_lt_two_pow (toNat_lt ha ha') (toNat_lt hb hb'))
theorem ixor_nat {k : IntKind} (hk : k.signed = false) {a b : Int} (ha : 0 ≤ a) (ha' : a < 2 ^ k.bits) (hb : 0 ≤ b) (hb' : b < 2 ^ k.bits) : ixor k a b = ((a.toNat ^^^ b.toNat : Nat) : Int) := by
  unfold ixor
  rw [BitVec.toNat_xor, bv_nat ha ha', bv_nat hb hb']
  exact wrap_nat hk (Nat.xor_lt_two_pow (toNat_lt ha ha') (toNat_lt hb hb'))
theorem iand_i64 {a b : Int} (ha : 0 ≤ a) (ha' : a < 2 ^ 63) (hb : 0 ≤ b) (hb' : b < 2 ^ 63) : iand .i64 a b = ((a.toNat &&& b.toNat : Nat) : Int) := by
  unfold iand
  rw [BitVec.toNat_and, bv_nat ha (by simp [IntKind.bits]; omega), bv_nat hb (by simp [IntKind.bits]; omega)]
  exact wrap_nat_i64 (Nat.lt_of_le_of_lt Nat.and_le_left (by omega))
theorem ior_i64 {a b : Int} (ha : 0 ≤ a) (ha' : a < 2 ^ 63) (hb : 0 ≤ b) (hb' : b < 2 ^ 63) : ior .i64 a b = ((a.toNat ||| b.toNat : Nat) : Int) := by
  unfold ior
  rw [BitVec.toNat_or, bv_nat ha (by simp [IntKind.bits]; omega), bv_nat hb (by simp [IntKind.bits]; omega)]
  exact wrap_nat_i64 (Nat.or_lt_two_pow (by omega) (by omega))
theorem ixor_i64 {a b : Int} (ha : 0 ≤ a) (ha' : a < 2 ^ 63) (hb : 0 ≤ b) (hb' : b < 2 ^ 63) : ixor .i64 a b = ((a.toNat ^^^ b.toNat : Nat) : Int) := by
  unfold ixor
  rw [BitVec.toNat_xor, bv_nat ha (by simp [IntKind.bits]; omega), bv_nat hb (by simp [IntKind.bits]; omega)]
  exact wrap_nat_i64 (Nat.xor_lt_two_pow (by omega) (by omega))
/-- '&' by a mask of the low n bits: also of a number below 0. -/
theorem iand_mask (n : Nat) (hn : n ≤ 62) (a : Int) : iand .i64 a (2 ^ n - 1 : Nat) = a % (2 ^ n : Nat) := by
  unfold iand
  have hp : 2 ^ n ≤ 2 ^ 62 := Nat.pow_le_pow_right (by omega) hn
  have hp0 : 0 < 2 ^ n := Nat.pow_pos (by omega)
  rw [BitVec.toNat_and, bv_nat (k := .i64) (a := ((2 ^ n - 1 : Nat) : Int)) (by omega) (by simp only [IntKind.bits]; omega)]
  rw [BitVec.toNat_ofInt, Int.toNat_natCast, Nat.and_two_pow_sub_one_eq_mod]
  have h1 : ((a % ((2 ^ IntKind.i64.bits : Nat) : Int)).toNat % 2 ^ n : Nat) = (a % (2 ^ n : Nat)).toNat := by
    have hd : ((2 ^ n : Nat) : Int) ∣ ((2 ^ IntKind.i64.bits : Nat) : Int) := by
      refine Int.natCast_dvd_natCast.2 (Nat.pow_dvd_pow 2 (by simp [IntKind.bits]; omega))
    have h2 : 0 ≤ a % ((2 ^ IntKind.i64.bits : Nat) : Int) := Int.emod_nonneg _ (by simp [IntKind.bits])
    have h3 : ((a % ((2 ^ IntKind.i64.bits : Nat) : Int)).toNat % 2 ^ n : Nat) = ((a % ((2 ^ IntKind.i64.bits : Nat) : Int)) % (2 ^ n : Nat)).toNat := by
      have := Int.toNat_emod h2 (show (0 : Int) ≤ ((2 ^ n : Nat) : Int) by omega)
      rw [Int.toNat_natCast] at this
      exact this.symm
    rw [h3, Int.emod_emod_of_dvd _ hd]
  rw [h1]
  have h4 : 0 ≤ a % ((2 ^ n : Nat) : Int) := Int.emod_nonneg _ (by omega)
  have h5 : a % ((2 ^ n : Nat) : Int) < ((2 ^ n : Nat) : Int) := Int.emod_lt_of_pos _ (by omega)
  rw [Int.toNat_of_nonneg h4]
  exact wrap_i64 ⟨by omega, by omega⟩

theorem ishr_lit {k : IntKind} {a : Int} {n : Nat} (hn : n ≤ k.bits) : ishr k a n = a / 2 ^ n := by
  unfold ishr
  rw [Int.toNat_natCast, Nat.min_eq_left hn, Int.fdiv_eq_ediv_of_nonneg _ (by exact_mod_cast Nat.zero_le _)]
theorem ishl_lit {k : IntKind} {a : Int} {n : Nat} (hn : n ≤ k.bits) : ishl k a n = k.wrap (a * 2 ^ n) := by
  unfold ishl
  rw [Int.toNat_natCast, Nat.min_eq_left hn]

/-- What is put beside what is below it. -/
theorem or_add {a b n : Nat} (ha : a < 2 ^ n) : a ||| b * 2 ^ n = a + b * 2 ^ n := by
  rw [Nat.or_comm, Nat.mul_comm, ← Nat.two_pow_add_eq_or_of_lt ha b, Nat.add_comm]

theorem gd_lt {α : Type} {l : List α} {i : Nat} {d : α} (h : i < l.length) : l.getD i d = l[i] := by simp [List.getD, h]
theorem gd_ge {α : Type} {l : List α} {i : Nat} {d : α} (h : l.length ≤ i) : l.getD i d = d := by simp [List.getD, List.getElem?_eq_none h]
end Go.SX
