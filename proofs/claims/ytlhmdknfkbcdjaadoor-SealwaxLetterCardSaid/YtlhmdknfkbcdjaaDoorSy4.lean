/- A walk engine: what a call computes, symbolically (part 4). -/
import Derived.Test.YtlhmdknfkbcdjaaDoorSy3
import Derived.ChangeArms
import Derived.ChangeSame
import Derived.OpenShut
import Derived.Carry
import Derived.RowKit
import Derived.FnData
/- Numbers: what wraps, bits; steps of a goal. -/
set_option linter.unusedSimpArgs false
set_option linter.unusedVariables false
namespace Go.SY

theorem wrap_i64 {e : Int} (h : -9223372036854775808 ≤ e ∧ e ≤ 9223372036854775807) : IntKind.i64.wrap e = e := IntWalk.i64_in _ h
theorem wrap_u {k : IntKind} (hk : k.signed = false) {e : Int} (h : 0 ≤ e ∧ e < 2 ^ k.bits) : k.wrap e = e := by
  unfold IntKind.wrap
  simp only [hk, Bool.false_and, Bool.false_eq_true, if_false]
  exact Int.emod_eq_of_lt h.1 h.2
theorem wrap_u8 {e : Int} (h : 0 ≤ e ∧ e ≤ 255) : IntKind.u8.wrap e = e := wrap_u rfl ⟨h.1, by have := h.2; simp [IntKind.bits]; omega⟩
theorem wrap_u32 {e : Int} (h : 0 ≤ e ∧ e ≤ 4294967295) : IntKind.u32.wrap e = e := wrap_u rfl ⟨h.1, by have := h.2; simp [IntKind.bits]; omega⟩
theorem wrap_u64 {e : Int} (h : 0 ≤ e ∧ e ≤ 18446744073709551615) : IntKind.u64.wrap e = e := wrap_u rfl ⟨h.1, by have := h.2; simp [IntKind.bits]; omega⟩

theorem Wr.i64 {e : Int} {K : Int → Prop} (h : -9223372036854775808 ≤ e ∧ e ≤ 9223372036854775807) (hK : K e) : Wr .i64 e K := ⟨by rw [wrap_i64 h]; exact hK⟩
theorem Wr.u8 {e : Int} {K : Int → Prop} (h : 0 ≤ e ∧ e ≤ 255) (hK : K e) : Wr .u8 e K := ⟨by rw [wrap_u8 h]; exact hK⟩
theorem Wr.u32 {e : Int} {K : Int → Prop} (h : 0 ≤ e ∧ e ≤ 4294967295) (hK : K e) : Wr .u32 e K := ⟨by rw [wrap_u32 h]; exact hK⟩
theorem Wr.u64 {e : Int} {K : Int → Prop} (h : 0 ≤ e ∧ e ≤ 18446744073709551615) (hK : K e) : Wr .u64 e K := ⟨by rw [wrap_u64 h]; exact hK⟩

theorem Br.true' {b : Bool} {A B : Prop} (h : b = true) (hA : A) : Br b A B := ⟨fun _ => hA, fun h' => by rw [h] at h'; cases h'⟩
theorem Br.false' {b : Bool} {A B : Prop} (h : b = false) (hB : B) : Br b A B := ⟨fun h' => (by rw [h] at h'; cases h'), fun _ => hB⟩
theorem Br.dt {p : Prop} [Decidable p] {A B : Prop} (h : p) (hA : A) : Br (decide p) A B := Br.true' (decide_eq_true h) hA
theorem Br.df {p : Prop} [Decidable p] {A B : Prop} (h : ¬ p) (hB : B) : Br (decide p) A B := Br.false' (decide_eq_false h) hB
/-- Both ways. -/
theorem Br.by {p : Prop} [Decidable p] {A B : Prop} (hA : p → A) (hB : ¬ p → B) : Br (decide p) A B := ⟨fun h => hA (of_decide_eq_true h), fun h => hB (of_decide_eq_false h)⟩

/-! ### Bits of numbers that are not below 0 -/
theorem bv_nat {k : IntKind} {a : Int} (h0 : 0 ≤ a) (h : a < 2 ^ k.bits) : (BitVec.ofInt k.bits a).toNat = a.toNat := by
  rw [BitVec.toNat_ofInt, Int.emod_eq_of_lt h0 (by exact_mod_cast h)]
theorem wrap_nat {k : IntKind} (hk : k.signed = false) {n : Nat} (h : n < 2 ^ k.bits) : k.wrap (n : Int) = n := wrap_u hk ⟨by omega, by exact_mod_cast h⟩
theorem wrap_nat_i64 {n : Nat} (h : n < 2 ^ 63) : IntKind.i64.wrap (n : Int) = n := wrap_i64 ⟨by omega, by omega⟩

theorem toNat_lt {k : IntKind} {a : Int} (ha : 0 ≤ a) (ha' : a < 2 ^ k.bits) : a.toNat < 2 ^ k.bits := by
  have h2 : (a.toNat : Int) < (2 ^ k.bits : Nat) := by rw [Int.toNat_of_nonneg ha]; exact_mod_cast ha'
  exact_mod_cast h2
theorem iand_nat {k : IntKind} (hk : k.signed = false) {a b : Int} (ha : 0 ≤ a) (ha' : a < 2 ^ k.bits) (hb : 0 ≤ b) (hb' : b < 2 ^ k.bits) : iand k a b = ((a.toNat &&& b.toNat : Nat) : Int) := by
  unfold iand
  rw [BitVec.toNat_and, bv_nat ha ha', bv_nat hb hb']
  exact wrap_nat hk (Nat.lt_of_le_of_lt Nat.and_le_left (toNat_lt ha ha'))
theorem ior_nat {k : IntKind} (hk : k.signed = false) {a b : Int} (ha : 0 ≤ a) (ha' : a < 2 ^ k.bits) (hb : 0 ≤ b) (hb' : b < 2 ^ k.bits) : ior k a b = ((a.toNat ||| b.toNat : Nat) : Int) := by
  unfold ior
  rw [BitVec.toNat_or, bv_nat ha ha', bv_nat hb hb']
  exact wrap_nat hk (Nat.or_lt_two_pow (toNat_lt ha ha') (toNat_lt hb hb'))
theorem ixor_nat {k : IntKind} (hk : k.signed = false) {a b : Int} (ha : 0 ≤ a) (ha' : a < 2 ^ k.bits) (hb : 0 ≤ b) (hb' : b < 2 ^ k.bits) : ixor k a b = ((a.toNat ^^^ b.toNat : Nat) : Int) := by
  unfold ixor
  rw [BitVec.toNat_xor, bv_nat ha ha', bv_nat hb hb']
  exact wrap_nat hk (Nat.xor_lt_two_pow (toNat_lt ha ha') (toNat_lt hb hb'))
theorem iand_i64 {a b : Int} (ha : 0 ≤ a) (ha' : a < 2 ^ 63) (hb : 0 ≤ b) (hb' : b < 2 ^ 63) : iand .i64 a b = ((a.toNat &&& b.toNat : Nat) : Int) := by
  unfold iand
  rw [BitVec.toNat_and, bv_nat ha (by simp [IntKind.bits]; omega), bv_nat hb (by simp [IntKind.bits]; omega)]
  exact wrap_nat_i64 (Nat.lt_of_le_of_lt Nat.and_le_left (by omega))
theorem ior_i64 {a b : Int} (ha : 0 ≤ a) (ha' : a < 2 ^ 63) (hb : 0 ≤ b) (hb' : b < 2 ^ 63) : ior .i64 a b = ((a.toNat ||| b.toNat : Nat) : Int) := by
  unfold ior
  rw [BitVec.toNat_or, bv_nat ha (by simp [IntKind.bits]; omega), bv_nat hb (by simp [IntKind.bits]; omega)]
  exact wrap_nat_i64 (Nat.or_lt_two_pow (by omega) (by omega))
theorem ixor_i64 {a b : Int} (ha : 0 ≤ a) (ha' : a < 2 ^ 63) (hb : 0 ≤ b) (hb' : b < 2 ^ 63) : ixor .i64 a b = ((a.toNat ^^^ b.toNat : Nat) : Int) := by
  unfold ixor
  rw [BitVec.toNat_xor, bv_nat ha (by simp [IntKind.bits]; omega), bv_nat hb (by simp [IntKind.bits]; omega)]
  exact wrap_nat_i64 (Nat.xor_lt_two_pow (by omega) (by omega))
/-- '&' by a mask of the low n bits: also of a number below 0. -/
theorem iand_mask (n : Nat) (hn : n ≤ 62) (a : Int) : iand .i64 a (2 ^ n - 1 : Nat) = a % (2 ^ n : Nat) := by
  unfold iand
  have hp : 2 ^ n ≤ 2 ^ 62 := Nat.pow_le_pow_right (by omega) hn
  have hp0 : 0 < 2 ^ n := Nat.pow_pos (by omega)
  rw [BitVec.toNat_and, bv_nat (k := .i64) (a := ((2 ^ n - 1 : Nat) : Int)) (by omega) (by simp only [IntKind.bits]; omega)]
  rw [BitVec.toNat_ofInt, Int.toNat_natCast, Nat.and_two_pow_sub_one_eq_mod]
  have h1 : ((a % ((2 ^ IntKind.i64.bits : Nat) : Int)).toNat % 2 ^ n : Nat) = (a % (2 ^ n : Nat)).toNat := by
    have hd : ((2 ^ n : Nat) : Int) ∣ ((2 ^ IntKind.i64.bits : Nat) : Int) := by
      refine Int.natCast_dvd_natCast.2 (Nat.pow_dvd_pow 2 (by simp [IntKind.bits]; omega))
    have h2 : 0 ≤ a % ((2 ^ IntKind.i64.bits : Nat) : Int) := Int.emod_nonneg _ (by simp [IntKind.bits])
    have h3 : ((a % ((2 ^ IntKind.i64.bits : Nat) : Int)).toNat % 2 ^ n : Nat) = ((a % ((2 ^ IntKind.i64.bits : Nat) : Int)) % (2 ^ n : Nat)).toNat := by
      have := Int.toNat_emod h2 (show (0 : Int) ≤ ((2 ^ n : Nat) : Int) by omega)
      rw [Int.toNat_natCast] at this
      exact this.symm
    rw [h3, Int.emod_emod_of_dvd _ hd]
  rw [h1]
  have h4 : 0 ≤ a % ((2 ^ n : Nat) : Int) := Int.emod_nonneg _ (by omega)
  have h5 : a % ((2 ^ n : Nat) : Int) < ((2 ^ n : Nat) : Int) := Int.emod_lt_of_pos _ (by omega)
  rw [Int.toNat_of_nonneg h4]
  exact wrap_i64 ⟨by omega, by omega⟩

theorem ishr_lit {k : IntKind} {a : Int} {n : Nat} (hn : n ≤ k.bits) : ishr k a n = a / 2 ^ n := by
  unfold ishr
  rw [Int.toNat_natCast, Nat.min_eq_left hn, Int.fdiv_eq_ediv_of_nonneg _ (by exact_mod_cast Nat.zero_le _)]
theorem ishl_lit {k : IntKind} {a : Int} {n : Nat} (hn : n ≤ k.bits) : ishl k a n = k.wrap (a * 2 ^ n) := by
  unfold ishl
  rw [Int.toNat_natCast, Nat.min_eq_left hn]

/-- What is put beside what is below it. -/
theorem or_add {a b n : Nat} (ha : a < 2 ^ n) : a ||| b * 2 ^ n = a + b * 2 ^ n := by
  rw [Nat.or_comm, Nat.mul_comm, ← Nat.two_pow_add_eq_or_of_lt ha b, Nat.add_comm]


/-! ### Steps -/
theorem Wr.fit {e : Int} {K : Int → Prop} (h : -9223372036854775808 ≤ e ∧ e ≤ 9223372036854775807) (hK : K e) : Wr .i64 e K := Wr.i64 h hK
/-- A test whose answer is known. -/
theorem Br.tt {b : Bool} {A B : Prop} (h : b = true) (hA : A) : Br b A B := Br.true' h hA
theorem Br.ff {b : Bool} {A B : Prop} (h : b = false) (hB : B) : Br b A B := Br.false' h hB
theorem Br.nt {p : Prop} [Decidable p] {A B : Prop} (h : ¬ p) (hA : A) : Br (!decide p) A B := Br.true' (by simp [h]) hA
theorem Br.nf {p : Prop} [Decidable p] {A B : Prop} (h : p) (hB : B) : Br (!decide p) A B := Br.false' (by simp [h]) hB
/-- Both ways of a 'not'. -/
theorem Br.byn {p : Prop} [Decidable p] {A B : Prop} (hA : ¬ p → A) (hB : p → B) : Br (!decide p) A B := ⟨fun h => hA (by simpa using h), fun h => hB (by simpa using h)⟩
/-- Both ways of any test. -/
theorem Br.any {b : Bool} {A B : Prop} (hA : b = true → A) (hB : b = false → B) : Br b A B := ⟨hA, hB⟩
theorem gd_lt {α : Type} {l : List α} {i : Nat} {d : α} (h : i < l.length) : l.getD i d = l[i] := by simp [List.getD, h]
theorem gd_ge {α : Type} {l : List α} {i : Nat} {d : α} (h : l.length ≤ i) : l.getD i d = d := by simp [List.getD, List.getElem?_eq_none h]
/-- A number that the text names. -/
theorem NatOf.lit {n : Nat} {K : Nat → Prop} (h : K (@OfNat.ofNat Nat n (instOfNatNat n))) : NatOf (@OfNat.ofNat Int n instOfNat) K := ⟨n, rfl, h⟩
/-- A whole number that is a count. -/
theorem Wr.nat {e : Int} {K : Int → Prop} (m : Nat) (h : e = (m : Int)) (hm : m ≤ 9223372036854775807) (hK : K (m : Int)) : Wr .i64 e K := by
  subst h; exact Wr.i64 (by omega) hK
end Go.SY

/- SHA-256, plainly. -/
namespace Go.Sha
def begin8 : List (BitVec 32) := [0x6a09e667, 0xbb67ae85, 0x3c6ef372, 0xa54ff53a, 0x510e527f, 0x9b05688c, 0x1f83d9ab, 0x5be0cd19]
def round64 : List (BitVec 32) := [
  0x428a2f98, 0x71374491, 0xb5c0fbcf, 0xe9b5dba5, 0x3956c25b, 0x59f111f1, 0x923f82a4, 0xab1c5ed5,
  0xd807aa98, 0x12835b01, 0x243185be, 0x550c7dc3, 0x72be5d74, 0x80deb1fe, 0x9bdc06a7, 0xc19bf174,
  0xe49b69c1, 0xefbe4786, 0x0fc19dc6, 0x240ca1cc, 0x2de92c6f, 0x4a7484aa, 0x5cb0a9dc, 0x76f988da,
  0x983e5152, 0xa831c66d, 0xb00327c8, 0xbf597fc7, 0xc6e00bf3, 0xd5a79147, 0x06ca6351, 0x14292967,
  0x27b70a85, 0x2e1b2138, 0x4d2c6dfc, 0x53380d13, 0x650a7354, 0x766a0abb, 0x81c2c92e, 0x92722c85,
  0xa2bfe8a1, 0xa81a664b, 0xc24b8b70, 0xc76c51a3, 0xd192e819, 0xd6990624, 0xf40e3585, 0x106aa070,
  0x19a4c116, 0x1e376c08, 0x2748774c, 0x34b0bcb5, 0x391c0cb3, 0x4ed8aa4a, 0x5b9cca4f, 0x682e6ff3,
  0x748f82ee, 0x78a5636f, 0x84c87814, 0x8cc70208, 0x90befffa, 0xa4506ceb, 0xbef9a3f7, 0xc67178f2]
def rotl (x : BitVec 32) (s : Nat) : BitVec 32 := x <<< s ||| x >>> (32 - s)
def right (x : BitVec 32) (n : Nat) : BitVec 32 := rotl x (32 - n)
def word (b : List UInt8) (t : Nat) : BitVec 32 :=
  ((b.getD (4 * t) 0).toBitVec.setWidth 32 <<< 24 ||| (b.getD (4 * t + 1) 0).toBitVec.setWidth 32 <<< 16 ||| (b.getD (4 * t + 2) 0).toBitVec.setWidth 32 <<< 8) ||| (b.getD (4 * t + 3) 0).toBitVec.setWidth 32
def next (w : List (BitVec 32)) (t : Nat) : BitVec 32 :=
  w.getD (t - 16) 0 + w.getD (t - 7) 0 + (right (w.getD (t - 15) 0) 7 ^^^ right (w.getD (t - 15) 0) 18 ^^^ w.getD (t - 15) 0 >>> 3) + (right (w.getD (t - 2) 0) 17 ^^^ right (w.getD (t - 2) 0) 19 ^^^ w.getD (t - 2) 0 >>> 10)
/-- The first t words. -/
def words (b : List UInt8) : Nat → List (BitVec 32)
  | 0 => []
  | t + 1 => words b t ++ [if t < 16 then word b t else next (words b t) t]
theorem words_length (b : List UInt8) (t : Nat) : (words b t).length = t := by
  induction t with
  | zero => rfl
  | succ t ih => simp [words, ih]
def stir (v : List (BitVec 32)) (k w : BitVec 32) : List (BitVec 32) :=
  let a := v.getD 0 0
  let e := v.getD 4 0
  let x := v.getD 7 0 + (right e 6 ^^^ right e 11 ^^^ right e 25) + (e &&& v.getD 5 0 ^^^ ~~~e &&& v.getD 6 0) + k + w
  let y := (right a 2 ^^^ right a 13 ^^^ right a 22) + (a &&& v.getD 1 0 ^^^ a &&& v.getD 2 0 ^^^ v.getD 1 0 &&& v.getD 2 0)
  [x + y, a, v.getD 1 0, v.getD 2 0, v.getD 3 0 + x, e, v.getD 5 0, v.getD 6 0]
def stirs (w v : List (BitVec 32)) : Nat → List (BitVec 32)
  | 0 => v
  | t + 1 => stir (stirs w v t) (round64.getD t 0) (w.getD t 0)
def change (h : List (BitVec 32)) (b : List UInt8) : List (BitVec 32) :=
  List.zipWith (· + ·) h (stirs (words b 64) h 64)
theorem stir_length (v : List (BitVec 32)) (k w : BitVec 32) : (stir v k w).length = 8 := rfl
theorem stirs_length (w v : List (BitVec 32)) (t : Nat) (hv : v.length = 8) : (stirs w v t).length = 8 := by
  cases t with
  | zero => exact hv
  | succ t => rfl
theorem change_length (h : List (BitVec 32)) (b : List UInt8) (hh : h.length = 8) : (change h b).length = 8 := by
  simp [change, hh, stirs_length _ _ _ hh]
/-- The state behind k blocks of a text. -/
def chain (m : List UInt8) : Nat → List (BitVec 32)
  | 0 => begin8
  | k + 1 => change (chain m k) ((m.drop (64 * k)).take 64)
theorem chain_length (m : List UInt8) (k : Nat) : (chain m k).length = 8 := by
  induction k with
  | zero => rfl
  | succ k ih => exact change_length _ _ ih
theorem chain_append (m t : List UInt8) : ∀ k : Nat, 64 * k ≤ m.length → chain (m ++ t) k = chain m k := by
  intro k
  induction k with
  | zero => intro _; rfl
  | succ k ih =>
    intro h
    simp only [chain]
    rw [ih (by omega), List.drop_append_of_le_length (by omega), List.take_append_of_le_length (by simp; omega)]
/-- What is behind a text's whole blocks. -/
def rest (m : List UInt8) : List UInt8 := m.drop (64 * (m.length / 64))
theorem rest_length (m : List UInt8) : (rest m).length = m.length % 64 := by simp [rest]; omega
/-- A text with what is put behind it, so that there are whole blocks. -/
def pads (m : List UInt8) : List UInt8 := List.replicate ((119 - m.length % 64) % 64) 0
def bits8 (n : Nat) : List UInt8 := (List.range 8).map fun i => UInt8.ofNat (n / 2 ^ (56 - 8 * i))
def padded (m : List UInt8) : List UInt8 := m ++ [0x80] ++ pads m ++ bits8 (8 * m.length)
def ser (h : List (BitVec 32)) : List UInt8 := h.flatMap fun (x : BitVec 32) => [⟨(x >>> 24).setWidth 8⟩, ⟨(x >>> 16).setWidth 8⟩, ⟨(x >>> 8).setWidth 8⟩, ⟨x.setWidth 8⟩]
/-- SHA-256. -/
def sum (m : List UInt8) : List UInt8 := ser (chain (padded m) ((padded m).length / 64))
end Go.Sha

/- Short forms of the call rules. -/
set_option linter.unusedSimpArgs false
set_option linter.unusedVariables false
namespace Go.SY
/-- A call of a contract that tells nothing of memory. -/
theorem CallG.p {C : Ctx} {f : FuncId} {args : List TV} {T : Tm} {H : Heap} {K : TV → Heap → Prop} {args' : List TV} {G : Heap} {v : TV} (l : List (Nat × Nat))
    (hs : CtrP C.R f args' G v) (ha : aren l args' = args) (ho : (once G && once (hren l G) && (once ([] : Heap) && once (hren l []))) = true)
    (h : hmatch H (hren l G) (K (v.ren l) (mergeG (hren l G) (hren l []) H))) : CallG C f args T H K := CallG.one (H' := []) l hs ha ho h
/-- A call of a contract that chooses. -/
theorem CallG.x {C : Ctx} {f : FuncId} {args : List TV} {T : Tm} {H : Heap} {K : TV → Heap → Prop} {args' : List TV} {G : Heap} {X : Type} {v : X → TV} {H' : X → Heap} (l : List (Nat × Nat))
    (hs : Ctr C.R f args' G (fun _ => True) v H') (ha : aren l args' = args) (ho : (once G && once (hren l G)) = true) (ho2 : ∀ x, (once (H' x) && once (hren l (H' x))) = true)
    (h : hmatch H (hren l G) (∀ x, K ((v x).ren l) (mergeG (hren l G) (hren l (H' x)) H))) : CallG C f args T H K := by
  subst ha
  rw [Bool.and_eq_true] at ho
  obtain ⟨h, he⟩ := hmatch_ok h
  refine ⟨.inl ⟨hs.fn, fun a w ha hw hargs => ?_⟩⟩
  have hg : Rep (ctxOf C.R 0 (hren l G) w) (hren l G) w := match_rep he hw
  have hg' : Rep (ctxOf C.R 0 G w) G w := (hg.back l ho.2).frame (FG.ren ho.1 ho.2)
  rw [aren_val]
  refine (hs.go w hg' (aren_wf hargs)).mono ?_
  rintro e w' ⟨x, hI, he', hvw, hw'⟩
  have hK := h x
  have ho2 := ho2 x
  rw [Bool.and_eq_true] at ho2
  have hw3 : Rep (ctxOf C.R 0 (hren l G) w) (hren l (H' x)) w' := (hw'.ren l ho2.1).frame fun b => (FG.ren ho.1 ho.2 b).symm
  exact ⟨(v x).ren l, _, by rw [he', TV.ren_val], (TV.ren_wf l _).2 hvw, merge_rep he ho2.2 hw hw3, hK⟩
/-- The same, of those that it tells more of. -/
theorem CallG.xi {C : Ctx} {f : FuncId} {args : List TV} {T : Tm} {H : Heap} {K : TV → Heap → Prop} {args' : List TV} {G : Heap} {X : Type} {I : X → Prop} {v : X → TV} {H' : X → Heap} (l : List (Nat × Nat))
    (hs : Ctr C.R f args' G I v H') (ha : aren l args' = args) (ho : (once G && once (hren l G)) = true) (ho2 : ∀ x, (once (H' x) && once (hren l (H' x))) = true)
    (h : hmatch H (hren l G) (∀ x, I x → K ((v x).ren l) (mergeG (hren l G) (hren l (H' x)) H))) : CallG C f args T H K := by
  subst ha
  rw [Bool.and_eq_true] at ho
  obtain ⟨h, he⟩ := hmatch_ok h
  refine ⟨.inl ⟨hs.fn, fun a w ha hw hargs => ?_⟩⟩
  have hg : Rep (ctxOf C.R 0 (hren l G) w) (hren l G) w := match_rep he hw
  have hg' : Rep (ctxOf C.R 0 G w) G w := (hg.back l ho.2).frame (FG.ren ho.1 ho.2)
  rw [aren_val]
  refine (hs.go w hg' (aren_wf hargs)).mono ?_
  rintro e w' ⟨x, hI, he', hvw, hw'⟩
  have hK := h x hI
  have ho2 := ho2 x
  rw [Bool.and_eq_true] at ho2
  have hw3 : Rep (ctxOf C.R 0 (hren l G) w) (hren l (H' x)) w' := (hw'.ren l ho2.1).frame fun b => (FG.ren ho.1 ho.2 b).symm
  exact ⟨(v x).ren l, _, by rw [he', TV.ren_val], (TV.ren_wf l _).2 hvw, merge_rep he ho2.2 hw hw3, hK⟩
/-! ### A loop whose state is of three parts -/
def roundQ3 {α β γ : Type} (st : α → β → γ → Tm × Heap) (I : α → β → γ → Prop) (μ : α → Nat) (x : α) (Q : Ex → Tm → Heap → Prop) : Ex → Tm → Heap → Prop
  | .normal, T, H => ∃ y z u, I y z u ∧ μ y < μ x ∧ tmatch T (st y z u).1 (hmatch H (st y z u).2 True)
  | e, T, H => Q e T H
theorem LoopG.three {C : Ctx} {body : Code} {T : Tm} {H : Heap} {Q : Ex → Tm → Heap → Prop} {α β γ : Type} (ks hs : List Nat) (upd : α → β → γ → Tm) (updH : α → β → γ → List (Nat × HB)) (I : α → β → γ → Prop) (μ : α → Nat) (x0 : α) (y0 : β) (z0 : γ)
    (h : pickT T ks fun T0 => pickH H hs fun H0 => pickB H (updH x0 y0 z0) fun bs => (I x0 y0 z0 ∧ tmatch T (appL (upd x0 y0 z0) T0) (hmatch H (appL (fillB bs (updH x0 y0 z0)) H0) True)) ∧
      ∀ x y z, I x y z → sx C body (appL (upd x y z) T0) (appL (fillB bs (updH x y z)) H0) (roundQ3 (fun x y z => (appL (upd x y z) T0, appL (fillB bs (updH x y z)) H0)) I μ x Q)) : LoopG C body T H Q := by
  obtain ⟨T0, h, _⟩ := pickT_ok h
  obtain ⟨H0, h, _⟩ := pickH_ok h
  obtain ⟨bs, h⟩ := pickB_ok h
  refine LoopG.of (fun x : α × β × γ => (appL (upd x.1 x.2.1 x.2.2) T0, appL (fillB bs (updH x.1 x.2.1 x.2.2)) H0)) (fun x => I x.1 x.2.1 x.2.2) (fun x => μ x.1) (x0, y0, z0) h.1 fun x hx => ?_
  have e : roundQ (fun x : α × β × γ => (appL (upd x.1 x.2.1 x.2.2) T0, appL (fillB bs (updH x.1 x.2.1 x.2.2)) H0)) (fun x => I x.1 x.2.1 x.2.2) (fun x => μ x.1) x Q =
      roundQ3 (fun x y z => (appL (upd x y z) T0, appL (fillB bs (updH x y z)) H0)) I μ x.1 Q := by
    funext e T H
    cases e with
    | normal => exact propext ⟨fun ⟨y, h⟩ => ⟨y.1, y.2.1, y.2.2, h⟩, fun ⟨y, z, u, h⟩ => ⟨(y, z, u), h⟩⟩
    | _ => rfl
  rw [e]
  exact h.2 x.1 x.2.1 x.2.2 hx
end Go.SY

/- Steps of a goal, each with the tactic that settles its condition. -/
set_option linter.unusedSimpArgs false
set_option linter.unusedVariables false
namespace Go.SY
theorem k1 {p K : Prop} (k : K) (h : p := by first | with_reducible rfl | omega | exact (rfl : (_ : Nat) = _) | exact (rfl : (_ : SV) = _) | exact ⟨rfl, rfl⟩ | with_reducible assumption | (simp only [List.length_set, List.length_append, List.length_replicate, List.length_take, List.length_drop, List.length_map, List.length_cons, List.length_nil] at *; omega)) : Chk p K := ⟨h, k⟩
theorem k2 {e : Int} {K : Int → Prop} (k : K e) (h : -9223372036854775808 ≤ e ∧ e ≤ 9223372036854775807 := by omega) : Wr .i64 e K := Wr.i64 h k
theorem k3 {n : Int} {K : Nat → Prop} (k : K n.toNat) (h0 : 0 ≤ n := by omega) : NatOf n K := NatOf.any h0 k
theorem k4 {E : Enc} {x x' : SV} {L L' : List E.α} {K : Prop} (k : K) (hx : x' = x := by first | with_reducible rfl | omega | exact (rfl : (_ : SV) = _)) (h : L' = L := by with_reducible first | rfl | assumption) : OwnM (E' := E) x' L' x L K := OwnM.same hx h k
theorem kn {E : Enc} {x x' : SV} {L L' : List E.α} {K : Prop} (k : K) (hx : x' = x := by first | with_reducible rfl | omega | exact (rfl : (_ : SV) = _)) (h : L' = L := by with_reducible first | rfl | assumption) : OwnS (E' := E) x' L' x L K := OwnS.same hx h k
theorem k5 {b : Bool} {K : Prop} (k : K) (h : b = true := by kernel_rfl) : KChk b K := ⟨h, k⟩
theorem k6 {p : Prop} {inst : Decidable p} {A B : Prop} (k : A) (h : p := by first | omega | with_reducible assumption | with_reducible rfl) : Br (decide p) A B := Br.dt h k
theorem k7 {p : Prop} {inst : Decidable p} {A B : Prop} (k : B) (h : ¬ p := by first | omega | with_reducible assumption) : Br (decide p) A B := Br.df h k
theorem k8 {p : Prop} {inst : Decidable p} {A B : Prop} (k : A) (h : ¬ p := by first | omega | with_reducible assumption) : Br (!decide p) A B := Br.nt h k
theorem k9 {p : Prop} {inst : Decidable p} {A B : Prop} (k : B) (h : p := by first | omega | with_reducible assumption | with_reducible rfl) : Br (!decide p) A B := Br.nf h k
theorem ka {A B : Prop} (k : A) : Br true A B := Br.tt rfl k
theorem kb {A B : Prop} (k : B) : Br false A B := Br.ff rfl k
theorem kc {b : Bool} {A B : Prop} (k : A) (h : b = true := by with_reducible assumption) : Br b A B := Br.tt h k
theorem kd {b : Bool} {A B : Prop} (k : B) (h : b = false := by with_reducible assumption) : Br b A B := Br.ff h k
theorem kl {A B : Prop} (k : B) : Br (!true) A B := Br.ff rfl k
theorem km {A B : Prop} (k : A) : Br (!false) A B := Br.tt rfl k
theorem ke {α : Type} {K : α → Prop} (k : ∀ b, K b) : New K := ⟨k⟩
theorem kf {m : Nat} {K : Nat → Prop} (k : K m) : NatOf (m : Int) K := NatOf.cast k
theorem kg {n : Nat} {K : Nat → Prop} (k : K (@OfNat.ofNat Nat n (instOfNatNat n))) : NatOf (@OfNat.ofNat Int n instOfNat) K := NatOf.lit k
/-- The end of a state's check: what the two sides are is left. -/
theorem kh {p K : Prop} (h : p) (k : K) : Chk p K := ⟨h, k⟩
end Go.SY

/- ChaCha20, plainly. -/
namespace Go.Cha
open Go.Sha
def begin4 : List (BitVec 32) := [0x61707865, 0x3320646e, 0x79622d32, 0x6b206574]
def quartersL : List Int := [0, 4, 8, 12, 1, 5, 9, 13, 2, 6, 10, 14, 3, 7, 11, 15, 0, 5, 10, 15, 1, 6, 11, 12, 2, 7, 8, 13, 3, 4, 9, 14]
def num4 (b : List UInt8) (i : Nat) : BitVec 32 :=
  (((b.getD i 0).toBitVec.setWidth 32 ||| (b.getD (i + 1) 0).toBitVec.setWidth 32 <<< 8) ||| (b.getD (i + 2) 0).toBitVec.setWidth 32 <<< 16) ||| (b.getD (i + 3) 0).toBitVec.setWidth 32 <<< 24
def keyW (k : List UInt8) (n : Nat) : List (BitVec 32) := (List.range n).map fun i => num4 k (4 * i)
theorem keyW_succ (k : List UInt8) (n : Nat) : keyW k (n + 1) = keyW k n ++ [num4 k (4 * n)] := by simp [keyW, List.range_succ]
theorem keyW_length (k : List UInt8) (n : Nat) : (keyW k n).length = n := by simp [keyW]
def beg (k : List UInt8) (c : BitVec 32) (n : List UInt8) : List (BitVec 32) := begin4 ++ keyW k 8 ++ [c] ++ keyW n 3
theorem beg_length (k : List UInt8) (c : BitVec 32) (n : List UInt8) : (beg k c n).length = 16 := by simp [beg, keyW_length, begin4]
/-- Half a quarter round. -/
def half (r1 r2 : Nat) (l : List (BitVec 32)) (a b c d : Nat) : List (BitVec 32) :=
  let l1 := l.set a (l.getD a 0 + l.getD b 0)
  let l2 := l1.set d (rotl (l1.getD d 0 ^^^ l1.getD a 0) r1)
  let l3 := l2.set c (l2.getD c 0 + l2.getD d 0)
  l3.set b (rotl (l3.getD b 0 ^^^ l3.getD c 0) r2)
theorem half_length (r1 r2 : Nat) (l : List (BitVec 32)) (a b c d : Nat) : (half r1 r2 l a b c d).length = l.length := by simp [half]
def qr (l : List (BitVec 32)) (a b c d : Nat) : List (BitVec 32) := half 8 7 (half 16 12 l a b c d) a b c d
theorem qr_length (l : List (BitVec 32)) (a b c d : Nat) : (qr l a b c d).length = l.length := by simp [qr, half_length]
def quarters : List (Nat × Nat × Nat × Nat) := [(0, 4, 8, 12), (1, 5, 9, 13), (2, 6, 10, 14), (3, 7, 11, 15), (0, 5, 10, 15), (1, 6, 11, 12), (2, 7, 8, 13), (3, 4, 9, 14)]
/-- The first n quarter rounds of a double round. -/
def part (l : List (BitVec 32)) : Nat → List (BitVec 32)
  | 0 => l
  | n + 1 => let q := quarters.getD n (0, 0, 0, 0); qr (part l n) q.1 q.2.1 q.2.2.1 q.2.2.2
theorem part_length (l : List (BitVec 32)) (n : Nat) : (part l n).length = l.length := by
  induction n with
  | zero => rfl
  | succ n ih => simp only [part]; rw [qr_length]; exact ih
def rounds (l : List (BitVec 32)) : Nat → List (BitVec 32)
  | 0 => l
  | n + 1 => part (rounds l n) 8
theorem rounds_length (l : List (BitVec 32)) (n : Nat) : (rounds l n).length = l.length := by
  induction n with
  | zero => rfl
  | succ n ih => simp only [rounds]; rw [part_length]; exact ih
def le4 (v : BitVec 32) : List UInt8 := [⟨v.setWidth 8⟩, ⟨(v >>> 8).setWidth 8⟩, ⟨(v >>> 16).setWidth 8⟩, ⟨(v >>> 24).setWidth 8⟩]
def serial (y x : List (BitVec 32)) (m : Nat) : List UInt8 := (List.range m).flatMap fun i => le4 (y.getD i 0 + x.getD i 0)
theorem serial_succ (y x : List (BitVec 32)) (m : Nat) : serial y x (m + 1) = serial y x m ++ le4 (y.getD m 0 + x.getD m 0) := by simp [serial, List.range_succ]
theorem serial_length (y x : List (BitVec 32)) (m : Nat) : (serial y x m).length = 4 * m := by
  induction m with
  | zero => rfl
  | succ m ih => rw [serial_succ, List.length_append, ih]; simp [le4]; omega
/-- A block. -/
def block (k : List UInt8) (c : BitVec 32) (n : List UInt8) : List UInt8 := serial (rounds (beg k c n) 10) (beg k c n) 16
theorem block_length (k : List UInt8) (c : BitVec 32) (n : List UInt8) : (block k c n).length = 64 := serial_length _ _ 16
/-- The stream's byte at a place. -/
def streamAt (k : List UInt8) (c : BitVec 32) (n : List UInt8) (i : Nat) : UInt8 := (block k (c + BitVec.ofNat 32 (i / 64)) n).getD (i % 64) 0
def xored (k : List UInt8) (c : BitVec 32) (n : List UInt8) (l : List UInt8) : List UInt8 := l.mapIdx fun i b => b ^^^ streamAt k c n i
theorem xored_length (k : List UInt8) (c : BitVec 32) (n : List UInt8) (l : List UInt8) : (xored k c n l).length = l.length := by simp [xored]
end Go.Cha

/- Poly1305, plain: numbers as five parts of 26 bits; what carrying, adding and multiplying does to their value. -/
set_option linter.unusedVariables false
set_option linter.unusedSimpArgs false
namespace Go.Poly

/-- 2^130 - 5. -/
def P : Nat := 1361129467683753853853498429727072845819
/-- Bytes as a number, the lowest first. -/
def le : List UInt8 → Nat
  | [] => 0
  | b :: l => b.toNat + 256 * le l
/-- A number's first bytes. -/
def bytes : Nat → Nat → List UInt8
  | 0, _ => []
  | n + 1, N => UInt8.ofNat N :: bytes n (N / 256)

/-- Five parts. -/
structure N5 where
  a : Nat
  b : Nat
  c : Nat
  d : Nat
  e : Nat
def N5.val (n : N5) : Nat := n.a + n.b * 67108864 + n.c * 4503599627370496 + n.d * 302231454903657293676544 + n.e * 20282409603651670423947251286016
def limbs (N : Nat) : N5 := ⟨N % 67108864, N / 67108864 % 67108864, N / 4503599627370496 % 67108864, N / 302231454903657293676544 % 67108864, N / 20282409603651670423947251286016 % 67108864⟩
theorem limbs_val (N : Nat) (h : N < 1361129467683753853853498429727072845824) : (limbs N).val = N := by
  unfold limbs N5.val; dsimp only; omega
def N5.low (n : N5) : Prop := n.a < 67108864 ∧ n.b < 67108864 ∧ n.c < 67108864 ∧ n.d < 67108864 ∧ n.e < 67108864
/-- What carry leaves. -/
def N5.ok (n : N5) : Prop := n.a < 67108869 ∧ n.b < 67108864 ∧ n.c < 67108864 ∧ n.d < 67108864 ∧ n.e < 67108864
def N5.lt (n : N5) (m : Nat) : Prop := n.a < m ∧ n.b < m ∧ n.c < m ∧ n.d < m ∧ n.e < m
theorem limbs_low (N : Nat) : (limbs N).low := by
  unfold limbs N5.low; dsimp only; omega
theorem N5.low.limbs {n : N5} (h : n.low) : Poly.limbs n.val = n := by
  obtain ⟨a, b, c, d, e⟩ := n
  obtain ⟨h1, h2, h3, h4, h5⟩ := h
  unfold Poly.limbs N5.val
  dsimp only at *
  simp only [N5.mk.injEq]
  omega
theorem N5.low.val_lt {n : N5} (h : n.low) : n.val < 1361129467683753853853498429727072845824 := by
  obtain ⟨h1, h2, h3, h4, h5⟩ := h
  unfold N5.val; omega

/-- What goes on to the next part, up to the fifth. -/
def c1 (n : N5) : Nat := n.a / 67108864
def c2 (n : N5) : Nat := (n.b + c1 n) / 67108864
def c3 (n : N5) : Nat := (n.c + c2 n) / 67108864
def c4 (n : N5) : Nat := (n.d + c3 n) / 67108864
def c5 (n : N5) : Nat := (n.e + c4 n) / 67108864
def chain (n : N5) : N5 := ⟨n.a % 67108864, (n.b + c1 n) % 67108864, (n.c + c2 n) % 67108864, (n.d + c3 n) % 67108864, (n.e + c4 n) % 67108864⟩
theorem chain_low (n : N5) : (chain n).low := by unfold chain N5.low; dsimp only; omega
theorem chain_val (n : N5) : (chain n).val + c5 n * 1361129467683753853853498429727072845824 = n.val := by
  unfold chain N5.val c5 c4 c3 c2 c1; dsimp only
  generalize n.a = a; generalize n.b = b; generalize n.c = c; generalize n.d = d; generalize n.e = e
  omega
def pass (n : N5) : N5 := ⟨(chain n).a + c5 n * 5, (chain n).b, (chain n).c, (chain n).d, (chain n).e⟩
def more (n : N5) : N5 := ⟨n.a + 5, n.b, n.c, n.d, n.e⟩
theorem pass_val (n : N5) : (pass n).val + c5 n * P = n.val := by
  have h := chain_val n
  unfold pass N5.val at *
  dsimp only at *
  unfold P
  omega
theorem pass_mod (n : N5) : (pass n).val % P = n.val % P := by
  rw [← pass_val n, Nat.add_mul_mod_self_right]
def carry (n : N5) : N5 := pass (pass n)
theorem carry_mod (n : N5) : (carry n).val % P = n.val % P := by unfold carry; rw [pass_mod, pass_mod]
theorem c5_le (n : N5) (h : n.lt 1152921504606846976) : c5 n < 17179870000 := by
  obtain ⟨h1, h2, h3, h4, h5⟩ := h
  have e1 : c1 n = n.a / 67108864 := rfl
  have e2 : c2 n = (n.b + c1 n) / 67108864 := rfl
  have e3 : c3 n = (n.c + c2 n) / 67108864 := rfl
  have e4 : c4 n = (n.d + c3 n) / 67108864 := rfl
  have e5 : c5 n = (n.e + c4 n) / 67108864 := rfl
  have : c1 n < 17179870000 := by omega
  have : c2 n < 17179870000 := by omega
  have : c3 n < 17179870000 := by omega
  have : c4 n < 17179870000 := by omega
  omega
theorem c5_le1 (n : N5) (h : (n.a < 4503599627370496 ∧ n.b < 67108864 ∧ n.c < 67108864 ∧ n.d < 67108864 ∧ n.e < 67108864)) : c5 n ≤ 1 := by
  obtain ⟨h1, h2, h3, h4, h5⟩ := h
  have e1 : c1 n = n.a / 67108864 := rfl
  have e2 : c2 n = (n.b + c1 n) / 67108864 := rfl
  have e3 : c3 n = (n.c + c2 n) / 67108864 := rfl
  have e4 : c4 n = (n.d + c3 n) / 67108864 := rfl
  have e5 : c5 n = (n.e + c4 n) / 67108864 := rfl
  have : c1 n < 67108864 := by omega
  have : c2 n ≤ 1 := by omega
  have : c3 n ≤ 1 := by omega
  have : c4 n ≤ 1 := by omega
  omega
theorem pass_lt (n : N5) (h : n.lt 1152921504606846976) : (pass n).a < 90000000000 ∧ (pass n).b < 67108864 ∧ (pass n).c < 67108864 ∧ (pass n).d < 67108864 ∧ (pass n).e < 67108864 := by
  obtain ⟨h1, h2, h3, h4, h5⟩ := chain_low n
  have := c5_le n h
  unfold pass; dsimp only; omega
theorem carry_ok (n : N5) (h : n.lt 1152921504606846976) : (carry n).ok := by
  obtain ⟨g1, g2, g3, g4, g5⟩ := pass_lt n h
  obtain ⟨h1, h2, h3, h4, h5⟩ := chain_low (pass n)
  have := c5_le1 (pass n) ⟨by omega, g2, g3, g4, g5⟩
  unfold carry; rw [pass]; unfold N5.ok; dsimp only; omega
theorem pass_low (n : N5) (h : n.low) : pass n = n := by
  obtain ⟨a, b, c, d, e⟩ := n
  obtain ⟨h1, h2, h3, h4, h5⟩ := h
  dsimp only at h1 h2 h3 h4 h5
  have k1 : c1 ⟨a, b, c, d, e⟩ = 0 := by unfold c1; dsimp only; omega
  have k2 : c2 ⟨a, b, c, d, e⟩ = 0 := by unfold c2; rw [k1]; dsimp only; omega
  have k3 : c3 ⟨a, b, c, d, e⟩ = 0 := by unfold c3; rw [k2]; dsimp only; omega
  have k4 : c4 ⟨a, b, c, d, e⟩ = 0 := by unfold c4; rw [k3]; dsimp only; omega
  have k5 : c5 ⟨a, b, c, d, e⟩ = 0 := by unfold c5; rw [k4]; dsimp only; omega
  unfold pass chain
  rw [k1, k2, k3, k4, k5]
  simp only [N5.mk.injEq, Nat.add_zero, Nat.zero_mul]
  exact ⟨Nat.mod_eq_of_lt h1, Nat.mod_eq_of_lt h2, Nat.mod_eq_of_lt h3, Nat.mod_eq_of_lt h4, Nat.mod_eq_of_lt h5⟩
theorem carry_low (n : N5) (h : n.ok) : (carry n).low := by
  have hl : (pass n).low := by
    obtain ⟨h1, h2, h3, h4, h5⟩ := h
    obtain ⟨g1, g2, g3, g4, g5⟩ := chain_low n
    have e1 : c1 n = n.a / 67108864 := rfl
    have e2 : c2 n = (n.b + c1 n) / 67108864 := rfl
    have e3 : c3 n = (n.c + c2 n) / 67108864 := rfl
    have e4 : c4 n = (n.d + c3 n) / 67108864 := rfl
    have e5 : c5 n = (n.e + c4 n) / 67108864 := rfl
    have f1 : (chain n).a = n.a % 67108864 := rfl
    refine ⟨?_, g2, g3, g4, g5⟩
    show (chain n).a + c5 n * 5 < _
    generalize c1 n = k1 at *; generalize c2 n = k2 at *; generalize c3 n = k3 at *; generalize c4 n = k4 at *; generalize c5 n = k5 at *
    by_cases hk : k1 = 0
    · have : k2 = 0 := by omega
      have : k3 = 0 := by omega
      have : k4 = 0 := by omega
      have : k5 = 0 := by omega
      omega
    · have : (chain n).a < 5 := by omega
      have : k1 = 1 := by omega
      have : k2 ≤ 1 := by omega
      have : k3 ≤ 1 := by omega
      have : k4 ≤ 1 := by omega
      have : k5 ≤ 1 := by omega
      omega
  unfold carry
  rw [pass_low _ hl]; exact hl
/-- Added. -/
def add (n m : N5) : N5 := ⟨n.a + m.a, n.b + m.b, n.c + m.c, n.d + m.d, n.e + m.e⟩
theorem add_val (n m : N5) : (add n m).val = n.val + m.val := by unfold add N5.val; dsimp only; omega
/-- Multiplied; what is above comes back five times. -/
def mul (n m : N5) : N5 :=
  ⟨n.a * m.a + 5 * (n.b * m.e + n.c * m.d + n.d * m.c + n.e * m.b),
   n.a * m.b + n.b * m.a + 5 * (n.c * m.e + n.d * m.d + n.e * m.c),
   n.a * m.c + n.b * m.b + n.c * m.a + 5 * (n.d * m.e + n.e * m.d),
   n.a * m.d + n.b * m.c + n.c * m.b + n.d * m.a + 5 * (n.e * m.e),
   n.a * m.e + n.b * m.d + n.c * m.c + n.d * m.b + n.e * m.a⟩
theorem mul_val (n m : N5) : ∃ k, n.val * m.val = (mul n m).val + k * P := by
  obtain ⟨a, b, c, d, e⟩ := n
  obtain ⟨x, y, z, u, v⟩ := m
  refine ⟨(b * v + c * u + d * z + e * y) + (c * v + d * u + e * z) * 67108864 + (d * v + e * u) * 4503599627370496 + e * v * 302231454903657293676544, ?_⟩
  unfold mul N5.val P
  dsimp only
  grind
theorem mul_mod (n m : N5) : (mul n m).val % P = n.val * m.val % P := by
  obtain ⟨k, h⟩ := mul_val n m
  rw [h, Nat.add_mul_mod_self_right]
theorem mul_lt (n m : N5) (hn : n.ok) (hm : m.low) : (mul n m).lt 1152921504606846976 := by
  obtain ⟨h1, h2, h3, h4, h5⟩ := hn
  obtain ⟨g1, g2, g3, g4, g5⟩ := hm
  have key : ∀ x y : Nat, x < 67108869 → y < 67108864 → x * y ≤ 4503599962914816 := fun x y hx hy => by
    have := Nat.mul_le_mul (show x ≤ 67108868 by omega) (show y ≤ 67108863 by omega)
    omega
  unfold mul N5.lt
  dsimp only
  have p1 := key n.a m.a (by omega) (by omega); have p2 := key n.a m.b (by omega) (by omega); have p3 := key n.a m.c (by omega) (by omega); have p4 := key n.a m.d (by omega) (by omega); have p5 := key n.a m.e (by omega) (by omega)
  have q1 := key n.b m.a (by omega) (by omega); have q2 := key n.b m.b (by omega) (by omega); have q3 := key n.b m.c (by omega) (by omega); have q4 := key n.b m.d (by omega) (by omega); have q5 := key n.b m.e (by omega) (by omega)
  have r1 := key n.c m.a (by omega) (by omega); have r2 := key n.c m.b (by omega) (by omega); have r3 := key n.c m.c (by omega) (by omega); have r4 := key n.c m.d (by omega) (by omega); have r5 := key n.c m.e (by omega) (by omega)
  have s1 := key n.d m.a (by omega) (by omega); have s2 := key n.d m.b (by omega) (by omega); have s3 := key n.d m.c (by omega) (by omega); have s4 := key n.d m.d (by omega) (by omega); have s5 := key n.d m.e (by omega) (by omega)
  have t1 := key n.e m.a (by omega) (by omega); have t2 := key n.e m.b (by omega) (by omega); have t3 := key n.e m.c (by omega) (by omega); have t4 := key n.e m.d (by omega) (by omega); have t5 := key n.e m.e (by omega) (by omega)
  generalize n.a * m.a = x1 at *; generalize n.a * m.b = x2 at *; generalize n.a * m.c = x3 at *; generalize n.a * m.d = x4 at *; generalize n.a * m.e = x5 at *
  generalize n.b * m.a = y1 at *; generalize n.b * m.b = y2 at *; generalize n.b * m.c = y3 at *; generalize n.b * m.d = y4 at *; generalize n.b * m.e = y5 at *
  generalize n.c * m.a = z1 at *; generalize n.c * m.b = z2 at *; generalize n.c * m.c = z3 at *; generalize n.c * m.d = z4 at *; generalize n.c * m.e = z5 at *
  generalize n.d * m.a = u1 at *; generalize n.d * m.b = u2 at *; generalize n.d * m.c = u3 at *; generalize n.d * m.d = u4 at *; generalize n.d * m.e = u5 at *
  generalize n.e * m.a = v1 at *; generalize n.e * m.b = v2 at *; generalize n.e * m.c = v3 at *; generalize n.e * m.d = v4 at *; generalize n.e * m.e = v5 at *
  clear key h1 h2 h3 h4 h5 g1 g2 g3 g4 g5
  omega
/-- Below 2^130 - 5. -/
theorem least_ok (n : N5) (h : n.ok) : (if c5 (more (carry n)) = 0 then carry n else chain (more (carry n))) = limbs (n.val % P) := by
  have h1 := carry_low n h
  have h2 := carry_mod n
  have h3 := h1.val_lt
  have h4 := chain_val (more (carry n))
  have h5 := chain_low (more (carry n))
  have h6 := h5.val_lt
  have h7 : (more (carry n)).val = (carry n).val + 5 := by unfold more N5.val; dsimp only; omega
  rw [← h2]
  rw [h7] at h4
  generalize carry n = m at *
  split
  · rename_i h0
    rw [h0] at h4
    have : m.val < P := by simp only [P] at *; omega
    rw [Nat.mod_eq_of_lt this]; exact h1.limbs.symm
  · rename_i h0
    have h8 : c5 (more m) = 1 := by omega
    have h9 : m.val % P = (chain (more m)).val := by
      have e : m.val = (chain (more m)).val + 1 * P := by simp only [P] at *; omega
      rw [e, Nat.add_mul_mod_self_right, Nat.mod_eq_of_lt]
      simp only [P] at *; omega
    rw [h9]; exact h5.limbs.symm
end Go.Poly

/- Poly1305, plain: the parts as words of 64 bits, step by step. -/
set_option linter.unusedVariables false
set_option linter.unusedSimpArgs false
namespace Go.Poly
abbrev W := BitVec 64
def N5.w (n : N5) : List W := [BitVec.ofNat 64 n.a, BitVec.ofNat 64 n.b, BitVec.ofNat 64 n.c, BitVec.ofNat 64 n.d, BitVec.ofNat 64 n.e]
theorem N5.w_length (n : N5) : n.w.length = 5 := rfl
def cp (L : List W) : Nat → List W × W
  | 0 => (L, 0#64)
  | i + 1 => ((cp L i).1.set i (((cp L i).1.getD i 0 + (cp L i).2) &&& 67108863#64), ((cp L i).1.getD i 0 + (cp L i).2) >>> 26)
theorem cp_length (L : List W) (i : Nat) : (cp L i).1.length = L.length := by
  induction i with
  | zero => rfl
  | succ i ih => simp [cp, ih]
theorem shr26 (x : Nat) (h : x < 18446744073709551616) : BitVec.ofNat 64 x >>> 26 = BitVec.ofNat 64 (x / 67108864) := by
  apply BitVec.eq_of_toNat_eq
  rw [BitVec.toNat_ushiftRight, BitVec.toNat_ofNat, BitVec.toNat_ofNat, Nat.shiftRight_eq_div_pow]
  rw [Nat.mod_eq_of_lt h, Nat.mod_eq_of_lt]
  exact Nat.lt_of_le_of_lt (Nat.div_le_self _ _) h
theorem and26 (x : Nat) (h : x < 18446744073709551616) : BitVec.ofNat 64 x &&& 67108863#64 = BitVec.ofNat 64 (x % 67108864) := by
  apply BitVec.eq_of_toNat_eq
  rw [BitVec.toNat_and, BitVec.toNat_ofNat, BitVec.toNat_ofNat, BitVec.toNat_ofNat]
  rw [Nat.mod_eq_of_lt h, show 67108863 % 2 ^ 64 = 2 ^ 26 - 1 by decide, Nat.and_two_pow_sub_one_eq_mod]
  rw [Nat.mod_eq_of_lt (show x % 67108864 < 2 ^ 64 by omega)]
theorem cp_w (n : N5) (h : n.lt 4611686018427387904) : cp n.w 5 = ((chain n).w, BitVec.ofNat 64 (c5 n)) := by
  obtain ⟨h1, h2, h3, h4, h5⟩ := h
  have e1 : c1 n = n.a / 67108864 := rfl
  have e2 : c2 n = (n.b + c1 n) / 67108864 := rfl
  have e3 : c3 n = (n.c + c2 n) / 67108864 := rfl
  have e4 : c4 n = (n.d + c3 n) / 67108864 := rfl
  have e5 : c5 n = (n.e + c4 n) / 67108864 := rfl
  have g1 : c1 n < 4611686018427387904 := by omega
  have g2 : c2 n < 4611686018427387904 := by omega
  have g3 : c3 n < 4611686018427387904 := by omega
  have g4 : c4 n < 4611686018427387904 := by omega
  have p1 : cp n.w 1 = ([BitVec.ofNat 64 (n.a % 67108864), BitVec.ofNat 64 n.b, BitVec.ofNat 64 n.c, BitVec.ofNat 64 n.d, BitVec.ofNat 64 n.e], BitVec.ofNat 64 (c1 n)) := by
    show ([(BitVec.ofNat 64 n.a + 0#64) &&& 67108863#64, _, _, _, _], (BitVec.ofNat 64 n.a + 0#64) >>> 26) = _
    rw [BitVec.add_zero, and26 _ (by omega), shr26 _ (by omega), e1]
  have p2 : cp n.w 2 = ([BitVec.ofNat 64 (n.a % 67108864), BitVec.ofNat 64 ((n.b + c1 n) % 67108864), BitVec.ofNat 64 n.c, BitVec.ofNat 64 n.d, BitVec.ofNat 64 n.e], BitVec.ofNat 64 (c2 n)) := by
    rw [cp, p1]
    show ([_, (BitVec.ofNat 64 n.b + BitVec.ofNat 64 (c1 n)) &&& 67108863#64, _, _, _], (BitVec.ofNat 64 n.b + BitVec.ofNat 64 (c1 n)) >>> 26) = _
    rw [← BitVec.ofNat_add, and26 _ (by omega), shr26 _ (by omega), e2]
  have p3 : cp n.w 3 = ([BitVec.ofNat 64 (n.a % 67108864), BitVec.ofNat 64 ((n.b + c1 n) % 67108864), BitVec.ofNat 64 ((n.c + c2 n) % 67108864), BitVec.ofNat 64 n.d, BitVec.ofNat 64 n.e], BitVec.ofNat 64 (c3 n)) := by
    rw [cp, p2]
    show ([_, _, (BitVec.ofNat 64 n.c + BitVec.ofNat 64 (c2 n)) &&& 67108863#64, _, _], (BitVec.ofNat 64 n.c + BitVec.ofNat 64 (c2 n)) >>> 26) = _
    rw [← BitVec.ofNat_add, and26 _ (by omega), shr26 _ (by omega), e3]
  have p4 : cp n.w 4 = ([BitVec.ofNat 64 (n.a % 67108864), BitVec.ofNat 64 ((n.b + c1 n) % 67108864), BitVec.ofNat 64 ((n.c + c2 n) % 67108864), BitVec.ofNat 64 ((n.d + c3 n) % 67108864), BitVec.ofNat 64 n.e], BitVec.ofNat 64 (c4 n)) := by
    rw [cp, p3]
    show ([_, _, _, (BitVec.ofNat 64 n.d + BitVec.ofNat 64 (c3 n)) &&& 67108863#64, _], (BitVec.ofNat 64 n.d + BitVec.ofNat 64 (c3 n)) >>> 26) = _
    rw [← BitVec.ofNat_add, and26 _ (by omega), shr26 _ (by omega), e4]
  rw [cp, p4]
  show ([_, _, _, _, (BitVec.ofNat 64 n.e + BitVec.ofNat 64 (c4 n)) &&& 67108863#64], (BitVec.ofNat 64 n.e + BitVec.ofNat 64 (c4 n)) >>> 26) = _
  rw [← BitVec.ofNat_add, and26 _ (by omega), shr26 _ (by omega), e5]
  rfl
def passW (L : List W) : List W := (cp L 5).1.set 0 ((cp L 5).1.getD 0 0 + (cp L 5).2 * 5#64)
theorem passW_w (n : N5) (h : n.lt 4611686018427387904) : passW n.w = (pass n).w := by
  unfold passW
  rw [cp_w n h]
  show [BitVec.ofNat 64 (chain n).a + BitVec.ofNat 64 (c5 n) * BitVec.ofNat 64 5, _, _, _, _] = _
  rw [← BitVec.ofNat_mul, ← BitVec.ofNat_add]
  rfl
def passes (L : List W) : Nat → List W
  | 0 => L
  | i + 1 => passW (passes L i)
theorem passW_length (L : List W) : (passW L).length = L.length := by simp [passW, cp_length]
theorem passes_length (L : List W) (i : Nat) : (passes L i).length = L.length := by
  induction i with
  | zero => rfl
  | succ i ih => rw [passes, passW_length, ih]
theorem passes_w (n : N5) (h : n.lt 1152921504606846976) : passes n.w 2 = (carry n).w := by
  obtain ⟨h1, h2, h3, h4, h5⟩ := h
  have := pass_lt n ⟨h1, h2, h3, h4, h5⟩
  show passW (passW n.w) = _
  rw [passW_w n (by unfold N5.lt; omega), passW_w (pass n) (by unfold N5.lt; omega)]
  rfl
/-- Added, part by part. -/
def addW (L M : List W) : Nat → List W
  | 0 => L
  | i + 1 => (addW L M i).set i ((addW L M i).getD i 0 + M.getD i 0)
theorem addW_length (L M : List W) (i : Nat) : (addW L M i).length = L.length := by
  induction i with
  | zero => rfl
  | succ i ih => simp [addW, ih]
theorem addW_w (n m : N5) : addW n.w m.w 5 = (add n m).w := by
  show [BitVec.ofNat 64 n.a + BitVec.ofNat 64 m.a, BitVec.ofNat 64 n.b + BitVec.ofNat 64 m.b, BitVec.ofNat 64 n.c + BitVec.ofNat 64 m.c, BitVec.ofNat 64 n.d + BitVec.ofNat 64 m.d, BitVec.ofNat 64 n.e + BitVec.ofNat 64 m.e] = _
  simp only [← BitVec.ofNat_add]
  rfl
/-- Multiplied, part by part. -/
def mulS (x : W) (i : Nat) (M : List W) (O : List W) : Nat → List W
  | 0 => O
  | k + 1 => if i + k < 5 then (mulS x i M O k).set (i + k) ((mulS x i M O k).getD (i + k) 0 + x * M.getD k 0)
             else (mulS x i M O k).set (i + k - 5) ((mulS x i M O k).getD (i + k - 5) 0 + x * M.getD k 0 * 5#64)
theorem mulS_lt (x : W) (i : Nat) (M O : List W) (k : Nat) (h : i + k < 5) : mulS x i M O (k + 1) = (mulS x i M O k).set (i + k) ((mulS x i M O k).getD (i + k) 0 + x * M.getD k 0) := if_pos h
theorem mulS_ge (x : W) (i : Nat) (M O : List W) (k : Nat) (h : ¬ i + k < 5) : mulS x i M O (k + 1) = (mulS x i M O k).set (i + k - 5) ((mulS x i M O k).getD (i + k - 5) 0 + x * M.getD k 0 * 5#64) := if_neg h
theorem mulS_length (x : W) (i : Nat) (M O : List W) (k : Nat) : (mulS x i M O k).length = O.length := by
  induction k with
  | zero => rfl
  | succ k ih => unfold mulS; split <;> simp [ih]
def mulW (L M : List W) : Nat → List W
  | 0 => List.replicate 5 0
  | i + 1 => mulS (L.getD i 0) i M (mulW L M i) 5
theorem mulW_length (L M : List W) (i : Nat) : (mulW L M i).length = 5 := by
  induction i with
  | zero => rfl
  | succ i ih => unfold mulW; rw [mulS_length, ih]
theorem mulS0 (x m0 m1 m2 m3 m4 o0 o1 o2 o3 o4 : W) : mulS x 0 [m0, m1, m2, m3, m4] [o0, o1, o2, o3, o4] 5 = [o0 + x * m0, o1 + x * m1, o2 + x * m2, o3 + x * m3, o4 + x * m4] := rfl
theorem mulS1 (x m0 m1 m2 m3 m4 o0 o1 o2 o3 o4 : W) : mulS x 1 [m0, m1, m2, m3, m4] [o0, o1, o2, o3, o4] 5 = [o0 + x * m4 * 5#64, o1 + x * m0, o2 + x * m1, o3 + x * m2, o4 + x * m3] := rfl
theorem mulS2 (x m0 m1 m2 m3 m4 o0 o1 o2 o3 o4 : W) : mulS x 2 [m0, m1, m2, m3, m4] [o0, o1, o2, o3, o4] 5 = [o0 + x * m3 * 5#64, o1 + x * m4 * 5#64, o2 + x * m0, o3 + x * m1, o4 + x * m2] := rfl
theorem mulS3 (x m0 m1 m2 m3 m4 o0 o1 o2 o3 o4 : W) : mulS x 3 [m0, m1, m2, m3, m4] [o0, o1, o2, o3, o4] 5 = [o0 + x * m2 * 5#64, o1 + x * m3 * 5#64, o2 + x * m4 * 5#64, o3 + x * m0, o4 + x * m1] := rfl
theorem mulS4 (x m0 m1 m2 m3 m4 o0 o1 o2 o3 o4 : W) : mulS x 4 [m0, m1, m2, m3, m4] [o0, o1, o2, o3, o4] 5 = [o0 + x * m1 * 5#64, o1 + x * m2 * 5#64, o2 + x * m3 * 5#64, o3 + x * m4 * 5#64, o4 + x * m0] := rfl
theorem mulW_w (n m : N5) : mulW n.w m.w 5 = (mul n m).w := by
  have g : ∀ x y z : Nat, BitVec.ofNat 64 z + BitVec.ofNat 64 x * BitVec.ofNat 64 y = BitVec.ofNat 64 (z + x * y) := fun x y z => by rw [← BitVec.ofNat_mul, ← BitVec.ofNat_add]
  have g5 : ∀ x y z : Nat, BitVec.ofNat 64 z + BitVec.ofNat 64 x * BitVec.ofNat 64 y * 5#64 = BitVec.ofNat 64 (z + x * y * 5) := fun x y z => by rw [show (5#64) = BitVec.ofNat 64 5 from rfl, ← BitVec.ofNat_mul, ← BitVec.ofNat_mul, ← BitVec.ofNat_add]
  have p1 : mulW n.w m.w 1 = [BitVec.ofNat 64 (0 + n.a * m.a), BitVec.ofNat 64 (0 + n.a * m.b), BitVec.ofNat 64 (0 + n.a * m.c), BitVec.ofNat 64 (0 + n.a * m.d), BitVec.ofNat 64 (0 + n.a * m.e)] := by
    show mulS (BitVec.ofNat 64 n.a) 0 [BitVec.ofNat 64 m.a, BitVec.ofNat 64 m.b, BitVec.ofNat 64 m.c, BitVec.ofNat 64 m.d, BitVec.ofNat 64 m.e] [BitVec.ofNat 64 0, BitVec.ofNat 64 0, BitVec.ofNat 64 0, BitVec.ofNat 64 0, BitVec.ofNat 64 0] 5 = _
    rw [mulS0]
    simp only [g, g5]
  have p2 : mulW n.w m.w 2 = [BitVec.ofNat 64 (0 + n.a * m.a + n.b * m.e * 5), BitVec.ofNat 64 (0 + n.a * m.b + n.b * m.a), BitVec.ofNat 64 (0 + n.a * m.c + n.b * m.b), BitVec.ofNat 64 (0 + n.a * m.d + n.b * m.c), BitVec.ofNat 64 (0 + n.a * m.e + n.b * m.d)] := by
    rw [mulW, p1]
    show mulS (BitVec.ofNat 64 n.b) 1 [BitVec.ofNat 64 m.a, BitVec.ofNat 64 m.b, BitVec.ofNat 64 m.c, BitVec.ofNat 64 m.d, BitVec.ofNat 64 m.e] _ 5 = _
    rw [mulS1]
    simp only [g, g5]
  have p3 : mulW n.w m.w 3 = [BitVec.ofNat 64 (0 + n.a * m.a + n.b * m.e * 5 + n.c * m.d * 5), BitVec.ofNat 64 (0 + n.a * m.b + n.b * m.a + n.c * m.e * 5), BitVec.ofNat 64 (0 + n.a * m.c + n.b * m.b + n.c * m.a), BitVec.ofNat 64 (0 + n.a * m.d + n.b * m.c + n.c * m.b), BitVec.ofNat 64 (0 + n.a * m.e + n.b * m.d + n.c * m.c)] := by
    rw [mulW, p2]
    show mulS (BitVec.ofNat 64 n.c) 2 [BitVec.ofNat 64 m.a, BitVec.ofNat 64 m.b, BitVec.ofNat 64 m.c, BitVec.ofNat 64 m.d, BitVec.ofNat 64 m.e] _ 5 = _
    rw [mulS2]
    simp only [g, g5]
  have p4 : mulW n.w m.w 4 = [BitVec.ofNat 64 (0 + n.a * m.a + n.b * m.e * 5 + n.c * m.d * 5 + n.d * m.c * 5), BitVec.ofNat 64 (0 + n.a * m.b + n.b * m.a + n.c * m.e * 5 + n.d * m.d * 5), BitVec.ofNat 64 (0 + n.a * m.c + n.b * m.b + n.c * m.a + n.d * m.e * 5), BitVec.ofNat 64 (0 + n.a * m.d + n.b * m.c + n.c * m.b + n.d * m.a), BitVec.ofNat 64 (0 + n.a * m.e + n.b * m.d + n.c * m.c + n.d * m.b)] := by
    rw [mulW, p3]
    show mulS (BitVec.ofNat 64 n.d) 3 [BitVec.ofNat 64 m.a, BitVec.ofNat 64 m.b, BitVec.ofNat 64 m.c, BitVec.ofNat 64 m.d, BitVec.ofNat 64 m.e] _ 5 = _
    rw [mulS3]
    simp only [g, g5]
  have p5 : mulW n.w m.w 5 = [BitVec.ofNat 64 (0 + n.a * m.a + n.b * m.e * 5 + n.c * m.d * 5 + n.d * m.c * 5 + n.e * m.b * 5), BitVec.ofNat 64 (0 + n.a * m.b + n.b * m.a + n.c * m.e * 5 + n.d * m.d * 5 + n.e * m.c * 5), BitVec.ofNat 64 (0 + n.a * m.c + n.b * m.b + n.c * m.a + n.d * m.e * 5 + n.e * m.d * 5), BitVec.ofNat 64 (0 + n.a * m.d + n.b * m.c + n.c * m.b + n.d * m.a + n.e * m.e * 5), BitVec.ofNat 64 (0 + n.a * m.e + n.b * m.d + n.c * m.c + n.d * m.b + n.e * m.a)] := by
    rw [mulW, p4]
    show mulS (BitVec.ofNat 64 n.e) 4 [BitVec.ofNat 64 m.a, BitVec.ofNat 64 m.b, BitVec.ofNat 64 m.c, BitVec.ofNat 64 m.d, BitVec.ofNat 64 m.e] _ 5 = _
    rw [mulS4]
    simp only [g, g5]
  have q1 : 0 + n.a * m.a + n.b * m.e * 5 + n.c * m.d * 5 + n.d * m.c * 5 + n.e * m.b * 5 = (mul n m).a := by
    unfold mul; dsimp only; omega
  have q2 : 0 + n.a * m.b + n.b * m.a + n.c * m.e * 5 + n.d * m.d * 5 + n.e * m.c * 5 = (mul n m).b := by
    unfold mul; dsimp only; omega
  have q3 : 0 + n.a * m.c + n.b * m.b + n.c * m.a + n.d * m.e * 5 + n.e * m.d * 5 = (mul n m).c := by
    unfold mul; dsimp only; omega
  have q4 : 0 + n.a * m.d + n.b * m.c + n.c * m.b + n.d * m.a + n.e * m.e * 5 = (mul n m).d := by
    unfold mul; dsimp only; omega
  have q5 : 0 + n.a * m.e + n.b * m.d + n.c * m.c + n.d * m.b + n.e * m.a = (mul n m).e := by
    unfold mul; dsimp only; omega
  rw [p5, q1, q2, q3, q4, q5]
  rfl
end Go.Poly

/- One step of the code at a time, each by a lemma: what is behind the step is boxed, so that the kernel looks at nothing but the step. -/
namespace Go.SY
open Go
structure Sx (C : Ctx) (c : Code) (T : Tm) (H : Heap) (Q : Ex → Tm → Heap → Prop) : Prop where
  go : sx C c T H Q
structure SxO (C : Ctx) (all r : List Oper) (T : Tm) (H : Heap) (K : Tm → Heap → Prop) : Prop where
  go : sxOps C all r T H K
structure SeqK (C : Ctx) (b : Code) (Q : Ex → Tm → Heap → Prop) (e : Ex) (T : Tm) (H : Heap) : Prop where
  go : (match e with | .normal => sx C b T H Q | .ret => Q .ret T H | .exit i => Q (.exit i) T H)
structure BlkK (i : Nat) (Q : Ex → Tm → Heap → Prop) (e : Ex) (T : Tm) (H : Heap) : Prop where
  go : (match e with | .normal => Q .normal T H | .ret => Q .ret T H | .exit j => (match Nat.beq j i with | true => Q .normal T H | false => Q (.exit j) T H))
variable {C : Ctx} {T : Tm} {H : Heap} {Q : Ex → Tm → Heap → Prop}
theorem SeqK.eq (C : Ctx) (b : Code) (Q : Ex → Tm → Heap → Prop) : SeqK C b Q = fun e T' H' => match e with | .normal => sx C b T' H' Q | .ret => Q .ret T' H' | .exit i => Q (.exit i) T' H' :=
  funext fun e => funext fun T => funext fun H => propext ⟨fun h => h.go, fun h => ⟨h⟩⟩
theorem BlkK.eq (i : Nat) (Q : Ex → Tm → Heap → Prop) : BlkK i Q = fun e T' H' => match e with | .normal => Q .normal T' H' | .ret => Q .ret T' H' | .exit j => (match Nat.beq j i with | true => Q .normal T' H' | false => Q (.exit j) T' H') :=
  funext fun e => funext fun T => funext fun H => propext ⟨fun h => h.go, fun h => ⟨h⟩⟩
theorem SxO.eq (C : Ctx) (all r : List Oper) (K : Tm → Heap → Prop) : (fun T H => SxO C all r T H K) = fun T H => sxOps C all r T H K :=
  funext fun T => funext fun H => propext ⟨fun h => h.go, fun h => ⟨h⟩⟩
theorem SeqK.normal {b : Code} (h : Sx C b T H Q) : SeqK C b Q .normal T H := ⟨h.go⟩
theorem SeqK.ret {b : Code} (h : Q .ret T H) : SeqK C b Q .ret T H := ⟨h⟩
theorem SeqK.exit {b : Code} {i : Nat} (h : Q (.exit i) T H) : SeqK C b Q (.exit i) T H := ⟨h⟩
theorem BlkK.normal {i : Nat} (h : Q .normal T H) : BlkK i Q .normal T H := ⟨h⟩
theorem BlkK.ret {i : Nat} (h : Q .ret T H) : BlkK i Q .ret T H := ⟨h⟩
theorem BlkK.hit {i j : Nat} (h : (match Nat.beq j i with | true => Q .normal T H | false => Q (.exit j) T H)) : BlkK i Q (.exit j) T H := ⟨h⟩
theorem Sx.seq {a b : Code} (h : Sx C a T H (SeqK C b Q)) : Sx C (.seq a b) T H Q := ⟨by have := h.go; rw [SeqK.eq] at this; unfold sx; exact this⟩
theorem Sx.block {i : Nat} {x : Code} (h : Sx C x T H (BlkK i Q)) : Sx C (.block i x) T H Q := ⟨by have := h.go; rw [BlkK.eq] at this; unfold sx; exact this⟩
theorem Sx.reg {i : Nat} {ops : Array Oper} (h : SxO C ops.toList ops.toList T H (Q .normal)) : Sx C (.region i ops false) T H Q := ⟨by unfold sx; exact h.go⟩
theorem Sx.draw {i : Nat} {ops : Array Oper} (h : Draw C i ops.toList T H Q) : Sx C (.region i ops true) T H Q := ⟨by unfold sx; exact h⟩
theorem Sx.cond {c : Operand} {x y : Code} (h : CondG C c x y T H Q) : Sx C (.cond c x y) T H Q := ⟨by unfold sx; exact h⟩
theorem Sx.loop {x : Code} (h : LoopG C x T H Q) : Sx C (.loop x) T H Q := ⟨by unfold sx; exact h⟩
theorem Sx.ret (h : Q .ret T H) : Sx C .ret T H Q := ⟨by unfold sx; exact h⟩
theorem Sx.exit {i : Nat} (h : Q (.exit i) T H) : Sx C (.exit i) T H Q := ⟨by unfold sx; exact h⟩
theorem Sx.skip (h : Q .normal T H) : Sx C .skip T H Q := ⟨by unfold sx; exact h⟩
theorem Sx.label {l : Nat} (h : Q .normal T H) : Sx C (.label l) T H Q := ⟨by unfold sx; exact h⟩
theorem SxO.nil {all : List Oper} {K : Tm → Heap → Prop} (h : K T H) : SxO C all [] T H K := ⟨by unfold sxOps; exact h⟩
theorem SxO.cons {all : List Oper} {o : Oper} {r : List Oper} {K : Tm → Heap → Prop} (h : sxGuard all T o (sxOp C T H o fun T' H' => SxO C all r T' H' K) (skipK C.N o.dst T H fun T' H' => SxO C all r T' H' K)) : SxO C all (o :: r) T H K :=
  ⟨by rw [SxO.eq] at h; unfold sxOps; exact h⟩
theorem SxO.step {all l : List Oper} {o : Oper} {r : List Oper} {K : Tm → Heap → Prop} (e : l = o :: r) (h : sxGuard all T o (sxOp C T H o fun T' H' => SxO C all r T' H' K) (skipK C.N o.dst T H fun T' H' => SxO C all r T' H' K)) : sxOps C all l T H K := by
  subst e; exact (SxO.cons h).go
end Go.SY

/- Poly1305, plain: bytes as numbers, bit by bit and byte by byte. -/
set_option linter.unusedVariables false
set_option linter.unusedSimpArgs false
namespace Go.Poly
theorem le_append (a b : List UInt8) : le (a ++ b) = le a + 256 ^ a.length * le b := by
  induction a with
  | nil => simp [le]
  | cons x a ih => simp only [List.cons_append, le, ih, List.length_cons, Nat.pow_succ]; grind
theorem le_lt (a : List UInt8) : le a < 256 ^ a.length := by
  induction a with
  | nil => simp [le]
  | cons x a ih =>
    have := x.toNat_lt
    simp only [le, List.length_cons, Nat.pow_succ]; omega
theorem le_zeros (n : Nat) : le (List.replicate n 0) = 0 := by
  induction n with
  | zero => rfl
  | succ n ih => rw [List.replicate_succ, le, ih]; rfl
theorem le_bit (A : List UInt8) (t : Nat) : (le A).testBit t = (A.getD (t / 8) 0).toNat.testBit (t % 8) := by
  induction A generalizing t with
  | nil => simp [le]
  | cons x A ih =>
    have hx := x.toNat_lt
    have e : le (x :: A) = 2 ^ 8 * le A + x.toNat := by show x.toNat + 256 * le A = _; omega
    rw [e, Nat.testBit_two_pow_mul_add (le A) (by omega : x.toNat < 2 ^ 8)]
    by_cases h : t < 8
    · rw [if_pos h, show t / 8 = 0 by omega, show t % 8 = t by omega]; rfl
    · rw [if_neg h, ih, show t / 8 = (t - 8) / 8 + 1 by omega, show t % 8 = (t - 8) % 8 by omega]; rfl
theorem bytes_length (n M : Nat) : (bytes n M).length = n := by
  induction n generalizing M with
  | zero => rfl
  | succ n ih => simp [bytes, ih]
theorem bytes_snoc (n M : Nat) : bytes (n + 1) M = bytes n M ++ [UInt8.ofNat (M / 256 ^ n)] := by
  induction n generalizing M with
  | zero => simp [bytes]
  | succ n ih =>
    rw [bytes, ih, bytes]
    simp only [List.cons_append]
    rw [Nat.div_div_eq_div_mul, Nat.pow_succ, Nat.mul_comm]
theorem bytes_le (s : List UInt8) : bytes s.length (le s) = s := by
  induction s with
  | nil => rfl
  | cons x s ih =>
    have hx := x.toNat_lt
    show UInt8.ofNat (x.toNat + 256 * le s) :: bytes s.length ((x.toNat + 256 * le s) / 256) = _
    rw [show (x.toNat + 256 * le s) / 256 = le s by omega, ih]
    congr 1
    apply UInt8.toNat_inj.1
    rw [UInt8.toNat_ofNat']; omega
theorem bytes_mod (n M : Nat) : bytes n (M % 256 ^ n) = bytes n M := by
  induction n generalizing M with
  | zero => rfl
  | succ n ih =>
    rw [bytes, bytes]
    have h1 : M % 256 ^ (n + 1) % 256 = M % 256 := Nat.mod_mod_of_dvd _ ⟨256 ^ n, by rw [Nat.pow_succ, Nat.mul_comm]⟩
    have h2 : M % 256 ^ (n + 1) / 256 = M / 256 % 256 ^ n := by rw [Nat.pow_succ, Nat.mul_comm, Nat.mod_mul_right_div_self]
    rw [h2, ih]
    congr 1
    apply UInt8.toNat_inj.1
    rw [UInt8.toNat_ofNat', UInt8.toNat_ofNat']; exact h1
/-! ### What goes on from byte to byte -/
def car (N : Nat) (s : List UInt8) (i : Nat) : Nat := (N % 256 ^ i + le (s.take i)) / 256 ^ i
theorem take_le (s : List UInt8) (i : Nat) (h : i < s.length) : le (s.take (i + 1)) = le (s.take i) + 256 ^ i * (s.getD i 0).toNat := by
  have hl : (s.take i).length = i := by rw [List.length_take]; omega
  rw [List.take_succ_eq_append_getElem h, le_append, hl]
  simp [le, List.getD, h]
theorem car_lt (N : Nat) (s : List UInt8) (i : Nat) : car N s i < 2 := by
  unfold car
  have h1 : N % 256 ^ i < 256 ^ i := Nat.mod_lt _ (Nat.pow_pos (by decide))
  have h2 := le_lt (s.take i)
  have h3 : 256 ^ (s.take i).length ≤ 256 ^ i := Nat.pow_le_pow_right (by decide) (by rw [List.length_take]; omega)
  rw [Nat.div_lt_iff_lt_mul (Nat.pow_pos (by decide))]
  omega
theorem car_succ (N : Nat) (s : List UInt8) (i : Nat) (h : i < s.length) : car N s (i + 1) = (car N s i + N / 256 ^ i % 256 + (s.getD i 0).toNat) / 256 := by
  unfold car
  have hp : 0 < 256 ^ i := Nat.pow_pos (by decide)
  rw [take_le s i h, Nat.pow_succ, Nat.mod_mul, ← Nat.div_div_eq_div_mul]
  have e : N % 256 ^ i + 256 ^ i * (N / 256 ^ i % 256) + (le (s.take i) + 256 ^ i * (s.getD i 0).toNat) = (N % 256 ^ i + le (s.take i)) + 256 ^ i * (N / 256 ^ i % 256 + (s.getD i 0).toNat) := by grind
  rw [e, Nat.add_mul_div_left _ _ hp, Nat.add_assoc]
theorem sum_byte (N : Nat) (s : List UInt8) (i : Nat) (h : i < s.length) : (N + le s) / 256 ^ i % 256 = (car N s i + N / 256 ^ i % 256 + (s.getD i 0).toNat) % 256 := by
  have hp : 0 < 256 ^ i := Nat.pow_pos (by decide)
  have hl : (s.take (i + 1)).length = i + 1 := by rw [List.length_take]; omega
  have e : le s = le (s.take (i + 1)) + 256 ^ (i + 1) * le (s.drop (i + 1)) := by
    have := le_append (s.take (i + 1)) (s.drop (i + 1))
    rwa [List.take_append_drop, hl] at this
  have e2 : N = N % 256 ^ i + 256 ^ i * (N / 256 ^ i) := (Nat.mod_add_div ..).symm
  have e3 : N + le s = (N % 256 ^ i + le (s.take i)) + 256 ^ i * (N / 256 ^ i + (s.getD i 0).toNat + 256 * le (s.drop (i + 1))) := by
    rw [e, take_le s i h, Nat.pow_succ]
    generalize N / 256 ^ i = Q at *
    generalize N % 256 ^ i = R at *
    rw [e2]
    grind
  rw [e3, Nat.add_mul_div_left _ _ hp]
  show (car N s i + _) % 256 = _
  omega
/-! ### Bit by bit -/
def bitW (A : List UInt8) (i : Nat) : W := BitVec.ofNat 64 (((le A).testBit i).toNat)
def ofW (A : List UInt8) : Nat → List W
  | 0 => List.replicate 5 0
  | i + 1 => if i / 26 < 5 then (ofW A i).set (i / 26) ((ofW A i).getD (i / 26) 0 ||| bitW A i <<< (i % 26)) else ofW A i
theorem ofW_lt (A : List UInt8) (i : Nat) (h : i / 26 < 5) : ofW A (i + 1) = (ofW A i).set (i / 26) ((ofW A i).getD (i / 26) 0 ||| bitW A i <<< (i % 26)) := if_pos h
theorem ofW_ge (A : List UInt8) (i : Nat) (h : ¬ i / 26 < 5) : ofW A (i + 1) = ofW A i := if_neg h
theorem ofW_length (A : List UInt8) (i : Nat) : (ofW A i).length = 5 := by
  induction i with
  | zero => rfl
  | succ i ih => unfold ofW; split <;> simp [ih]
theorem bitW_get (A : List UInt8) (i j r : Nat) (hr : r < 26) : (bitW A i <<< r).getLsbD j = (decide (j = r) && (le A).testBit i) := by
  rw [BitVec.getLsbD_shiftLeft]
  unfold bitW
  cases hb : (le A).testBit i
  · simp
  · by_cases h : j = r
    · subst h
      simp only [Bool.toNat_true, Nat.sub_self, decide_true, Bool.true_and, Nat.lt_irrefl, decide_false, Bool.not_false]
      rw [decide_eq_true (by omega : j < 64)]
      rfl
    · simp only [decide_eq_false h, Bool.false_and]
      by_cases h2 : j < r
      · simp [h2]
      · have h3 : j - r ≠ 0 := by omega
        obtain ⟨d, hd⟩ : ∃ d, j - r = d + 1 := ⟨j - r - 1, by omega⟩
        simp only [Bool.toNat_true, hd]
        rw [BitVec.getLsbD_ofNat, Nat.testBit_succ]
        simp
theorem ofW_bit (A : List UInt8) (i q j : Nat) (hq : q < 5) : ((ofW A i).getD q 0).getLsbD j = (decide (j < 26) && decide (26 * q + j < i) && (le A).testBit (26 * q + j)) := by
  induction i with
  | zero =>
    have e : (ofW A 0).getD q 0 = 0#64 := by
      show (List.replicate 5 (0#64)).getD q 0#64 = _
      rw [List.getD_eq_getElem?_getD, List.getElem?_replicate]; simp [hq]
    rw [e]; simp
  | succ i ih =>
    by_cases h : i / 26 < 5
    · rw [ofW_lt A i h]
      by_cases hqi : q = i / 26
      · have hl := ofW_length A i
        have hdm := Nat.div_add_mod i 26
        rw [← hqi] at *
        have e : ((ofW A i).set q ((ofW A i).getD q 0 ||| bitW A i <<< (i % 26))).getD q 0 = (ofW A i).getD q 0 ||| bitW A i <<< (i % 26) := by simp [List.getD, hl, hq]
        rw [e, BitVec.getLsbD_or, ih, bitW_get A i j (i % 26) (by omega)]
        by_cases h3 : j = i % 26
        · have h4 : 26 * q + j = i := by omega
          rw [h4]
          simp [h3]
          omega
        · by_cases h5 : j < 26
          · have h6 : (26 * q + j < i + 1) ↔ (26 * q + j < i) := by omega
            simp [h3, h6]
          · simp [h3, h5]
      · have e : ((ofW A i).set (i / 26) ((ofW A i).getD (i / 26) 0 ||| bitW A i <<< (i % 26))).getD q 0 = (ofW A i).getD q 0 := by
          simp [List.getD, List.getElem?_set, Ne.symm hqi]
        rw [e, ih]
        by_cases h5 : j < 26
        · have h6 : (26 * q + j < i + 1) ↔ (26 * q + j < i) := by omega
          simp [h6]
        · simp [h5]
    · rw [ofW_ge A i h, ih]
      by_cases h5 : j < 26
      · have h6 : (26 * q + j < i + 1) ↔ (26 * q + j < i) := by omega
        simp [h6]
      · simp [h5]
theorem limb_bit (N q j : Nat) : (BitVec.ofNat 64 (N / 2 ^ (26 * q) % 2 ^ 26)).getLsbD j = (decide (j < 26) && N.testBit (26 * q + j)) := by
  rw [BitVec.getLsbD_ofNat, Nat.testBit_mod_two_pow, Nat.testBit_div_two_pow]
  by_cases h : j < 26
  · have : j < 64 := by omega
    simp [h, this, Nat.add_comm]
  · simp [h]
theorem limbs_get (N q : Nat) (hq : q < 5) : (limbs N).w.getD q 0 = BitVec.ofNat 64 (N / 2 ^ (26 * q) % 2 ^ 26) := by
  have : q = 0 ∨ q = 1 ∨ q = 2 ∨ q = 3 ∨ q = 4 := by omega
  rcases this with rfl | rfl | rfl | rfl | rfl
  · show BitVec.ofNat 64 (N % 67108864) = BitVec.ofNat 64 (N / 1 % 67108864); rw [Nat.div_one]
  · rfl
  · rfl
  · rfl
  · rfl
theorem get_some (l : List W) (q : Nat) (h : q < l.length) : l[q]? = some (l.getD q 0) := by simp [List.getD, h]
theorem ofW_limbs (A : List UInt8) (hA : le A < 2 ^ 136) : ofW A 136 = (limbs (le A)).w := by
  apply List.ext_getElem?
  intro q
  by_cases hq : q < 5
  · have h1 := get_some (ofW A 136) q (by rw [ofW_length]; exact hq)
    have h2 := get_some (limbs (le A)).w q hq
    rw [h1, h2, limbs_get _ _ hq]
    refine congrArg some ?_
    apply BitVec.eq_of_getLsbD_eq
    intro j hj
    rw [ofW_bit A 136 q j hq, limb_bit]
    by_cases h5 : j < 26
    · have h6 : 26 * q + j < 136 := by omega
      simp [h6]
    · simp [h5]
  · rw [List.getElem?_eq_none (by rw [ofW_length]; omega), List.getElem?_eq_none (by rw [N5.w_length]; omega)]
/-- A bit of a number of five parts. -/
theorem limbs_bit (N t : Nat) (h : t < 130) : ((limbs N).w.getD (t / 26) 0 >>> (t % 26)) &&& 1#64 = BitVec.ofNat 64 (N.testBit t).toNat := by
  rw [limbs_get _ _ (by omega)]
  apply BitVec.eq_of_getLsbD_eq
  intro j hj
  rw [BitVec.getLsbD_and, BitVec.getLsbD_ushiftRight, limb_bit]
  by_cases hj0 : j = 0
  · subst hj0
    have h1 : t % 26 + 0 < 26 := by omega
    have h2 : 26 * (t / 26) + (t % 26 + 0) = t := by omega
    rw [h2]
    have h4 : t % 26 < 26 := Nat.mod_lt _ (by decide)
    cases hb : N.testBit t <;> simp [h4]
  · have h3 : (1#64).getLsbD j = false := by
      obtain ⟨d, rfl⟩ : ∃ d, j = d + 1 := ⟨j - 1, by omega⟩
      rw [BitVec.getLsbD_ofNat, Nat.testBit_succ]; simp
    rw [h3, Bool.and_false]
    obtain ⟨d, rfl⟩ : ∃ d, j = d + 1 := ⟨j - 1, by omega⟩
    cases hb : N.testBit t
    · simp
    · rw [BitVec.getLsbD_ofNat, Nat.testBit_succ]; simp
theorem mod_succ_bit (M k : Nat) : M % 2 ^ (k + 1) = M % 2 ^ k + (M.testBit k).toNat * 2 ^ k := by
  rw [Nat.pow_succ, Nat.mod_mul, Nat.testBit_eq_decide_div_mod_eq]
  rcases Nat.mod_two_eq_zero_or_one (M / 2 ^ k) with h | h <;> rw [h] <;> simp
theorem byte_bit (x : UInt8) (r : Nat) (h : r < 8) : BitVec.setWidth 64 ((x.toBitVec >>> r) &&& (UInt8.ofNat 1).toBitVec) = BitVec.ofNat 64 (x.toNat.testBit r).toNat := by
  apply BitVec.eq_of_getLsbD_eq
  intro j hj
  rw [BitVec.getLsbD_setWidth, BitVec.getLsbD_and, BitVec.getLsbD_ushiftRight]
  have e : x.toNat.testBit r = x.toBitVec.getLsbD r := rfl
  rw [e]
  by_cases hj0 : j = 0
  · subst hj0
    have h1 : (UInt8.ofNat 1).toBitVec.getLsbD 0 = true := rfl
    rw [h1]
    cases hb : x.toBitVec.getLsbD r <;> simp [hb]
  · obtain ⟨d, rfl⟩ : ∃ d, j = d + 1 := ⟨j - 1, by omega⟩
    have h1 : (UInt8.ofNat 1).toBitVec.getLsbD (d + 1) = false := by
      show (BitVec.ofNat 8 1).getLsbD (d + 1) = false
      rw [BitVec.getLsbD_ofNat, Nat.testBit_succ]; simp
    rw [h1]
    cases hb : x.toBitVec.getLsbD r
    · simp
    · rw [BitVec.getLsbD_ofNat, Nat.testBit_succ]; simp
theorem bitW_eq (A : List UInt8) (i : Nat) : BitVec.setWidth 64 (((A.getD (i / 8) 0).toBitVec >>> (i % 8)) &&& (UInt8.ofNat 1).toBitVec) = bitW A i := by
  rw [byte_bit _ _ (Nat.mod_lt _ (by decide))]
  unfold bitW
  rw [le_bit]
theorem bit_add (c M k b : Nat) (hb : b = (M.testBit k).toNat) (hk : k < 64) : BitVec.ofNat 64 (c + M % 2 ^ k) + BitVec.ofNat 64 b <<< k = BitVec.ofNat 64 (c + M % 2 ^ (k + 1)) := by
  rw [mod_succ_bit, ← hb]
  apply BitVec.eq_of_toNat_eq
  rw [BitVec.toNat_add, BitVec.toNat_shiftLeft, BitVec.toNat_ofNat, BitVec.toNat_ofNat, BitVec.toNat_ofNat, Nat.shiftLeft_eq]
  rw [← Nat.add_assoc, Nat.add_mod, Nat.mod_mod, Nat.mod_mod, Nat.mod_mul_mod, ← Nat.add_mod]
theorem tag_bit (N i k c : Nat) (hi : i < 16) (hk : k < 8) : BitVec.ofNat 64 (c + N / 256 ^ i % 2 ^ k) + (((limbs N).w.getD ((8 * i + k) / 26) 0 >>> ((8 * i + k) % 26)) &&& 1#64) <<< k = BitVec.ofNat 64 (c + N / 256 ^ i % 2 ^ (k + 1)) := by
  rw [limbs_bit N (8 * i + k) (by omega)]
  refine bit_add _ _ _ _ ?_ (by omega)
  have e : 256 ^ i = 2 ^ (8 * i) := by rw [Nat.pow_mul]
  rw [e, Nat.testBit_div_two_pow, Nat.add_comm]
theorem tag_sum (N : Nat) (s : List UInt8) (i : Nat) (h : i < s.length) : BitVec.ofNat 64 (car N s i + N / 256 ^ i % 2 ^ 8) + BitVec.setWidth 64 (s.getD i 0).toBitVec = BitVec.ofNat 64 (car N s i + N / 256 ^ i % 256 + (s.getD i 0).toNat) := by
  have e : BitVec.setWidth 64 (s.getD i 0).toBitVec = BitVec.ofNat 64 (s.getD i 0).toNat := by
    apply BitVec.eq_of_toNat_eq; rw [BitVec.toNat_setWidth, BitVec.toNat_ofNat]; rfl
  rw [e, ← BitVec.ofNat_add]
theorem tag_car (N : Nat) (s : List UInt8) (i : Nat) (h : i < s.length) : (BitVec.ofNat 64 (car N s i + N / 256 ^ i % 2 ^ 8) + BitVec.setWidth 64 (s.getD i 0).toBitVec) >>> 8 = BitVec.ofNat 64 (car N s (i + 1)) := by
  rw [tag_sum N s i h, car_succ N s i h]
  have h1 := car_lt N s i
  have h2 := (s.getD i 0).toNat_lt
  apply BitVec.eq_of_toNat_eq
  rw [BitVec.toNat_ushiftRight, BitVec.toNat_ofNat, BitVec.toNat_ofNat, Nat.shiftRight_eq_div_pow]
  omega
theorem tag_byte (N : Nat) (s : List UInt8) (i : Nat) (h : i < s.length) : (⟨BitVec.setWidth 8 (BitVec.ofNat 64 (car N s i + N / 256 ^ i % 2 ^ 8) + BitVec.setWidth 64 (s.getD i 0).toBitVec)⟩ : UInt8) = UInt8.ofNat ((N + le s) / 256 ^ i) := by
  rw [tag_sum N s i h]
  have h1 := car_lt N s i
  have h2 := (s.getD i 0).toNat_lt
  apply UInt8.toNat_inj.1
  rw [UInt8.toNat_ofNat']
  show (BitVec.setWidth 8 (BitVec.ofNat 64 _)).toNat = _
  rw [BitVec.toNat_setWidth, BitVec.toNat_ofNat]
  have := sum_byte N s i h
  omega
theorem tag_set (M i n : Nat) (h : i < n) (v : UInt8) (hv : v = UInt8.ofNat (M / 256 ^ i)) : (bytes i M ++ List.replicate (n - i) 0).set i v = bytes (i + 1) M ++ List.replicate (n - (i + 1)) 0 := by
  subst hv
  obtain ⟨r, hr⟩ : ∃ r, n - i = r + 1 := ⟨n - i - 1, by omega⟩
  have hr2 : n - (i + 1) = r := by omega
  rw [hr, hr2, List.set_append_right _ _ (by rw [bytes_length]; omega), bytes_length, Nat.sub_self, List.replicate_succ, List.set_cons_zero, bytes_snoc, List.append_assoc]
  rfl
end Go.Poly

/- A library function's contract, told as one of the engine's. -/
set_option linter.unusedVariables false
namespace Go.SY
theorem Ctr.lib {R : Pr} {f : FuncId} {args : List TV} {G : Heap} {v : TV} (hfn : FnOk R.P f) (hv : v.wf)
    (h : ∀ w, Rep (ctxOf R 0 G w) G w → Calls R.P f (args.map TV.val).toArray w fun e w' => e = .returned v.val ∧ RowKit.Below w.heap.size w w') : CtrP R f args G v := by
  refine ⟨hfn, fun w hw _ => (h w hw).mono ?_⟩
  rintro e w' ⟨he, h1, h2, h3, h4, h5⟩
  exact ⟨(), trivial, he, hv, fun k b hb hk => (by cases hk), fun k k' b b' hb hb' hk => (by cases hk), fun k b hb hk => (by cases hk), ⟨h1, h2, h3, h4, fun b hb _ => h5 b hb⟩⟩
end Go.SY

/- Poly1305, plain: what a key and a text make. -/
set_option linter.unusedVariables false
set_option linter.unusedSimpArgs false
namespace Go.Poly
def and15 (L : List UInt8) : Nat → List UInt8
  | 0 => L
  | j + 1 => (and15 L j).set ([3, 7, 11, 15].getD j 0) ((and15 L j).getD ([3, 7, 11, 15].getD j 0) 0 &&& 15)
def and252 (L : List UInt8) : Nat → List UInt8
  | 0 => L
  | j + 1 => (and252 L j).set ([4, 8, 12].getD j 0) ((and252 L j).getD ([4, 8, 12].getD j 0) 0 &&& 252)
theorem and15_length (L : List UInt8) (j : Nat) : (and15 L j).length = L.length := by
  induction j with
  | zero => rfl
  | succ j ih => simp [and15, ih]
theorem and252_length (L : List UInt8) (j : Nat) : (and252 L j).length = L.length := by
  induction j with
  | zero => rfl
  | succ j ih => simp [and252, ih]
/-- The factor. -/
def factor (key : List UInt8) : Nat := le ((and252 (and15 key 4) 3).take 16)
/-- A block, and one more behind it. -/
def chunk (s : List UInt8) (m : Nat) : List UInt8 := (s.drop (16 * m)).take 16
def num (b : List UInt8) : Nat := le b + 256 ^ b.length
def acc (r : Nat) (s : List UInt8) : Nat → Nat
  | 0 => 0
  | m + 1 => (acc r s m + num (chunk s m)) * r % P
theorem acc_lt (r : Nat) (s : List UInt8) (m : Nat) : acc r s m < P := by
  cases m with
  | zero => exact (by decide : 0 < P)
  | succ m => exact Nat.mod_lt _ (by decide)
def blocks (s : List UInt8) : Nat := (s.length + 15) / 16
def tagOf (key s : List UInt8) : List UInt8 := bytes 16 (acc (factor key) s (blocks s) + le (key.drop 16))
theorem tagOf_length (key s : List UInt8) : (tagOf key s).length = 16 := bytes_length _ _
theorem chunk_length (s : List UInt8) (m : Nat) : (chunk s m).length ≤ 16 := by unfold chunk; rw [List.length_take]; omega
theorem num_lt (b : List UInt8) (h : b.length ≤ 16) : num b < 1361129467683753853853498429727072845824 := by
  unfold num
  have h1 := le_lt b
  have h2 : 256 ^ b.length ≤ 256 ^ 16 := Nat.pow_le_pow_right (by decide) h
  omega
theorem factor_lt (key : List UInt8) : factor key < 1361129467683753853853498429727072845824 := by
  unfold factor
  have h1 := le_lt ((and252 (and15 key 4) 3).take 16)
  have h2 : 256 ^ ((and252 (and15 key 4) 3).take 16).length ≤ 256 ^ 16 := Nat.pow_le_pow_right (by decide) (by rw [List.length_take]; omega)
  omega
/-- One block more, as the parts have it. -/
def next (n : N5) (b f : Nat) : N5 := carry (mul (carry (add n (limbs b))) (limbs f))
theorem add_lt (n : N5) (b : Nat) (hn : n.ok) : (add n (limbs b)).lt 1152921504606846976 := by
  obtain ⟨h1, h2, h3, h4, h5⟩ := hn
  obtain ⟨g1, g2, g3, g4, g5⟩ := limbs_low b
  unfold add N5.lt; dsimp only; omega
theorem next_ok (n : N5) (b f : Nat) (hn : n.ok) : (next n b f).ok := carry_ok _ (mul_lt _ _ (carry_ok _ (add_lt n b hn)) (limbs_low f))
theorem next_val (n : N5) (b f : Nat) (hb : b < 1361129467683753853853498429727072845824) (hf : f < 1361129467683753853853498429727072845824) (A : Nat) (hA : n.val % P = A) : (next n b f).val % P = (A + b) * f % P := by
  unfold next
  rw [carry_mod, mul_mod, limbs_val f hf, Nat.mul_mod, carry_mod, add_val, limbs_val b hb, ← Nat.mul_mod, Nat.mul_mod, Nat.add_mod, hA]
  conv => rhs; rw [Nat.mul_mod, Nat.add_mod]
  rw [← hA, Nat.mod_mod]
end Go.Poly

/- ChaCha20, so that the kernel evaluates it: each value is a numeral before it is used. -/
namespace Go.Cha
def strictN {α : Type} (n : Nat) (f : Nat → α) : α := Nat.rec (f 0) (fun m _ => f (m + 1)) n
theorem strictN_eq {α : Type} (n : Nat) (f : Nat → α) : strictN n f = f n := by cases n <;> rfl
def forceB {α : Type} : List (BitVec 32) → (List (BitVec 32) → α) → α
  | [], f => f []
  | x :: l, f => strictN x.toNat fun n => forceB l fun r => f (BitVec.ofNat 32 n :: r)
theorem forceB_eq {α : Type} : ∀ (l : List (BitVec 32)) (f : List (BitVec 32) → α), forceB l f = f l
  | [], _ => rfl
  | x :: l, f => by simp only [forceB]; rw [strictN_eq, forceB_eq l, BitVec.ofNat_toNat, BitVec.setWidth_eq]
def goQ {α : Type} : List (Nat × Nat × Nat × Nat) → List (BitVec 32) → (List (BitVec 32) → α) → α
  | [], l, f => f l
  | q :: r, l, f => forceB (qr l q.1 q.2.1 q.2.2.1 q.2.2.2) fun l' => goQ r l' f
theorem goQ_eq {α : Type} : ∀ (qs : List (Nat × Nat × Nat × Nat)) (l : List (BitVec 32)) (f : List (BitVec 32) → α), goQ qs l f = f (qs.foldl (fun l q => qr l q.1 q.2.1 q.2.2.1 q.2.2.2) l)
  | [], _, _ => rfl
  | q :: r, l, f => by simp only [goQ, List.foldl_cons]; rw [forceB_eq, goQ_eq r]
def partG (g : List (BitVec 32) → Nat × Nat × Nat × Nat → List (BitVec 32)) (l : List (BitVec 32)) : Nat → List (BitVec 32)
  | 0 => l
  | n + 1 => g (partG g l n) (quarters.getD n (0, 0, 0, 0))
theorem partG_8 (g : List (BitVec 32) → Nat × Nat × Nat × Nat → List (BitVec 32)) (l : List (BitVec 32)) : quarters.foldl g l = partG g l 8 := rfl
theorem part_eq (l : List (BitVec 32)) (n : Nat) : part l n = partG (fun l q => qr l q.1 q.2.1 q.2.2.1 q.2.2.2) l n := by
  induction n with
  | zero => rfl
  | succ n ih => simp only [part, partG, ih]
def goR {α : Type} : Nat → List (BitVec 32) → (List (BitVec 32) → α) → α
  | 0, l, f => f l
  | n + 1, l, f => goR n l fun l' => goQ quarters l' f
theorem goR_eq {α : Type} : ∀ (n : Nat) (l : List (BitVec 32)) (f : List (BitVec 32) → α), goR n l f = f (rounds l n)
  | 0, _, _ => rfl
  | n + 1, l, f => by simp only [goR, rounds]; rw [goR_eq n l, goQ_eq, partG_8, ← part_eq]
def blockE (k : List UInt8) (c : BitVec 32) (n : List UInt8) : List UInt8 := forceB (beg k c n) fun s => goR 10 s fun y => serial y s 16
theorem blockE_eq (k : List UInt8) (c : BitVec 32) (n : List UInt8) : blockE k c n = block k c n := by
  unfold blockE; rw [forceB_eq, goR_eq]; rfl
end Go.Cha

/- From what a row says of the arguments, and of the listed variables, to what a walk knows of them. -/
set_option linter.unusedSimpArgs false
set_option linter.unusedVariables false
namespace Go.SY
open Go.ChangeShapes Go.WideShapes

/-! ### Values of a shape -/
def okS : (s : Sk) → s.α → Prop
  | .int k, n => k.has n
  | .str, s => s.length ≤ maxLen
  | _, _ => True
def likeC : SC → SC → Prop
  | .int k _, y => ∃ n : Int, y = .int k n ∧ k.has n
  | .w8 _, y => ∃ x, y = .w8 x
  | .w32 _, y => ∃ x, y = .w32 x
  | .w64 _, y => ∃ x, y = .w64 x
  | .bool _, y => ∃ x, y = .bool x
  | .str _, y => ∃ s, y = .str s ∧ s.length ≤ maxLen
  | _, _ => False
def like : List Sg → List Sg → Prop
  | [], l => l = []
  | .c x :: z, l => ∃ y r, l = .c y :: r ∧ likeC x y ∧ like z r
  | .arr s n _ :: z, l => ∃ (L : List s.α) (r : List Sg), l = .arr s n L :: r ∧ L.length = n ∧ (∀ x ∈ L, okS s x) ∧ like z r
theorem like_append : ∀ {a l b r : List Sg}, like a l → like b r → like (a ++ b) (l ++ r)
  | [], l, b, r, h, h' => by have h : l = [] := h; subst h; exact h'
  | .c x :: a, l, b, r, h, h' => by obtain ⟨y, q, rfl, hc, hq⟩ := h; exact ⟨y, q ++ r, rfl, hc, like_append hq h'⟩
  | .arr s n M :: a, l, b, r, h, h' => by obtain ⟨L, q, rfl, hl, hx, hq⟩ := h; exact ⟨L, q ++ r, rfl, hl, hx, like_append hq h'⟩
theorem like_wf : ∀ {z l : List Sg}, like z l → swf l
  | [], l, h => by have h : l = [] := h; subst h; trivial
  | .c x :: z, l, h => by obtain ⟨y, q, rfl, hc, hq⟩ := h; exact ⟨trivial, like_wf hq⟩
  | .arr s n M :: z, l, h => by obtain ⟨L, q, rfl, hl, hx, hq⟩ := h; exact ⟨hl, like_wf hq⟩

/-! ### Types without places -/
mutual
def fsg (P : Program) : Nat → TypeId → Option (List Sg)
  | 0, _ => none
  | f + 1, t => (match P.underlying t with
    | some .bool => some [.c (.bool false)]
    | some (.int .u8) => some [.c (.w8 0)]
    | some (.int .u32) => some [.c (.w32 0)]
    | some (.int .u64) => some [.c (.w64 0)]
    | some (.int k) => some [.c (.int k 0)]
    | some .string => some [.c (.str [])]
    | some (.array n e) => (match fsg P f e with
      | some [.c c] => (match skZ c, Nat.beq (P.cellsOf e) 1, Nat.beq (P.cellsOf t) n with
        | some s, true, true => some [.arr s n (List.replicate n s.dflt)]
        | _, _, _ => none)
      | some [.arr s m _] => (match Nat.beq (P.cellsOf e) m, Nat.beq (P.cellsOf t) (n * m) with
        | true, true => some [.arr s (n * m) (List.replicate (n * m) s.dflt)]
        | _, _ => none)
      | _ => none)
    | some (.struct fs) => (match fsgs P f 0 fs.toList with
      | some (l, e) => (match Nat.beq (P.cellsOf t) e with | true => some l | false => none)
      | none => none)
    | _ => none)
def fsgs (P : Program) : Nat → Nat → List Field → Option (List Sg × Nat)
  | _, off, [] => some ([], off)
  | 0, _, _ :: _ => none
  | f + 1, off, x :: l => (match Nat.beq x.offset off, fsg P f x.type, fsgs P f (off + P.cellsOf x.type) l with
    | true, some a, some (b, e) => some (a ++ b, e)
    | _, _, _ => none)
end

/-- The values that a datum tells, one behind the other. -/
def litV : Lit → Value
  | .bool b => .bool b
  | .int k n => .int k n
  | .string s => .string ⟨⟨s⟩⟩
  | .float k b => .float k b
  | _ => .bool false
mutual
def lits {H : Type} : DataW H → List Value
  | .lit l => [litV l]
  | .agg ps => litsAll ps
  | _ => []
def litsAll {H : Type} : List (DataW H) → List Value
  | [] => []
  | d :: r => lits d ++ litsAll r
end

section
variable {H : Type} {enc : TypeId × Value → H} {P : Program} {w : World} {base : Nat} {sp : Nat → Bool} {held : Bool}

theorem litsAll_eq (l : List (DataW H)) : litsAll l = l.flatMap lits := by
  induction l with
  | nil => rfl
  | cons d l ih => simp [litsAll, ih]

theorem wf_has {k : IntKind} {n : Int} (h : (Lit.int k n).wf = true) : k.has n := by
  simp only [Lit.wf, Bool.and_eq_true, decide_eq_true_eq] at h
  exact h
theorem u_has {k : IntKind} (hk : k.signed = false) {n : Int} (h : k.has n) : 0 ≤ n ∧ n < 2 ^ k.bits := by
  obtain ⟨h1, h2⟩ := h
  unfold IntKind.min at h1
  unfold IntKind.max at h2
  simp only [hk, Bool.false_eq_true, if_false] at h1 h2
  exact ⟨h1, by omega⟩

/-- One scalar's value. -/
theorem sc_like {c : SC} {s : Sk} (hs : skZ c = some s) {y : SC} (h : likeC c y) : ∃ x : s.α, y = s.enc x ∧ okS s x := by
  cases c <;> simp only [skZ, Option.some.injEq] at hs <;> first | (cases hs; done) | skip
  all_goals subst hs
  · obtain ⟨n, rfl, hn⟩ := h; exact ⟨n, rfl, hn⟩
  · obtain ⟨n, rfl⟩ := h; exact ⟨n, rfl, trivial⟩
  · obtain ⟨n, rfl⟩ := h; exact ⟨n, rfl, trivial⟩
  · obtain ⟨n, rfl⟩ := h; exact ⟨n, rfl, trivial⟩
  · obtain ⟨n, rfl⟩ := h; exact ⟨n, rfl, trivial⟩
  · obtain ⟨n, rfl, hn⟩ := h; exact ⟨n, rfl, hn⟩

theorem chunks_scalar {s : Sk} (cs : List Value) : ∀ n : Nat, (∀ i, i < n → ∃ x : s.α, (cs.drop i).take 1 = [(s.enc x).val] ∧ okS s x) → ∃ L : List s.α, L.length = n ∧ cs.take n = L.map (fun x => (s.enc x).val) ∧ ∀ x ∈ L, okS s x := by
  intro n
  induction n with
  | zero => intro _; exact ⟨[], rfl, by simp, by simp⟩
  | succ n ih =>
    intro h
    obtain ⟨L, h1, h2, h3⟩ := ih fun i hi => h i (by omega)
    obtain ⟨x, hx, hk⟩ := h n (by omega)
    refine ⟨L ++ [x], by simp [h1], ?_, fun y hy => ?_⟩
    · rw [List.take_add, h2, hx]; simp
    · rcases List.mem_append.1 hy with hy | hy
      · exact h3 y hy
      · rw [List.mem_singleton.1 hy]; exact hk
theorem chunks_rows {s : Sk} (cs : List Value) (m : Nat) : ∀ n : Nat, (∀ i, i < n → ∃ L : List s.α, L.length = m ∧ (cs.drop (i * m)).take m = L.map (fun x => (s.enc x).val) ∧ ∀ x ∈ L, okS s x) →
    ∃ L : List s.α, L.length = n * m ∧ cs.take (n * m) = L.map (fun x => (s.enc x).val) ∧ ∀ x ∈ L, okS s x := by
  intro n
  induction n with
  | zero => intro _; exact ⟨[], by simp, by simp, by simp⟩
  | succ n ih =>
    intro h
    obtain ⟨L, h1, h2, h3⟩ := ih fun i hi => h i (by omega)
    obtain ⟨M, hM, hx, hk⟩ := h n (by omega)
    refine ⟨L ++ M, by rw [List.length_append, h1, hM, Nat.succ_mul], ?_, fun y hy => ?_⟩
    · rw [Nat.succ_mul, List.take_add, h2, hx, List.map_append]
    · rcases List.mem_append.1 hy with hy | hy
      · exact h3 y hy
      · exact hk y hy
theorem svals_arr (s : Sk) (n : Nat) (L : List s.α) : svals [.arr s n L] = L.map fun x => (s.enc x).val := by
  simp [svals, scs, Sg.cs, Function.comp_def]

def FlatOk (enc : TypeId × Value → H) (P : Program) (w : World) (base : Nat) (sp : Nat → Bool) (held : Bool) (z : List Sg) (t : TypeId) : Prop :=
  ∀ fuel cs x, DataW.trod enc P w base sp held fuel t cs = some x → (∃ l, like z l ∧ cs = svals l) ∧ cs = lits x.1
theorem fields_flat : ∀ (l : List Field) (f off : Nat) (z : List Sg) (e : Nat), fsgs P f off l = some (z, e) → (∀ y ∈ l, ∀ g z', g < f → fsg P g y.type = some z' → FlatOk enc P w base sp held z' y.type) →
    ∀ (cs : List Value) (xs : List (DataW H × List MemPlace)) (m : Nat), xs.length = l.length → (∀ (i : Nat) (y : Field), l[i]? = some y → DataW.trod enc P w base sp held m y.type ((cs.drop y.offset).take (P.cellsOf y.type)) = xs[i]?) →
    off ≤ e ∧ (∃ r, like z r ∧ (cs.drop off).take (e - off) = svals r) ∧ (cs.drop off).take (e - off) = litsAll (xs.map (·.1))
  | [], f, off, z, e, h, _, cs, xs, m, hx, _ => by
    cases f <;> (unfold fsgs at h; cases h; refine ⟨Nat.le_refl _, ⟨[], rfl, by simp [svals, scs]⟩, ?_⟩; have : xs = [] := List.eq_nil_of_length_eq_zero hx; subst this; simp [litsAll])
  | y :: l, 0, off, z, e, h, _, cs, xs, m, hx, _ => by unfold fsgs at h; cases h
  | y :: l, f + 1, off, z, e, h, ih, cs, xs, m, hx, ha => by
    unfold fsgs at h
    split at h
    · rename_i a b e2 hb hA hB
      cases h
      have hoff := Nat.eq_of_beq_eq_true hb
      cases xs with
      | nil => simp at hx
      | cons x0 xs =>
        have h0 := ha 0 y rfl
        simp only [List.getElem?_cons_zero] at h0
        obtain ⟨⟨r0, hr0, he0⟩, hl0⟩ := ih y (List.mem_cons_self ..) f a (Nat.lt_succ_self _) hA _ _ _ h0
        obtain ⟨hle, ⟨r1, hr1, he1⟩, hl1⟩ := fields_flat l f (off + P.cellsOf y.type) b e hB (fun y' hy' g z' hg => ih y' (List.mem_cons_of_mem _ hy') g z' (by omega)) cs xs m (by simpa using hx) (fun i y' hy' => by have := ha (i + 1) y' (by simpa using hy'); simpa using this)
        rw [hoff] at he0 hl0
        have key : (cs.drop off).take (e - off) = (cs.drop off).take (P.cellsOf y.type) ++ (cs.drop (off + P.cellsOf y.type)).take (e - (off + P.cellsOf y.type)) := by
          rw [show e - off = P.cellsOf y.type + (e - (off + P.cellsOf y.type)) by omega, List.take_add, List.drop_drop]
        refine ⟨by omega, ⟨r0 ++ r1, like_append hr0 hr1, ?_⟩, ?_⟩
        · rw [key, he0, he1]; simp [svals, scs_append]
        · rw [key, hl0, hl1]; simp [litsAll]
    · cases h

theorem leaf_flat {z : List Sg} {t : TypeId} (h : ∀ fuel cs x, DataW.trod enc P w base sp held fuel t cs = some x → ∃ (l : Lit) (y : SC), cs = [litV l] ∧ x.1 = .lit l ∧ like z [.c y] ∧ y.val = litV l) : FlatOk enc P w base sp held z t := by
  intro fuel cs x hx
  obtain ⟨l, y, rfl, hd, hl, hv⟩ := h fuel cs x hx
  exact ⟨⟨[.c y], hl, by simp [svals, scs, Sg.cs, hv]⟩, by rw [hd]; rfl⟩

theorem flat_ok : ∀ (f : Nat) (t : TypeId) (z : List Sg), fsg P f t = some z → FlatOk enc P w base sp held z t := by
  intro f
  induction f using Nat.strongRecOn with
  | _ f IH =>
    intro t z h
    cases f with
    | zero => unfold fsg at h; cases h
    | succ f =>
      unfold fsg at h
      split at h
      · rename_i hu
        cases h
        exact leaf_flat fun fuel cs x hx => by
          obtain ⟨b, rfl, rfl⟩ := DataW.trod_bool hu hx
          exact ⟨.bool b, .bool b, rfl, rfl, ⟨_, _, rfl, ⟨b, rfl⟩, rfl⟩, rfl⟩
      · rename_i hu
        cases h
        exact leaf_flat fun fuel cs x hx => by
          obtain ⟨n, rfl, rfl, hw⟩ := DataW.trod_int hu hx
          obtain ⟨h0, h1⟩ := u_has rfl (wf_has hw)
          refine ⟨.int .u8 n, .w8 (UInt8.ofNat n.toNat), rfl, rfl, ⟨_, _, rfl, ⟨_, rfl⟩, rfl⟩, ?_⟩
          have : n.toNat < 256 := by simp [IntKind.bits] at h1; omega
          simp only [SC.val, litV, UInt8.toNat_ofNat', Nat.mod_eq_of_lt this]
          rw [Int.toNat_of_nonneg h0]
      · rename_i hu
        cases h
        exact leaf_flat fun fuel cs x hx => by
          obtain ⟨n, rfl, rfl, hw⟩ := DataW.trod_int hu hx
          obtain ⟨h0, h1⟩ := u_has rfl (wf_has hw)
          refine ⟨.int .u32 n, .w32 (BitVec.ofNat 32 n.toNat), rfl, rfl, ⟨_, _, rfl, ⟨_, rfl⟩, rfl⟩, ?_⟩
          have : n.toNat < 2 ^ 32 := by simp [IntKind.bits] at h1; omega
          simp only [SC.val, litV, BitVec.toNat_ofNat, Nat.mod_eq_of_lt this]
          rw [Int.toNat_of_nonneg h0]
      · rename_i hu
        cases h
        exact leaf_flat fun fuel cs x hx => by
          obtain ⟨n, rfl, rfl, hw⟩ := DataW.trod_int hu hx
          obtain ⟨h0, h1⟩ := u_has rfl (wf_has hw)
          refine ⟨.int .u64 n, .w64 (BitVec.ofNat 64 n.toNat), rfl, rfl, ⟨_, _, rfl, ⟨_, rfl⟩, rfl⟩, ?_⟩
          have : n.toNat < 2 ^ 64 := by simp [IntKind.bits] at h1; omega
          simp only [SC.val, litV, BitVec.toNat_ofNat, Nat.mod_eq_of_lt this]
          rw [Int.toNat_of_nonneg h0]
      · rename_i k _ _ _ hu
        cases h
        exact leaf_flat fun fuel cs x hx => by
          obtain ⟨n, rfl, rfl, hw⟩ := DataW.trod_int hu hx
          exact ⟨.int k n, .int k n, rfl, rfl, ⟨_, _, rfl, ⟨n, rfl, wf_has hw⟩, rfl⟩, rfl⟩
      · rename_i hu
        cases h
        exact leaf_flat fun fuel cs x hx => by
          obtain ⟨s, rfl, rfl, hw⟩ := DataW.trod_string hu hx
          exact ⟨.string s.data.toList, .str s.data.toList, rfl, rfl, ⟨_, _, rfl, ⟨_, rfl, by simpa using hw⟩, rfl⟩, rfl⟩
      · rename_i n e hu
        split at h
        · rename_i c hc
          have ihe := IH f (by omega) e _ hc
          split at h
          · rename_i s hs hb1 hb2
            cases h
            have hb1 := Nat.eq_of_beq_eq_true hb1
            have hb2 := Nat.eq_of_beq_eq_true hb2
            intro fuel cs x hx
            obtain ⟨xs, m, rfl, rfl, hl, hxl, hrow⟩ := DataW.trod_array hu hx
            rw [hb2] at hl
            rw [hb1] at hrow
            have el : ∀ i, i < n → (∃ x : s.α, (cs.drop i).take 1 = [(s.enc x).val] ∧ okS s x) ∧ ∃ d, xs[i]? = some d ∧ (cs.drop i).take 1 = lits d.1 := by
              intro i hi
              have h1 := hrow i hi
              obtain ⟨d, hd⟩ : ∃ d, xs[i]? = some d := ⟨_, List.getElem?_eq_getElem (by omega)⟩
              rw [hd, Nat.mul_one] at h1
              obtain ⟨⟨l, hl1, hl2⟩, hl3⟩ := ihe _ _ _ h1
              obtain ⟨y, r, rfl, hy, hr⟩ := hl1
              have hr : r = [] := hr
              subst hr
              obtain ⟨x, rfl, hk⟩ := sc_like hs hy
              exact ⟨⟨x, by rw [hl2]; simp [svals, scs, Sg.cs], hk⟩, d, hd, hl3⟩
            obtain ⟨L, h1, h2, h3⟩ := chunks_scalar (s := s) cs n fun i hi => (el i hi).1
            rw [List.take_of_length_le (by omega)] at h2
            refine ⟨⟨[.arr s n L], ⟨L, [], rfl, h1, h3, rfl⟩, by rw [svals_arr, ← h2]⟩, ?_⟩
            show cs = litsAll (xs.map (·.1))
            have : ∀ k, k ≤ n → cs.take k = litsAll ((xs.take k).map (·.1)) := by
              intro k
              induction k with
              | zero => intro _; simp [litsAll]
              | succ k ihk =>
                intro hk
                obtain ⟨_, d, hd, he⟩ := el k (by omega)
                have hlt : k < xs.length := by omega
                rw [List.take_add, ihk (by omega), he, List.take_succ_eq_append_getElem hlt, List.map_append, litsAll_eq, litsAll_eq, List.flatMap_append]
                have : xs[k] = d := by rw [List.getElem?_eq_getElem hlt] at hd; exact Option.some.inj hd
                simp [this]
            have h4 := this n (Nat.le_refl _)
            rw [List.take_of_length_le (by omega), List.take_of_length_le (by omega)] at h4
            exact h4
          · cases h
        · rename_i s m M hc
          have ihe := IH f (by omega) e _ hc
          split at h
          · rename_i hb1 hb2
            cases h
            have hb1 := Nat.eq_of_beq_eq_true hb1
            have hb2 := Nat.eq_of_beq_eq_true hb2
            intro fuel cs x hx
            obtain ⟨xs, m', rfl, rfl, hl, hxl, hrow⟩ := DataW.trod_array hu hx
            rw [hb2] at hl
            rw [hb1] at hrow
            have el : ∀ i, i < n → (∃ L : List s.α, L.length = m ∧ (cs.drop (i * m)).take m = L.map (fun x => (s.enc x).val) ∧ ∀ x ∈ L, okS s x) ∧ ∃ d, xs[i]? = some d ∧ (cs.drop (i * m)).take m = lits d.1 := by
              intro i hi
              have h1 := hrow i hi
              obtain ⟨d, hd⟩ : ∃ d, xs[i]? = some d := ⟨_, List.getElem?_eq_getElem (by omega)⟩
              rw [hd] at h1
              obtain ⟨⟨l, hl1, hl2⟩, hl3⟩ := ihe _ _ _ h1
              obtain ⟨L, r, rfl, hL, hk, hr⟩ := hl1
              have hr : r = [] := hr
              subst hr
              exact ⟨⟨L, hL, by rw [hl2, svals_arr], hk⟩, d, hd, hl3⟩
            obtain ⟨L, h1, h2, h3⟩ := chunks_rows (s := s) cs m n fun i hi => (el i hi).1
            rw [List.take_of_length_le (by omega)] at h2
            refine ⟨⟨[.arr s (n * m) L], ⟨L, [], rfl, h1, h3, rfl⟩, by rw [svals_arr, ← h2]⟩, ?_⟩
            show cs = litsAll (xs.map (·.1))
            have : ∀ k, k ≤ n → cs.take (k * m) = litsAll ((xs.take k).map (·.1)) := by
              intro k
              induction k with
              | zero => intro _; simp [litsAll]
              | succ k ihk =>
                intro hk
                obtain ⟨_, d, hd, he⟩ := el k (by omega)
                have hlt : k < xs.length := by omega
                rw [Nat.succ_mul, List.take_add, ihk (by omega), he, List.take_succ_eq_append_getElem hlt, List.map_append, litsAll_eq, litsAll_eq, List.flatMap_append]
                have : xs[k] = d := by rw [List.getElem?_eq_getElem hlt] at hd; exact Option.some.inj hd
                simp [this]
            have h4 := this n (Nat.le_refl _)
            rw [List.take_of_length_le (by omega), List.take_of_length_le (by omega)] at h4
            exact h4
          · cases h
        · cases h
      · rename_i fs hu
        split at h
        · rename_i l e hfs
          split at h
          · rename_i hb
            cases h
            have hb := Nat.eq_of_beq_eq_true hb
            intro fuel cs x hx
            obtain ⟨xs, m, rfl, rfl, hl, hxl, hall⟩ := DataW.trod_struct hu hx
            obtain ⟨_, ⟨r, hr, he⟩, hlt⟩ := fields_flat (enc := enc) (w := w) (base := base) (sp := sp) (held := held) fs.toList f 0 z e hfs (fun y _ g z' hg hz' => IH g (by omega) y.type z' hz') cs xs m (by simpa using hxl) (fun i y hy => hall i y (by simpa using hy))
            rw [List.drop_zero, List.take_of_length_le (by omega)] at he hlt
            exact ⟨⟨r, hr, he⟩, hlt⟩
          · cases h
        · cases h
      · cases h
end
end Go.SY

/- A row's arguments and listed variables, as a walk knows them; what a row asks behind the call. -/
set_option linter.unusedSimpArgs false
set_option linter.unusedVariables false
namespace Go.SY
open Go.ChangeShapes Go.WideShapes
section
variable {H : Type} {enc : TypeId × Value → H} {P : Program} {W : World} {r : Reach} {b0 : Nat} {sp : Nat → Bool} {held : Bool} {t : TypeId} {v : Value} {d : DataW H} {p : List MemPlace}

theorem arg_int {k : IntKind} (ht : P.underlying t = some (.int k)) (h : Value.okWide P W r b0 t v) : ∃ n, v = .int k n ∧ k.has n := by
  unfold Value.okWide at h
  rw [ht] at h
  have h : Cell.okWide P W r b0 t v := h
  unfold Cell.okWide at h
  rw [ht] at h
  unfold Cell.ok at h
  rw [ht] at h
  cases v <;> simp at h
  obtain ⟨rfl, h⟩ := h
  exact ⟨_, rfl, h⟩
theorem i64_has {n : Int} (h : IntKind.i64.has n) : -9223372036854775808 ≤ n ∧ n ≤ 9223372036854775807 := by
  have h1 := h.1; have h2 := h.2
  simp [IntKind.min, IntKind.max, IntKind.signed, IntKind.bits] at h1 h2
  omega
theorem arg_i64 (ht : P.underlying t = some (.int .i64)) (h : Value.okWide P W r b0 t v) : ∃ n : Int, v = .int .i64 n ∧ -9223372036854775808 ≤ n ∧ n ≤ 9223372036854775807 := by
  obtain ⟨n, rfl, hn⟩ := arg_int ht h
  exact ⟨n, rfl, i64_has hn⟩
theorem arg_u8 (ht : P.underlying t = some (.int .u8)) (h : Value.okWide P W r b0 t v) : ∃ x : UInt8, v = (SC.w8 x).val := by
  obtain ⟨n, rfl, hn⟩ := arg_int ht h
  obtain ⟨h0, h1⟩ := u_has rfl hn
  have : n.toNat < 256 := by simp [IntKind.bits] at h1; omega
  refine ⟨UInt8.ofNat n.toNat, ?_⟩
  simp only [SC.val, UInt8.toNat_ofNat', Nat.mod_eq_of_lt this]
  rw [Int.toNat_of_nonneg h0]
theorem arg_u32 (ht : P.underlying t = some (.int .u32)) (h : Value.okWide P W r b0 t v) : ∃ x : BitVec 32, v = (SC.w32 x).val := by
  obtain ⟨n, rfl, hn⟩ := arg_int ht h
  obtain ⟨h0, h1⟩ := u_has rfl hn
  have : n.toNat < 2 ^ 32 := by simp [IntKind.bits] at h1; omega
  refine ⟨BitVec.ofNat 32 n.toNat, ?_⟩
  simp only [SC.val, BitVec.toNat_ofNat, Nat.mod_eq_of_lt this]
  rw [Int.toNat_of_nonneg h0]
theorem arg_u64 (ht : P.underlying t = some (.int .u64)) (h : Value.okWide P W r b0 t v) : ∃ x : BitVec 64, v = (SC.w64 x).val := by
  obtain ⟨n, rfl, hn⟩ := arg_int ht h
  obtain ⟨h0, h1⟩ := u_has rfl hn
  have : n.toNat < 2 ^ 64 := by simp [IntKind.bits] at h1; omega
  refine ⟨BitVec.ofNat 64 n.toNat, ?_⟩
  simp only [SC.val, BitVec.toNat_ofNat, Nat.mod_eq_of_lt this]
  rw [Int.toNat_of_nonneg h0]
theorem arg_bool (ht : P.underlying t = some .bool) (h : Value.okWide P W r b0 t v) : ∃ x : Bool, v = (SC.bool x).val := by
  obtain ⟨b, rfl⟩ := okWide_bool ht h
  exact ⟨b, rfl⟩
theorem arg_str (ht : P.underlying t = some .string) (h : Value.okWide P W r b0 t v) (hd : DataW.Trod enc P W 0 sp held t v d p) : ∃ s : List UInt8, v = (SC.str s).val ∧ s.length ≤ maxLen := by
  obtain ⟨s, rfl⟩ := okWide_string ht h
  obtain ⟨fuel, hf⟩ := hd
  obtain ⟨s', h', _, hl⟩ := DataW.trod_string ht hf
  have h' : [Value.string s] = [Value.string s'] := h'
  cases h'
  exact ⟨s.data.toList, rfl, by simpa using hl⟩
/-- An array or a struct without places. -/
theorem arg_agg {f : Nat} {z : List Sg} (hz : fsg P f t = some z) (ht : aggB P t = some true) (h : Value.okWide P W r b0 t v) (hd : DataW.Trod enc P W 0 sp held t v d p) : ∃ l, like z l ∧ v = (BV.agg l).val := by
  have ha : ∃ cs, v = .agg cs := by
    unfold Value.okWide at h
    unfold aggB at ht
    split at h
    · obtain ⟨cs, rfl, _⟩ := h; exact ⟨_, rfl⟩
    · obtain ⟨cs, rfl, _⟩ := h; exact ⟨_, rfl⟩
    · rename_i h1 h2
      exfalso
      split at ht
      · rename_i hu; exact h1 _ hu
      · rename_i hu; exact h2 _ _ hu
      · cases ht
      · cases ht
  obtain ⟨cs, rfl⟩ := ha
  obtain ⟨fuel, hf⟩ := hd
  obtain ⟨⟨l, hl, he⟩, _⟩ := flat_ok f t z hz fuel _ _ hf
  refine ⟨l, hl, ?_⟩
  have he : cs.toList = svals l := he
  simp [BV.val, ← he]

theorem mapM_range {α : Type} {g : Nat → Option α} : ∀ {n : Nat} {l : List α}, (List.range n).mapM g = some l → l.length = n ∧ ∀ i, i < n → l[i]? = g i := by
  intro n l h
  refine ⟨by simpa using mapM_some_length h, fun i hi => ?_⟩
  have := mapM_some_get h i i (by simp [hi])
  exact this.symm
theorem cells?_get {a : Addr} {n : Nat} {cs : List Value} (h : W.cells? 0 a n = some cs) : cs.length = n ∧ ∀ j, j < n → W.cell? (a.add j) = cs[j]? := by
  unfold World.cells? at h
  rw [if_pos (Nat.zero_le _)] at h
  obtain ⟨h1, h2⟩ := mapM_range h
  exact ⟨h1, fun j hj => (h2 j hj).symm⟩

theorem build_list {α : Type} {R : Nat → α → Prop} : ∀ n : Nat, (∀ i, i < n → ∃ x, R i x) → ∃ L : List α, L.length = n ∧ ∀ i x, L[i]? = some x → R i x := by
  intro n
  induction n with
  | zero => intro _; exact ⟨[], rfl, by simp⟩
  | succ n ih =>
    intro h
    obtain ⟨L, h1, h2⟩ := ih fun i hi => h i (by omega)
    obtain ⟨x, hx⟩ := h n (by omega)
    refine ⟨L ++ [x], by simp [h1], fun i y hy => ?_⟩
    by_cases hi : i < n
    · rw [List.getElem?_append_left (by omega)] at hy; exact h2 i y hy
    · rw [List.getElem?_append_right (by omega)] at hy
      have : i = n := by
        have := (List.getElem?_eq_some_iff.1 hy).1
        simp at this; omega
      subst this
      simp [h1] at hy
      subst hy; exact hx

/-- A slice of elements without places. -/
theorem arg_slice {E : Enc} {f : Nat} {z : List Sg} {e : TypeId} (ht : P.underlying t = some (.slice e)) (hz : fsg P f e = some z) (hsz : P.cellsOf e = E.sz) (Q : E.α → Prop) (hdec : ∀ l, like z l → ∃ x, E.enc x = l ∧ Q x)
    (h : Value.okWide P W r b0 t v) (hd : DataW.Trod enc P W 0 sp held t v d p) : ∃ (x : SV) (L : List E.α), v = x.val ∧ (HB.view E x L).Is W x.blk ∧ (∀ y ∈ L, Q y) ∧ L.length ≤ maxLen := by
  obtain ⟨a, len, cap, rfl⟩ := okWide_slice ht h
  unfold Value.okWide at h
  rw [ht] at h
  have h : Cell.okWide P W r b0 t _ := h
  unfold Cell.okWide at h
  rw [ht] at h
  have h : Cell.ok P W r b0 t _ := h
  unfold Cell.ok at h
  rw [ht] at h
  obtain ⟨fuel, hf⟩ := hd
  rcases DataW.trod_slice ht hf with ⟨hc, _⟩ | ⟨a', len', cap', elems, rest, n, _, hc, _, hb, hlc, hcm, hel, hg, _⟩
  · have hc : [Value.slice a len cap] = [Value.slice none 0 0] := hc
    cases hc
    exact ⟨.nil, [], rfl, ⟨(by intro x hx; cases hx), rfl⟩, by simp, by simp⟩
  · have hc : [Value.slice a len cap] = [Value.slice (some a') len' cap'] := hc
    cases hc
    have h : len ≤ cap ∧ (cap : Int) ≤ IntKind.i64.max ∧ W.has P r b0 a' e cap := h
    obtain ⟨_, _, hhas⟩ := h
    obtain ⟨_, hspot, row, cells, hsh, _⟩ := hhas
    obtain ⟨b, o, s⟩ := a'
    have hspot : s = none := hspot
    subst hspot
    have hlt : b < W.heap.size := by
      simp only [World.shape?] at hsh
      split at hsh
      · rename_i h'; exact (Array.getElem?_eq_some_iff.1 h').1
      · cases hsh
    have el : ∀ i, i < len → ∃ x : E.α, Q x ∧ swf (E.enc x) ∧ ∀ j u, (svals (E.enc x))[j]? = some u → W.cell? ⟨b, o + i * E.sz + j, none⟩ = some u := by
      intro i hi
      have h1 := hg i hi
      obtain ⟨y, hy⟩ : ∃ y, elems[i]? = some y := ⟨_, List.getElem?_eq_getElem (by omega)⟩
      rw [hy] at h1
      obtain ⟨cs, hcs, hcy⟩ := Option.bind_eq_some_iff.1 h1
      obtain ⟨⟨l, hl, he⟩, _⟩ := flat_ok f e z hz n _ _ hcy
      obtain ⟨hcl, hcell⟩ := cells?_get hcs
      obtain ⟨x, hx, hQ⟩ := hdec l hl
      refine ⟨x, hQ, by rw [hx]; exact like_wf hl, fun j u hu => ?_⟩
      rw [hx, ← he] at hu
      have hj : j < P.cellsOf e := by have := (List.getElem?_eq_some_iff.1 hu).1; omega
      have := hcell j hj
      rw [add_addr, add_addr, hu, hsz] at this
      exact this
    obtain ⟨L, hL, hR⟩ := build_list (R := fun i (x : E.α) => Q x ∧ swf (E.enc x) ∧ ∀ j u, (svals (E.enc x))[j]? = some u → W.cell? ⟨b, o + i * E.sz + j, none⟩ = some u) len el
    have hwf : E.wf L := fun x hx => by
      obtain ⟨i, hi⟩ := List.mem_iff_getElem?.1 hx
      exact (hR i x hi).2.1
    refine ⟨.at b o len cap, L, rfl, ⟨hwf, rfl, hL.symm, hlc, hlt, fun j u hu => ?_⟩, fun x hx => ?_, by rw [hL]; exact Nat.le_trans hlc hcm⟩
    · have hvl := E.vals_len hwf
      have hj : j < L.length * E.sz := by have := (List.getElem?_eq_some_iff.1 hu).1; omega
      have hpos : 0 < E.sz := by
        rcases Nat.eq_zero_or_pos E.sz with h | h
        · rw [h] at hj; simp at hj
        · exact h
      have hq : j / E.sz < L.length := (Nat.div_lt_iff_lt_mul hpos).2 hj
      have hm : j % E.sz < E.sz := Nat.mod_lt _ hpos
      have e1 := E.vals_get hwf hq hm
      have e2 : j / E.sz * E.sz + j % E.sz = j := by rw [Nat.mul_comm]; exact Nat.div_add_mod j E.sz
      rw [e2, hu] at e1
      have hget : L[j / E.sz]? = some (L.getD (j / E.sz) E.dflt) := by simp [List.getD_eq_getElem?_getD, hq]
      have := (hR _ _ hget).2.2 _ _ e1.symm
      rwa [Nat.add_assoc, e2] at this
    · obtain ⟨i, hi⟩ := List.mem_iff_getElem?.1 hx
      exact (hR i x hi).1

/-- A slice of scalars. -/
theorem arg_scalars {s : Sk} {f : Nat} {c : SC} {e : TypeId} (ht : P.underlying t = some (.slice e)) (hz : fsg P f e = some [.c c]) (hs : skZ c = some s) (hsz : P.cellsOf e = 1)
    (h : Value.okWide P W r b0 t v) (hd : DataW.Trod enc P W 0 sp held t v d p) : ∃ (x : SV) (L : List s.α), v = x.val ∧ (HB.view (.sc s) x L).Is W x.blk ∧ (∀ y ∈ L, okS s y) ∧ L.length ≤ maxLen :=
  arg_slice (E := .sc s) ht hz hsz (okS s) (fun l hl => by
    obtain ⟨y, q, rfl, hy, hq⟩ := hl
    have hq : q = [] := hq
    subst hq
    obtain ⟨x, rfl, hk⟩ := sc_like hs hy
    exact ⟨x, rfl, hk⟩) h hd
end

/-! ### Listed variables -/
theorem laid_reads {P : Program} {W : World} {n : String} {d : DataW Unit} : ∀ {l : List (String × DataW Unit)} {ps : List MemPlace}, DataW.LaidVars P W l ps → (n, d) ∈ l →
    ∃ g t cs fuel p, P.globalNamed n = some g ∧ (P.globals[g]?).map (·.type) = some t ∧ W.var? P n = some cs ∧ DataW.trod (fun _ => ()) P W 0 (fun _ => true) false fuel t cs.toList = some (d, p)
  | [], _, _, hm => by cases hm
  | (n', d') :: q, ps, h, hm => by
    obtain ⟨g, t, cs, fuel, p, q', h1, h2, h3, h4, h5, _⟩ := h
    rcases List.mem_cons.1 hm with e | e
    · cases e; exact ⟨g, t, cs, fuel, p, h1, h2, h3, h4⟩
    · exact laid_reads h5 e
/-- A variable without places reads as the datum says. -/
theorem glob_is {P : Program} {W : World} {laid : List (String × DataW Unit)} (h : laidMet P laid W) {n : String} {d : DataW Unit} (hm : (n, d) ∈ laid) {g : Nat} {f : Nat} {l : List Sg}
    (hg : P.globalNamed n = some g) (ht : (match P.globals[g]? with | some x => (fsg P f x.type).isSome | none => false) = true) (hl : lits d = svals l) (hw : swf l) (hpos : 0 < (svals l).length) : (HB.ro l).Is W g := by
  obtain ⟨ps, hv, _⟩ := h
  obtain ⟨g', t', cs, fuel, p, h1, h2, h3, h4⟩ := laid_reads hv hm
  obtain rfl := Option.some.inj (hg.symm.trans h1)
  obtain ⟨z, hz⟩ : ∃ z, fsg P f t' = some z := by
    cases hgg : P.globals[g]? with
    | none => rw [hgg] at h2; cases h2
    | some x =>
      rw [hgg] at h2 ht
      obtain rfl := Option.some.inj h2
      exact Option.isSome_iff_exists.1 ht
  obtain ⟨_, e⟩ := flat_ok f t' z hz fuel _ _ h4
  have e : cs.toList = svals l := e.trans hl
  have cell : ∀ j : Nat, W.cell? ⟨g, j, none⟩ = cs[j]? := fun j => World.var?_cell hg h3 j
  have at_ : ∀ (j : Nat) v, (svals l)[j]? = some v → W.cell? ⟨g, j, none⟩ = some v := fun j v hj => by
    rw [cell j, ← Array.getElem?_toList, e]; exact hj
  refine ⟨?_, at_, hw⟩
  have h0 := at_ 0 _ (List.getElem?_eq_getElem hpos)
  by_cases hb : g < W.heap.size
  · exact hb
  · have hn : W.heap[g]? = none := Array.getElem?_eq_none (by omega)
    simp [World.cell?, hn] at h0

/-! ### Behind the call -/
theorem trodAll_below {H : Type} {enc : TypeId × Value → H} {P : Program} (hl : laidOutB P = true) {W W' : World} (hb : RowKit.Below W.heap.size W W') : ∀ {ts : List TypeId} {vs : List Value} {ds : List (DataW H)} {ps : List MemPlace},
    (∀ t ∈ ts, P.readableRec t = true ∧ t < P.types.size) → DataW.TrodAll enc P W 0 (fun _ => true) true ts vs ds ps → (∀ x ∈ ps, x.block < W.heap.size) →
    DataW.TrodAll enc P W' 0 (fun b => decide (b < W.heap.size)) true ts vs ds ps := by
  intro ts
  induction ts with
  | nil =>
    intro vs ds ps _ h _
    cases vs <;> cases ds <;> first | exact h | exact h.elim
  | cons t ts ih =>
    intro vs ds ps ht h hlt
    cases vs with
    | nil => exact h.elim
    | cons v vs =>
      cases ds with
      | nil => exact h.elim
      | cons d ds =>
        obtain ⟨p, q, h1, h2, rfl⟩ := h
        refine ⟨p, q, RowKit.Below.trod hl (ht t (List.mem_cons_self ..)).1 (ht t (List.mem_cons_self ..)).2 h1 hb fun x hx => hlt x (List.mem_append_left _ hx), ih (fun t' ht' => ht t' (List.mem_cons_of_mem _ ht')) h2 fun x hx => hlt x (List.mem_append_right _ hx), rfl⟩
/-- What is known of a list of things. -/
def GIs (W : World) : Heap → Prop
  | [] => True
  | (_, b, hb) :: r => hb.Is W b ∧ GIs W r
theorem GIs.get {W : World} : ∀ {G : Heap}, GIs W G → ∀ k b hb, hget G k = some (b, hb) → hb.Is W b
  | [], _, k, b, hb, h => by cases h
  | (k0, b0, hb0) :: r, hi, k, b, hb, h => by
    rw [hget_cons] at h
    split at h
    · cases h; exact hi.1
    · exact hi.2.get k b hb h
/-- A law that returns true. -/
theorem law_post {H : Type} {enc : TypeId × Value → H} {R : Pr} {f : FuncId} {fn : Func} {s : ChangeSpec} {args : List TV} {G : Heap} (h : CtrP R f args G (vb true)) (ho : (once G && rwNone G) = true) (hargs : awf args)
    {W : World} {ds : List (DataW H)} {p : List MemPlace} {rt : TypeId} (hG : GIs W G) (hlo : laidOutB R.P = true) (hts : fn.params.toList.all (fun t => R.P.readableRec t && decide (t < R.P.types.size)) = true)
    (hvars : s.vars = []) (hres : fn.resultTypes = #[rt]) (hrt : R.P.underlying rt = some .bool) (hfn : s.fn H ds = { results := [.lit (.bool true)], args := ds })
    (hW : DataW.Whole enc R.P fn.params.toList s.vars false W (args.map TV.val) ds [] p) (hlt : ∀ x ∈ p, x.block < W.heap.size) :
    Calls R.P f (args.map TV.val).toArray W fun e W' => ∃ v, e = .returned v ∧ s.post enc R.P fn false true false false W (args.map TV.val).toArray v W' := by
  have hawf : ∀ {l : List TV}, awf l → ∀ v ∈ l, v.wf := by
    intro l
    induction l with
    | nil => intro _ v hv; cases hv
    | cons u l ih => intro h v hv; rcases List.mem_cons.1 hv with rfl | hv
                     · exact h.1
                     · exact ih h.2 v hv
  refine (h.law ho (hawf hargs) hG.get).mono fun e W' ⟨he, hB⟩ => ?_
  subst he
  obtain ⟨p1, q1, hA, hV, rfl, hnf, hnd⟩ := id hW
  rw [hvars] at hV
  obtain ⟨_, rfl⟩ := trodVars_none hV
  simp only [List.append_nil] at hlt
  have hts' : ∀ t ∈ fn.params.toList, R.P.readableRec t = true ∧ t < R.P.types.size := fun t ht => by
    have := List.all_eq_true.1 hts t ht
    simpa using this
  have hp := trodAll_below (enc := enc) hlo hB hts' hA hlt
  refine ⟨_, rfl, ds, [], _, [], p1, [], by simpa using hW, ?_, by simpa [hfn] using hp, ?_, hB.frame _, fun h => by cases h⟩
  · simp only [hres, List.append_nil, hfn]
    exact trodAll_mk1 (RowKit.shut_bool hrt true)
  · rw [hvars]
    simp only [List.append_nil, hfn]
    rfl
end Go.SY
