/- The document's ChaCha20: numbers, a quarter round. -/
import Derived.Test.YtjanfjfccodebaaDoorC3
set_option linter.unusedVariables false
set_option linter.unusedSimpArgs false
set_option maxRecDepth 10000
set_option maxHeartbeats 4000000
namespace Go.Proofs.YtjanfjfccodebaaDoor
open Go Go.SY Go.Cha

def nums (h : List (BitVec 32)) : List Int := h.map fun x => (x.toNat : Int)
theorem nums_get (h : List (BitVec 32)) (i : Nat) : (nums h).getD i (0 : Int) = ((h.getD i 0).toNat : Int) := by
  unfold nums
  simp only [List.getD_eq_getElem?_getD, List.getElem?_map]
  cases h[i]? <;> rfl
theorem nums_length (h : List (BitVec 32)) : (nums h).length = h.length := List.length_map _
theorem nums_set (h : List (BitVec 32)) (i : Nat) (x : BitVec 32) : (nums h).set i (x.toNat : Int) = nums (h.set i x) := by unfold nums; rw [List.map_set]
/-- Turned left by one bit. -/
theorem rotl_one (x : BitVec 32) : 2 * x.toNat % 4294967296 + x.toNat / 2147483648 = (Sha.rotl x 1).toNat := by
  have hx := x.isLt
  unfold Sha.rotl
  rw [BitVec.toNat_or, BitVec.toNat_shiftLeft, BitVec.toNat_ushiftRight, Nat.shiftRight_eq_div_pow, Nat.shiftLeft_eq]
  have e1 : x.toNat * 2 ^ 1 % 2 ^ 32 = (x.toNat % 2 ^ 31) <<< 1 := by rw [Nat.shiftLeft_eq]; omega
  have e2 : x.toNat / 2 ^ (32 - 1) < 2 ^ 1 := by omega
  rw [e1, ← Nat.shiftLeft_add_eq_or_of_lt e2, Nat.shiftLeft_eq]
  omega
theorem rotl_bit (x : BitVec 32) (n i : Nat) (hn : n < 32) (hi : i < 32) : (Sha.rotl x n).getLsbD i = if n ≤ i then x.getLsbD (i - n) else x.getLsbD (32 - n + i) := by
  unfold Sha.rotl
  rw [BitVec.getLsbD_or, BitVec.getLsbD_shiftLeft, BitVec.getLsbD_ushiftRight]
  by_cases h : n ≤ i
  · rw [if_pos h, BitVec.getLsbD_of_ge x (32 - n + i) (by omega)]
    simp [hi, h]
  · rw [if_neg h]
    simp [show i < n by omega]
theorem rotl_succ (x : BitVec 32) (n : Nat) (hn : n < 31) : Sha.rotl (Sha.rotl x n) 1 = Sha.rotl x (n + 1) := by
  apply BitVec.eq_of_getLsbD_eq
  intro i hi
  rw [rotl_bit _ 1 i (by omega) hi, rotl_bit x (n + 1) i (by omega) hi]
  by_cases h1 : 1 ≤ i
  · rw [if_pos h1, rotl_bit x n (i - 1) (by omega) (by omega)]
    by_cases h2 : n ≤ i - 1
    · rw [if_pos h2, if_pos (by omega)]; congr 1; omega
    · rw [if_neg h2, if_neg (by omega)]; congr 1; omega
  · rw [if_neg h1, rotl_bit x n (32 - 1 + i) (by omega) (by omega), if_pos (by omega), if_neg (by omega)]
    congr 1; omega
theorem rotl_zero (x : BitVec 32) : Sha.rotl x 0 = x := by
  apply BitVec.eq_of_getLsbD_eq
  intro i hi
  rw [rotl_bit x 0 i (by omega) hi, if_pos (by omega)]; rfl
theorem left_ok (x : BitVec 32) (n : Nat) (hn : n < 32) : CtrP R 49 [vi x.toNat, vi n] [] (vi (Sha.rotl x n).toNat) := by
  refine Ctr.of Tryd.func49 rfl (by kernel_rfl) rfl fun _ _ w0 => ?_
  repeat ((conv => whnf); with_reducible first | refine CondG.split ?_ | refine k1 ?_ | refine ke fun _ => ?_ | refine k2 ?_ | refine kg ?_ | refine kf ?_ | refine k3 ?_ | refine k4 ?_ | refine kn ?_ | refine Same.rfl ?_ | refine k5 ?_ | refine k6 ?_ | refine k7 ?_ | refine k8 ?_ | refine k9 ?_ | refine ka ?_ | refine kb ?_ | refine kl ?_ | refine km ?_ | refine kc ?_ | refine kd ?_ | exact True.intro)
  refine LoopG.auto [1] [] (fun i : Nat => [(0, vi (Sha.rotl x i).toNat), (5, vi i)]) (fun i => []) (fun i => i ≤ n) (fun i => n - i) 0 ?_
  refine ⟨⟨by omega, ?_⟩, fun i hi => ?_⟩
  · repeat ((conv => whnf); with_reducible first | refine CondG.split ?_ | refine k1 ?_ | refine ke fun _ => ?_ | refine k2 ?_ | refine kg ?_ | refine kf ?_ | refine k3 ?_ | refine k4 ?_ | refine kn ?_ | refine Same.rfl ?_ | refine k5 ?_ | refine k6 ?_ | refine k7 ?_ | refine k8 ?_ | refine k9 ?_ | refine ka ?_ | refine kb ?_ | refine kl ?_ | refine km ?_ | refine kc ?_ | refine kd ?_ | exact True.intro)
    refine Chk.mk (by rw [rotl_zero]) ?_
    repeat ((conv => whnf); with_reducible first | refine CondG.split ?_ | refine k1 ?_ | refine ke fun _ => ?_ | refine k2 ?_ | refine kg ?_ | refine kf ?_ | refine k3 ?_ | refine k4 ?_ | refine kn ?_ | refine Same.rfl ?_ | refine k5 ?_ | refine k6 ?_ | refine k7 ?_ | refine k8 ?_ | refine k9 ?_ | refine ka ?_ | refine kb ?_ | refine kl ?_ | refine km ?_ | refine kc ?_ | refine kd ?_ | exact True.intro)
  · have hlt := (Sha.rotl x i).isLt
    (repeat ((conv => whnf); with_reducible first | refine CondG.split ?_ | refine k1 ?_ | refine ke fun _ => ?_ | refine k2 ?_ | refine kg ?_ | refine kf ?_ | refine k3 ?_ | refine k4 ?_ | refine kn ?_ | refine Same.rfl ?_ | refine k5 ?_ | refine k6 ?_ | refine k7 ?_ | refine k8 ?_ | refine k9 ?_ | refine ka ?_ | refine kb ?_ | refine kl ?_ | refine km ?_ | refine kc ?_ | refine kd ?_ | exact True.intro)); refine Br.by (fun g => ?_) (fun g => ?_)
    · have hi2 : i < n := by omega
      have hd : Int.tdiv ((Sha.rotl x i).toNat : Int) 2147483648 = (((Sha.rotl x i).toNat / 2147483648 : Nat) : Int) := rfl
      have hm : Int.tmod (2 * ((Sha.rotl x i).toNat : Int)) 4294967296 = ((2 * (Sha.rotl x i).toNat % 4294967296 : Nat) : Int) := rfl
      repeat ((conv => whnf); with_reducible first | refine CondG.split ?_ | refine k1 ?_ | refine ke fun _ => ?_ | refine k2 ?_ | refine kg ?_ | refine kf ?_ | refine k3 ?_ | refine k4 ?_ | refine kn ?_ | refine Same.rfl ?_ | refine k5 ?_ | refine k6 ?_ | refine k7 ?_ | refine k8 ?_ | refine k9 ?_ | refine ka ?_ | refine kb ?_ | refine kl ?_ | refine km ?_ | refine kc ?_ | refine kd ?_ | exact True.intro)
      refine ⟨i + 1, by omega, (by dsimp only; omega), ?_⟩
      repeat ((conv => whnf); with_reducible first | refine CondG.split ?_ | refine k1 ?_ | refine ke fun _ => ?_ | refine k2 ?_ | refine kg ?_ | refine kf ?_ | refine k3 ?_ | refine k4 ?_ | refine kn ?_ | refine Same.rfl ?_ | refine k5 ?_ | refine k6 ?_ | refine k7 ?_ | refine k8 ?_ | refine k9 ?_ | refine ka ?_ | refine kb ?_ | refine kl ?_ | refine km ?_ | refine kc ?_ | refine kd ?_ | exact True.intro)
      refine Chk.mk (by rw [hd, hm, ← rotl_succ x i (by omega), ← rotl_one]; rfl) ?_
      repeat ((conv => whnf); with_reducible first | refine CondG.split ?_ | refine k1 ?_ | refine ke fun _ => ?_ | refine k2 ?_ | refine kg ?_ | refine kf ?_ | refine k3 ?_ | refine k4 ?_ | refine kn ?_ | refine Same.rfl ?_ | refine k5 ?_ | refine k6 ?_ | refine k7 ?_ | refine k8 ?_ | refine k9 ?_ | refine ka ?_ | refine kb ?_ | refine kl ?_ | refine km ?_ | refine kc ?_ | refine kd ?_ | exact True.intro)
    · obtain rfl : i = n := by omega
      repeat ((conv => whnf); with_reducible first | refine CondG.split ?_ | refine k1 ?_ | refine ke fun _ => ?_ | refine k2 ?_ | refine kg ?_ | refine kf ?_ | refine k3 ?_ | refine k4 ?_ | refine kn ?_ | refine Same.rfl ?_ | refine k5 ?_ | refine k6 ?_ | refine k7 ?_ | refine k8 ?_ | refine k9 ?_ | refine ka ?_ | refine kb ?_ | refine kl ?_ | refine km ?_ | refine kc ?_ | refine kd ?_ | exact True.intro)
      refine Fin.pure ?_
      repeat ((conv => whnf); with_reducible first | refine CondG.split ?_ | refine k1 ?_ | refine ke fun _ => ?_ | refine k2 ?_ | refine kg ?_ | refine kf ?_ | refine k3 ?_ | refine k4 ?_ | refine kn ?_ | refine Same.rfl ?_ | refine k5 ?_ | refine k6 ?_ | refine k7 ?_ | refine k8 ?_ | refine k9 ?_ | refine ka ?_ | refine kb ?_ | refine kl ?_ | refine km ?_ | refine kc ?_ | refine kd ?_ | exact True.intro)
theorem num4_nat (b : List UInt8) (i : Nat) : (num4 b i).toNat = (b.getD i 0).toNat + 256 * (b.getD (i + 1) 0).toNat + 65536 * (b.getD (i + 2) 0).toNat + 16777216 * (b.getD (i + 3) 0).toNat := by
  have e : ∀ (x : UInt8) (s : Nat), s ≤ 24 → (x.toBitVec.setWidth 32 <<< s).toNat = x.toNat <<< s := by
    intro x s hs
    have hx : x.toNat < 256 := x.toNat_lt
    rw [BitVec.toNat_shiftLeft, BitVec.toNat_setWidth]
    have h1 : x.toBitVec.toNat % 2 ^ 32 = x.toNat := Nat.mod_eq_of_lt (Nat.lt_trans hx (by decide))
    rw [h1]
    apply Nat.mod_eq_of_lt
    rw [Nat.shiftLeft_eq]
    calc x.toNat * 2 ^ s ≤ 255 * 2 ^ 24 := Nat.mul_le_mul (by omega) (Nat.pow_le_pow_right (by omega) hs)
      _ < 2 ^ 32 := by decide
  have e0 : ∀ (x : UInt8), (x.toBitVec.setWidth 32).toNat = x.toNat := by
    intro x
    have hx : x.toNat < 256 := x.toNat_lt
    rw [BitVec.toNat_setWidth]; exact Nat.mod_eq_of_lt (Nat.lt_trans hx (by decide))
  have h0 := (b.getD i 0).toNat_lt
  have h1 := (b.getD (i + 1) 0).toNat_lt
  have h2 := (b.getD (i + 2) 0).toNat_lt
  unfold num4
  rw [BitVec.toNat_or, BitVec.toNat_or, BitVec.toNat_or, e _ 24 (by omega), e _ 16 (by omega), e _ 8 (by omega), e0]
  simp only [Nat.shiftLeft_eq]
  rw [or_add (n := 8) (by omega), or_add (n := 16) (by omega), or_add (n := 24) (by omega)]
  omega
theorem rnumber_ok (b : List UInt8) (hb : b.length = 4) : CtrP R 34 [vs b] [] (vi (num4 b 0).toNat) := by
  refine Ctr.of Tryd.func34 rfl (by kernel_rfl) rfl fun _ _ w0 => ?_
  have h0 := (b.getD 0 0).toNat_lt
  have h1 := (b.getD 1 0).toNat_lt
  have h2 := (b.getD 2 0).toNat_lt
  have h3 := (b.getD 3 0).toNat_lt
  repeat ((conv => whnf); with_reducible first | refine CondG.split ?_ | refine k1 ?_ | refine ke fun _ => ?_ | refine k2 ?_ | refine kg ?_ | refine kf ?_ | refine k3 ?_ | refine k4 ?_ | refine kn ?_ | refine Same.rfl ?_ | refine k5 ?_ | refine k6 ?_ | refine k7 ?_ | refine k8 ?_ | refine k9 ?_ | refine ka ?_ | refine kb ?_ | refine kl ?_ | refine km ?_ | refine kc ?_ | refine kd ?_ | exact True.intro)
  refine Draw.quiet (by kernel_rfl) (by kernel_rfl) ?_
  repeat ((conv => whnf); with_reducible first | refine CondG.split ?_ | refine k1 ?_ | refine ke fun _ => ?_ | refine k2 ?_ | refine kg ?_ | refine kf ?_ | refine k3 ?_ | refine k4 ?_ | refine kn ?_ | refine Same.rfl ?_ | refine k5 ?_ | refine k6 ?_ | refine k7 ?_ | refine k8 ?_ | refine k9 ?_ | refine ka ?_ | refine kb ?_ | refine kl ?_ | refine km ?_ | refine kc ?_ | refine kd ?_ | exact True.intro)
  refine Fin.pure ?_
  repeat ((conv => whnf); with_reducible first | refine CondG.split ?_ | refine k1 ?_ | refine ke fun _ => ?_ | refine k2 ?_ | refine kg ?_ | refine kf ?_ | refine k3 ?_ | refine k4 ?_ | refine kn ?_ | refine Same.rfl ?_ | refine k5 ?_ | refine k6 ?_ | refine k7 ?_ | refine k8 ?_ | refine k9 ?_ | refine ka ?_ | refine kb ?_ | refine kl ?_ | refine km ?_ | refine kc ?_ | refine kd ?_ | exact True.intro)
  refine Chk.mk (by rw [num4_nat]; simp only [Int.natCast_add, Int.natCast_mul]; rfl) ?_
  repeat ((conv => whnf); with_reducible first | refine CondG.split ?_ | refine k1 ?_ | refine ke fun _ => ?_ | refine k2 ?_ | refine kg ?_ | refine kf ?_ | refine k3 ?_ | refine k4 ?_ | refine kn ?_ | refine Same.rfl ?_ | refine k5 ?_ | refine k6 ?_ | refine k7 ?_ | refine k8 ?_ | refine k9 ?_ | refine ka ?_ | refine kb ?_ | refine kl ?_ | refine km ?_ | refine kc ?_ | refine kd ?_ | exact True.intro)
theorem xor_nat (a b : BitVec 32) : ixor .i64 a.toNat b.toNat = ((a ^^^ b).toNat : Int) := by
  have e : ∀ a : BitVec 32, BitVec.ofInt IntKind.i64.bits (a.toNat : Int) = a.setWidth 64 := fun a => bv_conv a
  have e2 : (BitVec.ofInt IntKind.i64.bits (a.toNat : Int) ^^^ BitVec.ofInt IntKind.i64.bits (b.toNat : Int)).toNat = (a ^^^ b).toNat := by
    rw [e, e]
    show (a.setWidth 64 ^^^ b.setWidth 64).toNat = _
    rw [← BitVec.setWidth_xor, BitVec.toNat_setWidth, Nat.mod_eq_of_lt (Nat.lt_trans (a ^^^ b).isLt (by decide))]
  unfold ixor
  rw [e2]; exact wrap_i64 (by have := (a ^^^ b).isLt; omega)
theorem add_nat (a b : BitVec 32) : Int.tmod ((a.toNat : Int) + b.toNat) 4294967296 = ((a + b).toNat : Int) := by
  show (((a.toNat + b.toNat) % 4294967296 : Nat) : Int) = _
  rw [BitVec.toNat_add]
def ad (l : List (BitVec 32)) (a b : Nat) : List (BitVec 32) := l.set a (l.getD a 0 + l.getD b 0)
def xr (l : List (BitVec 32)) (d a r : Nat) : List (BitVec 32) := l.set d (Sha.rotl (l.getD d 0 ^^^ l.getD a 0) r)
theorem half_eq (r1 r2 : Nat) (l : List (BitVec 32)) (a b c d : Nat) : half r1 r2 l a b c d = xr (ad (xr (ad l a b) d a r1) c d) b c r2 := rfl
theorem ad_length (l : List (BitVec 32)) (a b : Nat) : (ad l a b).length = l.length := List.length_set
theorem xr_length (l : List (BitVec 32)) (d a r : Nat) : (xr l d a r).length = l.length := List.length_set
/-- A store of a sum: what a step of the quarter round asks and leaves. -/
theorem nums_ad (l : List (BitVec 32)) (a b : Nat) : (nums l).set a (Int.tmod ((nums l).getD a (0 : Int) + (nums l).getD b (0 : Int)) 4294967296) = nums (ad l a b) := by
  rw [nums_get, nums_get, add_nat, nums_set]; rfl
theorem rquarter_ok (y : SV) (l : List (BitVec 32)) (a b c d : Nat) (hl : l.length = 16) (ha : a < 16) (hb : b < 16) (hc : c < 16) (hd : d < 16) :
    CtrU R 35 [vl 0 y, vi a, vi b, vi c, vi d] [(0, y.blk, .own 3 (.sc (.int .i64)) y (nums l))] (.tup []) [(0, y.blk, .own 3 (.sc (.int .i64)) y (nums (qr l a b c d)))] := by
  refine Ctr.of Tryd.func35 rfl (by kernel_rfl) rfl fun _ _ w0 => ?_
  repeat ((conv => whnf); with_reducible first | refine CondG.split ?_ | refine k1 ?_ | refine ke fun _ => ?_ | refine k2 ?_ | refine kg ?_ | refine kf ?_ | refine k3 ?_ | refine k4 ?_ | refine kn ?_ | refine Same.rfl ?_ | refine k5 ?_ | refine k6 ?_ | refine k7 ?_ | refine k8 ?_ | refine k9 ?_ | refine ka ?_ | refine kb ?_ | refine kl ?_ | refine km ?_ | refine kc ?_ | refine kd ?_ | exact True.intro)
  have h0 : (nums l).length = 16 := by rw [nums_length, hl]
  obtain ⟨l1, z1⟩ : ∃ z, z = ad l a b := ⟨_, rfl⟩
  have ga0 : (nums l).getD a (Enc.sc (.int .i64)).dflt = ((l.getD a 0).toNat : Int) := nums_get _ _
  have gb0 : (nums l).getD b (Enc.sc (.int .i64)).dflt = ((l.getD b 0).toNat : Int) := nums_get _ _
  have ba0 := (l.getD a 0).isLt
  have bb0 := (l.getD b 0).isLt
  refine Draw.tailQ 12 (by kernel_rfl) (by kernel_rfl) ?_
  repeat ((conv => whnf); with_reducible first | refine CondG.split ?_ | refine k1 ?_ | refine ke fun _ => ?_ | refine k2 ?_ | refine kg ?_ | refine kf ?_ | refine k3 ?_ | refine k4 ?_ | refine kn ?_ | refine Same.rfl ?_ | refine k5 ?_ | refine k6 ?_ | refine k7 ?_ | refine k8 ?_ | refine k9 ?_ | refine ka ?_ | refine kb ?_ | refine kl ?_ | refine km ?_ | refine kc ?_ | refine kd ?_ | exact True.intro)
  refine Draw.set [0, 1, 2, 3, 4] [] [] [(0, .own 3 (.sc (.int .i64)) y (nums l1))] ?_
  refine ⟨?_, ?_⟩
  · repeat ((conv => whnf); with_reducible first | refine CondG.split ?_ | refine k1 ?_ | refine ke fun _ => ?_ | refine k2 ?_ | refine kg ?_ | refine kf ?_ | refine k3 ?_ | refine k4 ?_ | refine kn ?_ | refine Same.rfl ?_ | refine k5 ?_ | refine k6 ?_ | refine k7 ?_ | refine k8 ?_ | refine k9 ?_ | refine ka ?_ | refine kb ?_ | refine kl ?_ | refine km ?_ | refine kc ?_ | refine kd ?_ | exact True.intro)
    refine OwnM.same (by with_reducible rfl) (by rw [z1]; exact nums_ad _ _ _) ?_
    repeat ((conv => whnf); with_reducible first | refine CondG.split ?_ | refine k1 ?_ | refine ke fun _ => ?_ | refine k2 ?_ | refine kg ?_ | refine kf ?_ | refine k3 ?_ | refine k4 ?_ | refine kn ?_ | refine Same.rfl ?_ | refine k5 ?_ | refine k6 ?_ | refine k7 ?_ | refine k8 ?_ | refine k9 ?_ | refine ka ?_ | refine kb ?_ | refine kl ?_ | refine km ?_ | refine kc ?_ | refine kd ?_ | exact True.intro)
  have h1 : (nums l1).length = 16 := by rw [nums_length, z1, ad_length, ← nums_length, h0]
  clear ga0 gb0 ba0 bb0
  obtain ⟨l2, z2⟩ : ∃ z, z = xr l1 d a 16 := ⟨_, rfl⟩
  have ga1 : (nums l1).getD d (Enc.sc (.int .i64)).dflt = ((l1.getD d 0).toNat : Int) := nums_get _ _
  have gb1 : (nums l1).getD a (Enc.sc (.int .i64)).dflt = ((l1.getD a 0).toNat : Int) := nums_get _ _
  have ba1 := (l1.getD d 0).isLt
  have bb1 := (l1.getD a 0).isLt
  refine Draw.tailQ 12 (by kernel_rfl) (by kernel_rfl) ?_
  repeat ((conv => whnf); with_reducible first | refine CondG.split ?_ | refine k1 ?_ | refine ke fun _ => ?_ | refine k2 ?_ | refine kg ?_ | refine kf ?_ | refine k3 ?_ | refine k4 ?_ | refine kn ?_ | refine Same.rfl ?_ | refine k5 ?_ | refine k6 ?_ | refine k7 ?_ | refine k8 ?_ | refine k9 ?_ | refine ka ?_ | refine kb ?_ | refine kl ?_ | refine km ?_ | refine kc ?_ | refine kd ?_ | exact True.intro)
  refine CallQ.use [] (left_ok (l1.getD d 0 ^^^ l1.getD a 0) 16 (by omega)) rfl ⟨trivial, trivial⟩ ?_
  refine Chk.mk (by rw [ga1, gb1]; exact xor_nat _ _) ?_
  repeat ((conv => whnf); with_reducible first | refine CondG.split ?_ | refine k1 ?_ | refine ke fun _ => ?_ | refine k2 ?_ | refine kg ?_ | refine kf ?_ | refine k3 ?_ | refine k4 ?_ | refine kn ?_ | refine Same.rfl ?_ | refine k5 ?_ | refine k6 ?_ | refine k7 ?_ | refine k8 ?_ | refine k9 ?_ | refine ka ?_ | refine kb ?_ | refine kl ?_ | refine km ?_ | refine kc ?_ | refine kd ?_ | exact True.intro)
  refine Draw.set [0, 1, 2, 3, 4] [] [] [(0, .own 3 (.sc (.int .i64)) y (nums l2))] ?_
  refine ⟨?_, ?_⟩
  · repeat ((conv => whnf); with_reducible first | refine CondG.split ?_ | refine k1 ?_ | refine ke fun _ => ?_ | refine k2 ?_ | refine kg ?_ | refine kf ?_ | refine k3 ?_ | refine k4 ?_ | refine kn ?_ | refine Same.rfl ?_ | refine k5 ?_ | refine k6 ?_ | refine k7 ?_ | refine k8 ?_ | refine k9 ?_ | refine ka ?_ | refine kb ?_ | refine kl ?_ | refine km ?_ | refine kc ?_ | refine kd ?_ | exact True.intro)
    refine OwnM.same (by with_reducible rfl) (by rw [z2]; exact nums_set _ _ _) ?_
    repeat ((conv => whnf); with_reducible first | refine CondG.split ?_ | refine k1 ?_ | refine ke fun _ => ?_ | refine k2 ?_ | refine kg ?_ | refine kf ?_ | refine k3 ?_ | refine k4 ?_ | refine kn ?_ | refine Same.rfl ?_ | refine k5 ?_ | refine k6 ?_ | refine k7 ?_ | refine k8 ?_ | refine k9 ?_ | refine ka ?_ | refine kb ?_ | refine kl ?_ | refine km ?_ | refine kc ?_ | refine kd ?_ | exact True.intro)
  have h2 : (nums l2).length = 16 := by rw [nums_length, z2, xr_length, ← nums_length, h1]
  clear ga1 gb1 ba1 bb1
  obtain ⟨l3, z3⟩ : ∃ z, z = ad l2 c d := ⟨_, rfl⟩
  have ga2 : (nums l2).getD c (Enc.sc (.int .i64)).dflt = ((l2.getD c 0).toNat : Int) := nums_get _ _
  have gb2 : (nums l2).getD d (Enc.sc (.int .i64)).dflt = ((l2.getD d 0).toNat : Int) := nums_get _ _
  have ba2 := (l2.getD c 0).isLt
  have bb2 := (l2.getD d 0).isLt
  refine Draw.tailQ 12 (by kernel_rfl) (by kernel_rfl) ?_
  repeat ((conv => whnf); with_reducible first | refine CondG.split ?_ | refine k1 ?_ | refine ke fun _ => ?_ | refine k2 ?_ | refine kg ?_ | refine kf ?_ | refine k3 ?_ | refine k4 ?_ | refine kn ?_ | refine Same.rfl ?_ | refine k5 ?_ | refine k6 ?_ | refine k7 ?_ | refine k8 ?_ | refine k9 ?_ | refine ka ?_ | refine kb ?_ | refine kl ?_ | refine km ?_ | refine kc ?_ | refine kd ?_ | exact True.intro)
  refine Draw.set [0, 1, 2, 3, 4] [] [] [(0, .own 3 (.sc (.int .i64)) y (nums l3))] ?_
  refine ⟨?_, ?_⟩
  · repeat ((conv => whnf); with_reducible first | refine CondG.split ?_ | refine k1 ?_ | refine ke fun _ => ?_ | refine k2 ?_ | refine kg ?_ | refine kf ?_ | refine k3 ?_ | refine k4 ?_ | refine kn ?_ | refine Same.rfl ?_ | refine k5 ?_ | refine k6 ?_ | refine k7 ?_ | refine k8 ?_ | refine k9 ?_ | refine ka ?_ | refine kb ?_ | refine kl ?_ | refine km ?_ | refine kc ?_ | refine kd ?_ | exact True.intro)
    refine OwnM.same (by with_reducible rfl) (by rw [z3]; exact nums_ad _ _ _) ?_
    repeat ((conv => whnf); with_reducible first | refine CondG.split ?_ | refine k1 ?_ | refine ke fun _ => ?_ | refine k2 ?_ | refine kg ?_ | refine kf ?_ | refine k3 ?_ | refine k4 ?_ | refine kn ?_ | refine Same.rfl ?_ | refine k5 ?_ | refine k6 ?_ | refine k7 ?_ | refine k8 ?_ | refine k9 ?_ | refine ka ?_ | refine kb ?_ | refine kl ?_ | refine km ?_ | refine kc ?_ | refine kd ?_ | exact True.intro)
  have h3 : (nums l3).length = 16 := by rw [nums_length, z3, ad_length, ← nums_length, h2]
  clear ga2 gb2 ba2 bb2
  obtain ⟨l4, z4⟩ : ∃ z, z = xr l3 b c 12 := ⟨_, rfl⟩
  have ga3 : (nums l3).getD b (Enc.sc (.int .i64)).dflt = ((l3.getD b 0).toNat : Int) := nums_get _ _
  have gb3 : (nums l3).getD c (Enc.sc (.int .i64)).dflt = ((l3.getD c 0).toNat : Int) := nums_get _ _
  have ba3 := (l3.getD b 0).isLt
  have bb3 := (l3.getD c 0).isLt
  refine Draw.tailQ 12 (by kernel_rfl) (by kernel_rfl) ?_
  repeat ((conv => whnf); with_reducible first | refine CondG.split ?_ | refine k1 ?_ | refine ke fun _ => ?_ | refine k2 ?_ | refine kg ?_ | refine kf ?_ | refine k3 ?_ | refine k4 ?_ | refine kn ?_ | refine Same.rfl ?_ | refine k5 ?_ | refine k6 ?_ | refine k7 ?_ | refine k8 ?_ | refine k9 ?_ | refine ka ?_ | refine kb ?_ | refine kl ?_ | refine km ?_ | refine kc ?_ | refine kd ?_ | exact True.intro)
  refine CallQ.use [] (left_ok (l3.getD b 0 ^^^ l3.getD c 0) 12 (by omega)) rfl ⟨trivial, trivial⟩ ?_
  refine Chk.mk (by rw [ga3, gb3]; exact xor_nat _ _) ?_
  repeat ((conv => whnf); with_reducible first | refine CondG.split ?_ | refine k1 ?_ | refine ke fun _ => ?_ | refine k2 ?_ | refine kg ?_ | refine kf ?_ | refine k3 ?_ | refine k4 ?_ | refine kn ?_ | refine Same.rfl ?_ | refine k5 ?_ | refine k6 ?_ | refine k7 ?_ | refine k8 ?_ | refine k9 ?_ | refine ka ?_ | refine kb ?_ | refine kl ?_ | refine km ?_ | refine kc ?_ | refine kd ?_ | exact True.intro)
  refine Draw.set [0, 1, 2, 3, 4] [] [] [(0, .own 3 (.sc (.int .i64)) y (nums l4))] ?_
  refine ⟨?_, ?_⟩
  · repeat ((conv => whnf); with_reducible first | refine CondG.split ?_ | refine k1 ?_ | refine ke fun _ => ?_ | refine k2 ?_ | refine kg ?_ | refine kf ?_ | refine k3 ?_ | refine k4 ?_ | refine kn ?_ | refine Same.rfl ?_ | refine k5 ?_ | refine k6 ?_ | refine k7 ?_ | refine k8 ?_ | refine k9 ?_ | refine ka ?_ | refine kb ?_ | refine kl ?_ | refine km ?_ | refine kc ?_ | refine kd ?_ | exact True.intro)
    refine OwnM.same (by with_reducible rfl) (by rw [z4]; exact nums_set _ _ _) ?_
    repeat ((conv => whnf); with_reducible first | refine CondG.split ?_ | refine k1 ?_ | refine ke fun _ => ?_ | refine k2 ?_ | refine kg ?_ | refine kf ?_ | refine k3 ?_ | refine k4 ?_ | refine kn ?_ | refine Same.rfl ?_ | refine k5 ?_ | refine k6 ?_ | refine k7 ?_ | refine k8 ?_ | refine k9 ?_ | refine ka ?_ | refine kb ?_ | refine kl ?_ | refine km ?_ | refine kc ?_ | refine kd ?_ | exact True.intro)
  have h4 : (nums l4).length = 16 := by rw [nums_length, z4, xr_length, ← nums_length, h3]
  clear ga3 gb3 ba3 bb3
  obtain ⟨l5, z5⟩ : ∃ z, z = ad l4 a b := ⟨_, rfl⟩
  have ga4 : (nums l4).getD a (Enc.sc (.int .i64)).dflt = ((l4.getD a 0).toNat : Int) := nums_get _ _
  have gb4 : (nums l4).getD b (Enc.sc (.int .i64)).dflt = ((l4.getD b 0).toNat : Int) := nums_get _ _
  have ba4 := (l4.getD a 0).isLt
  have bb4 := (l4.getD b 0).isLt
  refine Draw.tailQ 12 (by kernel_rfl) (by kernel_rfl) ?_
  repeat ((conv => whnf); with_reducible first | refine CondG.split ?_ | refine k1 ?_ | refine ke fun _ => ?_ | refine k2 ?_ | refine kg ?_ | refine kf ?_ | refine k3 ?_ | refine k4 ?_ | refine kn ?_ | refine Same.rfl ?_ | refine k5 ?_ | refine k6 ?_ | refine k7 ?_ | refine k8 ?_ | refine k9 ?_ | refine ka ?_ | refine kb ?_ | refine kl ?_ | refine km ?_ | refine kc ?_ | refine kd ?_ | exact True.intro)
  refine Draw.set [0, 1, 2, 3, 4] [] [] [(0, .own 3 (.sc (.int .i64)) y (nums l5))] ?_
  refine ⟨?_, ?_⟩
  · repeat ((conv => whnf); with_reducible first | refine CondG.split ?_ | refine k1 ?_ | refine ke fun _ => ?_ | refine k2 ?_ | refine kg ?_ | refine kf ?_ | refine k3 ?_ | refine k4 ?_ | refine kn ?_ | refine Same.rfl ?_ | refine k5 ?_ | refine k6 ?_ | refine k7 ?_ | refine k8 ?_ | refine k9 ?_ | refine ka ?_ | refine kb ?_ | refine kl ?_ | refine km ?_ | refine kc ?_ | refine kd ?_ | exact True.intro)
    refine OwnM.same (by with_reducible rfl) (by rw [z5]; exact nums_ad _ _ _) ?_
    repeat ((conv => whnf); with_reducible first | refine CondG.split ?_ | refine k1 ?_ | refine ke fun _ => ?_ | refine k2 ?_ | refine kg ?_ | refine kf ?_ | refine k3 ?_ | refine k4 ?_ | refine kn ?_ | refine Same.rfl ?_ | refine k5 ?_ | refine k6 ?_ | refine k7 ?_ | refine k8 ?_ | refine k9 ?_ | refine ka ?_ | refine kb ?_ | refine kl ?_ | refine km ?_ | refine kc ?_ | refine kd ?_ | exact True.intro)
  have h5 : (nums l5).length = 16 := by rw [nums_length, z5, ad_length, ← nums_length, h4]
  clear ga4 gb4 ba4 bb4
  obtain ⟨l6, z6⟩ : ∃ z, z = xr l5 d a 8 := ⟨_, rfl⟩
  have ga5 : (nums l5).getD d (Enc.sc (.int .i64)).dflt = ((l5.getD d 0).toNat : Int) := nums_get _ _
  have gb5 : (nums l5).getD a (Enc.sc (.int .i64)).dflt = ((l5.getD a 0).toNat : Int) := nums_get _ _
  have ba5 := (l5.getD d 0).isLt
  have bb5 := (l5.getD a 0).isLt
  refine Draw.tailQ 12 (by kernel_rfl) (by kernel_rfl) ?_
  repeat ((conv => whnf); with_reducible first | refine CondG.split ?_ | refine k1 ?_ | refine ke fun _ => ?_ | refine k2 ?_ | refine kg ?_ | refine kf ?_ | refine k3 ?_ | refine k4 ?_ | refine kn ?_ | refine Same.rfl ?_ | refine k5 ?_ | refine k6 ?_ | refine k7 ?_ | refine k8 ?_ | refine k9 ?_ | refine ka ?_ | refine kb ?_ | refine kl ?_ | refine km ?_ | refine kc ?_ | refine kd ?_ | exact True.intro)
  refine CallQ.use [] (left_ok (l5.getD d 0 ^^^ l5.getD a 0) 8 (by omega)) rfl ⟨trivial, trivial⟩ ?_
  refine Chk.mk (by rw [ga5, gb5]; exact xor_nat _ _) ?_
  repeat ((conv => whnf); with_reducible first | refine CondG.split ?_ | refine k1 ?_ | refine ke fun _ => ?_ | refine k2 ?_ | refine kg ?_ | refine kf ?_ | refine k3 ?_ | refine k4 ?_ | refine kn ?_ | refine Same.rfl ?_ | refine k5 ?_ | refine k6 ?_ | refine k7 ?_ | refine k8 ?_ | refine k9 ?_ | refine ka ?_ | refine kb ?_ | refine kl ?_ | refine km ?_ | refine kc ?_ | refine kd ?_ | exact True.intro)
  refine Draw.set [0, 1, 2, 3, 4] [] [] [(0, .own 3 (.sc (.int .i64)) y (nums l6))] ?_
  refine ⟨?_, ?_⟩
  · repeat ((conv => whnf); with_reducible first | refine CondG.split ?_ | refine k1 ?_ | refine ke fun _ => ?_ | refine k2 ?_ | refine kg ?_ | refine kf ?_ | refine k3 ?_ | refine k4 ?_ | refine kn ?_ | refine Same.rfl ?_ | refine k5 ?_ | refine k6 ?_ | refine k7 ?_ | refine k8 ?_ | refine k9 ?_ | refine ka ?_ | refine kb ?_ | refine kl ?_ | refine km ?_ | refine kc ?_ | refine kd ?_ | exact True.intro)
    refine OwnM.same (by with_reducible rfl) (by rw [z6]; exact nums_set _ _ _) ?_
    repeat ((conv => whnf); with_reducible first | refine CondG.split ?_ | refine k1 ?_ | refine ke fun _ => ?_ | refine k2 ?_ | refine kg ?_ | refine kf ?_ | refine k3 ?_ | refine k4 ?_ | refine kn ?_ | refine Same.rfl ?_ | refine k5 ?_ | refine k6 ?_ | refine k7 ?_ | refine k8 ?_ | refine k9 ?_ | refine ka ?_ | refine kb ?_ | refine kl ?_ | refine km ?_ | refine kc ?_ | refine kd ?_ | exact True.intro)
  have h6 : (nums l6).length = 16 := by rw [nums_length, z6, xr_length, ← nums_length, h5]
  clear ga5 gb5 ba5 bb5
  obtain ⟨l7, z7⟩ : ∃ z, z = ad l6 c d := ⟨_, rfl⟩
  have ga6 : (nums l6).getD c (Enc.sc (.int .i64)).dflt = ((l6.getD c 0).toNat : Int) := nums_get _ _
  have gb6 : (nums l6).getD d (Enc.sc (.int .i64)).dflt = ((l6.getD d 0).toNat : Int) := nums_get _ _
  have ba6 := (l6.getD c 0).isLt
  have bb6 := (l6.getD d 0).isLt
  refine Draw.tailQ 12 (by kernel_rfl) (by kernel_rfl) ?_
  repeat ((conv => whnf); with_reducible first | refine CondG.split ?_ | refine k1 ?_ | refine ke fun _ => ?_ | refine k2 ?_ | refine kg ?_ | refine kf ?_ | refine k3 ?_ | refine k4 ?_ | refine kn ?_ | refine Same.rfl ?_ | refine k5 ?_ | refine k6 ?_ | refine k7 ?_ | refine k8 ?_ | refine k9 ?_ | refine ka ?_ | refine kb ?_ | refine kl ?_ | refine km ?_ | refine kc ?_ | refine kd ?_ | exact True.intro)
  refine Draw.set [0, 1, 2, 3, 4] [] [] [(0, .own 3 (.sc (.int .i64)) y (nums l7))] ?_
  refine ⟨?_, ?_⟩
  · repeat ((conv => whnf); with_reducible first | refine CondG.split ?_ | refine k1 ?_ | refine ke fun _ => ?_ | refine k2 ?_ | refine kg ?_ | refine kf ?_ | refine k3 ?_ | refine k4 ?_ | refine kn ?_ | refine Same.rfl ?_ | refine k5 ?_ | refine k6 ?_ | refine k7 ?_ | refine k8 ?_ | refine k9 ?_ | refine ka ?_ | refine kb ?_ | refine kl ?_ | refine km ?_ | refine kc ?_ | refine kd ?_ | exact True.intro)
    refine OwnM.same (by with_reducible rfl) (by rw [z7]; exact nums_ad _ _ _) ?_
    repeat ((conv => whnf); with_reducible first | refine CondG.split ?_ | refine k1 ?_ | refine ke fun _ => ?_ | refine k2 ?_ | refine kg ?_ | refine kf ?_ | refine k3 ?_ | refine k4 ?_ | refine kn ?_ | refine Same.rfl ?_ | refine k5 ?_ | refine k6 ?_ | refine k7 ?_ | refine k8 ?_ | refine k9 ?_ | refine ka ?_ | refine kb ?_ | refine kl ?_ | refine km ?_ | refine kc ?_ | refine kd ?_ | exact True.intro)
  have h7 : (nums l7).length = 16 := by rw [nums_length, z7, ad_length, ← nums_length, h6]
  clear ga6 gb6 ba6 bb6
  obtain ⟨l8, z8⟩ : ∃ z, z = xr l7 b c 7 := ⟨_, rfl⟩
  have ga7 : (nums l7).getD b (Enc.sc (.int .i64)).dflt = ((l7.getD b 0).toNat : Int) := nums_get _ _
  have gb7 : (nums l7).getD c (Enc.sc (.int .i64)).dflt = ((l7.getD c 0).toNat : Int) := nums_get _ _
  have ba7 := (l7.getD b 0).isLt
  have bb7 := (l7.getD c 0).isLt
  refine Draw.tailQ 12 (by kernel_rfl) (by kernel_rfl) ?_
  repeat ((conv => whnf); with_reducible first | refine CondG.split ?_ | refine k1 ?_ | refine ke fun _ => ?_ | refine k2 ?_ | refine kg ?_ | refine kf ?_ | refine k3 ?_ | refine k4 ?_ | refine kn ?_ | refine Same.rfl ?_ | refine k5 ?_ | refine k6 ?_ | refine k7 ?_ | refine k8 ?_ | refine k9 ?_ | refine ka ?_ | refine kb ?_ | refine kl ?_ | refine km ?_ | refine kc ?_ | refine kd ?_ | exact True.intro)
  refine CallQ.use [] (left_ok (l7.getD b 0 ^^^ l7.getD c 0) 7 (by omega)) rfl ⟨trivial, trivial⟩ ?_
  refine Chk.mk (by rw [ga7, gb7]; exact xor_nat _ _) ?_
  repeat ((conv => whnf); with_reducible first | refine CondG.split ?_ | refine k1 ?_ | refine ke fun _ => ?_ | refine k2 ?_ | refine kg ?_ | refine kf ?_ | refine k3 ?_ | refine k4 ?_ | refine kn ?_ | refine Same.rfl ?_ | refine k5 ?_ | refine k6 ?_ | refine k7 ?_ | refine k8 ?_ | refine k9 ?_ | refine ka ?_ | refine kb ?_ | refine kl ?_ | refine km ?_ | refine kc ?_ | refine kd ?_ | exact True.intro)
  refine Fin.mk' () trivial ?_
  repeat ((conv => whnf); with_reducible first | refine CondG.split ?_ | refine k1 ?_ | refine ke fun _ => ?_ | refine k2 ?_ | refine kg ?_ | refine kf ?_ | refine k3 ?_ | refine k4 ?_ | refine kn ?_ | refine Same.rfl ?_ | refine k5 ?_ | refine k6 ?_ | refine k7 ?_ | refine k8 ?_ | refine k9 ?_ | refine ka ?_ | refine kb ?_ | refine kl ?_ | refine km ?_ | refine kc ?_ | refine kd ?_ | exact True.intro)
  refine OwnM.same (by with_reducible rfl) ?_ ?_
  · rw [show qr l a b c d = l8 by rw [z8, z7, z6, z5, z4, z3, z2, z1]; rfl]
    exact (by rw [z8]; exact nums_set _ _ _)
  repeat ((conv => whnf); with_reducible first | refine CondG.split ?_ | refine k1 ?_ | refine ke fun _ => ?_ | refine k2 ?_ | refine kg ?_ | refine kf ?_ | refine k3 ?_ | refine k4 ?_ | refine kn ?_ | refine Same.rfl ?_ | refine k5 ?_ | refine k6 ?_ | refine k7 ?_ | refine k8 ?_ | refine k9 ?_ | refine ka ?_ | refine kb ?_ | refine kl ?_ | refine km ?_ | refine kc ?_ | refine kd ?_ | exact True.intro)
end Go.Proofs.YtjanfjfccodebaaDoor
