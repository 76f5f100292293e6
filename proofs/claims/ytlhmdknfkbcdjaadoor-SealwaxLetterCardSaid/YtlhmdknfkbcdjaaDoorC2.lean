/- Package stream: the beginning, a block. -/
import Derived.Test.YtlhmdknfkbcdjaaDoorC1
set_option linter.unusedVariables false
set_option linter.unusedSimpArgs false
set_option maxRecDepth 10000
set_option maxHeartbeats 4000000
namespace Go.Proofs.YtlhmdknfkbcdjaaDoor
open Go Go.SY Go.Cha

def fst1 (k : List UInt8) (i : Nat) : List (BitVec 32) := begin4 ++ keyW k i ++ List.replicate (12 - i) 0
def fst2 (k : List UInt8) (c : BitVec 32) (n : List UInt8) (i : Nat) : List (BitVec 32) := begin4 ++ keyW k 8 ++ [c] ++ keyW n i ++ List.replicate (3 - i) 0
theorem keyW_take (k : List UInt8) : ∀ n i, n ≤ i → (keyW k i).take n = keyW k n := by
  intro n i h
  unfold keyW
  rw [← List.map_take, List.take_range, Nat.min_eq_left h]
theorem fst1_set (k : List UInt8) (i : Nat) (hi : i < 8) : (fst1 k i).set (4 + i) (num4 k (4 * i)) = fst1 k (i + 1) := by
  obtain ⟨r, hr⟩ : ∃ r, 12 - i = r + 1 := ⟨11 - i, by omega⟩
  unfold fst1
  rw [hr, show 12 - (i + 1) = r by omega, List.set_append_right _ _ (by simp [keyW_length, begin4]; omega), keyW_succ]
  simp only [List.length_append, keyW_length, show begin4.length = 4 from rfl, Nat.sub_self, List.replicate_succ, List.set_cons_zero, List.append_assoc]
  rfl
theorem fst2_set (k : List UInt8) (c : BitVec 32) (n : List UInt8) (i : Nat) (hi : i < 3) : (fst2 k c n i).set (13 + i) (num4 n (4 * i)) = fst2 k c n (i + 1) := by
  obtain ⟨r, hr⟩ : ∃ r, 3 - i = r + 1 := ⟨2 - i, by omega⟩
  unfold fst2
  rw [hr, show 3 - (i + 1) = r by omega, List.set_append_right _ _ (by simp [keyW_length, begin4]; omega), keyW_succ n i]
  simp only [List.length_append, keyW_length, show begin4.length = 4 from rfl, List.length_cons, List.length_nil, List.replicate_succ, List.append_assoc]
  rw [show 13 + i - (4 + (8 + (0 + 1 + i))) = 0 by omega, List.set_cons_zero]; rfl
theorem fst_mid (k : List UInt8) (c : BitVec 32) (n : List UInt8) : (fst1 k 8).set 12 c = fst2 k c n 0 := by
  unfold fst1 fst2
  rw [List.set_append_right _ _ (by simp [keyW_length, begin4])]
  simp only [List.length_append, keyW_length, show begin4.length = 4 from rfl]
  show begin4 ++ keyW k 8 ++ [c, 0, 0, 0] = begin4 ++ keyW k 8 ++ [c] ++ keyW n 0 ++ [0, 0, 0]
  simp [keyW]
theorem fst1_length (k : List UInt8) (i : Nat) (hi : i ≤ 8) : (fst1 k i).length = 16 := by simp [fst1, keyW_length, begin4]; omega
theorem fst2_length (k : List UInt8) (c : BitVec 32) (n : List UInt8) (i : Nat) (hi : i ≤ 3) : (fst2 k c n i).length = 16 := by simp [fst2, keyW_length, begin4]; omega
theorem first_ok (k : List UInt8) (c : BitVec 32) (n : List UInt8) (hk : k.length = 32) (hn : n.length = 12) :
    CtrP R 120 [va [.arr .u8 32 k], v32 c, va [.arr .u8 12 n]] [gBegin4] (va [.arr .u32 16 (beg k c n)]) := by
  refine Ctr.of Tryd.func120 rfl (by kernel_rfl) rfl fun _ _ w0 => ?_
  repeat ((conv => whnf); with_reducible first | refine CondG.split ?_ | refine k1 ?_ | refine ke fun _ => ?_ | refine k2 ?_ | refine kg ?_ | refine kf ?_ | refine k3 ?_ | refine k4 ?_ | refine kn ?_ | refine Same.rfl ?_ | refine k5 ?_ | refine k6 ?_ | refine k7 ?_ | refine k8 ?_ | refine k9 ?_ | refine ka ?_ | refine kb ?_ | refine kl ?_ | refine km ?_ | refine kc ?_ | refine kd ?_ | exact True.intro)
  rename_i b3 b5 b6 b7
  refine Draw.tailQ 2 (by kernel_rfl) (by kernel_rfl) ?_
  repeat ((conv => whnf); with_reducible first | refine CondG.split ?_ | refine k1 ?_ | refine ke fun _ => ?_ | refine k2 ?_ | refine kg ?_ | refine kf ?_ | refine k3 ?_ | refine k4 ?_ | refine kn ?_ | refine Same.rfl ?_ | refine k5 ?_ | refine k6 ?_ | refine k7 ?_ | refine k8 ?_ | refine k9 ?_ | refine ka ?_ | refine kb ?_ | refine kl ?_ | refine km ?_ | refine kc ?_ | refine kd ?_ | exact True.intro)
  refine LoopG.auto [1, 3, 5, 6, 7] [3, 5, 6] (fun i : Nat => [(13, vi i)]) (fun i => [(7, .var 199 [.arr .u32 16 (fst1 k i)])]) (fun i => i ≤ 8) (fun i => 8 - i) 0 ?_
  refine ⟨⟨by omega, ?_⟩, fun i hi => ?_⟩
  · repeat ((conv => whnf); with_reducible first | refine CondG.split ?_ | refine k1 ?_ | refine ke fun _ => ?_ | refine k2 ?_ | refine kg ?_ | refine kf ?_ | refine k3 ?_ | refine k4 ?_ | refine kn ?_ | refine Same.rfl ?_ | refine k5 ?_ | refine k6 ?_ | refine k7 ?_ | refine k8 ?_ | refine k9 ?_ | refine ka ?_ | refine kb ?_ | refine kl ?_ | refine km ?_ | refine kc ?_ | refine kd ?_ | exact True.intro)
    refine Chk.mk (by kernel_rfl) ?_
    repeat ((conv => whnf); with_reducible first | refine CondG.split ?_ | refine k1 ?_ | refine ke fun _ => ?_ | refine k2 ?_ | refine kg ?_ | refine kf ?_ | refine k3 ?_ | refine k4 ?_ | refine kn ?_ | refine Same.rfl ?_ | refine k5 ?_ | refine k6 ?_ | refine k7 ?_ | refine k8 ?_ | refine k9 ?_ | refine ka ?_ | refine kb ?_ | refine kl ?_ | refine km ?_ | refine kc ?_ | refine kd ?_ | exact True.intro)
  · have hf := fst1_length k i hi
    (repeat ((conv => whnf); with_reducible first | refine CondG.split ?_ | refine k1 ?_ | refine ke fun _ => ?_ | refine k2 ?_ | refine kg ?_ | refine kf ?_ | refine k3 ?_ | refine k4 ?_ | refine kn ?_ | refine Same.rfl ?_ | refine k5 ?_ | refine k6 ?_ | refine k7 ?_ | refine k8 ?_ | refine k9 ?_ | refine ka ?_ | refine kb ?_ | refine kl ?_ | refine km ?_ | refine kc ?_ | refine kd ?_ | exact True.intro)); refine Br.by (fun g => ?_) (fun g => ?_)
    · have hi2 : i < 8 := by omega
      have e4 : (4 * (i : Int)).toNat = 4 * i := by omega
      have e5 : (4 + (i : Int)).toNat = 4 + i := by omega
      repeat ((conv => whnf); with_reducible first | refine CondG.split ?_ | refine k1 ?_ | refine ke fun _ => ?_ | refine k2 ?_ | refine kg ?_ | refine kf ?_ | refine k3 ?_ | refine k4 ?_ | refine kn ?_ | refine Same.rfl ?_ | refine k5 ?_ | refine k6 ?_ | refine k7 ?_ | refine k8 ?_ | refine k9 ?_ | refine ka ?_ | refine kb ?_ | refine kl ?_ | refine km ?_ | refine kc ?_ | refine kd ?_ | exact True.intro)
      refine CallG.p [(0, 3)] (number_ok b3 _ (4 * (i : Int)).toNat _ 0 32 k hk (by omega) rfl rfl) rfl rfl ?_
      repeat ((conv => whnf); with_reducible first | refine CondG.split ?_ | refine k1 ?_ | refine ke fun _ => ?_ | refine k2 ?_ | refine kg ?_ | refine kf ?_ | refine k3 ?_ | refine k4 ?_ | refine kn ?_ | refine Same.rfl ?_ | refine k5 ?_ | refine k6 ?_ | refine k7 ?_ | refine k8 ?_ | refine k9 ?_ | refine ka ?_ | refine kb ?_ | refine kl ?_ | refine km ?_ | refine kc ?_ | refine kd ?_ | exact True.intro)
      refine ⟨i + 1, by omega, (by dsimp only; omega), ?_⟩
      repeat ((conv => whnf); with_reducible first | refine CondG.split ?_ | refine k1 ?_ | refine ke fun _ => ?_ | refine k2 ?_ | refine kg ?_ | refine kf ?_ | refine k3 ?_ | refine k4 ?_ | refine kn ?_ | refine Same.rfl ?_ | refine k5 ?_ | refine k6 ?_ | refine k7 ?_ | refine k8 ?_ | refine k9 ?_ | refine ka ?_ | refine kb ?_ | refine kl ?_ | refine km ?_ | refine kc ?_ | refine kd ?_ | exact True.intro)
      refine Chk.mk (by rw [e4, e5]; exact fst1_set k i hi2) ?_
      repeat ((conv => whnf); with_reducible first | refine CondG.split ?_ | refine k1 ?_ | refine ke fun _ => ?_ | refine k2 ?_ | refine kg ?_ | refine kf ?_ | refine k3 ?_ | refine k4 ?_ | refine kn ?_ | refine Same.rfl ?_ | refine k5 ?_ | refine k6 ?_ | refine k7 ?_ | refine k8 ?_ | refine k9 ?_ | refine ka ?_ | refine kb ?_ | refine kl ?_ | refine km ?_ | refine kc ?_ | refine kd ?_ | exact True.intro)
    · obtain rfl : i = 8 := by omega
      repeat ((conv => whnf); with_reducible first | refine CondG.split ?_ | refine k1 ?_ | refine ke fun _ => ?_ | refine k2 ?_ | refine kg ?_ | refine kf ?_ | refine k3 ?_ | refine k4 ?_ | refine kn ?_ | refine Same.rfl ?_ | refine k5 ?_ | refine k6 ?_ | refine k7 ?_ | refine k8 ?_ | refine k9 ?_ | refine ka ?_ | refine kb ?_ | refine kl ?_ | refine km ?_ | refine kc ?_ | refine kd ?_ | exact True.intro)
      refine LoopG.auto [5, 6, 7] [5, 6] (fun i : Nat => [(26, vi i)]) (fun i => [(7, .var 199 [.arr .u32 16 (fst2 k c n i)])]) (fun i => i ≤ 3) (fun i => 3 - i) 0 ?_
      refine ⟨⟨by omega, ?_⟩, fun i hi => ?_⟩
      · repeat ((conv => whnf); with_reducible first | refine CondG.split ?_ | refine k1 ?_ | refine ke fun _ => ?_ | refine k2 ?_ | refine kg ?_ | refine kf ?_ | refine k3 ?_ | refine k4 ?_ | refine kn ?_ | refine Same.rfl ?_ | refine k5 ?_ | refine k6 ?_ | refine k7 ?_ | refine k8 ?_ | refine k9 ?_ | refine ka ?_ | refine kb ?_ | refine kl ?_ | refine km ?_ | refine kc ?_ | refine kd ?_ | exact True.intro)
        refine Chk.mk (fst_mid k c n) ?_
        repeat ((conv => whnf); with_reducible first | refine CondG.split ?_ | refine k1 ?_ | refine ke fun _ => ?_ | refine k2 ?_ | refine kg ?_ | refine kf ?_ | refine k3 ?_ | refine k4 ?_ | refine kn ?_ | refine Same.rfl ?_ | refine k5 ?_ | refine k6 ?_ | refine k7 ?_ | refine k8 ?_ | refine k9 ?_ | refine ka ?_ | refine kb ?_ | refine kl ?_ | refine km ?_ | refine kc ?_ | refine kd ?_ | exact True.intro)
      · have hf := fst2_length k c n i hi
        (repeat ((conv => whnf); with_reducible first | refine CondG.split ?_ | refine k1 ?_ | refine ke fun _ => ?_ | refine k2 ?_ | refine kg ?_ | refine kf ?_ | refine k3 ?_ | refine k4 ?_ | refine kn ?_ | refine Same.rfl ?_ | refine k5 ?_ | refine k6 ?_ | refine k7 ?_ | refine k8 ?_ | refine k9 ?_ | refine ka ?_ | refine kb ?_ | refine kl ?_ | refine km ?_ | refine kc ?_ | refine kd ?_ | exact True.intro)); refine Br.by (fun g => ?_) (fun g => ?_)
        · have hi2 : i < 3 := by omega
          have e4 : (4 * (i : Int)).toNat = 4 * i := by omega
          have e5 : (13 + (i : Int)).toNat = 13 + i := by omega
          repeat ((conv => whnf); with_reducible first | refine CondG.split ?_ | refine k1 ?_ | refine ke fun _ => ?_ | refine k2 ?_ | refine kg ?_ | refine kf ?_ | refine k3 ?_ | refine k4 ?_ | refine kn ?_ | refine Same.rfl ?_ | refine k5 ?_ | refine k6 ?_ | refine k7 ?_ | refine k8 ?_ | refine k9 ?_ | refine ka ?_ | refine kb ?_ | refine kl ?_ | refine km ?_ | refine kc ?_ | refine kd ?_ | exact True.intro)
          refine CallG.p [(0, 5)] (number_ok b5 _ (4 * (i : Int)).toNat _ 0 12 n hn (by omega) rfl rfl) rfl rfl ?_
          repeat ((conv => whnf); with_reducible first | refine CondG.split ?_ | refine k1 ?_ | refine ke fun _ => ?_ | refine k2 ?_ | refine kg ?_ | refine kf ?_ | refine k3 ?_ | refine k4 ?_ | refine kn ?_ | refine Same.rfl ?_ | refine k5 ?_ | refine k6 ?_ | refine k7 ?_ | refine k8 ?_ | refine k9 ?_ | refine ka ?_ | refine kb ?_ | refine kl ?_ | refine km ?_ | refine kc ?_ | refine kd ?_ | exact True.intro)
          refine ⟨i + 1, by omega, (by dsimp only; omega), ?_⟩
          repeat ((conv => whnf); with_reducible first | refine CondG.split ?_ | refine k1 ?_ | refine ke fun _ => ?_ | refine k2 ?_ | refine kg ?_ | refine kf ?_ | refine k3 ?_ | refine k4 ?_ | refine kn ?_ | refine Same.rfl ?_ | refine k5 ?_ | refine k6 ?_ | refine k7 ?_ | refine k8 ?_ | refine k9 ?_ | refine ka ?_ | refine kb ?_ | refine kl ?_ | refine km ?_ | refine kc ?_ | refine kd ?_ | exact True.intro)
          refine Chk.mk (by rw [e4, e5]; exact fst2_set k c n i hi2) ?_
          repeat ((conv => whnf); with_reducible first | refine CondG.split ?_ | refine k1 ?_ | refine ke fun _ => ?_ | refine k2 ?_ | refine kg ?_ | refine kf ?_ | refine k3 ?_ | refine k4 ?_ | refine kn ?_ | refine Same.rfl ?_ | refine k5 ?_ | refine k6 ?_ | refine k7 ?_ | refine k8 ?_ | refine k9 ?_ | refine ka ?_ | refine kb ?_ | refine kl ?_ | refine km ?_ | refine kc ?_ | refine kd ?_ | exact True.intro)
        · obtain rfl : i = 3 := by omega
          repeat ((conv => whnf); with_reducible first | refine CondG.split ?_ | refine k1 ?_ | refine ke fun _ => ?_ | refine k2 ?_ | refine kg ?_ | refine kf ?_ | refine k3 ?_ | refine k4 ?_ | refine kn ?_ | refine Same.rfl ?_ | refine k5 ?_ | refine k6 ?_ | refine k7 ?_ | refine k8 ?_ | refine k9 ?_ | refine ka ?_ | refine kb ?_ | refine kl ?_ | refine km ?_ | refine kc ?_ | refine kd ?_ | exact True.intro)
          refine Fin.pure ?_
          repeat ((conv => whnf); with_reducible first | refine CondG.split ?_ | refine k1 ?_ | refine ke fun _ => ?_ | refine k2 ?_ | refine kg ?_ | refine kf ?_ | refine k3 ?_ | refine k4 ?_ | refine kn ?_ | refine Same.rfl ?_ | refine k5 ?_ | refine k6 ?_ | refine k7 ?_ | refine k8 ?_ | refine k9 ?_ | refine ka ?_ | refine kb ?_ | refine kl ?_ | refine km ?_ | refine kc ?_ | refine kd ?_ | exact True.intro)
          refine Chk.mk (by unfold fst2 beg; exact List.append_nil _) ?_
          repeat ((conv => whnf); with_reducible first | refine CondG.split ?_ | refine k1 ?_ | refine ke fun _ => ?_ | refine k2 ?_ | refine kg ?_ | refine kf ?_ | refine k3 ?_ | refine k4 ?_ | refine kn ?_ | refine Same.rfl ?_ | refine k5 ?_ | refine k6 ?_ | refine k7 ?_ | refine k8 ?_ | refine k9 ?_ | refine ka ?_ | refine kb ?_ | refine kl ?_ | refine km ?_ | refine kc ?_ | refine kd ?_ | exact True.intro)
def outTo (y x : List (BitVec 32)) (i : Nat) : List UInt8 := serial y x i ++ List.replicate (64 - 4 * i) 0
theorem set4 {α : Type} (S : List α) (z : α) (r n : Nat) (hn : S.length = n) (a b c d : α) : ((((S ++ List.replicate (r + 4) z).set n a).set (n + 1) b).set (n + 2) c).set (n + 3) d = S ++ [a, b, c, d] ++ List.replicate r z := by
  subst hn
  rw [List.set_append_right _ _ (Nat.le_refl _), List.set_append_right _ _ (by omega), List.set_append_right _ _ (by omega), List.set_append_right _ _ (by omega)]
  simp only [Nat.sub_self, Nat.add_sub_cancel_left, List.append_assoc]
  rfl
theorem outTo_set (y x : List (BitVec 32)) (i : Nat) (hi : i < 16) (v : BitVec 32) (hv : v = y.getD i 0 + x.getD i 0) :
    ((((outTo y x i).set (4 * i) ⟨v.setWidth 8⟩).set (4 * i + 1) ⟨(v >>> 8).setWidth 8⟩).set (4 * i + 2) ⟨(v >>> 16).setWidth 8⟩).set (4 * i + 3) ⟨(v >>> 24).setWidth 8⟩ = outTo y x (i + 1) := by
  obtain ⟨r, hr⟩ : ∃ r, 64 - 4 * i = r + 4 := ⟨60 - 4 * i, by omega⟩
  unfold outTo
  rw [hr, set4 _ _ _ _ (serial_length y x i), show 64 - 4 * (i + 1) = r by omega, serial_succ, ← hv]
  rfl
theorem outTo_length (y x : List (BitVec 32)) (i : Nat) (hi : i ≤ 16) : (outTo y x i).length = 64 := by unfold outTo; rw [List.length_append, serial_length, List.length_replicate]; omega
theorem block_ok (k : List UInt8) (c : BitVec 32) (n : List UInt8) (hk : k.length = 32) (hn : n.length = 12) :
    CtrP R 88 [va [.arr .u8 32 k], v32 c, va [.arr .u8 12 n]] [gQuarters, gBegin4] (va [.arr .u8 64 (block k c n)]) := by
  refine Ctr.of Tryd.func88 rfl (by kernel_rfl) rfl fun _ _ w0 => ?_
  have hs := beg_length k c n
  repeat ((conv => whnf); with_reducible first | refine CondG.split ?_ | refine k1 ?_ | refine ke fun _ => ?_ | refine k2 ?_ | refine kg ?_ | refine kf ?_ | refine k3 ?_ | refine k4 ?_ | refine kn ?_ | refine Same.rfl ?_ | refine k5 ?_ | refine k6 ?_ | refine k7 ?_ | refine k8 ?_ | refine k9 ?_ | refine ka ?_ | refine kb ?_ | refine kl ?_ | refine km ?_ | refine kc ?_ | refine kd ?_ | exact True.intro)
  refine CallG.p [] (first_ok k c n hk hn) rfl rfl ?_
  repeat ((conv => whnf); with_reducible first | refine CondG.split ?_ | refine k1 ?_ | refine ke fun _ => ?_ | refine k2 ?_ | refine kg ?_ | refine kf ?_ | refine k3 ?_ | refine k4 ?_ | refine kn ?_ | refine Same.rfl ?_ | refine k5 ?_ | refine k6 ?_ | refine k7 ?_ | refine k8 ?_ | refine k9 ?_ | refine ka ?_ | refine kb ?_ | refine kl ?_ | refine km ?_ | refine kc ?_ | refine kd ?_ | exact True.intro)
  refine LoopG.auto [6, 7, 8] [6, 7, 50002] (fun i : Nat => [(19, vi i)]) (fun i => [(8, .var 199 [.arr .u32 16 (rounds (beg k c n) i)])]) (fun i => i ≤ 10) (fun i => 10 - i) 0 ?_
  refine ⟨⟨by omega, ?_⟩, fun i hi => ?_⟩
  · ((repeat ((conv => whnf); with_reducible first | refine CondG.split ?_ | refine k1 ?_ | refine ke fun _ => ?_ | refine k2 ?_ | refine kg ?_ | refine kf ?_ | refine k3 ?_ | refine k4 ?_ | refine kn ?_ | refine Same.rfl ?_ | refine k5 ?_ | refine k6 ?_ | refine k7 ?_ | refine k8 ?_ | refine k9 ?_ | refine ka ?_ | refine kb ?_ | refine kl ?_ | refine km ?_ | refine kc ?_ | refine kd ?_ | exact True.intro)); (repeat (refine Chk.mk rfl ?_; (repeat ((conv => whnf); with_reducible first | refine CondG.split ?_ | refine k1 ?_ | refine ke fun _ => ?_ | refine k2 ?_ | refine kg ?_ | refine kf ?_ | refine k3 ?_ | refine k4 ?_ | refine kn ?_ | refine Same.rfl ?_ | refine k5 ?_ | refine k6 ?_ | refine k7 ?_ | refine k8 ?_ | refine k9 ?_ | refine ka ?_ | refine kb ?_ | refine kl ?_ | refine km ?_ | refine kc ?_ | refine kd ?_ | exact True.intro)))))
  · (repeat ((conv => whnf); with_reducible first | refine CondG.split ?_ | refine k1 ?_ | refine ke fun _ => ?_ | refine k2 ?_ | refine kg ?_ | refine kf ?_ | refine k3 ?_ | refine k4 ?_ | refine kn ?_ | refine Same.rfl ?_ | refine k5 ?_ | refine k6 ?_ | refine k7 ?_ | refine k8 ?_ | refine k9 ?_ | refine ka ?_ | refine kb ?_ | refine kl ?_ | refine km ?_ | refine kc ?_ | refine kd ?_ | exact True.intro)); refine Br.by (fun g => ?_) (fun g => ?_)
    · have hi2 : i < 10 := by omega
      repeat ((conv => whnf); with_reducible first | refine CondG.split ?_ | refine k1 ?_ | refine ke fun _ => ?_ | refine k2 ?_ | refine kg ?_ | refine kf ?_ | refine k3 ?_ | refine k4 ?_ | refine kn ?_ | refine Same.rfl ?_ | refine k5 ?_ | refine k6 ?_ | refine k7 ?_ | refine k8 ?_ | refine k9 ?_ | refine ka ?_ | refine kb ?_ | refine kl ?_ | refine km ?_ | refine kc ?_ | refine kd ?_ | exact True.intro)
      refine LoopG.auto [6, 7, 8, 19, 21] [6, 7, 50002] (fun j : Nat => [(22, vi j)]) (fun j => [(8, .var 199 [.arr .u32 16 (Cha.part (rounds (beg k c n) i) j)])]) (fun j => j ≤ 8) (fun j => 8 - j) 0 ?_
      refine ⟨⟨by omega, ?_⟩, fun j hj => ?_⟩
      · ((repeat ((conv => whnf); with_reducible first | refine CondG.split ?_ | refine k1 ?_ | refine ke fun _ => ?_ | refine k2 ?_ | refine kg ?_ | refine kf ?_ | refine k3 ?_ | refine k4 ?_ | refine kn ?_ | refine Same.rfl ?_ | refine k5 ?_ | refine k6 ?_ | refine k7 ?_ | refine k8 ?_ | refine k9 ?_ | refine ka ?_ | refine kb ?_ | refine kl ?_ | refine km ?_ | refine kc ?_ | refine kd ?_ | exact True.intro)); (repeat (refine Chk.mk rfl ?_; (repeat ((conv => whnf); with_reducible first | refine CondG.split ?_ | refine k1 ?_ | refine ke fun _ => ?_ | refine k2 ?_ | refine kg ?_ | refine kf ?_ | refine k3 ?_ | refine k4 ?_ | refine kn ?_ | refine Same.rfl ?_ | refine k5 ?_ | refine k6 ?_ | refine k7 ?_ | refine k8 ?_ | refine k9 ?_ | refine ka ?_ | refine kb ?_ | refine kl ?_ | refine km ?_ | refine kc ?_ | refine kd ?_ | exact True.intro)))))
      · (repeat ((conv => whnf); with_reducible first | refine CondG.split ?_ | refine k1 ?_ | refine ke fun _ => ?_ | refine k2 ?_ | refine kg ?_ | refine kf ?_ | refine k3 ?_ | refine k4 ?_ | refine kn ?_ | refine Same.rfl ?_ | refine k5 ?_ | refine k6 ?_ | refine k7 ?_ | refine k8 ?_ | refine k9 ?_ | refine ka ?_ | refine kb ?_ | refine kl ?_ | refine km ?_ | refine kc ?_ | refine kd ?_ | exact True.intro)); refine Br.by (fun g => ?_) (fun g => ?_)
        · have hj2 : j < 8 := by omega
          obtain ⟨hq1, hq2⟩ := quarters_at j hj2
          repeat ((conv => whnf); with_reducible first | refine CondG.split ?_ | refine k1 ?_ | refine ke fun _ => ?_ | refine k2 ?_ | refine kg ?_ | refine kf ?_ | refine k3 ?_ | refine k4 ?_ | refine kn ?_ | refine Same.rfl ?_ | refine k5 ?_ | refine k6 ?_ | refine k7 ?_ | refine k8 ?_ | refine k9 ?_ | refine ka ?_ | refine kb ?_ | refine kl ?_ | refine km ?_ | refine kc ?_ | refine kd ?_ | exact True.intro)
          refine CallG.one [(0, 8)] (quarter_q _ (Cha.part (rounds (beg k c n) i) j) _ _ hq1 (by rw [part_length, rounds_length, hs]) hq2) rfl rfl ?_
          ((repeat ((conv => whnf); with_reducible first | refine CondG.split ?_ | refine k1 ?_ | refine ke fun _ => ?_ | refine k2 ?_ | refine kg ?_ | refine kf ?_ | refine k3 ?_ | refine k4 ?_ | refine kn ?_ | refine Same.rfl ?_ | refine k5 ?_ | refine k6 ?_ | refine k7 ?_ | refine k8 ?_ | refine k9 ?_ | refine ka ?_ | refine kb ?_ | refine kl ?_ | refine km ?_ | refine kc ?_ | refine kd ?_ | exact True.intro)); (repeat (refine Chk.mk rfl ?_; (repeat ((conv => whnf); with_reducible first | refine CondG.split ?_ | refine k1 ?_ | refine ke fun _ => ?_ | refine k2 ?_ | refine kg ?_ | refine kf ?_ | refine k3 ?_ | refine k4 ?_ | refine kn ?_ | refine Same.rfl ?_ | refine k5 ?_ | refine k6 ?_ | refine k7 ?_ | refine k8 ?_ | refine k9 ?_ | refine ka ?_ | refine kb ?_ | refine kl ?_ | refine km ?_ | refine kc ?_ | refine kd ?_ | exact True.intro)))))
          refine ⟨j + 1, by omega, (by dsimp only; omega), ?_⟩
          repeat ((conv => whnf); with_reducible first | refine CondG.split ?_ | refine k1 ?_ | refine ke fun _ => ?_ | refine k2 ?_ | refine kg ?_ | refine kf ?_ | refine k3 ?_ | refine k4 ?_ | refine kn ?_ | refine Same.rfl ?_ | refine k5 ?_ | refine k6 ?_ | refine k7 ?_ | refine k8 ?_ | refine k9 ?_ | refine ka ?_ | refine kb ?_ | refine kl ?_ | refine km ?_ | refine kc ?_ | refine kd ?_ | exact True.intro)
          refine Chk.mk rfl ?_
          repeat ((conv => whnf); with_reducible first | refine CondG.split ?_ | refine k1 ?_ | refine ke fun _ => ?_ | refine k2 ?_ | refine kg ?_ | refine kf ?_ | refine k3 ?_ | refine k4 ?_ | refine kn ?_ | refine Same.rfl ?_ | refine k5 ?_ | refine k6 ?_ | refine k7 ?_ | refine k8 ?_ | refine k9 ?_ | refine ka ?_ | refine kb ?_ | refine kl ?_ | refine km ?_ | refine kc ?_ | refine kd ?_ | exact True.intro)
        · obtain rfl : j = 8 := by omega
          repeat ((conv => whnf); with_reducible first | refine CondG.split ?_ | refine k1 ?_ | refine ke fun _ => ?_ | refine k2 ?_ | refine kg ?_ | refine kf ?_ | refine k3 ?_ | refine k4 ?_ | refine kn ?_ | refine Same.rfl ?_ | refine k5 ?_ | refine k6 ?_ | refine k7 ?_ | refine k8 ?_ | refine k9 ?_ | refine ka ?_ | refine kb ?_ | refine kl ?_ | refine km ?_ | refine kc ?_ | refine kd ?_ | exact True.intro)
          refine ⟨i + 1, by omega, (by dsimp only; omega), ?_⟩
          ((repeat ((conv => whnf); with_reducible first | refine CondG.split ?_ | refine k1 ?_ | refine ke fun _ => ?_ | refine k2 ?_ | refine kg ?_ | refine kf ?_ | refine k3 ?_ | refine k4 ?_ | refine kn ?_ | refine Same.rfl ?_ | refine k5 ?_ | refine k6 ?_ | refine k7 ?_ | refine k8 ?_ | refine k9 ?_ | refine ka ?_ | refine kb ?_ | refine kl ?_ | refine km ?_ | refine kc ?_ | refine kd ?_ | exact True.intro)); (repeat (refine Chk.mk rfl ?_; (repeat ((conv => whnf); with_reducible first | refine CondG.split ?_ | refine k1 ?_ | refine ke fun _ => ?_ | refine k2 ?_ | refine kg ?_ | refine kf ?_ | refine k3 ?_ | refine k4 ?_ | refine kn ?_ | refine Same.rfl ?_ | refine k5 ?_ | refine k6 ?_ | refine k7 ?_ | refine k8 ?_ | refine k9 ?_ | refine ka ?_ | refine kb ?_ | refine kl ?_ | refine km ?_ | refine kc ?_ | refine kd ?_ | exact True.intro)))))
    · have hi10 : i = 10 := by omega
      have hr := rounds_length (beg k c n) i
      rw [hs] at hr
      repeat ((conv => whnf); with_reducible first | refine CondG.split ?_ | refine k1 ?_ | refine ke fun _ => ?_ | refine k2 ?_ | refine kg ?_ | refine kf ?_ | refine k3 ?_ | refine k4 ?_ | refine kn ?_ | refine Same.rfl ?_ | refine k5 ?_ | refine k6 ?_ | refine k7 ?_ | refine k8 ?_ | refine k9 ?_ | refine ka ?_ | refine kb ?_ | refine kl ?_ | refine km ?_ | refine kc ?_ | refine kd ?_ | exact True.intro)
      refine LoopG.auto [6, 7, 8, 11] [6, 7, 8] (fun j : Nat => [(29, vi j)]) (fun j => [(11, .var 171 [.arr .u8 64 (outTo (rounds (beg k c n) i) (beg k c n) j)])]) (fun j => j ≤ 16) (fun j => 16 - j) 0 ?_
      refine ⟨⟨by omega, ?_⟩, fun j hj => ?_⟩
      · repeat ((conv => whnf); with_reducible first | refine CondG.split ?_ | refine k1 ?_ | refine ke fun _ => ?_ | refine k2 ?_ | refine kg ?_ | refine kf ?_ | refine k3 ?_ | refine k4 ?_ | refine kn ?_ | refine Same.rfl ?_ | refine k5 ?_ | refine k6 ?_ | refine k7 ?_ | refine k8 ?_ | refine k9 ?_ | refine ka ?_ | refine kb ?_ | refine kl ?_ | refine km ?_ | refine kc ?_ | refine kd ?_ | exact True.intro)
        refine Chk.mk rfl ?_
        repeat ((conv => whnf); with_reducible first | refine CondG.split ?_ | refine k1 ?_ | refine ke fun _ => ?_ | refine k2 ?_ | refine kg ?_ | refine kf ?_ | refine k3 ?_ | refine k4 ?_ | refine kn ?_ | refine Same.rfl ?_ | refine k5 ?_ | refine k6 ?_ | refine k7 ?_ | refine k8 ?_ | refine k9 ?_ | refine ka ?_ | refine kb ?_ | refine kl ?_ | refine km ?_ | refine kc ?_ | refine kd ?_ | exact True.intro)
      · have hol := outTo_length (rounds (beg k c n) i) (beg k c n) j hj
        (repeat ((conv => whnf); with_reducible first | refine CondG.split ?_ | refine k1 ?_ | refine ke fun _ => ?_ | refine k2 ?_ | refine kg ?_ | refine kf ?_ | refine k3 ?_ | refine k4 ?_ | refine kn ?_ | refine Same.rfl ?_ | refine k5 ?_ | refine k6 ?_ | refine k7 ?_ | refine k8 ?_ | refine k9 ?_ | refine ka ?_ | refine kb ?_ | refine kl ?_ | refine km ?_ | refine kc ?_ | refine kd ?_ | exact True.intro)); refine Br.by (fun g => ?_) (fun g => ?_)
        · have hj2 : j < 16 := by omega
          have e0 : (4 * (j : Int)).toNat = 4 * j := by omega
          have e1 : (4 * (j : Int) + 1).toNat = 4 * j + 1 := by omega
          have e2 : (4 * (j : Int) + 2).toNat = 4 * j + 2 := by omega
          have e3 : (4 * (j : Int) + 3).toNat = 4 * j + 3 := by omega
          repeat ((conv => whnf); with_reducible first | refine CondG.split ?_ | refine k1 ?_ | refine ke fun _ => ?_ | refine k2 ?_ | refine kg ?_ | refine kf ?_ | refine k3 ?_ | refine k4 ?_ | refine kn ?_ | refine Same.rfl ?_ | refine k5 ?_ | refine k6 ?_ | refine k7 ?_ | refine k8 ?_ | refine k9 ?_ | refine ka ?_ | refine kb ?_ | refine kl ?_ | refine km ?_ | refine kc ?_ | refine kd ?_ | exact True.intro)
          refine Draw.quiet (by kernel_rfl) (by kernel_rfl) ?_
          repeat ((conv => whnf); with_reducible first | refine CondG.split ?_ | refine k1 ?_ | refine ke fun _ => ?_ | refine k2 ?_ | refine kg ?_ | refine kf ?_ | refine k3 ?_ | refine k4 ?_ | refine kn ?_ | refine Same.rfl ?_ | refine k5 ?_ | refine k6 ?_ | refine k7 ?_ | refine k8 ?_ | refine k9 ?_ | refine ka ?_ | refine kb ?_ | refine kl ?_ | refine km ?_ | refine kc ?_ | refine kd ?_ | exact True.intro)
          refine ⟨j + 1, by omega, (by dsimp only; omega), ?_⟩
          repeat ((conv => whnf); with_reducible first | refine CondG.split ?_ | refine k1 ?_ | refine ke fun _ => ?_ | refine k2 ?_ | refine kg ?_ | refine kf ?_ | refine k3 ?_ | refine k4 ?_ | refine kn ?_ | refine Same.rfl ?_ | refine k5 ?_ | refine k6 ?_ | refine k7 ?_ | refine k8 ?_ | refine k9 ?_ | refine ka ?_ | refine kb ?_ | refine kl ?_ | refine km ?_ | refine kc ?_ | refine kd ?_ | exact True.intro)
          refine Chk.mk (by rw [e0, e1, e2, e3]; exact outTo_set _ _ j hj2 _ rfl) ?_
          repeat ((conv => whnf); with_reducible first | refine CondG.split ?_ | refine k1 ?_ | refine ke fun _ => ?_ | refine k2 ?_ | refine kg ?_ | refine kf ?_ | refine k3 ?_ | refine k4 ?_ | refine kn ?_ | refine Same.rfl ?_ | refine k5 ?_ | refine k6 ?_ | refine k7 ?_ | refine k8 ?_ | refine k9 ?_ | refine ka ?_ | refine kb ?_ | refine kl ?_ | refine km ?_ | refine kc ?_ | refine kd ?_ | exact True.intro)
        · have hj16 : j = 16 := by omega
          repeat ((conv => whnf); with_reducible first | refine CondG.split ?_ | refine k1 ?_ | refine ke fun _ => ?_ | refine k2 ?_ | refine kg ?_ | refine kf ?_ | refine k3 ?_ | refine k4 ?_ | refine kn ?_ | refine Same.rfl ?_ | refine k5 ?_ | refine k6 ?_ | refine k7 ?_ | refine k8 ?_ | refine k9 ?_ | refine ka ?_ | refine kb ?_ | refine kl ?_ | refine km ?_ | refine kc ?_ | refine kd ?_ | exact True.intro)
          refine Fin.pure ?_
          repeat ((conv => whnf); with_reducible first | refine CondG.split ?_ | refine k1 ?_ | refine ke fun _ => ?_ | refine k2 ?_ | refine kg ?_ | refine kf ?_ | refine k3 ?_ | refine k4 ?_ | refine kn ?_ | refine Same.rfl ?_ | refine k5 ?_ | refine k6 ?_ | refine k7 ?_ | refine k8 ?_ | refine k9 ?_ | refine ka ?_ | refine kb ?_ | refine kl ?_ | refine km ?_ | refine kc ?_ | refine kd ?_ | exact True.intro)
          refine Chk.mk (by subst hj16 hi10; unfold outTo block; exact List.append_nil _) ?_
          repeat ((conv => whnf); with_reducible first | refine CondG.split ?_ | refine k1 ?_ | refine ke fun _ => ?_ | refine k2 ?_ | refine kg ?_ | refine kf ?_ | refine k3 ?_ | refine k4 ?_ | refine kn ?_ | refine Same.rfl ?_ | refine k5 ?_ | refine k6 ?_ | refine k7 ?_ | refine k8 ?_ | refine k9 ?_ | refine ka ?_ | refine kb ?_ | refine kl ?_ | refine km ?_ | refine kc ?_ | refine kd ?_ | exact True.intro)
end Go.Proofs.YtlhmdknfkbcdjaaDoor
