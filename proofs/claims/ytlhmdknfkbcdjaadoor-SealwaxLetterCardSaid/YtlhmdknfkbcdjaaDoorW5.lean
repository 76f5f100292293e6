/- Package sha: the sum. -/
import Derived.Test.YtlhmdknfkbcdjaaDoorW4
set_option linter.unusedVariables false
set_option linter.unusedSimpArgs false
set_option maxRecDepth 10000
namespace Go.Proofs.YtlhmdknfkbcdjaaDoor
open Go Go.SY Go.Sha

theorem bit_byte (n : Nat) (hn : n ≤ 1152921504606846976) (j : Nat) (hj : j < 8) :
    (⟨((BitVec.ofInt 64 (n : Int) * 8#64) >>> (56 - 8 * j)).setWidth 8⟩ : UInt8) = UInt8.ofNat (8 * n / 2 ^ (56 - 8 * j)) := by
  apply UInt8.toNat_inj.1
  rw [UInt8.toNat_ofNat']
  show (((BitVec.ofInt 64 (n : Int) * 8#64) >>> (56 - 8 * j)).setWidth 8).toNat = _
  rw [BitVec.toNat_setWidth, BitVec.toNat_ushiftRight, Nat.shiftRight_eq_div_pow, BitVec.toNat_mul, BitVec.toNat_ofInt]
  have e : ((n : Int) % ((2 ^ 64 : Nat) : Int)).toNat = n := by omega
  rw [e]
  have e2 : n * (8#64).toNat % 2 ^ 64 = 8 * n := by
    show n * 8 % 2 ^ 64 = 8 * n
    omega
  rw [e2]
theorem bits8_take (N j : Nat) (hj : j < 8) : (bits8 N).take (j + 1) = (bits8 N).take j ++ [UInt8.ofNat (N / 2 ^ (56 - 8 * j))] := by
  match j, hj with
  | 0, _ | 1, _ | 2, _ | 3, _ | 4, _ | 5, _ | 6, _ | 7, _ => rfl
theorem bits8_length (N : Nat) : (bits8 N).length = 8 := rfl
def serTo (h : List (BitVec 32)) (i : Nat) : List UInt8 := ser (h.take i) ++ List.replicate (32 - 4 * i) 0
theorem serTo_step (h : List (BitVec 32)) (hh : h.length = 8) (i : Nat) (hi : i < 8) :
    (((((serTo h i).set (4 * i) ⟨(h.getD i 0 >>> 24).setWidth 8⟩).set (4 * i + 1) ⟨(h.getD i 0 >>> 16).setWidth 8⟩).set (4 * i + 2) ⟨(h.getD i 0 >>> 8).setWidth 8⟩).set (4 * i + 3) ⟨(h.getD i 0).setWidth 8⟩) = serTo h (i + 1) := by
  match h, hh with
  | [a0, a1, a2, a3, a4, a5, a6, a7], _ =>
    match i, hi with
    | 0, _ | 1, _ | 2, _ | 3, _ | 4, _ | 5, _ | 6, _ | 7, _ => rfl
theorem ser_length (h : List (BitVec 32)) : (ser h).length = 4 * h.length := by
  induction h with
  | nil => rfl
  | cons x h ih => simp [ser] at ih ⊢; omega

def tailOf (m : List UInt8) : List UInt8 := Sha.rest m ++ [0x80] ++ pads m ++ bits8 (8 * m.length)
theorem padded_tail (m : List UInt8) (j : Nat) : (padded m).drop (64 * (m.length / 64 + j)) = (tailOf m).drop (64 * j) := by
  have e : padded m = m.take (64 * (m.length / 64)) ++ tailOf m := by
    simp only [padded, tailOf, Sha.rest, ← List.append_assoc, List.take_append_drop]
  have hl : (m.take (64 * (m.length / 64))).length = 64 * (m.length / 64) := by rw [List.length_take]; omega
  rw [e, List.drop_append, List.drop_of_length_le (by omega), List.nil_append, hl]
  congr 1; omega
theorem pads_length (m : List UInt8) : (pads m).length = (119 - m.length % 64) % 64 := by simp [pads]
theorem tail_length (m : List UInt8) : (tailOf m).length = m.length % 64 + 1 + (119 - m.length % 64) % 64 + 8 := by
  simp [tailOf, rest_length, pads_length, bits8_length]; omega
theorem padded_length (m : List UInt8) : (padded m).length = m.length + 1 + (119 - m.length % 64) % 64 + 8 := by
  simp [padded, pads_length, bits8_length]; omega
theorem chain_step {m : List UInt8} {j : Nat} (h : (padded m).drop (64 * (m.length / 64 + j)) = (tailOf m).drop (64 * j)) :
    change (chain (padded m) (m.length / 64 + j)) (List.drop 0 (List.take 64 ((tailOf m).drop (64 * j)))) = chain (padded m) (m.length / 64 + (j + 1)) := by
  show _ = chain (padded m) (m.length / 64 + j + 1)
  simp only [chain]; rw [h]; rfl
theorem sum_end (m : List UInt8) : serTo (chain (padded m) (m.length / 64 + (tailOf m).length / 64)) 8 = Sha.sum m := by
  have h1 := tail_length m
  have h2 := padded_length m
  have e : (padded m).length / 64 = m.length / 64 + (tailOf m).length / 64 := by omega
  unfold Sha.sum serTo
  rw [e, List.take_of_length_le (by rw [chain_length]; omega)]; exact List.append_nil _
theorem sum_ok (b : Nat) (m : List UInt8) (h : List (BitVec 32)) (hh : h.length = 8) (hm : m ≠ [] → h = chain m (m.length / 64)) (hsz : m.length ≤ 1152921504606846976) :
    CtrP R 39 [vp 0 b] [(0, b, .ro (st m h)), gBegin, gRound] (va [.arr .u8 32 (Sha.sum m)]) := by
  refine Ctr.of Tryd.func39 rfl (by kernel_rfl) rfl fun _ _ w0 => ?_
  have hr : (m.drop (64 * (m.length / 64))).length = m.length % 64 := rest_length m
  repeat ((conv => whnf); with_reducible first | refine CondG.split ?_ | refine k1 ?_ | refine ke fun _ => ?_ | refine k2 ?_ | refine kg ?_ | refine kf ?_ | refine k3 ?_ | refine k4 ?_ | refine kn ?_ | refine Same.rfl ?_ | refine k5 ?_ | refine k6 ?_ | refine k7 ?_ | refine k8 ?_ | refine k9 ?_ | refine ka ?_ | refine kb ?_ | refine kl ?_ | refine km ?_ | refine kc ?_ | refine kd ?_ | exact True.intro)
  refine LoopG.auto [0, 2] [0, 2, 50000, 50001] (fun x : Nat × SV => [(3, vl 14 x.2)]) (fun x => [(14, .own 5 (.sc .u8) x.2 (Sha.rest m ++ [0x80] ++ List.replicate x.1 0))]) (fun x => x.1 ≤ (119 - m.length % 64) % 64) (fun x => 64 - x.1) (0, ‹SV›) ?_
  refine ⟨⟨by omega, ?_⟩, fun ⟨i, x⟩ hi => ?_⟩
  · repeat ((conv => whnf); with_reducible first | refine CondG.split ?_ | refine k1 ?_ | refine ke fun _ => ?_ | refine k2 ?_ | refine kg ?_ | refine kf ?_ | refine k3 ?_ | refine k4 ?_ | refine kn ?_ | refine Same.rfl ?_ | refine k5 ?_ | refine k6 ?_ | refine k7 ?_ | refine k8 ?_ | refine k9 ?_ | refine ka ?_ | refine kb ?_ | refine kl ?_ | refine km ?_ | refine kc ?_ | refine kd ?_ | exact True.intro)
    refine OwnM.same (by with_reducible rfl) (List.append_nil _).symm ?_
    repeat ((conv => whnf); with_reducible first | refine CondG.split ?_ | refine k1 ?_ | refine ke fun _ => ?_ | refine k2 ?_ | refine kg ?_ | refine kf ?_ | refine k3 ?_ | refine k4 ?_ | refine kn ?_ | refine Same.rfl ?_ | refine k5 ?_ | refine k6 ?_ | refine k7 ?_ | refine k8 ?_ | refine k9 ?_ | refine ka ?_ | refine kb ?_ | refine kl ?_ | refine km ?_ | refine kc ?_ | refine kd ?_ | exact True.intro)
  · have hr2 : (Sha.rest m).length = m.length % 64 := hr
    replace hi : i ≤ (119 - m.length % 64) % 64 := hi
    (repeat ((conv => whnf); with_reducible first | refine CondG.split ?_ | refine k1 ?_ | refine ke fun _ => ?_ | refine k2 ?_ | refine kg ?_ | refine kf ?_ | refine k3 ?_ | refine k4 ?_ | refine kn ?_ | refine Same.rfl ?_ | refine k5 ?_ | refine k6 ?_ | refine k7 ?_ | refine k8 ?_ | refine k9 ?_ | refine ka ?_ | refine kb ?_ | refine kl ?_ | refine km ?_ | refine kc ?_ | refine kd ?_ | exact True.intro)); refine Br.by (fun g => ?_) (fun g => ?_)
    · have g2 : (m.length % 64 + 1 + i) % 64 ≠ 56 := by
        intro e; apply g; show Int.tmod ((List.length _ : Nat) : Int) ((64 : Nat) : Int) = _
        simp [Int.tmod, hr2] ; omega
      repeat ((conv => whnf); with_reducible first | refine CondG.split ?_ | refine k1 ?_ | refine ke fun _ => ?_ | refine k2 ?_ | refine kg ?_ | refine kf ?_ | refine k3 ?_ | refine k4 ?_ | refine kn ?_ | refine Same.rfl ?_ | refine k5 ?_ | refine k6 ?_ | refine k7 ?_ | refine k8 ?_ | refine k9 ?_ | refine ka ?_ | refine kb ?_ | refine kl ?_ | refine km ?_ | refine kc ?_ | refine kd ?_ | exact True.intro)
      refine ⟨(i + 1, ‹SV›), (by show i + 1 ≤ _; omega), (by dsimp only; omega), ?_⟩
      repeat ((conv => whnf); with_reducible first | refine k1 ?_ | refine ke fun _ => ?_ | refine k2 ?_ | refine kg ?_ | refine kf ?_ | refine k3 ?_ | refine k4 ?_ | refine kn ?_ | refine Same.rfl ?_ | refine k5 ?_ | refine k6 ?_ | refine k7 ?_ | refine k8 ?_ | refine k9 ?_ | refine ka ?_ | refine kb ?_ | refine kl ?_ | refine km ?_ | refine kc ?_ | refine kd ?_ | exact True.intro)
      refine OwnM.same (by with_reducible rfl) (by show _ ++ _ ++ List.replicate i 0 ++ [0] = _ ++ _ ++ List.replicate (i + 1) 0; rw [List.append_assoc _ _ [0], List.replicate_succ']) ?_
      repeat ((conv => whnf); with_reducible first | refine k1 ?_ | refine ke fun _ => ?_ | refine k2 ?_ | refine kg ?_ | refine kf ?_ | refine k3 ?_ | refine k4 ?_ | refine kn ?_ | refine Same.rfl ?_ | refine k5 ?_ | refine k6 ?_ | refine k7 ?_ | refine k8 ?_ | refine k9 ?_ | refine ka ?_ | refine kb ?_ | refine kl ?_ | refine km ?_ | refine kc ?_ | refine kd ?_ | exact True.intro)
    · have hi2 : i = (119 - m.length % 64) % 64 := by
        by_cases e : i = (119 - m.length % 64) % 64
        · exact e
        · exfalso; apply g; show Int.tmod ((List.length _ : Nat) : Int) ((64 : Nat) : Int) ≠ _
          simp [Int.tmod, hr2] ; omega
      subst hi2
      repeat ((conv => whnf); with_reducible first | refine CondG.split ?_ | refine k1 ?_ | refine ke fun _ => ?_ | refine k2 ?_ | refine kg ?_ | refine kf ?_ | refine k3 ?_ | refine k4 ?_ | refine kn ?_ | refine Same.rfl ?_ | refine k5 ?_ | refine k6 ?_ | refine k7 ?_ | refine k8 ?_ | refine k9 ?_ | refine ka ?_ | refine kb ?_ | refine kl ?_ | refine km ?_ | refine kc ?_ | refine kd ?_ | exact True.intro)
      refine LoopG.auto [0, 2, 4] [0, 2, 50000, 50001] (fun x : Nat × SV => [(3, vl 14 x.2), (5, vi (56 - 8 * x.1))]) (fun x => [(14, .own 5 (.sc .u8) x.2 (Sha.rest m ++ [0x80] ++ pads m ++ (bits8 (8 * m.length)).take x.1))]) (fun x => x.1 ≤ 8) (fun x => 64 - x.1) (0, x) ?_
      refine ⟨⟨by omega, ?_⟩, fun ⟨j, x⟩ hj => ?_⟩
      · repeat ((conv => whnf); with_reducible first | refine k1 ?_ | refine ke fun _ => ?_ | refine k2 ?_ | refine kg ?_ | refine kf ?_ | refine k3 ?_ | refine k4 ?_ | refine kn ?_ | refine Same.rfl ?_ | refine k5 ?_ | refine k6 ?_ | refine k7 ?_ | refine k8 ?_ | refine k9 ?_ | refine ka ?_ | refine kb ?_ | refine kl ?_ | refine km ?_ | refine kc ?_ | refine kd ?_ | exact True.intro)
        refine OwnM.same (by with_reducible rfl) (List.append_nil _).symm ?_
        repeat ((conv => whnf); with_reducible first | refine CondG.split ?_ | refine k1 ?_ | refine ke fun _ => ?_ | refine k2 ?_ | refine kg ?_ | refine kf ?_ | refine k3 ?_ | refine k4 ?_ | refine kn ?_ | refine Same.rfl ?_ | refine k5 ?_ | refine k6 ?_ | refine k7 ?_ | refine k8 ?_ | refine k9 ?_ | refine ka ?_ | refine kb ?_ | refine kl ?_ | refine km ?_ | refine kc ?_ | refine kd ?_ | exact True.intro)
      · replace hj : j ≤ 8 := hj
        have hb : (pads m).length = (119 - m.length % 64) % 64 := by simp [pads]
        have hb8 := bits8_length (8 * m.length)
        (repeat ((conv => whnf); with_reducible first | refine CondG.split ?_ | refine k1 ?_ | refine ke fun _ => ?_ | refine k2 ?_ | refine kg ?_ | refine kf ?_ | refine k3 ?_ | refine k4 ?_ | refine kn ?_ | refine Same.rfl ?_ | refine k5 ?_ | refine k6 ?_ | refine k7 ?_ | refine k8 ?_ | refine k9 ?_ | refine ka ?_ | refine kb ?_ | refine kl ?_ | refine km ?_ | refine kc ?_ | refine kd ?_ | exact True.intro)); refine Br.by (fun g => ?_) (fun g => ?_)
        · have hj2 : j < 8 := by omega
          repeat ((conv => whnf); with_reducible first | refine CondG.split ?_ | refine k1 ?_ | refine ke fun _ => ?_ | refine k2 ?_ | refine kg ?_ | refine kf ?_ | refine k3 ?_ | refine k4 ?_ | refine kn ?_ | refine Same.rfl ?_ | refine k5 ?_ | refine k6 ?_ | refine k7 ?_ | refine k8 ?_ | refine k9 ?_ | refine ka ?_ | refine kb ?_ | refine kl ?_ | refine km ?_ | refine kc ?_ | refine kd ?_ | exact True.intro)
          refine ⟨(j + 1, ‹SV›), (by show j + 1 ≤ _; omega), (by dsimp only; omega), ?_⟩
          repeat ((conv => whnf); with_reducible first | refine k1 ?_ | refine ke fun _ => ?_ | refine k2 ?_ | refine kg ?_ | refine kf ?_ | refine k3 ?_ | refine k4 ?_ | refine kn ?_ | refine Same.rfl ?_ | refine k5 ?_ | refine k6 ?_ | refine k7 ?_ | refine k8 ?_ | refine k9 ?_ | refine ka ?_ | refine kb ?_ | refine kl ?_ | refine km ?_ | refine kc ?_ | refine kd ?_ | exact True.intro)
          refine OwnM.same (by with_reducible rfl) ?_ ?_
          · show _ ++ _ ++ _ ++ _ ++ [_] = _ ++ _ ++ _ ++ List.take (j + 1) _
            rw [bits8_take _ _ hj2, List.append_assoc _ _ [_]]
            congr 2
            have e : (56 - 8 * (j : Int)).toNat = 56 - 8 * j := by omega
            exact congrArg (fun x => [x]) ((congrArg (fun k => (⟨((BitVec.ofInt 64 (m.length : Int) * 8#64) >>> k).setWidth 8⟩ : UInt8)) e).trans (bit_byte m.length hsz j hj2))
          repeat ((conv => whnf); with_reducible first | refine k1 ?_ | refine ke fun _ => ?_ | refine k2 ?_ | refine kg ?_ | refine kf ?_ | refine k3 ?_ | refine k4 ?_ | refine kn ?_ | refine Same.rfl ?_ | refine k5 ?_ | refine k6 ?_ | refine k7 ?_ | refine k8 ?_ | refine k9 ?_ | refine ka ?_ | refine kb ?_ | refine kl ?_ | refine km ?_ | refine kc ?_ | refine kd ?_ | exact True.intro)
        · have hj8 : j = 8 := by omega
          subst hj8
          have hc : chain m (m.length / 64) = chain (padded m) (m.length / 64) := by
            rw [show padded m = m ++ ([0x80] ++ pads m ++ bits8 (8 * m.length)) from by simp [padded]]
            exact (chain_append m _ _ (by omega)).symm
          have ht := tail_length m
          have htl : ∀ j, ((tailOf m).drop (64 * j)).length = (tailOf m).length - 64 * j := fun j => List.length_drop
          repeat ((conv => whnf); with_reducible first | refine k1 ?_ | refine ke fun _ => ?_ | refine k2 ?_ | refine kg ?_ | refine kf ?_ | refine k3 ?_ | refine k4 ?_ | refine kn ?_ | refine Same.rfl ?_ | refine k5 ?_ | refine k6 ?_ | refine k7 ?_ | refine k8 ?_ | refine k9 ?_ | refine ka ?_ | refine kb ?_ | refine kl ?_ | refine km ?_ | refine kc ?_ | refine kd ?_ | exact True.intro)
          refine CondG.join [0, 2, 3, 6] [0, 2, 14, 50000, 50001] (fun _ : Unit => []) (fun _ => [(6, .var 91 [.arr .u32 8 (chain m (m.length / 64))])]) (fun _ => True) () ?_
          refine ⟨CondG.split ?_, fun _ _ => ?_⟩
          · (repeat ((conv => whnf); with_reducible first | refine CondG.split ?_ | refine k1 ?_ | refine ke fun _ => ?_ | refine k2 ?_ | refine kg ?_ | refine kf ?_ | refine k3 ?_ | refine k4 ?_ | refine kn ?_ | refine Same.rfl ?_ | refine k5 ?_ | refine k6 ?_ | refine k7 ?_ | refine k8 ?_ | refine k9 ?_ | refine ka ?_ | refine kb ?_ | refine kl ?_ | refine km ?_ | refine kc ?_ | refine kd ?_ | exact True.intro)); refine Br.by (fun g => ?_) (fun g => ?_)
            · have hm0 : m = [] := by cases m with | nil => rfl | cons x l => simp at g; omega
              repeat ((conv => whnf); with_reducible first | refine CondG.split ?_ | refine k1 ?_ | refine ke fun _ => ?_ | refine k2 ?_ | refine kg ?_ | refine kf ?_ | refine k3 ?_ | refine k4 ?_ | refine kn ?_ | refine Same.rfl ?_ | refine k5 ?_ | refine k6 ?_ | refine k7 ?_ | refine k8 ?_ | refine k9 ?_ | refine ka ?_ | refine kb ?_ | refine kl ?_ | refine km ?_ | refine kc ?_ | refine kd ?_ | exact True.intro)
              refine ⟨(), trivial, ?_⟩
              subst hm0
              (repeat ((conv => whnf); with_reducible first | refine CondG.split ?_ | refine k1 ?_ | refine ke fun _ => ?_ | refine k2 ?_ | refine kg ?_ | refine kf ?_ | refine k3 ?_ | refine k4 ?_ | refine kn ?_ | refine Same.rfl ?_ | refine k5 ?_ | refine k6 ?_ | refine k7 ?_ | refine k8 ?_ | refine k9 ?_ | refine ka ?_ | refine kb ?_ | refine kl ?_ | refine km ?_ | refine kc ?_ | refine kd ?_ | exact True.intro)); refine Chk.mk rfl ?_; (repeat ((conv => whnf); with_reducible first | refine CondG.split ?_ | refine k1 ?_ | refine ke fun _ => ?_ | refine k2 ?_ | refine kg ?_ | refine kf ?_ | refine k3 ?_ | refine k4 ?_ | refine kn ?_ | refine Same.rfl ?_ | refine k5 ?_ | refine k6 ?_ | refine k7 ?_ | refine k8 ?_ | refine k9 ?_ | refine ka ?_ | refine kb ?_ | refine kl ?_ | refine km ?_ | refine kc ?_ | refine kd ?_ | exact True.intro))
            · have hm0 : m ≠ [] := by intro e; subst e; simp at g
              refine ⟨(), trivial, ?_⟩
              repeat ((conv => whnf); with_reducible first | refine k1 ?_ | refine ke fun _ => ?_ | refine k2 ?_ | refine kg ?_ | refine kf ?_ | refine k3 ?_ | refine k4 ?_ | refine kn ?_ | refine Same.rfl ?_ | refine k5 ?_ | refine k6 ?_ | refine k7 ?_ | refine k8 ?_ | refine k9 ?_ | refine ka ?_ | refine kb ?_ | refine kl ?_ | refine km ?_ | refine kc ?_ | refine kd ?_ | exact True.intro)
              refine Chk.mk (hm hm0) ?_
              repeat ((conv => whnf); with_reducible first | refine CondG.split ?_ | refine k1 ?_ | refine ke fun _ => ?_ | refine k2 ?_ | refine kg ?_ | refine kf ?_ | refine k3 ?_ | refine k4 ?_ | refine kn ?_ | refine Same.rfl ?_ | refine k5 ?_ | refine k6 ?_ | refine k7 ?_ | refine k8 ?_ | refine k9 ?_ | refine ka ?_ | refine kb ?_ | refine kl ?_ | refine km ?_ | refine kc ?_ | refine kd ?_ | exact True.intro)
          · repeat ((conv => whnf); with_reducible first | refine k1 ?_ | refine ke fun _ => ?_ | refine k2 ?_ | refine kg ?_ | refine kf ?_ | refine k3 ?_ | refine k4 ?_ | refine kn ?_ | refine Same.rfl ?_ | refine k5 ?_ | refine k6 ?_ | refine k7 ?_ | refine k8 ?_ | refine k9 ?_ | refine ka ?_ | refine kb ?_ | refine kl ?_ | refine km ?_ | refine kc ?_ | refine kd ?_ | exact True.intro)
            refine LoopG.auto [2, 6] [2, 50001] (fun x : Nat × SV => [(3, vl 14 x.2)]) (fun x => [(6, .var 91 [.arr .u32 8 (chain (padded m) (m.length / 64 + x.1))]), (14, .own 5 (.sc .u8) x.2 ((tailOf m).drop (64 * x.1)))]) (fun x => x.1 ≤ (tailOf m).length / 64) (fun x => (tailOf m).length / 64 - x.1) (0, x) ?_
            refine ⟨⟨by omega, ?_⟩, fun ⟨j, x⟩ hj => ?_⟩
            · (repeat ((conv => whnf); with_reducible first | refine k1 ?_ | refine ke fun _ => ?_ | refine k2 ?_ | refine kg ?_ | refine kf ?_ | refine k3 ?_ | refine k4 ?_ | refine kn ?_ | refine Same.rfl ?_ | refine k5 ?_ | refine k6 ?_ | refine k7 ?_ | refine k8 ?_ | refine k9 ?_ | refine ka ?_ | refine kb ?_ | refine kl ?_ | refine km ?_ | refine kc ?_ | refine kd ?_ | exact True.intro))
              refine OwnM.same (by with_reducible rfl) (by show _ = tailOf m; unfold tailOf; rfl) ?_
              (repeat ((conv => whnf); with_reducible first | refine k1 ?_ | refine ke fun _ => ?_ | refine k2 ?_ | refine kg ?_ | refine kf ?_ | refine k3 ?_ | refine k4 ?_ | refine kn ?_ | refine Same.rfl ?_ | refine k5 ?_ | refine k6 ?_ | refine k7 ?_ | refine k8 ?_ | refine k9 ?_ | refine ka ?_ | refine kb ?_ | refine kl ?_ | refine km ?_ | refine kc ?_ | refine kd ?_ | exact True.intro))
              try (refine Chk.mk hc ?_; trivial)
            · replace hj : j ≤ (tailOf m).length / 64 := hj
              have htj := htl j
              (repeat ((conv => whnf); with_reducible first | refine CondG.split ?_ | refine k1 ?_ | refine ke fun _ => ?_ | refine k2 ?_ | refine kg ?_ | refine kf ?_ | refine k3 ?_ | refine k4 ?_ | refine kn ?_ | refine Same.rfl ?_ | refine k5 ?_ | refine k6 ?_ | refine k7 ?_ | refine k8 ?_ | refine k9 ?_ | refine ka ?_ | refine kb ?_ | refine kl ?_ | refine km ?_ | refine kc ?_ | refine kd ?_ | exact True.intro)); refine Br.by (fun g => ?_) (fun g => ?_)
              · replace g : 0 < (((tailOf m).drop (64 * j)).length : Int) := g
                have hlt : 64 * j + 64 ≤ (tailOf m).length := by omega
                have hpt := padded_tail m j
                repeat ((conv => whnf); with_reducible first | refine k1 ?_ | refine ke fun _ => ?_ | refine k2 ?_ | refine kg ?_ | refine kf ?_ | refine k3 ?_ | refine k4 ?_ | refine kn ?_ | refine Same.rfl ?_ | refine k5 ?_ | refine k6 ?_ | refine k7 ?_ | refine k8 ?_ | refine k9 ?_ | refine ka ?_ | refine kb ?_ | refine kl ?_ | refine km ?_ | refine kc ?_ | refine kd ?_ | exact True.intro)
                refine Draw.tailQ 5 (by kernel_rfl) (by kernel_rfl) ?_
                repeat ((conv => whnf); with_reducible first | refine k1 ?_ | refine ke fun _ => ?_ | refine k2 ?_ | refine kg ?_ | refine kf ?_ | refine k3 ?_ | refine k4 ?_ | refine kn ?_ | refine Same.rfl ?_ | refine k5 ?_ | refine k6 ?_ | refine k7 ?_ | refine k8 ?_ | refine k9 ?_ | refine ka ?_ | refine kb ?_ | refine kl ?_ | refine km ?_ | refine kc ?_ | refine kd ?_ | exact True.intro)
                refine CallQ.eq [] (change_ok _ _ (chain_length _ _) (by show (List.drop 0 (List.take 64 ((tailOf m).drop (64 * j)))).length = 64; rw [List.drop_zero, List.length_take]; omega) ) rfl rfl ⟨change_length _ _ (chain_length _ _), trivial⟩ ?_
                repeat ((conv => whnf); with_reducible first | refine k1 ?_ | refine ke fun _ => ?_ | refine k2 ?_ | refine kg ?_ | refine kf ?_ | refine k3 ?_ | refine k4 ?_ | refine kn ?_ | refine Same.rfl ?_ | refine k5 ?_ | refine k6 ?_ | refine k7 ?_ | refine k8 ?_ | refine k9 ?_ | refine ka ?_ | refine kb ?_ | refine kl ?_ | refine km ?_ | refine kc ?_ | refine kd ?_ | exact True.intro)
                refine ⟨(j + 1, x.sub 1 64 ((tailOf m).drop (64 * j)).length), (by show j + 1 ≤ _; omega), (by dsimp only; omega), ?_⟩
                repeat ((conv => whnf); with_reducible first | refine k1 ?_ | refine ke fun _ => ?_ | refine k2 ?_ | refine kg ?_ | refine kf ?_ | refine k3 ?_ | refine k4 ?_ | refine kn ?_ | refine Same.rfl ?_ | refine k5 ?_ | refine k6 ?_ | refine k7 ?_ | refine k8 ?_ | refine k9 ?_ | refine ka ?_ | refine kb ?_ | refine kl ?_ | refine km ?_ | refine kc ?_ | refine kd ?_ | exact True.intro)
                refine Chk.mk (by first | exact chain_step hpt | exact (chain_step hpt).symm) ?_
                repeat ((conv => whnf); with_reducible first | refine k1 ?_ | refine ke fun _ => ?_ | refine k2 ?_ | refine kg ?_ | refine kf ?_ | refine k3 ?_ | refine k4 ?_ | refine kn ?_ | refine Same.rfl ?_ | refine k5 ?_ | refine k6 ?_ | refine k7 ?_ | refine k8 ?_ | refine k9 ?_ | refine ka ?_ | refine kb ?_ | refine kl ?_ | refine km ?_ | refine kc ?_ | refine kd ?_ | exact True.intro)
                refine OwnM.part 64 ((tailOf m).drop (64 * j)).length (by with_reducible rfl) ⟨by omega, Nat.le_refl _⟩ ?_ ?_
                · show (tailOf m).drop (64 * (j + 1)) = (((tailOf m).drop (64 * j)).take _).drop 64
                  rw [List.take_length, List.drop_drop]; congr 1
                repeat ((conv => whnf); with_reducible first | refine k1 ?_ | refine ke fun _ => ?_ | refine k2 ?_ | refine kg ?_ | refine kf ?_ | refine k3 ?_ | refine k4 ?_ | refine kn ?_ | refine Same.rfl ?_ | refine k5 ?_ | refine k6 ?_ | refine k7 ?_ | refine k8 ?_ | refine k9 ?_ | refine ka ?_ | refine kb ?_ | refine kl ?_ | refine km ?_ | refine kc ?_ | refine kd ?_ | exact True.intro)
              · replace g : ¬ 0 < (((tailOf m).drop (64 * j)).length : Int) := g
                have hjj : j = (tailOf m).length / 64 := by omega
                subst hjj
                repeat ((conv => whnf); with_reducible first | refine k1 ?_ | refine ke fun _ => ?_ | refine k2 ?_ | refine kg ?_ | refine kf ?_ | refine k3 ?_ | refine k4 ?_ | refine kn ?_ | refine Same.rfl ?_ | refine k5 ?_ | refine k6 ?_ | refine k7 ?_ | refine k8 ?_ | refine k9 ?_ | refine ka ?_ | refine kb ?_ | refine kl ?_ | refine km ?_ | refine kc ?_ | refine kd ?_ | exact True.intro)
                refine LoopG.auto [2, 61, 7] [2] (fun i : Nat => [(62, vi i)]) (fun i => [(7, .var 24 [.arr .u8 32 (serTo (chain (padded m) (m.length / 64 + (tailOf m).length / 64)) i)])]) (fun i => i ≤ 8) (fun i => 8 - i) 0 ?_
                refine ⟨⟨by omega, ?_⟩, fun i hi => ?_⟩
                · repeat ((conv => whnf); with_reducible first | refine k1 ?_ | refine ke fun _ => ?_ | refine k2 ?_ | refine kg ?_ | refine kf ?_ | refine k3 ?_ | refine k4 ?_ | refine kn ?_ | refine Same.rfl ?_ | refine k5 ?_ | refine k6 ?_ | refine k7 ?_ | refine k8 ?_ | refine k9 ?_ | refine ka ?_ | refine kb ?_ | refine kl ?_ | refine km ?_ | refine kc ?_ | refine kd ?_ | exact True.intro)
                  refine Chk.mk rfl ?_
                  repeat ((conv => whnf); with_reducible first | refine k1 ?_ | refine ke fun _ => ?_ | refine k2 ?_ | refine kg ?_ | refine kf ?_ | refine k3 ?_ | refine k4 ?_ | refine kn ?_ | refine Same.rfl ?_ | refine k5 ?_ | refine k6 ?_ | refine k7 ?_ | refine k8 ?_ | refine k9 ?_ | refine ka ?_ | refine kb ?_ | refine kl ?_ | refine km ?_ | refine kc ?_ | refine kd ?_ | exact True.intro)
                · (repeat ((conv => whnf); with_reducible first | refine CondG.split ?_ | refine k1 ?_ | refine ke fun _ => ?_ | refine k2 ?_ | refine kg ?_ | refine kf ?_ | refine k3 ?_ | refine k4 ?_ | refine kn ?_ | refine Same.rfl ?_ | refine k5 ?_ | refine k6 ?_ | refine k7 ?_ | refine k8 ?_ | refine k9 ?_ | refine ka ?_ | refine kb ?_ | refine kl ?_ | refine km ?_ | refine kc ?_ | refine kd ?_ | exact True.intro)); refine Br.by (fun g => ?_) (fun g => ?_)
                  · repeat ((conv => whnf); with_reducible first | refine k1 ?_ | refine ke fun _ => ?_ | refine k2 ?_ | refine kg ?_ | refine kf ?_ | refine k3 ?_ | refine k4 ?_ | refine kn ?_ | refine Same.rfl ?_ | refine k5 ?_ | refine k6 ?_ | refine k7 ?_ | refine k8 ?_ | refine k9 ?_ | refine ka ?_ | refine kb ?_ | refine kl ?_ | refine km ?_ | refine kc ?_ | refine kd ?_ | exact True.intro)
                    refine ⟨i + 1, (by omega), (by dsimp only; omega), ?_⟩
                    (repeat ((conv => whnf); with_reducible first | refine k1 ?_ | refine ke fun _ => ?_ | refine k2 ?_ | refine kg ?_ | refine kf ?_ | refine k3 ?_ | refine k4 ?_ | refine kn ?_ | refine Same.rfl ?_ | refine k5 ?_ | refine k6 ?_ | refine k7 ?_ | refine k8 ?_ | refine k9 ?_ | refine ka ?_ | refine kb ?_ | refine kl ?_ | refine km ?_ | refine kc ?_ | refine kd ?_ | exact True.intro))
                    refine Chk.mk (by first | exact serTo_step _ (chain_length _ _) i (by omega) | exact (serTo_step _ (chain_length _ _) i (by omega)).symm) ?_
                    (repeat ((conv => whnf); with_reducible first | refine k1 ?_ | refine ke fun _ => ?_ | refine k2 ?_ | refine kg ?_ | refine kf ?_ | refine k3 ?_ | refine k4 ?_ | refine kn ?_ | refine Same.rfl ?_ | refine k5 ?_ | refine k6 ?_ | refine k7 ?_ | refine k8 ?_ | refine k9 ?_ | refine ka ?_ | refine kb ?_ | refine kl ?_ | refine km ?_ | refine kc ?_ | refine kd ?_ | exact True.intro))
                  · have hi8 : i = 8 := by omega
                    subst hi8
                    repeat ((conv => whnf); with_reducible first | refine k1 ?_ | refine ke fun _ => ?_ | refine k2 ?_ | refine kg ?_ | refine kf ?_ | refine k3 ?_ | refine k4 ?_ | refine kn ?_ | refine Same.rfl ?_ | refine k5 ?_ | refine k6 ?_ | refine k7 ?_ | refine k8 ?_ | refine k9 ?_ | refine ka ?_ | refine kb ?_ | refine kl ?_ | refine km ?_ | refine kc ?_ | refine kd ?_ | exact True.intro)
                    refine Fin.mk' () trivial ?_
                    repeat ((conv => whnf); with_reducible first | refine k1 ?_ | refine ke fun _ => ?_ | refine k2 ?_ | refine kg ?_ | refine kf ?_ | refine k3 ?_ | refine k4 ?_ | refine kn ?_ | refine Same.rfl ?_ | refine k5 ?_ | refine k6 ?_ | refine k7 ?_ | refine k8 ?_ | refine k9 ?_ | refine ka ?_ | refine kb ?_ | refine kl ?_ | refine km ?_ | refine kc ?_ | refine kd ?_ | exact True.intro)
                    refine Chk.mk (by first | exact sum_end m | exact (sum_end m).symm) ?_
                    repeat ((conv => whnf); with_reducible first | refine k1 ?_ | refine ke fun _ => ?_ | refine k2 ?_ | refine kg ?_ | refine kf ?_ | refine k3 ?_ | refine k4 ?_ | refine kn ?_ | refine Same.rfl ?_ | refine k5 ?_ | refine k6 ?_ | refine k7 ?_ | refine k8 ?_ | refine k9 ?_ | refine ka ?_ | refine kb ?_ | refine kl ?_ | refine km ?_ | refine kc ?_ | refine kd ?_ | exact True.intro)
end Go.Proofs.YtlhmdknfkbcdjaaDoor
