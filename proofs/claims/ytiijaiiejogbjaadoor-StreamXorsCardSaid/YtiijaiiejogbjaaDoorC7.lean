/- Package stream: what its laws compute. -/
import Derived.Test.YtiijaiiejogbjaaDoorC6
import Derived.Test.YtiijaiiejogbjaaDoorSy3
set_option linter.unusedVariables false
set_option linter.unusedSimpArgs false
set_option maxRecDepth 10000
set_option maxHeartbeats 8000000
namespace Go.Proofs.YtiijaiiejogbjaaDoor
open Go Go.SY Go.Cha

def seqB (i : Nat) : List UInt8 := (List.range i).map fun (j : Nat) => (⟨BitVec.ofInt 8 (j : Int)⟩ : UInt8)
theorem seqB_succ (i : Nat) : seqB (i + 1) = seqB i ++ [⟨BitVec.ofInt 8 (i : Int)⟩] := by simp [seqB, List.range_succ]
theorem seqB_length (i : Nat) : (seqB i).length = i := by simp [seqB]
def nonceA : List UInt8 := [0, 0, 0, 9, 0, 0, 0, 74, 0, 0, 0, 0]
theorem blockA : (block (fit (seqB 32) 32) 1 (fit nonceA 12)).getD 0 0 = 16 ∧ (block (fit (seqB 32) 32) 1 (fit nonceA 12)).getD 1 0 = 241 ∧ (block (fit (seqB 32) 32) 1 (fit nonceA 12)).getD 2 0 = 231 ∧
    (block (fit (seqB 32) 32) 1 (fit nonceA 12)).getD 7 0 = 21 ∧ (block (fit (seqB 32) 32) 1 (fit nonceA 12)).getD 63 0 = 78 := by rw [← blockE_eq]; decide +kernel
theorem awake_ok : CtrP R 8 [] [gQuarters, gBegin4] (vb true) := by
  refine Ctr.of Tryd.func8 rfl (by kernel_rfl) rfl fun _ _ w0 => ?_
  repeat ((conv => whnf); with_reducible first | refine CondG.split ?_ | refine k1 ?_ | refine ke fun _ => ?_ | refine k2 ?_ | refine kg ?_ | refine kf ?_ | refine k3 ?_ | refine k4 ?_ | refine Same.rfl ?_ | refine k5 ?_ | refine k6 ?_ | refine k7 ?_ | refine k8 ?_ | refine k9 ?_ | refine ka ?_ | refine kb ?_ | refine kl ?_ | refine km ?_ | refine kc ?_ | refine kd ?_ | exact True.intro)
  refine LoopG.auto [] [50000, 50001] (fun i : Nat => [(1, vs (seqB i)), (4, vi i)]) (fun i => []) (fun i => i ≤ 32) (fun i => 32 - i) 0 ?_
  refine ⟨⟨by omega, ?_⟩, fun i hi => ?_⟩
  · ((repeat ((conv => whnf); with_reducible first | refine CondG.split ?_ | refine k1 ?_ | refine ke fun _ => ?_ | refine k2 ?_ | refine kg ?_ | refine kf ?_ | refine k3 ?_ | refine k4 ?_ | refine Same.rfl ?_ | refine k5 ?_ | refine k6 ?_ | refine k7 ?_ | refine k8 ?_ | refine k9 ?_ | refine ka ?_ | refine kb ?_ | refine kl ?_ | refine km ?_ | refine kc ?_ | refine kd ?_ | exact True.intro)); (repeat (refine Chk.mk rfl ?_; (repeat ((conv => whnf); with_reducible first | refine CondG.split ?_ | refine k1 ?_ | refine ke fun _ => ?_ | refine k2 ?_ | refine kg ?_ | refine kf ?_ | refine k3 ?_ | refine k4 ?_ | refine Same.rfl ?_ | refine k5 ?_ | refine k6 ?_ | refine k7 ?_ | refine k8 ?_ | refine k9 ?_ | refine ka ?_ | refine kb ?_ | refine kl ?_ | refine km ?_ | refine kc ?_ | refine kd ?_ | exact True.intro)))))
  · have hl := seqB_length i
    (repeat ((conv => whnf); with_reducible first | refine CondG.split ?_ | refine k1 ?_ | refine ke fun _ => ?_ | refine k2 ?_ | refine kg ?_ | refine kf ?_ | refine k3 ?_ | refine k4 ?_ | refine Same.rfl ?_ | refine k5 ?_ | refine k6 ?_ | refine k7 ?_ | refine k8 ?_ | refine k9 ?_ | refine ka ?_ | refine kb ?_ | refine kl ?_ | refine km ?_ | refine kc ?_ | refine kd ?_ | exact True.intro)); refine Br.by (fun g => ?_) (fun g => ?_)
    · repeat ((conv => whnf); with_reducible first | refine CondG.split ?_ | refine k1 ?_ | refine ke fun _ => ?_ | refine k2 ?_ | refine kg ?_ | refine kf ?_ | refine k3 ?_ | refine k4 ?_ | refine Same.rfl ?_ | refine k5 ?_ | refine k6 ?_ | refine k7 ?_ | refine k8 ?_ | refine k9 ?_ | refine ka ?_ | refine kb ?_ | refine kl ?_ | refine km ?_ | refine kc ?_ | refine kd ?_ | exact True.intro)
      refine ⟨i + 1, by omega, (by dsimp only; omega), ?_⟩
      repeat ((conv => whnf); with_reducible first | refine CondG.split ?_ | refine k1 ?_ | refine ke fun _ => ?_ | refine k2 ?_ | refine kg ?_ | refine kf ?_ | refine k3 ?_ | refine k4 ?_ | refine Same.rfl ?_ | refine k5 ?_ | refine k6 ?_ | refine k7 ?_ | refine k8 ?_ | refine k9 ?_ | refine ka ?_ | refine kb ?_ | refine kl ?_ | refine km ?_ | refine kc ?_ | refine kd ?_ | exact True.intro)
      refine Chk.mk (seqB_succ i).symm ?_
      repeat ((conv => whnf); with_reducible first | refine CondG.split ?_ | refine k1 ?_ | refine ke fun _ => ?_ | refine k2 ?_ | refine kg ?_ | refine kf ?_ | refine k3 ?_ | refine k4 ?_ | refine Same.rfl ?_ | refine k5 ?_ | refine k6 ?_ | refine k7 ?_ | refine k8 ?_ | refine k9 ?_ | refine ka ?_ | refine kb ?_ | refine kl ?_ | refine km ?_ | refine kc ?_ | refine kd ?_ | exact True.intro)
    · have hi2 : i = 32 := by omega
      obtain ⟨B, hB⟩ : ∃ B, B = block (fit (seqB i) 32) 1 (fit nonceA 12) := ⟨_, rfl⟩
      obtain ⟨f0, f1, f2, f7, f63⟩ := blockA
      have hf : block (fit (seqB i) 32) 1 (fit nonceA 12) = block (fit (seqB 32) 32) 1 (fit nonceA 12) := by rw [hi2]
      rw [← hf, ← hB] at f0 f1 f2 f7 f63
      have e0 : (B.getD 0 Sk.u8.dflt).toBitVec = (UInt8.ofNat 16).toBitVec := by rw [show B.getD 0 Sk.u8.dflt = 16 from f0]; rfl
      have e1 : (B.getD 1 Sk.u8.dflt).toBitVec = (UInt8.ofNat 241).toBitVec := by rw [show B.getD 1 Sk.u8.dflt = 241 from f1]; rfl
      have e2 : (B.getD 2 Sk.u8.dflt).toBitVec = (UInt8.ofNat 231).toBitVec := by rw [show B.getD 2 Sk.u8.dflt = 231 from f2]; rfl
      have e7 : (B.getD 7 Sk.u8.dflt).toBitVec = (UInt8.ofNat 21).toBitVec := by rw [show B.getD 7 Sk.u8.dflt = 21 from f7]; rfl
      have e63 : (B.getD 63 Sk.u8.dflt).toBitVec = (UInt8.ofNat 78).toBitVec := by rw [show B.getD 63 Sk.u8.dflt = 78 from f63]; rfl
      have hb := block_ok (fit (seqB i) 32) 1 (fit nonceA 12) (fit_length _ _) (fit_length _ _)
      rw [← hB] at hb
      repeat ((conv => whnf); with_reducible first | refine CondG.split ?_ | refine k1 ?_ | refine ke fun _ => ?_ | refine k2 ?_ | refine kg ?_ | refine kf ?_ | refine k3 ?_ | refine k4 ?_ | refine Same.rfl ?_ | refine k5 ?_ | refine k6 ?_ | refine k7 ?_ | refine k8 ?_ | refine k9 ?_ | refine ka ?_ | refine kb ?_ | refine kl ?_ | refine km ?_ | refine kc ?_ | refine kd ?_ | exact True.intro)
      refine CallG.p [] (keyOf_ok (seqB i)) rfl rfl ?_
      repeat ((conv => whnf); with_reducible first | refine CondG.split ?_ | refine k1 ?_ | refine ke fun _ => ?_ | refine k2 ?_ | refine kg ?_ | refine kf ?_ | refine k3 ?_ | refine k4 ?_ | refine Same.rfl ?_ | refine k5 ?_ | refine k6 ?_ | refine k7 ?_ | refine k8 ?_ | refine k9 ?_ | refine ka ?_ | refine kb ?_ | refine kl ?_ | refine km ?_ | refine kc ?_ | refine kd ?_ | exact True.intro)
      refine CallG.p [] (nonceOf_ok nonceA) rfl rfl ?_
      repeat ((conv => whnf); with_reducible first | refine CondG.split ?_ | refine k1 ?_ | refine ke fun _ => ?_ | refine k2 ?_ | refine kg ?_ | refine kf ?_ | refine k3 ?_ | refine k4 ?_ | refine Same.rfl ?_ | refine k5 ?_ | refine k6 ?_ | refine k7 ?_ | refine k8 ?_ | refine k9 ?_ | refine ka ?_ | refine kb ?_ | refine kl ?_ | refine km ?_ | refine kc ?_ | refine kd ?_ | exact True.intro)
      refine CallG.p [] hb rfl rfl ?_
      repeat ((conv => whnf); with_reducible first | refine CondG.split ?_ | refine k1 ?_ | refine ke fun _ => ?_ | refine k2 ?_ | refine kg ?_ | refine kf ?_ | refine k3 ?_ | refine k4 ?_ | refine Same.rfl ?_ | refine k5 ?_ | refine k6 ?_ | refine k7 ?_ | refine k8 ?_ | refine k9 ?_ | refine ka ?_ | refine kb ?_ | refine kl ?_ | refine km ?_ | refine kc ?_ | refine kd ?_ | exact True.intro)
      refine Fin.pure ?_
      exact Chk.mk (decide_eq_true e63) trivial
end Go.Proofs.YtiijaiiejogbjaaDoor
