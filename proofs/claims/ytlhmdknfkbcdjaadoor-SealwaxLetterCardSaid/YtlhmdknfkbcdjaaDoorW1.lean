/- Package sha: turned right, a block's words. -/
import Derived.Test.YtlhmdknfkbcdjaaDoorB
import Derived.Test.YtlhmdknfkbcdjaaDoorSy4
set_option linter.unusedVariables false
set_option linter.unusedSimpArgs false
set_option maxRecDepth 10000
namespace Go.Proofs.YtlhmdknfkbcdjaaDoor
open Go Go.SY Go.Sha

def rotG (x : BitVec 32) (k : Int) : BitVec 32 := x <<< (BitVec.ofInt 64 k &&& 31#64).toNat ||| x >>> (32#64 - (BitVec.ofInt 64 k &&& 31#64)).toNat
theorem rotateLeft (x : BitVec 32) (k : Int) : CtrP R 136 [.b (.one (.w32 x)), .b (.one (.int .i64 k))] [] (.b (.one (.w32 (rotG x k)))) := by
  refine Ctr.of Tryd.func136 rfl (by kernel_rfl) rfl fun _ _ w0 => ?_
  repeat ((conv => whnf); with_reducible first | refine CondG.split ?_ | refine k1 ?_ | refine ke fun _ => ?_ | refine k2 ?_ | refine kg ?_ | refine kf ?_ | refine k3 ?_ | refine k4 ?_ | refine kn ?_ | refine Same.rfl ?_ | refine k5 ?_ | refine k6 ?_ | refine k7 ?_ | refine k8 ?_ | refine k9 ?_ | refine ka ?_ | refine kb ?_ | refine kl ?_ | refine km ?_ | refine kc ?_ | refine kd ?_ | exact True.intro)
  refine Fin.pure ?_
  exact Chk.mk rfl trivial
theorem rotG_right : ∀ n : Nat, n < 32 → 0 < n → (BitVec.ofInt 64 (0 - (n : Int)) &&& 31#64).toNat = 32 - n ∧ (32#64 - (BitVec.ofInt 64 (0 - (n : Int)) &&& 31#64)).toNat = 32 - (32 - n) := by decide
theorem right_ok (x : BitVec 32) (n : Nat) (h0 : 0 < n) (h : n < 32) : CtrP R 117 [.b (.one (.w32 x)), .b (.one (.int .i64 n))] [] (.b (.one (.w32 (Sha.right x n)))) := by
  refine Ctr.of Tryd.func117 rfl (by kernel_rfl) rfl fun _ _ w0 => ?_
  repeat ((conv => whnf); with_reducible first | refine CondG.split ?_ | refine k1 ?_ | refine ke fun _ => ?_ | refine k2 ?_ | refine kg ?_ | refine kf ?_ | refine k3 ?_ | refine k4 ?_ | refine kn ?_ | refine Same.rfl ?_ | refine k5 ?_ | refine k6 ?_ | refine k7 ?_ | refine k8 ?_ | refine k9 ?_ | refine ka ?_ | refine kb ?_ | refine kl ?_ | refine km ?_ | refine kc ?_ | refine kd ?_ | exact True.intro)
  refine CallG.use [] (rotateLeft x (0 - (n : Int))) rfl ?_
  repeat ((conv => whnf); with_reducible first | refine CondG.split ?_ | refine k1 ?_ | refine ke fun _ => ?_ | refine k2 ?_ | refine kg ?_ | refine kf ?_ | refine k3 ?_ | refine k4 ?_ | refine kn ?_ | refine Same.rfl ?_ | refine k5 ?_ | refine k6 ?_ | refine k7 ?_ | refine k8 ?_ | refine k9 ?_ | refine ka ?_ | refine kb ?_ | refine kl ?_ | refine km ?_ | refine kc ?_ | refine kd ?_ | exact True.intro)
  rintro ⟨⟩ -
  refine ⟨rfl, ?_⟩
  refine Fin.pure ?_
  refine Chk.mk ?_ trivial
  obtain ⟨h1, h2⟩ := rotG_right n h h0
  show rotG x (0 - (n : Int)) = Sha.right x n
  unfold rotG Sha.right rotl
  rw [h1, h2]
end Go.Proofs.YtlhmdknfkbcdjaaDoor
