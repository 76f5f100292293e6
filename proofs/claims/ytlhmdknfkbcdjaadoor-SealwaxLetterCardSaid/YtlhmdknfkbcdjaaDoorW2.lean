/- Package sha: a block's words. -/
import Derived.Test.YtlhmdknfkbcdjaaDoorW1
set_option linter.unusedVariables false
set_option linter.unusedSimpArgs false
set_option maxRecDepth 10000
namespace Go.Proofs.YtlhmdknfkbcdjaaDoor
open Go Go.SY Go.Sha

def wtab (b : List UInt8) (t : Nat) : List (BitVec 32) := Sha.words b t ++ List.replicate (64 - t) 0
theorem wtab_set (b : List UInt8) (t : Nat) (ht : t < 64) (x : BitVec 32) (hx : x = if t < 16 then word b t else next (Sha.words b t) t) : (wtab b t).set t x = wtab b (t + 1) := by
  subst hx
  obtain ⟨r, hr⟩ : ∃ r, 64 - t = r + 1 := ⟨63 - t, by omega⟩
  have e : 64 - (t + 1) = r := by omega
  unfold wtab
  rw [hr, e, List.replicate_succ, List.set_append_right _ _ (by rw [words_length]; omega), words_length, Nat.sub_self, List.set_cons_zero]
  simp [Sha.words]
theorem wtab_get (b : List UInt8) (t i : Nat) (h : i < t) : (wtab b t).getD i 0 = (Sha.words b t).getD i 0 := by
  simp [wtab, List.getD_eq_getElem?_getD, List.getElem?_append_left, words_length, h]
theorem words_ok (b : List UInt8) (hb : b.length = 64) : CtrP R 116 [.b (.one (.str b))] [] (.b (.agg [.arr .u32 64 (Sha.words b 64)])) := by
  refine Ctr.of Tryd.func116 rfl (by kernel_rfl) rfl fun _ _ w0 => ?_
  repeat ((conv => whnf); with_reducible first | refine CondG.split ?_ | refine k1 ?_ | refine ke fun _ => ?_ | refine k2 ?_ | refine kg ?_ | refine kf ?_ | refine k3 ?_ | refine k4 ?_ | refine kn ?_ | refine Same.rfl ?_ | refine k5 ?_ | refine k6 ?_ | refine k7 ?_ | refine k8 ?_ | refine k9 ?_ | refine ka ?_ | refine kb ?_ | refine kl ?_ | refine km ?_ | refine kc ?_ | refine kd ?_ | exact True.intro)
  refine LoopG.auto [0, 2, 3] [2] (fun t : Nat => [(7, vi t)]) (fun t => [(3, .var 194 [.arr .u32 64 (wtab b t)])]) (fun t => t ≤ 64) (fun t => 64 - t) 0 ?_
  refine ⟨⟨by omega, ?_⟩, fun t ht => ?_⟩
  · repeat ((conv => whnf); with_reducible first | refine CondG.split ?_ | refine k1 ?_ | refine ke fun _ => ?_ | refine k2 ?_ | refine kg ?_ | refine kf ?_ | refine k3 ?_ | refine k4 ?_ | refine kn ?_ | refine Same.rfl ?_ | refine k5 ?_ | refine k6 ?_ | refine k7 ?_ | refine k8 ?_ | refine k9 ?_ | refine ka ?_ | refine kb ?_ | refine kl ?_ | refine km ?_ | refine kc ?_ | refine kd ?_ | exact True.intro)
    refine Chk.mk rfl ?_
    repeat ((conv => whnf); with_reducible first | refine CondG.split ?_ | refine k1 ?_ | refine ke fun _ => ?_ | refine k2 ?_ | refine kg ?_ | refine kf ?_ | refine k3 ?_ | refine k4 ?_ | refine kn ?_ | refine Same.rfl ?_ | refine k5 ?_ | refine k6 ?_ | refine k7 ?_ | refine k8 ?_ | refine k9 ?_ | refine ka ?_ | refine kb ?_ | refine kl ?_ | refine km ?_ | refine kc ?_ | refine kd ?_ | exact True.intro)
  · (repeat ((conv => whnf); with_reducible first | refine CondG.split ?_ | refine k1 ?_ | refine ke fun _ => ?_ | refine k2 ?_ | refine kg ?_ | refine kf ?_ | refine k3 ?_ | refine k4 ?_ | refine kn ?_ | refine Same.rfl ?_ | refine k5 ?_ | refine k6 ?_ | refine k7 ?_ | refine k8 ?_ | refine k9 ?_ | refine ka ?_ | refine kb ?_ | refine kl ?_ | refine km ?_ | refine kc ?_ | refine kd ?_ | exact True.intro)); refine Br.by (fun h => ?_) (fun h => ?_)
    · have hlt : t < 64 := by omega
      repeat ((conv => whnf); with_reducible first | refine CondG.split ?_ | refine k1 ?_ | refine ke fun _ => ?_ | refine k2 ?_ | refine kg ?_ | refine kf ?_ | refine k3 ?_ | refine k4 ?_ | refine kn ?_ | refine Same.rfl ?_ | refine k5 ?_ | refine k6 ?_ | refine k7 ?_ | refine k8 ?_ | refine k9 ?_ | refine ka ?_ | refine kb ?_ | refine kl ?_ | refine km ?_ | refine kc ?_ | refine kd ?_ | exact True.intro)
      (repeat ((conv => whnf); with_reducible first | refine CondG.split ?_ | refine k1 ?_ | refine ke fun _ => ?_ | refine k2 ?_ | refine kg ?_ | refine kf ?_ | refine k3 ?_ | refine k4 ?_ | refine kn ?_ | refine Same.rfl ?_ | refine k5 ?_ | refine k6 ?_ | refine k7 ?_ | refine k8 ?_ | refine k9 ?_ | refine ka ?_ | refine kb ?_ | refine kl ?_ | refine km ?_ | refine kc ?_ | refine kd ?_ | exact True.intro)); refine Br.by (fun h16 => ?_) (fun h16 => ?_)
      · have h16' : t < 16 := by omega
        refine Draw.tailQ 30 (by kernel_rfl) (by kernel_rfl) ?_
        repeat ((conv => whnf); with_reducible first | refine CondG.split ?_ | refine k1 ?_ | refine ke fun _ => ?_ | refine k2 ?_ | refine kg ?_ | refine kf ?_ | refine k3 ?_ | refine k4 ?_ | refine kn ?_ | refine Same.rfl ?_ | refine k5 ?_ | refine k6 ?_ | refine k7 ?_ | refine k8 ?_ | refine k9 ?_ | refine ka ?_ | refine kb ?_ | refine kl ?_ | refine km ?_ | refine kc ?_ | refine kd ?_ | exact True.intro)
        refine ⟨t + 1, by omega, (by dsimp only; omega), ?_⟩
        repeat ((conv => whnf); with_reducible first | refine CondG.split ?_ | refine k1 ?_ | refine ke fun _ => ?_ | refine k2 ?_ | refine kg ?_ | refine kf ?_ | refine k3 ?_ | refine k4 ?_ | refine kn ?_ | refine Same.rfl ?_ | refine k5 ?_ | refine k6 ?_ | refine k7 ?_ | refine k8 ?_ | refine k9 ?_ | refine ka ?_ | refine kb ?_ | refine kl ?_ | refine km ?_ | refine kc ?_ | refine kd ?_ | exact True.intro)
        refine Chk.mk (wtab_set b t hlt _ (by rw [if_pos h16']; rfl)) ?_
        repeat ((conv => whnf); with_reducible first | refine CondG.split ?_ | refine k1 ?_ | refine ke fun _ => ?_ | refine k2 ?_ | refine kg ?_ | refine kf ?_ | refine k3 ?_ | refine k4 ?_ | refine kn ?_ | refine Same.rfl ?_ | refine k5 ?_ | refine k6 ?_ | refine k7 ?_ | refine k8 ?_ | refine k9 ?_ | refine ka ?_ | refine kb ?_ | refine kl ?_ | refine km ?_ | refine kc ?_ | refine kd ?_ | exact True.intro)
      · have h16' : ¬ t < 16 := by omega
        have e15 : ((t : Int) - 15).toNat = t - 15 := by omega
        have e2 : ((t : Int) - 2).toNat = t - 2 := by omega
        have e16 : ((t : Int) - 16).toNat = t - 16 := by omega
        have e7 : ((t : Int) - 7).toNat = t - 7 := by omega
        refine Draw.quiet (by kernel_rfl) (by kernel_rfl) ?_
        repeat ((conv => whnf); with_reducible first | refine CondG.split ?_ | refine k1 ?_ | refine ke fun _ => ?_ | refine k2 ?_ | refine kg ?_ | refine kf ?_ | refine k3 ?_ | refine k4 ?_ | refine kn ?_ | refine Same.rfl ?_ | refine k5 ?_ | refine k6 ?_ | refine k7 ?_ | refine k8 ?_ | refine k9 ?_ | refine ka ?_ | refine kb ?_ | refine kl ?_ | refine km ?_ | refine kc ?_ | refine kd ?_ | exact True.intro)
        refine Draw.tailQ 28 (by kernel_rfl) (by kernel_rfl) ?_
        repeat ((conv => whnf); with_reducible first | refine CondG.split ?_ | refine k1 ?_ | refine ke fun _ => ?_ | refine k2 ?_ | refine kg ?_ | refine kf ?_ | refine k3 ?_ | refine k4 ?_ | refine kn ?_ | refine Same.rfl ?_ | refine k5 ?_ | refine k6 ?_ | refine k7 ?_ | refine k8 ?_ | refine k9 ?_ | refine ka ?_ | refine kb ?_ | refine kl ?_ | refine km ?_ | refine kc ?_ | refine kd ?_ | exact True.intro)
        refine CallQ.eq [] (right_ok _ 7 (by omega) (by omega)) rfl rfl ⟨trivial, trivial⟩ ?_
        repeat ((conv => whnf); with_reducible first | refine CondG.split ?_ | refine k1 ?_ | refine ke fun _ => ?_ | refine k2 ?_ | refine kg ?_ | refine kf ?_ | refine k3 ?_ | refine k4 ?_ | refine kn ?_ | refine Same.rfl ?_ | refine k5 ?_ | refine k6 ?_ | refine k7 ?_ | refine k8 ?_ | refine k9 ?_ | refine ka ?_ | refine kb ?_ | refine kl ?_ | refine km ?_ | refine kc ?_ | refine kd ?_ | exact True.intro)
        refine CallQ.eq [] (right_ok _ 18 (by omega) (by omega)) rfl rfl ⟨trivial, trivial⟩ ?_
        repeat ((conv => whnf); with_reducible first | refine CondG.split ?_ | refine k1 ?_ | refine ke fun _ => ?_ | refine k2 ?_ | refine kg ?_ | refine kf ?_ | refine k3 ?_ | refine k4 ?_ | refine kn ?_ | refine Same.rfl ?_ | refine k5 ?_ | refine k6 ?_ | refine k7 ?_ | refine k8 ?_ | refine k9 ?_ | refine ka ?_ | refine kb ?_ | refine kl ?_ | refine km ?_ | refine kc ?_ | refine kd ?_ | exact True.intro)
        refine CallQ.eq [] (right_ok _ 17 (by omega) (by omega)) rfl rfl ⟨trivial, trivial⟩ ?_
        repeat ((conv => whnf); with_reducible first | refine CondG.split ?_ | refine k1 ?_ | refine ke fun _ => ?_ | refine k2 ?_ | refine kg ?_ | refine kf ?_ | refine k3 ?_ | refine k4 ?_ | refine kn ?_ | refine Same.rfl ?_ | refine k5 ?_ | refine k6 ?_ | refine k7 ?_ | refine k8 ?_ | refine k9 ?_ | refine ka ?_ | refine kb ?_ | refine kl ?_ | refine km ?_ | refine kc ?_ | refine kd ?_ | exact True.intro)
        refine CallQ.eq [] (right_ok _ 19 (by omega) (by omega)) rfl rfl ⟨trivial, trivial⟩ ?_
        repeat ((conv => whnf); with_reducible first | refine CondG.split ?_ | refine k1 ?_ | refine ke fun _ => ?_ | refine k2 ?_ | refine kg ?_ | refine kf ?_ | refine k3 ?_ | refine k4 ?_ | refine kn ?_ | refine Same.rfl ?_ | refine k5 ?_ | refine k6 ?_ | refine k7 ?_ | refine k8 ?_ | refine k9 ?_ | refine ka ?_ | refine kb ?_ | refine kl ?_ | refine km ?_ | refine kc ?_ | refine kd ?_ | exact True.intro)
        refine ⟨t + 1, by omega, (by dsimp only; omega), ?_⟩
        repeat ((conv => whnf); with_reducible first | refine CondG.split ?_ | refine k1 ?_ | refine ke fun _ => ?_ | refine k2 ?_ | refine kg ?_ | refine kf ?_ | refine k3 ?_ | refine k4 ?_ | refine kn ?_ | refine Same.rfl ?_ | refine k5 ?_ | refine k6 ?_ | refine k7 ?_ | refine k8 ?_ | refine k9 ?_ | refine ka ?_ | refine kb ?_ | refine kl ?_ | refine km ?_ | refine kc ?_ | refine kd ?_ | exact True.intro)
        refine Chk.mk (wtab_set b t hlt _ ?_) ?_
        · rw [e15, e2, e16, e7, if_neg h16']
          have g : ∀ i, i < t → (wtab b t).getD i Sk.u32.dflt = (Sha.words b t).getD i 0 := fun i hi => wtab_get b t i hi
          rw [g _ (by omega), g _ (by omega), g _ (by omega), g _ (by omega)]
          rfl
        repeat ((conv => whnf); with_reducible first | refine CondG.split ?_ | refine k1 ?_ | refine ke fun _ => ?_ | refine k2 ?_ | refine kg ?_ | refine kf ?_ | refine k3 ?_ | refine k4 ?_ | refine kn ?_ | refine Same.rfl ?_ | refine k5 ?_ | refine k6 ?_ | refine k7 ?_ | refine k8 ?_ | refine k9 ?_ | refine ka ?_ | refine kb ?_ | refine kl ?_ | refine km ?_ | refine kc ?_ | refine kd ?_ | exact True.intro)
    · have hge : ¬ (t : Int) < 64 := h
      obtain rfl : t = 64 := by omega
      repeat ((conv => whnf); with_reducible first | refine CondG.split ?_ | refine k1 ?_ | refine ke fun _ => ?_ | refine k2 ?_ | refine kg ?_ | refine kf ?_ | refine k3 ?_ | refine k4 ?_ | refine kn ?_ | refine Same.rfl ?_ | refine k5 ?_ | refine k6 ?_ | refine k7 ?_ | refine k8 ?_ | refine k9 ?_ | refine ka ?_ | refine kb ?_ | refine kl ?_ | refine km ?_ | refine kc ?_ | refine kd ?_ | exact True.intro)
      refine Fin.pure ?_
      refine Chk.mk ?_ trivial
      show wtab b 64 = _
      simp [wtab]
end Go.Proofs.YtlhmdknfkbcdjaaDoor
