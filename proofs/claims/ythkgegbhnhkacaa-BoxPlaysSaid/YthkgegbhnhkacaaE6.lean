/- Package box: calls that fail; a list with one entry taken out, as both say. -/
import Derived.Test.YthkgegbhnhkacaaE5
import Derived.Test.YthkgegbhnhkacaaE3
set_option linter.unusedVariables false
set_option linter.unusedSimpArgs false
set_option maxRecDepth 10000
set_option maxHeartbeats 4000000
namespace Go.Proofs.Ythkgegbhnhkacaa
open Go Go.SY
seal sx sxOps

theorem flags1_bad (f : Int) (hf : ¬ (0 ≤ f ∧ f ≤ 31)) (b : Nat) : CtrP R 28 [vl 0 (.at b 0 1 1)] [(0, b, .view (.sc (.int .i64)) (.at b 0 1 1) [f])] (vb false) := by
  have hp : place notFlag [f] = 0 := by
    have : notFlag f = true := by unfold notFlag; rw [decide_eq_false hf]; rfl
    unfold place; rw [this]; rfl
  have h := flags_ok (.at b 0 1 1) [f] (by simp)
  rw [hp] at h; exact h
theorem flags2_bad (f g : Int) (hf : ¬ ((0 ≤ f ∧ f ≤ 31) ∧ (0 ≤ g ∧ g ≤ 31))) (b : Nat) : CtrP R 28 [vl 0 (.at b 0 2 2)] [(0, b, .view (.sc (.int .i64)) (.at b 0 2 2) [f, g])] (vb false) := by
  have hp : place notFlag [f, g] ≥ 0 := by
    by_cases c : 0 ≤ f ∧ f ≤ 31
    · have c2 : ¬ (0 ≤ g ∧ g ≤ 31) := fun h => hf ⟨c, h⟩
      have h1 : notFlag f = false := by unfold notFlag; rw [decide_eq_true c]; rfl
      have h2 : notFlag g = true := by unfold notFlag; rw [decide_eq_false c2]; rfl
      unfold place place; rw [h1, h2]; decide
    · have h1 : notFlag f = true := by unfold notFlag; rw [decide_eq_false c]; rfl
      unfold place; rw [h1, if_pos rfl]; decide
  have h := flags_ok (.at b 0 2 2) [f, g] (by simp)
  rw [decide_eq_true hp] at h; exact h
theorem add_bad (b : Nat) (v n mail f : Int) (x : SV) (L : List Ent) (hL : L.length ≤ 1000000) (hb : ¬ ((1 ≤ mail ∧ mail ≤ 1099511627776) ∧ (0 ≤ f ∧ f ≤ 31))) :
    CtrU R 10 [vp 0 b, vi mail, vi f] [boxV b v n x, boxL x L] (.tup [.agg (entA (0, 0, 0)), .one (.int .i64 4)]) [boxV b v n x, boxL x L] := by
  refine Ctr.of Try.func10 rfl (by kernel_rfl) rfl fun _ _ w0 => ?_
  have hw := within_ok mail 1 1099511627776
  by_cases hm : 1 ≤ mail ∧ mail ≤ 1099511627776
  · have hf : ¬ (0 ≤ f ∧ f ≤ 31) := fun h => hb ⟨hm, h⟩
    rw [decide_eq_true hm] at hw
    repeat ((conv => whnf); with_reducible first | refine Sx.go ?_ | refine Sx.seq ?_ | refine Sx.reg ?_ | refine SxO.cons ?_ | refine SxO.nil ?_ | refine SeqK.normal ?_ | refine SeqK.ret ?_ | refine SeqK.exit ?_ | refine BlkK.normal ?_ | refine BlkK.ret ?_ | refine BlkK.hit ?_ | refine Sx.cond ?_ | refine Sx.block ?_ | refine Sx.loop ?_ | refine Sx.draw ?_ | refine Sx.ret ?_ | refine Sx.exit ?_ | refine Sx.skip ?_ | refine Sx.label ?_ | refine CondG.split ?_ | refine k1 ?_ | refine ke fun _ => ?_ | refine k2 ?_ | refine kg ?_ | refine kf ?_ | refine k3 ?_ | refine k4 ?_ | refine kn ?_ | refine Same.rfl ?_ | refine k5 ?_ | refine k6 ?_ | refine k7 ?_ | refine k8 ?_ | refine k9 ?_ | refine ka ?_ | refine kb ?_ | refine kl ?_ | refine km ?_ | refine kc ?_ | refine kd ?_ | exact True.intro)
    refine CallG.p [] hw rfl rfl ?_
    repeat ((conv => whnf); with_reducible first | refine Sx.go ?_ | refine Sx.seq ?_ | refine Sx.reg ?_ | refine SxO.cons ?_ | refine SxO.nil ?_ | refine SeqK.normal ?_ | refine SeqK.ret ?_ | refine SeqK.exit ?_ | refine BlkK.normal ?_ | refine BlkK.ret ?_ | refine BlkK.hit ?_ | refine Sx.cond ?_ | refine Sx.block ?_ | refine Sx.loop ?_ | refine Sx.draw ?_ | refine Sx.ret ?_ | refine Sx.exit ?_ | refine Sx.skip ?_ | refine Sx.label ?_ | refine CondG.split ?_ | refine k1 ?_ | refine ke fun _ => ?_ | refine k2 ?_ | refine kg ?_ | refine kf ?_ | refine k3 ?_ | refine k4 ?_ | refine kn ?_ | refine Same.rfl ?_ | refine k5 ?_ | refine k6 ?_ | refine k7 ?_ | refine k8 ?_ | refine k9 ?_ | refine ka ?_ | refine kb ?_ | refine kl ?_ | refine km ?_ | refine kc ?_ | refine kd ?_ | exact True.intro)
    rename_i b15
    refine CallG.p [(0, 15)] (flags1_bad f hf b15) rfl rfl ?_
    repeat ((conv => whnf); with_reducible first | refine Sx.go ?_ | refine Sx.seq ?_ | refine Sx.reg ?_ | refine SxO.cons ?_ | refine SxO.nil ?_ | refine SeqK.normal ?_ | refine SeqK.ret ?_ | refine SeqK.exit ?_ | refine BlkK.normal ?_ | refine BlkK.ret ?_ | refine BlkK.hit ?_ | refine Sx.cond ?_ | refine Sx.block ?_ | refine Sx.loop ?_ | refine Sx.draw ?_ | refine Sx.ret ?_ | refine Sx.exit ?_ | refine Sx.skip ?_ | refine Sx.label ?_ | refine CondG.split ?_ | refine k1 ?_ | refine ke fun _ => ?_ | refine k2 ?_ | refine kg ?_ | refine kf ?_ | refine k3 ?_ | refine k4 ?_ | refine kn ?_ | refine Same.rfl ?_ | refine k5 ?_ | refine k6 ?_ | refine k7 ?_ | refine k8 ?_ | refine k9 ?_ | refine ka ?_ | refine kb ?_ | refine kl ?_ | refine km ?_ | refine kc ?_ | refine kd ?_ | exact True.intro)
    refine Fin.mk' () trivial ?_
    ((repeat ((conv => whnf); with_reducible first | refine Sx.go ?_ | refine Sx.seq ?_ | refine Sx.reg ?_ | refine SxO.cons ?_ | refine SxO.nil ?_ | refine SeqK.normal ?_ | refine SeqK.ret ?_ | refine SeqK.exit ?_ | refine BlkK.normal ?_ | refine BlkK.ret ?_ | refine BlkK.hit ?_ | refine Sx.cond ?_ | refine Sx.block ?_ | refine Sx.loop ?_ | refine Sx.draw ?_ | refine Sx.ret ?_ | refine Sx.exit ?_ | refine Sx.skip ?_ | refine Sx.label ?_ | refine CondG.split ?_ | refine k1 ?_ | refine ke fun _ => ?_ | refine k2 ?_ | refine kg ?_ | refine kf ?_ | refine k3 ?_ | refine k4 ?_ | refine kn ?_ | refine Same.rfl ?_ | refine k5 ?_ | refine k6 ?_ | refine k7 ?_ | refine k8 ?_ | refine k9 ?_ | refine ka ?_ | refine kb ?_ | refine kl ?_ | refine km ?_ | refine kc ?_ | refine kd ?_ | exact True.intro)); (repeat (refine Chk.mk rfl ?_; (repeat ((conv => whnf); with_reducible first | refine Sx.go ?_ | refine Sx.seq ?_ | refine Sx.reg ?_ | refine SxO.cons ?_ | refine SxO.nil ?_ | refine SeqK.normal ?_ | refine SeqK.ret ?_ | refine SeqK.exit ?_ | refine BlkK.normal ?_ | refine BlkK.ret ?_ | refine BlkK.hit ?_ | refine Sx.cond ?_ | refine Sx.block ?_ | refine Sx.loop ?_ | refine Sx.draw ?_ | refine Sx.ret ?_ | refine Sx.exit ?_ | refine Sx.skip ?_ | refine Sx.label ?_ | refine CondG.split ?_ | refine k1 ?_ | refine ke fun _ => ?_ | refine k2 ?_ | refine kg ?_ | refine kf ?_ | refine k3 ?_ | refine k4 ?_ | refine kn ?_ | refine Same.rfl ?_ | refine k5 ?_ | refine k6 ?_ | refine k7 ?_ | refine k8 ?_ | refine k9 ?_ | refine ka ?_ | refine kb ?_ | refine kl ?_ | refine km ?_ | refine kc ?_ | refine kd ?_ | exact True.intro)))))
  · rw [decide_eq_false hm] at hw
    repeat ((conv => whnf); with_reducible first | refine Sx.go ?_ | refine Sx.seq ?_ | refine Sx.reg ?_ | refine SxO.cons ?_ | refine SxO.nil ?_ | refine SeqK.normal ?_ | refine SeqK.ret ?_ | refine SeqK.exit ?_ | refine BlkK.normal ?_ | refine BlkK.ret ?_ | refine BlkK.hit ?_ | refine Sx.cond ?_ | refine Sx.block ?_ | refine Sx.loop ?_ | refine Sx.draw ?_ | refine Sx.ret ?_ | refine Sx.exit ?_ | refine Sx.skip ?_ | refine Sx.label ?_ | refine CondG.split ?_ | refine k1 ?_ | refine ke fun _ => ?_ | refine k2 ?_ | refine kg ?_ | refine kf ?_ | refine k3 ?_ | refine k4 ?_ | refine kn ?_ | refine Same.rfl ?_ | refine k5 ?_ | refine k6 ?_ | refine k7 ?_ | refine k8 ?_ | refine k9 ?_ | refine ka ?_ | refine kb ?_ | refine kl ?_ | refine km ?_ | refine kc ?_ | refine kd ?_ | exact True.intro)
    refine CallG.p [] hw rfl rfl ?_
    repeat ((conv => whnf); with_reducible first | refine Sx.go ?_ | refine Sx.seq ?_ | refine Sx.reg ?_ | refine SxO.cons ?_ | refine SxO.nil ?_ | refine SeqK.normal ?_ | refine SeqK.ret ?_ | refine SeqK.exit ?_ | refine BlkK.normal ?_ | refine BlkK.ret ?_ | refine BlkK.hit ?_ | refine Sx.cond ?_ | refine Sx.block ?_ | refine Sx.loop ?_ | refine Sx.draw ?_ | refine Sx.ret ?_ | refine Sx.exit ?_ | refine Sx.skip ?_ | refine Sx.label ?_ | refine CondG.split ?_ | refine k1 ?_ | refine ke fun _ => ?_ | refine k2 ?_ | refine kg ?_ | refine kf ?_ | refine k3 ?_ | refine k4 ?_ | refine kn ?_ | refine Same.rfl ?_ | refine k5 ?_ | refine k6 ?_ | refine k7 ?_ | refine k8 ?_ | refine k9 ?_ | refine ka ?_ | refine kb ?_ | refine kl ?_ | refine km ?_ | refine kc ?_ | refine kd ?_ | exact True.intro)
    refine Fin.mk' () trivial ?_
    ((repeat ((conv => whnf); with_reducible first | refine Sx.go ?_ | refine Sx.seq ?_ | refine Sx.reg ?_ | refine SxO.cons ?_ | refine SxO.nil ?_ | refine SeqK.normal ?_ | refine SeqK.ret ?_ | refine SeqK.exit ?_ | refine BlkK.normal ?_ | refine BlkK.ret ?_ | refine BlkK.hit ?_ | refine Sx.cond ?_ | refine Sx.block ?_ | refine Sx.loop ?_ | refine Sx.draw ?_ | refine Sx.ret ?_ | refine Sx.exit ?_ | refine Sx.skip ?_ | refine Sx.label ?_ | refine CondG.split ?_ | refine k1 ?_ | refine ke fun _ => ?_ | refine k2 ?_ | refine kg ?_ | refine kf ?_ | refine k3 ?_ | refine k4 ?_ | refine kn ?_ | refine Same.rfl ?_ | refine k5 ?_ | refine k6 ?_ | refine k7 ?_ | refine k8 ?_ | refine k9 ?_ | refine ka ?_ | refine kb ?_ | refine kl ?_ | refine km ?_ | refine kc ?_ | refine kd ?_ | exact True.intro)); (repeat (refine Chk.mk rfl ?_; (repeat ((conv => whnf); with_reducible first | refine Sx.go ?_ | refine Sx.seq ?_ | refine Sx.reg ?_ | refine SxO.cons ?_ | refine SxO.nil ?_ | refine SeqK.normal ?_ | refine SeqK.ret ?_ | refine SeqK.exit ?_ | refine BlkK.normal ?_ | refine BlkK.ret ?_ | refine BlkK.hit ?_ | refine Sx.cond ?_ | refine Sx.block ?_ | refine Sx.loop ?_ | refine Sx.draw ?_ | refine Sx.ret ?_ | refine Sx.exit ?_ | refine Sx.skip ?_ | refine Sx.label ?_ | refine CondG.split ?_ | refine k1 ?_ | refine ke fun _ => ?_ | refine k2 ?_ | refine kg ?_ | refine kf ?_ | refine k3 ?_ | refine k4 ?_ | refine kn ?_ | refine Same.rfl ?_ | refine k5 ?_ | refine k6 ?_ | refine k7 ?_ | refine k8 ?_ | refine k9 ?_ | refine ka ?_ | refine kb ?_ | refine kl ?_ | refine km ?_ | refine kc ?_ | refine kd ?_ | exact True.intro)))))
theorem set_none (b : Nat) (v n u on off : Int) (x : SV) (L : List Ent) (hL : L.length ≤ 1000000) (hp : place (hasUid u) L = -1) :
    CtrU R 11 [vp 0 b, vi u, vi on, vi off] [boxV b v n x, boxL x L] (.tup [.agg (entA (0, 0, 0)), .one (.int .i64 7)]) [boxV b v n x, boxL x L] := by
  refine Ctr.of Try.func11 rfl (by kernel_rfl) rfl fun _ _ w0 => ?_
  have hat := at_ok b v n u x L (by omega)
  rw [hp] at hat
  repeat ((conv => whnf); with_reducible first | refine Sx.go ?_ | refine Sx.seq ?_ | refine Sx.reg ?_ | refine SxO.cons ?_ | refine SxO.nil ?_ | refine SeqK.normal ?_ | refine SeqK.ret ?_ | refine SeqK.exit ?_ | refine BlkK.normal ?_ | refine BlkK.ret ?_ | refine BlkK.hit ?_ | refine Sx.cond ?_ | refine Sx.block ?_ | refine Sx.loop ?_ | refine Sx.draw ?_ | refine Sx.ret ?_ | refine Sx.exit ?_ | refine Sx.skip ?_ | refine Sx.label ?_ | refine CondG.split ?_ | refine k1 ?_ | refine ke fun _ => ?_ | refine k2 ?_ | refine kg ?_ | refine kf ?_ | refine k3 ?_ | refine k4 ?_ | refine kn ?_ | refine Same.rfl ?_ | refine k5 ?_ | refine k6 ?_ | refine k7 ?_ | refine k8 ?_ | refine k9 ?_ | refine ka ?_ | refine kb ?_ | refine kl ?_ | refine km ?_ | refine kc ?_ | refine kd ?_ | exact True.intro)
  refine CallG.one [] hat rfl rfl ?_
  repeat ((conv => whnf); with_reducible first | refine Sx.go ?_ | refine Sx.seq ?_ | refine Sx.reg ?_ | refine SxO.cons ?_ | refine SxO.nil ?_ | refine SeqK.normal ?_ | refine SeqK.ret ?_ | refine SeqK.exit ?_ | refine BlkK.normal ?_ | refine BlkK.ret ?_ | refine BlkK.hit ?_ | refine Sx.cond ?_ | refine Sx.block ?_ | refine Sx.loop ?_ | refine Sx.draw ?_ | refine Sx.ret ?_ | refine Sx.exit ?_ | refine Sx.skip ?_ | refine Sx.label ?_ | refine CondG.split ?_ | refine k1 ?_ | refine ke fun _ => ?_ | refine k2 ?_ | refine kg ?_ | refine kf ?_ | refine k3 ?_ | refine k4 ?_ | refine kn ?_ | refine Same.rfl ?_ | refine k5 ?_ | refine k6 ?_ | refine k7 ?_ | refine k8 ?_ | refine k9 ?_ | refine ka ?_ | refine kb ?_ | refine kl ?_ | refine km ?_ | refine kc ?_ | refine kd ?_ | exact True.intro)
  refine Fin.mk' () trivial ?_
  ((repeat ((conv => whnf); with_reducible first | refine Sx.go ?_ | refine Sx.seq ?_ | refine Sx.reg ?_ | refine SxO.cons ?_ | refine SxO.nil ?_ | refine SeqK.normal ?_ | refine SeqK.ret ?_ | refine SeqK.exit ?_ | refine BlkK.normal ?_ | refine BlkK.ret ?_ | refine BlkK.hit ?_ | refine Sx.cond ?_ | refine Sx.block ?_ | refine Sx.loop ?_ | refine Sx.draw ?_ | refine Sx.ret ?_ | refine Sx.exit ?_ | refine Sx.skip ?_ | refine Sx.label ?_ | refine CondG.split ?_ | refine k1 ?_ | refine ke fun _ => ?_ | refine k2 ?_ | refine kg ?_ | refine kf ?_ | refine k3 ?_ | refine k4 ?_ | refine kn ?_ | refine Same.rfl ?_ | refine k5 ?_ | refine k6 ?_ | refine k7 ?_ | refine k8 ?_ | refine k9 ?_ | refine ka ?_ | refine kb ?_ | refine kl ?_ | refine km ?_ | refine kc ?_ | refine kd ?_ | exact True.intro)); (repeat (refine Chk.mk rfl ?_; (repeat ((conv => whnf); with_reducible first | refine Sx.go ?_ | refine Sx.seq ?_ | refine Sx.reg ?_ | refine SxO.cons ?_ | refine SxO.nil ?_ | refine SeqK.normal ?_ | refine SeqK.ret ?_ | refine SeqK.exit ?_ | refine BlkK.normal ?_ | refine BlkK.ret ?_ | refine BlkK.hit ?_ | refine Sx.cond ?_ | refine Sx.block ?_ | refine Sx.loop ?_ | refine Sx.draw ?_ | refine Sx.ret ?_ | refine Sx.exit ?_ | refine Sx.skip ?_ | refine Sx.label ?_ | refine CondG.split ?_ | refine k1 ?_ | refine ke fun _ => ?_ | refine k2 ?_ | refine kg ?_ | refine kf ?_ | refine k3 ?_ | refine k4 ?_ | refine kn ?_ | refine Same.rfl ?_ | refine k5 ?_ | refine k6 ?_ | refine k7 ?_ | refine k8 ?_ | refine k9 ?_ | refine ka ?_ | refine kb ?_ | refine kl ?_ | refine km ?_ | refine kc ?_ | refine kd ?_ | exact True.intro)))))
theorem set_bad (b : Nat) (v n u on off : Int) (x : SV) (L : List Ent) (hL : L.length ≤ 1000000) (i : Nat) (hi : i < L.length) (hp : place (hasUid u) L = i) (hbad : ¬ ((0 ≤ on ∧ on ≤ 31) ∧ (0 ≤ off ∧ off ≤ 31))) :
    CtrU R 11 [vp 0 b, vi u, vi on, vi off] [boxV b v n x, boxL x L] (.tup [.agg (entA (0, 0, 0)), .one (.int .i64 4)]) [boxV b v n x, boxL x L] := by
  refine Ctr.of Try.func11 rfl (by kernel_rfl) rfl fun _ _ w0 => ?_
  have hat := at_ok b v n u x L (by omega)
  rw [hp] at hat
  repeat ((conv => whnf); with_reducible first | refine Sx.go ?_ | refine Sx.seq ?_ | refine Sx.reg ?_ | refine SxO.cons ?_ | refine SxO.nil ?_ | refine SeqK.normal ?_ | refine SeqK.ret ?_ | refine SeqK.exit ?_ | refine BlkK.normal ?_ | refine BlkK.ret ?_ | refine BlkK.hit ?_ | refine Sx.cond ?_ | refine Sx.block ?_ | refine Sx.loop ?_ | refine Sx.draw ?_ | refine Sx.ret ?_ | refine Sx.exit ?_ | refine Sx.skip ?_ | refine Sx.label ?_ | refine CondG.split ?_ | refine k1 ?_ | refine ke fun _ => ?_ | refine k2 ?_ | refine kg ?_ | refine kf ?_ | refine k3 ?_ | refine k4 ?_ | refine kn ?_ | refine Same.rfl ?_ | refine k5 ?_ | refine k6 ?_ | refine k7 ?_ | refine k8 ?_ | refine k9 ?_ | refine ka ?_ | refine kb ?_ | refine kl ?_ | refine km ?_ | refine kc ?_ | refine kd ?_ | exact True.intro)
  refine CallG.one [] hat rfl rfl ?_
  repeat ((conv => whnf); with_reducible first | refine Sx.go ?_ | refine Sx.seq ?_ | refine Sx.reg ?_ | refine SxO.cons ?_ | refine SxO.nil ?_ | refine SeqK.normal ?_ | refine SeqK.ret ?_ | refine SeqK.exit ?_ | refine BlkK.normal ?_ | refine BlkK.ret ?_ | refine BlkK.hit ?_ | refine Sx.cond ?_ | refine Sx.block ?_ | refine Sx.loop ?_ | refine Sx.draw ?_ | refine Sx.ret ?_ | refine Sx.exit ?_ | refine Sx.skip ?_ | refine Sx.label ?_ | refine CondG.split ?_ | refine k1 ?_ | refine ke fun _ => ?_ | refine k2 ?_ | refine kg ?_ | refine kf ?_ | refine k3 ?_ | refine k4 ?_ | refine kn ?_ | refine Same.rfl ?_ | refine k5 ?_ | refine k6 ?_ | refine k7 ?_ | refine k8 ?_ | refine k9 ?_ | refine ka ?_ | refine kb ?_ | refine kl ?_ | refine km ?_ | refine kc ?_ | refine kd ?_ | exact True.intro)
  rename_i b21
  refine CallG.p [(0, 21)] (flags2_bad on off hbad b21) rfl rfl ?_
  repeat ((conv => whnf); with_reducible first | refine Sx.go ?_ | refine Sx.seq ?_ | refine Sx.reg ?_ | refine SxO.cons ?_ | refine SxO.nil ?_ | refine SeqK.normal ?_ | refine SeqK.ret ?_ | refine SeqK.exit ?_ | refine BlkK.normal ?_ | refine BlkK.ret ?_ | refine BlkK.hit ?_ | refine Sx.cond ?_ | refine Sx.block ?_ | refine Sx.loop ?_ | refine Sx.draw ?_ | refine Sx.ret ?_ | refine Sx.exit ?_ | refine Sx.skip ?_ | refine Sx.label ?_ | refine CondG.split ?_ | refine k1 ?_ | refine ke fun _ => ?_ | refine k2 ?_ | refine kg ?_ | refine kf ?_ | refine k3 ?_ | refine k4 ?_ | refine kn ?_ | refine Same.rfl ?_ | refine k5 ?_ | refine k6 ?_ | refine k7 ?_ | refine k8 ?_ | refine k9 ?_ | refine ka ?_ | refine kb ?_ | refine kl ?_ | refine km ?_ | refine kc ?_ | refine kd ?_ | exact True.intro)
  refine Fin.mk' () trivial ?_
  ((repeat ((conv => whnf); with_reducible first | refine Sx.go ?_ | refine Sx.seq ?_ | refine Sx.reg ?_ | refine SxO.cons ?_ | refine SxO.nil ?_ | refine SeqK.normal ?_ | refine SeqK.ret ?_ | refine SeqK.exit ?_ | refine BlkK.normal ?_ | refine BlkK.ret ?_ | refine BlkK.hit ?_ | refine Sx.cond ?_ | refine Sx.block ?_ | refine Sx.loop ?_ | refine Sx.draw ?_ | refine Sx.ret ?_ | refine Sx.exit ?_ | refine Sx.skip ?_ | refine Sx.label ?_ | refine CondG.split ?_ | refine k1 ?_ | refine ke fun _ => ?_ | refine k2 ?_ | refine kg ?_ | refine kf ?_ | refine k3 ?_ | refine k4 ?_ | refine kn ?_ | refine Same.rfl ?_ | refine k5 ?_ | refine k6 ?_ | refine k7 ?_ | refine k8 ?_ | refine k9 ?_ | refine ka ?_ | refine kb ?_ | refine kl ?_ | refine km ?_ | refine kc ?_ | refine kd ?_ | exact True.intro)); (repeat (refine Chk.mk rfl ?_; (repeat ((conv => whnf); with_reducible first | refine Sx.go ?_ | refine Sx.seq ?_ | refine Sx.reg ?_ | refine SxO.cons ?_ | refine SxO.nil ?_ | refine SeqK.normal ?_ | refine SeqK.ret ?_ | refine SeqK.exit ?_ | refine BlkK.normal ?_ | refine BlkK.ret ?_ | refine BlkK.hit ?_ | refine Sx.cond ?_ | refine Sx.block ?_ | refine Sx.loop ?_ | refine Sx.draw ?_ | refine Sx.ret ?_ | refine Sx.exit ?_ | refine Sx.skip ?_ | refine Sx.label ?_ | refine CondG.split ?_ | refine k1 ?_ | refine ke fun _ => ?_ | refine k2 ?_ | refine kg ?_ | refine kf ?_ | refine k3 ?_ | refine k4 ?_ | refine kn ?_ | refine Same.rfl ?_ | refine k5 ?_ | refine k6 ?_ | refine k7 ?_ | refine k8 ?_ | refine k9 ?_ | refine ka ?_ | refine kb ?_ | refine kl ?_ | refine km ?_ | refine kc ?_ | refine kd ?_ | exact True.intro)))))
/-- In a good list an entry is known by its UID. -/
theorem Good.same {n : Int} {L : List Ent} (h : Good n L) {i j : Nat} (hi : i < L.length) (hj : j < L.length) (he : (L.getD i (0, 0, 0)).1 = (L.getD j (0, 0, 0)).1) : i = j := by
  rcases Nat.lt_trichotomy i j with c | c | c
  · have := h.lt c hj; omega
  · exact c
  · have := h.lt c hi; omega
theorem Good.rem {n : Int} {L : List Ent} (h : Good n L) {i : Nat} (hi : i < L.length) {u : Int} (hu : (L.getD i (0, 0, 0)).1 = u) :
    (L.filter fun y => !isE (L.getD i (0, 0, 0)) y) = L.filter fun e => !hasUid u e := by
  apply List.filter_congr
  intro e he
  obtain ⟨j, hj, rfl⟩ := List.mem_iff_getElem.1 he
  have hg : L[j] = L.getD j (0, 0, 0) := (gd_lt hj).symm
  rw [hg]
  congr 1
  unfold isE hasUid
  by_cases c : i = j
  · subst c; rw [decide_eq_true rfl, decide_eq_true hu]
  · have c1 : ¬ (L.getD j (0, 0, 0)).1 = u := fun hh => c (h.same hi hj (by rw [hu, hh]))
    have c2 : ¬ L.getD j (0, 0, 0) = L.getD i (0, 0, 0) := fun hh => c1 (by rw [hh, hu])
    rw [decide_eq_false c1, decide_eq_false c2]
theorem Good.put {n : Int} {L : List Ent} (h : Good n L) {i : Nat} (hi : i < L.length) {u : Int} (hu : (L.getD i (0, 0, 0)).1 = u) (E : Ent) : putE u E L = L.set i E := by
  apply List.ext_getElem (by rw [putE_length, List.length_set])
  intro j h1 h2
  rw [List.length_set] at h2
  have hg : L[j] = L.getD j (0, 0, 0) := (gd_lt h2).symm
  simp only [putE, List.getElem_map, List.getElem_set]
  by_cases c : i = j
  · subst c
    rw [if_pos rfl, if_pos (by rw [hg]; exact decide_eq_true hu)]
  · rw [if_neg c, if_neg]
    rw [hg]
    intro hh
    exact c (h.same hi h2 (by rw [hu, of_decide_eq_true hh]))
theorem Good.set {n : Int} {L : List Ent} (h : Good n L) {i : Nat} (hi : i < L.length) {f : Int} (hf : 0 ≤ f ∧ f ≤ 31) : Good n (L.set i ((L.getD i (0, 0, 0)).1, f, (L.getD i (0, 0, 0)).2.2)) := by
  have hk := h.at hi
  refine ⟨List.pairwise_iff_getElem.2 fun a b ha hb hab => ?_, fun e he => ?_⟩
  · rw [List.length_set] at ha hb
    have h0 := List.pairwise_iff_getElem.1 h.1 a b ha hb hab
    simp only [List.getElem_set]
    have hga : (L.getD i (0, 0, 0)).1 = L[i].1 := congrArg (·.1) (gd_lt hi)
    split
    · rename_i c; subst c
      split
      · omega
      · exact Int.lt_of_le_of_lt (Int.le_of_eq hga) h0
    · split
      · rename_i c; subst c
        exact Int.lt_of_lt_of_le h0 (Int.le_of_eq hga.symm)
      · exact h0
  · rcases List.mem_or_eq_of_mem_set he with he | he
    · exact h.2 e he
    · rw [he]; exact ⟨hk.1, hf, hk.2.2⟩
end Go.Proofs.Ythkgegbhnhkacaa
