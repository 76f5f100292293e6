/- Package box: one entry goes. -/
import Derived.Test.YthkgegbhnhkacaaD3
import Derived.Test.YthkgegbhnhkacaaSy4
set_option linter.unusedVariables false
set_option linter.unusedSimpArgs false
set_option maxRecDepth 10000
set_option maxHeartbeats 4000000
namespace Go.Proofs.Ythkgegbhnhkacaa
open Go Go.SY
seal sx sxOps

theorem get_ok (b : Nat) (v n u : Int) (x : SV) (L : List Ent) (hL : L.length ≤ 1000000) (i : Nat) (hi : i < L.length) (hp : place (hasUid u) L = i) :
    CtrU R 31 [vp 0 b, vi u] [boxV b v n x, boxL x L] (.tup [.agg (entA (L.getD i (0, 0, 0))), .one (.int .i64 0)]) [boxV b v n x, boxL x L] := by
  refine Ctr.of Try.func31 rfl (by kernel_rfl) rfl fun _ _ w0 => ?_
  have hat := at_ok b v n u x L (by omega)
  rw [hp] at hat
  repeat ((conv => whnf); with_reducible first | refine Sx.go ?_ | refine Sx.seq ?_ | refine Sx.reg ?_ | refine SxO.cons ?_ | refine SxO.nil ?_ | refine SeqK.normal ?_ | refine SeqK.ret ?_ | refine SeqK.exit ?_ | refine BlkK.normal ?_ | refine BlkK.ret ?_ | refine BlkK.hit ?_ | refine Sx.cond ?_ | refine Sx.block ?_ | refine Sx.loop ?_ | refine Sx.draw ?_ | refine Sx.ret ?_ | refine Sx.exit ?_ | refine Sx.skip ?_ | refine Sx.label ?_ | refine CondG.split ?_ | refine k1 ?_ | refine ke fun _ => ?_ | refine k2 ?_ | refine kg ?_ | refine kf ?_ | refine k3 ?_ | refine k4 ?_ | refine kn ?_ | refine Same.rfl ?_ | refine k5 ?_ | refine k6 ?_ | refine k7 ?_ | refine k8 ?_ | refine k9 ?_ | refine ka ?_ | refine kb ?_ | refine kl ?_ | refine km ?_ | refine kc ?_ | refine kd ?_ | exact True.intro)
  refine CallG.one [] hat rfl rfl ?_
  repeat ((conv => whnf); with_reducible first | refine Sx.go ?_ | refine Sx.seq ?_ | refine Sx.reg ?_ | refine SxO.cons ?_ | refine SxO.nil ?_ | refine SeqK.normal ?_ | refine SeqK.ret ?_ | refine SeqK.exit ?_ | refine BlkK.normal ?_ | refine BlkK.ret ?_ | refine BlkK.hit ?_ | refine Sx.cond ?_ | refine Sx.block ?_ | refine Sx.loop ?_ | refine Sx.draw ?_ | refine Sx.ret ?_ | refine Sx.exit ?_ | refine Sx.skip ?_ | refine Sx.label ?_ | refine CondG.split ?_ | refine k1 ?_ | refine ke fun _ => ?_ | refine k2 ?_ | refine kg ?_ | refine kf ?_ | refine k3 ?_ | refine k4 ?_ | refine kn ?_ | refine Same.rfl ?_ | refine k5 ?_ | refine k6 ?_ | refine k7 ?_ | refine k8 ?_ | refine k9 ?_ | refine ka ?_ | refine kb ?_ | refine kl ?_ | refine km ?_ | refine kc ?_ | refine kd ?_ | exact True.intro)
  refine Fin.mk' () trivial ?_
  repeat ((conv => whnf); with_reducible first | refine Sx.go ?_ | refine Sx.seq ?_ | refine Sx.reg ?_ | refine SxO.cons ?_ | refine SxO.nil ?_ | refine SeqK.normal ?_ | refine SeqK.ret ?_ | refine SeqK.exit ?_ | refine BlkK.normal ?_ | refine BlkK.ret ?_ | refine BlkK.hit ?_ | refine Sx.cond ?_ | refine Sx.block ?_ | refine Sx.loop ?_ | refine Sx.draw ?_ | refine Sx.ret ?_ | refine Sx.exit ?_ | refine Sx.skip ?_ | refine Sx.label ?_ | refine CondG.split ?_ | refine k1 ?_ | refine ke fun _ => ?_ | refine k2 ?_ | refine kg ?_ | refine kf ?_ | refine k3 ?_ | refine k4 ?_ | refine kn ?_ | refine Same.rfl ?_ | refine k5 ?_ | refine k6 ?_ | refine k7 ?_ | refine k8 ?_ | refine k9 ?_ | refine ka ?_ | refine kb ?_ | refine kl ?_ | refine km ?_ | refine kc ?_ | refine kd ?_ | exact True.intro)
theorem get_none (b : Nat) (v n u : Int) (x : SV) (L : List Ent) (hL : L.length ≤ 1000000) (hp : place (hasUid u) L = -1) :
    CtrU R 31 [vp 0 b, vi u] [boxV b v n x, boxL x L] (.tup [.agg (entA (0, 0, 0)), .one (.int .i64 7)]) [boxV b v n x, boxL x L] := by
  refine Ctr.of Try.func31 rfl (by kernel_rfl) rfl fun _ _ w0 => ?_
  have hat := at_ok b v n u x L (by omega)
  rw [hp] at hat
  repeat ((conv => whnf); with_reducible first | refine Sx.go ?_ | refine Sx.seq ?_ | refine Sx.reg ?_ | refine SxO.cons ?_ | refine SxO.nil ?_ | refine SeqK.normal ?_ | refine SeqK.ret ?_ | refine SeqK.exit ?_ | refine BlkK.normal ?_ | refine BlkK.ret ?_ | refine BlkK.hit ?_ | refine Sx.cond ?_ | refine Sx.block ?_ | refine Sx.loop ?_ | refine Sx.draw ?_ | refine Sx.ret ?_ | refine Sx.exit ?_ | refine Sx.skip ?_ | refine Sx.label ?_ | refine CondG.split ?_ | refine k1 ?_ | refine ke fun _ => ?_ | refine k2 ?_ | refine kg ?_ | refine kf ?_ | refine k3 ?_ | refine k4 ?_ | refine kn ?_ | refine Same.rfl ?_ | refine k5 ?_ | refine k6 ?_ | refine k7 ?_ | refine k8 ?_ | refine k9 ?_ | refine ka ?_ | refine kb ?_ | refine kl ?_ | refine km ?_ | refine kc ?_ | refine kd ?_ | exact True.intro)
  refine CallG.one [] hat rfl rfl ?_
  repeat ((conv => whnf); with_reducible first | refine Sx.go ?_ | refine Sx.seq ?_ | refine Sx.reg ?_ | refine SxO.cons ?_ | refine SxO.nil ?_ | refine SeqK.normal ?_ | refine SeqK.ret ?_ | refine SeqK.exit ?_ | refine BlkK.normal ?_ | refine BlkK.ret ?_ | refine BlkK.hit ?_ | refine Sx.cond ?_ | refine Sx.block ?_ | refine Sx.loop ?_ | refine Sx.draw ?_ | refine Sx.ret ?_ | refine Sx.exit ?_ | refine Sx.skip ?_ | refine Sx.label ?_ | refine CondG.split ?_ | refine k1 ?_ | refine ke fun _ => ?_ | refine k2 ?_ | refine kg ?_ | refine kf ?_ | refine k3 ?_ | refine k4 ?_ | refine kn ?_ | refine Same.rfl ?_ | refine k5 ?_ | refine k6 ?_ | refine k7 ?_ | refine k8 ?_ | refine k9 ?_ | refine ka ?_ | refine kb ?_ | refine kl ?_ | refine km ?_ | refine kc ?_ | refine kd ?_ | exact True.intro)
  refine Fin.mk' () trivial ?_
  ((repeat ((conv => whnf); with_reducible first | refine Sx.go ?_ | refine Sx.seq ?_ | refine Sx.reg ?_ | refine SxO.cons ?_ | refine SxO.nil ?_ | refine SeqK.normal ?_ | refine SeqK.ret ?_ | refine SeqK.exit ?_ | refine BlkK.normal ?_ | refine BlkK.ret ?_ | refine BlkK.hit ?_ | refine Sx.cond ?_ | refine Sx.block ?_ | refine Sx.loop ?_ | refine Sx.draw ?_ | refine Sx.ret ?_ | refine Sx.exit ?_ | refine Sx.skip ?_ | refine Sx.label ?_ | refine CondG.split ?_ | refine k1 ?_ | refine ke fun _ => ?_ | refine k2 ?_ | refine kg ?_ | refine kf ?_ | refine k3 ?_ | refine k4 ?_ | refine kn ?_ | refine Same.rfl ?_ | refine k5 ?_ | refine k6 ?_ | refine k7 ?_ | refine k8 ?_ | refine k9 ?_ | refine ka ?_ | refine kb ?_ | refine kl ?_ | refine km ?_ | refine kc ?_ | refine kd ?_ | exact True.intro)); (repeat (refine Chk.mk rfl ?_; (repeat ((conv => whnf); with_reducible first | refine Sx.go ?_ | refine Sx.seq ?_ | refine Sx.reg ?_ | refine SxO.cons ?_ | refine SxO.nil ?_ | refine SeqK.normal ?_ | refine SeqK.ret ?_ | refine SeqK.exit ?_ | refine BlkK.normal ?_ | refine BlkK.ret ?_ | refine BlkK.hit ?_ | refine Sx.cond ?_ | refine Sx.block ?_ | refine Sx.loop ?_ | refine Sx.draw ?_ | refine Sx.ret ?_ | refine Sx.exit ?_ | refine Sx.skip ?_ | refine Sx.label ?_ | refine CondG.split ?_ | refine k1 ?_ | refine ke fun _ => ?_ | refine k2 ?_ | refine kg ?_ | refine kf ?_ | refine k3 ?_ | refine k4 ?_ | refine kn ?_ | refine Same.rfl ?_ | refine k5 ?_ | refine k6 ?_ | refine k7 ?_ | refine k8 ?_ | refine k9 ?_ | refine ka ?_ | refine kb ?_ | refine kl ?_ | refine km ?_ | refine kc ?_ | refine kd ?_ | exact True.intro)))))
def isE (e x : Ent) : Bool := decide (x = e)
theorem rem1_ok (x e : Ent) (b : Nat) : CtrU R 33 [va (entA x), vp 6 b] [(6, b, .var 27 (entA e))] (vb (isE e x)) [(6, b, .var 27 (entA e))] := by
  refine Ctr.of Try.func33 rfl (by kernel_rfl) rfl fun _ _ w0 => ?_
  have he : isE e x = (decide (x.1 = e.1) && (decide (x.2.1 = e.2.1) && (decide (x.2.2 = e.2.2) && true))) := by
    obtain ⟨a, b, c⟩ := x
    obtain ⟨a2, b2, c2⟩ := e
    unfold isE
    rw [Bool.eq_iff_iff]
    simp
  rw [he]
  repeat ((conv => whnf); with_reducible first | refine Sx.go ?_ | refine Sx.seq ?_ | refine Sx.reg ?_ | refine SxO.cons ?_ | refine SxO.nil ?_ | refine SeqK.normal ?_ | refine SeqK.ret ?_ | refine SeqK.exit ?_ | refine BlkK.normal ?_ | refine BlkK.ret ?_ | refine BlkK.hit ?_ | refine Sx.cond ?_ | refine Sx.block ?_ | refine Sx.loop ?_ | refine Sx.draw ?_ | refine Sx.ret ?_ | refine Sx.exit ?_ | refine Sx.skip ?_ | refine Sx.label ?_ | refine CondG.split ?_ | refine k1 ?_ | refine ke fun _ => ?_ | refine k2 ?_ | refine kg ?_ | refine kf ?_ | refine k3 ?_ | refine k4 ?_ | refine kn ?_ | refine Same.rfl ?_ | refine k5 ?_ | refine k6 ?_ | refine k7 ?_ | refine k8 ?_ | refine k9 ?_ | refine ka ?_ | refine kb ?_ | refine kl ?_ | refine km ?_ | refine kc ?_ | refine kd ?_ | exact True.intro)
  refine Fin.mk' () trivial ?_
  repeat ((conv => whnf); with_reducible first | refine Sx.go ?_ | refine Sx.seq ?_ | refine Sx.reg ?_ | refine SxO.cons ?_ | refine SxO.nil ?_ | refine SeqK.normal ?_ | refine SeqK.ret ?_ | refine SeqK.exit ?_ | refine BlkK.normal ?_ | refine BlkK.ret ?_ | refine BlkK.hit ?_ | refine Sx.cond ?_ | refine Sx.block ?_ | refine Sx.loop ?_ | refine Sx.draw ?_ | refine Sx.ret ?_ | refine Sx.exit ?_ | refine Sx.skip ?_ | refine Sx.label ?_ | refine CondG.split ?_ | refine k1 ?_ | refine ke fun _ => ?_ | refine k2 ?_ | refine kg ?_ | refine kf ?_ | refine k3 ?_ | refine k4 ?_ | refine kn ?_ | refine Same.rfl ?_ | refine k5 ?_ | refine k6 ?_ | refine k7 ?_ | refine k8 ?_ | refine k9 ?_ | refine ka ?_ | refine kb ?_ | refine kl ?_ | refine km ?_ | refine kc ?_ | refine kd ?_ | exact True.intro)
theorem indexR_ok (x : SV) (L : List Ent) (b : Nat) (e : Ent) (hL : L.length ≤ 9223372036854775807) :
    CtrU R 50 [vl 1 x, fnv 33 [⟨6, b, .lit 0⟩]] [(1, x.blk, .view (.st entS) x L), (6, b, .var 27 (entA e))] (vi (place (isE e) L)) [(6, b, .var 27 (entA e))] := by
  refine Ctr.of Try.func50 rfl (by kernel_rfl) rfl fun _ _ w0 => ?_
  repeat ((conv => whnf); with_reducible first | refine Sx.go ?_ | refine Sx.seq ?_ | refine Sx.reg ?_ | refine SxO.cons ?_ | refine SxO.nil ?_ | refine SeqK.normal ?_ | refine SeqK.ret ?_ | refine SeqK.exit ?_ | refine BlkK.normal ?_ | refine BlkK.ret ?_ | refine BlkK.hit ?_ | refine Sx.cond ?_ | refine Sx.block ?_ | refine Sx.loop ?_ | refine Sx.draw ?_ | refine Sx.ret ?_ | refine Sx.exit ?_ | refine Sx.skip ?_ | refine Sx.label ?_ | refine CondG.split ?_ | refine k1 ?_ | refine ke fun _ => ?_ | refine k2 ?_ | refine kg ?_ | refine kf ?_ | refine k3 ?_ | refine k4 ?_ | refine kn ?_ | refine Same.rfl ?_ | refine k5 ?_ | refine k6 ?_ | refine k7 ?_ | refine k8 ?_ | refine k9 ?_ | refine ka ?_ | refine kb ?_ | refine kl ?_ | refine km ?_ | refine kc ?_ | refine kd ?_ | exact True.intro)
  refine LoopG.auto [0, 1, 6, 7] [1, 6] (fun (i : Nat) => [(8, vi i)]) (fun i => []) (fun i => i ≤ L.length ∧ ∀ j, j < i → isE e (L.getD j (0, 0, 0)) = false) (fun i => L.length - i) 0 ?_
  refine ⟨⟨⟨by omega, fun _ h => by omega⟩, ?_⟩, fun i hi => ?_⟩
  · repeat ((conv => whnf); with_reducible first | refine Sx.go ?_ | refine Sx.seq ?_ | refine Sx.reg ?_ | refine SxO.cons ?_ | refine SxO.nil ?_ | refine SeqK.normal ?_ | refine SeqK.ret ?_ | refine SeqK.exit ?_ | refine BlkK.normal ?_ | refine BlkK.ret ?_ | refine BlkK.hit ?_ | refine Sx.cond ?_ | refine Sx.block ?_ | refine Sx.loop ?_ | refine Sx.draw ?_ | refine Sx.ret ?_ | refine Sx.exit ?_ | refine Sx.skip ?_ | refine Sx.label ?_ | refine CondG.split ?_ | refine k1 ?_ | refine ke fun _ => ?_ | refine k2 ?_ | refine kg ?_ | refine kf ?_ | refine k3 ?_ | refine k4 ?_ | refine kn ?_ | refine Same.rfl ?_ | refine k5 ?_ | refine k6 ?_ | refine k7 ?_ | refine k8 ?_ | refine k9 ?_ | refine ka ?_ | refine kb ?_ | refine kl ?_ | refine km ?_ | refine kc ?_ | refine kd ?_ | exact True.intro)
  · obtain ⟨hi1, hi2⟩ := hi
    (repeat ((conv => whnf); with_reducible first | refine Sx.go ?_ | refine Sx.seq ?_ | refine Sx.reg ?_ | refine SxO.cons ?_ | refine SxO.nil ?_ | refine SeqK.normal ?_ | refine SeqK.ret ?_ | refine SeqK.exit ?_ | refine BlkK.normal ?_ | refine BlkK.ret ?_ | refine BlkK.hit ?_ | refine Sx.cond ?_ | refine Sx.block ?_ | refine Sx.loop ?_ | refine Sx.draw ?_ | refine Sx.ret ?_ | refine Sx.exit ?_ | refine Sx.skip ?_ | refine Sx.label ?_ | refine CondG.split ?_ | refine k1 ?_ | refine ke fun _ => ?_ | refine k2 ?_ | refine kg ?_ | refine kf ?_ | refine k3 ?_ | refine k4 ?_ | refine kn ?_ | refine Same.rfl ?_ | refine k5 ?_ | refine k6 ?_ | refine k7 ?_ | refine k8 ?_ | refine k9 ?_ | refine ka ?_ | refine kb ?_ | refine kl ?_ | refine km ?_ | refine kc ?_ | refine kd ?_ | exact True.intro)); refine Br.by (fun g => ?_) (fun g => ?_)
    · have gi : i < L.length := by
        have g : (i : Int) < (L.length : Int) := g
        omega
      have hc : CtrU R 33 [va (entA (L.getD i (Enc.st entS).dflt)), vp 6 b] [(6, b, .var 27 (entA e))] (vb (isE e (L.getD i (Enc.st entS).dflt))) [(6, b, .var 27 (entA e))] := rem1_ok _ e b
      cases hb : isE e (L.getD i (Enc.st entS).dflt) with
      | true =>
        rw [hb] at hc
        have hp : place (isE e) L = i := place_at (isE e) (0, 0, 0) L i gi hi2 hb
        rw [hp]
        repeat ((conv => whnf); with_reducible first | refine Sx.go ?_ | refine Sx.seq ?_ | refine Sx.reg ?_ | refine SxO.cons ?_ | refine SxO.nil ?_ | refine SeqK.normal ?_ | refine SeqK.ret ?_ | refine SeqK.exit ?_ | refine BlkK.normal ?_ | refine BlkK.ret ?_ | refine BlkK.hit ?_ | refine Sx.cond ?_ | refine Sx.block ?_ | refine Sx.loop ?_ | refine Sx.draw ?_ | refine Sx.ret ?_ | refine Sx.exit ?_ | refine Sx.skip ?_ | refine Sx.label ?_ | refine CondG.split ?_ | refine k1 ?_ | refine ke fun _ => ?_ | refine k2 ?_ | refine kg ?_ | refine kf ?_ | refine k3 ?_ | refine k4 ?_ | refine kn ?_ | refine Same.rfl ?_ | refine k5 ?_ | refine k6 ?_ | refine k7 ?_ | refine k8 ?_ | refine k9 ?_ | refine ka ?_ | refine kb ?_ | refine kl ?_ | refine km ?_ | refine kc ?_ | refine kd ?_ | exact True.intro)
        refine CallG.one [] hc rfl rfl ?_
        repeat ((conv => whnf); with_reducible first | refine Sx.go ?_ | refine Sx.seq ?_ | refine Sx.reg ?_ | refine SxO.cons ?_ | refine SxO.nil ?_ | refine SeqK.normal ?_ | refine SeqK.ret ?_ | refine SeqK.exit ?_ | refine BlkK.normal ?_ | refine BlkK.ret ?_ | refine BlkK.hit ?_ | refine Sx.cond ?_ | refine Sx.block ?_ | refine Sx.loop ?_ | refine Sx.draw ?_ | refine Sx.ret ?_ | refine Sx.exit ?_ | refine Sx.skip ?_ | refine Sx.label ?_ | refine CondG.split ?_ | refine k1 ?_ | refine ke fun _ => ?_ | refine k2 ?_ | refine kg ?_ | refine kf ?_ | refine k3 ?_ | refine k4 ?_ | refine kn ?_ | refine Same.rfl ?_ | refine k5 ?_ | refine k6 ?_ | refine k7 ?_ | refine k8 ?_ | refine k9 ?_ | refine ka ?_ | refine kb ?_ | refine kl ?_ | refine km ?_ | refine kc ?_ | refine kd ?_ | exact True.intro)
        refine Fin.mk' () trivial ?_
        repeat ((conv => whnf); with_reducible first | refine Sx.go ?_ | refine Sx.seq ?_ | refine Sx.reg ?_ | refine SxO.cons ?_ | refine SxO.nil ?_ | refine SeqK.normal ?_ | refine SeqK.ret ?_ | refine SeqK.exit ?_ | refine BlkK.normal ?_ | refine BlkK.ret ?_ | refine BlkK.hit ?_ | refine Sx.cond ?_ | refine Sx.block ?_ | refine Sx.loop ?_ | refine Sx.draw ?_ | refine Sx.ret ?_ | refine Sx.exit ?_ | refine Sx.skip ?_ | refine Sx.label ?_ | refine CondG.split ?_ | refine k1 ?_ | refine ke fun _ => ?_ | refine k2 ?_ | refine kg ?_ | refine kf ?_ | refine k3 ?_ | refine k4 ?_ | refine kn ?_ | refine Same.rfl ?_ | refine k5 ?_ | refine k6 ?_ | refine k7 ?_ | refine k8 ?_ | refine k9 ?_ | refine ka ?_ | refine kb ?_ | refine kl ?_ | refine km ?_ | refine kc ?_ | refine kd ?_ | exact True.intro)
      | false =>
        rw [hb] at hc
        repeat ((conv => whnf); with_reducible first | refine Sx.go ?_ | refine Sx.seq ?_ | refine Sx.reg ?_ | refine SxO.cons ?_ | refine SxO.nil ?_ | refine SeqK.normal ?_ | refine SeqK.ret ?_ | refine SeqK.exit ?_ | refine BlkK.normal ?_ | refine BlkK.ret ?_ | refine BlkK.hit ?_ | refine Sx.cond ?_ | refine Sx.block ?_ | refine Sx.loop ?_ | refine Sx.draw ?_ | refine Sx.ret ?_ | refine Sx.exit ?_ | refine Sx.skip ?_ | refine Sx.label ?_ | refine CondG.split ?_ | refine k1 ?_ | refine ke fun _ => ?_ | refine k2 ?_ | refine kg ?_ | refine kf ?_ | refine k3 ?_ | refine k4 ?_ | refine kn ?_ | refine Same.rfl ?_ | refine k5 ?_ | refine k6 ?_ | refine k7 ?_ | refine k8 ?_ | refine k9 ?_ | refine ka ?_ | refine kb ?_ | refine kl ?_ | refine km ?_ | refine kc ?_ | refine kd ?_ | exact True.intro)
        refine CallG.one [] hc rfl rfl ?_
        repeat ((conv => whnf); with_reducible first | refine Sx.go ?_ | refine Sx.seq ?_ | refine Sx.reg ?_ | refine SxO.cons ?_ | refine SxO.nil ?_ | refine SeqK.normal ?_ | refine SeqK.ret ?_ | refine SeqK.exit ?_ | refine BlkK.normal ?_ | refine BlkK.ret ?_ | refine BlkK.hit ?_ | refine Sx.cond ?_ | refine Sx.block ?_ | refine Sx.loop ?_ | refine Sx.draw ?_ | refine Sx.ret ?_ | refine Sx.exit ?_ | refine Sx.skip ?_ | refine Sx.label ?_ | refine CondG.split ?_ | refine k1 ?_ | refine ke fun _ => ?_ | refine k2 ?_ | refine kg ?_ | refine kf ?_ | refine k3 ?_ | refine k4 ?_ | refine kn ?_ | refine Same.rfl ?_ | refine k5 ?_ | refine k6 ?_ | refine k7 ?_ | refine k8 ?_ | refine k9 ?_ | refine ka ?_ | refine kb ?_ | refine kl ?_ | refine km ?_ | refine kc ?_ | refine kd ?_ | exact True.intro)
        refine ⟨i + 1, ⟨by omega, fun j hj => ?_⟩, (by dsimp only; omega), ?_⟩
        · rcases Nat.lt_succ_iff_lt_or_eq.1 hj with h | h
          · exact hi2 j h
          · rw [h]; exact hb
        · repeat ((conv => whnf); with_reducible first | refine Sx.go ?_ | refine Sx.seq ?_ | refine Sx.reg ?_ | refine SxO.cons ?_ | refine SxO.nil ?_ | refine SeqK.normal ?_ | refine SeqK.ret ?_ | refine SeqK.exit ?_ | refine BlkK.normal ?_ | refine BlkK.ret ?_ | refine BlkK.hit ?_ | refine Sx.cond ?_ | refine Sx.block ?_ | refine Sx.loop ?_ | refine Sx.draw ?_ | refine Sx.ret ?_ | refine Sx.exit ?_ | refine Sx.skip ?_ | refine Sx.label ?_ | refine CondG.split ?_ | refine k1 ?_ | refine ke fun _ => ?_ | refine k2 ?_ | refine kg ?_ | refine kf ?_ | refine k3 ?_ | refine k4 ?_ | refine kn ?_ | refine Same.rfl ?_ | refine k5 ?_ | refine k6 ?_ | refine k7 ?_ | refine k8 ?_ | refine k9 ?_ | refine ka ?_ | refine kb ?_ | refine kl ?_ | refine km ?_ | refine kc ?_ | refine kd ?_ | exact True.intro)
    · have hh : i = L.length := by
        have g : ¬ (i : Int) < (L.length : Int) := g
        omega
      have hp : place (isE e) L = -1 := place_none (isE e) (0, 0, 0) L fun j hj => hi2 j (by omega)
      rw [hp]
      repeat ((conv => whnf); with_reducible first | refine Sx.go ?_ | refine Sx.seq ?_ | refine Sx.reg ?_ | refine SxO.cons ?_ | refine SxO.nil ?_ | refine SeqK.normal ?_ | refine SeqK.ret ?_ | refine SeqK.exit ?_ | refine BlkK.normal ?_ | refine BlkK.ret ?_ | refine BlkK.hit ?_ | refine Sx.cond ?_ | refine Sx.block ?_ | refine Sx.loop ?_ | refine Sx.draw ?_ | refine Sx.ret ?_ | refine Sx.exit ?_ | refine Sx.skip ?_ | refine Sx.label ?_ | refine CondG.split ?_ | refine k1 ?_ | refine ke fun _ => ?_ | refine k2 ?_ | refine kg ?_ | refine kf ?_ | refine k3 ?_ | refine k4 ?_ | refine kn ?_ | refine Same.rfl ?_ | refine k5 ?_ | refine k6 ?_ | refine k7 ?_ | refine k8 ?_ | refine k9 ?_ | refine ka ?_ | refine kb ?_ | refine kl ?_ | refine km ?_ | refine kc ?_ | refine kd ?_ | exact True.intro)
      refine Fin.mk' () trivial ?_
      repeat ((conv => whnf); with_reducible first | refine Sx.go ?_ | refine Sx.seq ?_ | refine Sx.reg ?_ | refine SxO.cons ?_ | refine SxO.nil ?_ | refine SeqK.normal ?_ | refine SeqK.ret ?_ | refine SeqK.exit ?_ | refine BlkK.normal ?_ | refine BlkK.ret ?_ | refine BlkK.hit ?_ | refine Sx.cond ?_ | refine Sx.block ?_ | refine Sx.loop ?_ | refine Sx.draw ?_ | refine Sx.ret ?_ | refine Sx.exit ?_ | refine Sx.skip ?_ | refine Sx.label ?_ | refine CondG.split ?_ | refine k1 ?_ | refine ke fun _ => ?_ | refine k2 ?_ | refine kg ?_ | refine kf ?_ | refine k3 ?_ | refine k4 ?_ | refine kn ?_ | refine Same.rfl ?_ | refine k5 ?_ | refine k6 ?_ | refine k7 ?_ | refine k8 ?_ | refine k9 ?_ | refine ka ?_ | refine kb ?_ | refine kl ?_ | refine km ?_ | refine kc ?_ | refine kd ?_ | exact True.intro)
/-- What is kept of the first j, in front; what is behind stays till it is written. -/
def keep (p : Ent → Bool) (L : List Ent) (j : Nat) : List Ent := (L.take j).filter fun x => !p x
theorem keep_le (p : Ent → Bool) (L : List Ent) (j : Nat) : (keep p L j).length ≤ j := by
  have := List.length_filter_le (fun x => !p x) (L.take j)
  rw [List.length_take] at this
  unfold keep; omega
theorem keep_succ (p : Ent → Bool) (L : List Ent) (j : Nat) (h : j < L.length) : keep p L (j + 1) = keep p L j ++ (if p (L.getD j (0, 0, 0)) then [] else [L.getD j (0, 0, 0)]) := by
  unfold keep
  rw [filt_next _ L j h]
  cases p (L.getD j (0, 0, 0)) <;> rfl
/-- The row while it goes. -/
structure DelI (p : Ent → Bool) (L : List Ent) (j : Nat) (M : List Ent) : Prop where
  len : M.length = L.length
  head : M.take (keep p L j).length = keep p L j
  tail : M.drop j = L.drop j
theorem DelI.get {p : Ent → Bool} {L M : List Ent} {j : Nat} (h : DelI p L j M) (hj : j < L.length) : M.getD j (0, 0, 0) = L.getD j (0, 0, 0) := by
  have h1 := congrArg (fun l => l.getD 0 (0, 0, 0)) h.tail
  simpa [List.getD, List.getElem?_drop] using h1
theorem DelI.skip {p : Ent → Bool} {L M : List Ent} {j : Nat} (h : DelI p L j M) (hj : j < L.length) (hp : p (L.getD j (0, 0, 0)) = true) : DelI p L (j + 1) M := by
  have hk : keep p L (j + 1) = keep p L j := by rw [keep_succ p L j hj, hp]; simp
  refine ⟨h.len, by rw [hk]; exact h.head, ?_⟩
  have := congrArg (List.drop 1) h.tail
  simpa [List.drop_drop, Nat.add_comm] using this
theorem DelI.take {p : Ent → Bool} {L M : List Ent} {j : Nat} (h : DelI p L j M) (hj : j < L.length) (hp : p (L.getD j (0, 0, 0)) = false) : DelI p L (j + 1) (M.set (keep p L j).length (L.getD j (0, 0, 0))) ∧ (keep p L (j + 1)).length = (keep p L j).length + 1 := by
  have hk : keep p L (j + 1) = keep p L j ++ [L.getD j (0, 0, 0)] := by rw [keep_succ p L j hj, hp]; simp
  have hkl := keep_le p L j
  have hl := h.len
  have hlen : (keep p L (j + 1)).length = (keep p L j).length + 1 := by rw [hk]; simp
  refine ⟨⟨by rw [List.length_set]; exact h.len, ?_, ?_⟩, hlen⟩
  · rw [hlen, List.take_succ_eq_append_getElem (by rw [List.length_set]; omega), List.take_set_of_le (Nat.le_refl _), h.head, hk]
    simp
  · rw [List.drop_set_of_lt (by omega)]
    have := congrArg (List.drop 1) h.tail
    simpa [List.drop_drop, Nat.add_comm] using this
end Go.Proofs.Ythkgegbhnhkacaa
