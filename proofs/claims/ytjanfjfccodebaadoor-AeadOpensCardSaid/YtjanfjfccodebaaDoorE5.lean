/- The laws of aead: AeadTurned, AeadShort. -/
import Derived.Test.YtjanfjfccodebaaDoorE4
set_option linter.unusedVariables false
set_option linter.unusedSimpArgs false
set_option maxRecDepth 10000
set_option maxHeartbeats 1000000
namespace Go.Proofs.YtjanfjfccodebaaDoor
open Go Go.SY Go.Poly Go.Cha
seal sx sxOps

theorem okA_short (k n ad s : List UInt8) (h : s.length < 16) : okA k n ad s = false := by
  unfold okA; rw [decide_eq_false (by omega), Bool.false_and]
theorem openA_short (k n ad s : List UInt8) (h : s.length < 16) : openA k n ad s = [] := by
  unfold openA; rw [okA_short k n ad s h]; rfl
theorem short_law (k : List UInt8) (c : BitVec 32) (n : List UInt8) (ad s : List UInt8) (hk : k.length = 32) (hn : n.length = 12) (h1 : ad.length ≤ 9223372036854775807) (h2 : s.length ≤ 9223372036854775807) :
    CtrP R 7 [vplace k c n, vs ad, vs s] [gQuarters, gBegin4] (vb true) := by
  refine Ctr.of Tryd.func7 rfl (by kernel_rfl) rfl fun _ _ w0 => ?_
  obtain ⟨A, hA⟩ : ∃ A, A = ad.take 60 := ⟨_, rfl⟩
  obtain ⟨S, hS⟩ : ∃ S, S = s.take 15 := ⟨_, rfl⟩
  have hAl : A.length ≤ 60 := by rw [hA, List.length_take]; omega
  have hSl : S.length ≤ 15 := by rw [hS, List.length_take]; omega
  have hcA := cut_ok ad 60 (by decide)
  rw [← hA] at hcA
  have hcS := cut_ok s 15 (by decide)
  rw [← hS] at hcS
  have hxl := sealA_length k n A []
  have hxl2 : (sealA k n A []).length = 16 := hxl
  have ho1 := open_ok k n A S hk hn (by omega) (by omega)
  rw [okA_short k n A S (by omega), openA_short k n A S (by omega)] at ho1
  have ho2 := open_ok k n A (sealA k n A []) hk hn (by omega) (by omega)
  rw [okA_seal, openA_seal] at ho2
  have hnil : decide (([] : List UInt8) = []) = true := rfl
  repeat ((conv => whnf); with_reducible first | refine Sx.go ?_ | refine Sx.seq ?_ | refine Sx.reg ?_ | refine SxO.cons ?_ | refine SxO.nil ?_ | refine SeqK.normal ?_ | refine SeqK.ret ?_ | refine SeqK.exit ?_ | refine BlkK.normal ?_ | refine BlkK.ret ?_ | refine BlkK.hit ?_ | refine Sx.cond ?_ | refine Sx.block ?_ | refine Sx.loop ?_ | refine Sx.draw ?_ | refine Sx.ret ?_ | refine Sx.exit ?_ | refine Sx.skip ?_ | refine Sx.label ?_ | refine CondG.split ?_ | refine k1 ?_ | refine ke fun _ => ?_ | refine k2 ?_ | refine kg ?_ | refine kf ?_ | refine k3 ?_ | refine k4 ?_ | refine kn ?_ | refine Same.rfl ?_ | refine k5 ?_ | refine k6 ?_ | refine k7 ?_ | refine k8 ?_ | refine k9 ?_ | refine ka ?_ | refine kb ?_ | refine kl ?_ | refine km ?_ | refine kc ?_ | refine kd ?_ | exact True.intro)
  refine CallG.p [] awake_ok rfl rfl ?_
  repeat ((conv => whnf); with_reducible first | refine Sx.go ?_ | refine Sx.seq ?_ | refine Sx.reg ?_ | refine SxO.cons ?_ | refine SxO.nil ?_ | refine SeqK.normal ?_ | refine SeqK.ret ?_ | refine SeqK.exit ?_ | refine BlkK.normal ?_ | refine BlkK.ret ?_ | refine BlkK.hit ?_ | refine Sx.cond ?_ | refine Sx.block ?_ | refine Sx.loop ?_ | refine Sx.draw ?_ | refine Sx.ret ?_ | refine Sx.exit ?_ | refine Sx.skip ?_ | refine Sx.label ?_ | refine CondG.split ?_ | refine k1 ?_ | refine ke fun _ => ?_ | refine k2 ?_ | refine kg ?_ | refine kf ?_ | refine k3 ?_ | refine k4 ?_ | refine kn ?_ | refine Same.rfl ?_ | refine k5 ?_ | refine k6 ?_ | refine k7 ?_ | refine k8 ?_ | refine k9 ?_ | refine ka ?_ | refine kb ?_ | refine kl ?_ | refine km ?_ | refine kc ?_ | refine kd ?_ | exact True.intro)
  refine CallG.p [] hcA rfl rfl ?_
  repeat ((conv => whnf); with_reducible first | refine Sx.go ?_ | refine Sx.seq ?_ | refine Sx.reg ?_ | refine SxO.cons ?_ | refine SxO.nil ?_ | refine SeqK.normal ?_ | refine SeqK.ret ?_ | refine SeqK.exit ?_ | refine BlkK.normal ?_ | refine BlkK.ret ?_ | refine BlkK.hit ?_ | refine Sx.cond ?_ | refine Sx.block ?_ | refine Sx.loop ?_ | refine Sx.draw ?_ | refine Sx.ret ?_ | refine Sx.exit ?_ | refine Sx.skip ?_ | refine Sx.label ?_ | refine CondG.split ?_ | refine k1 ?_ | refine ke fun _ => ?_ | refine k2 ?_ | refine kg ?_ | refine kf ?_ | refine k3 ?_ | refine k4 ?_ | refine kn ?_ | refine Same.rfl ?_ | refine k5 ?_ | refine k6 ?_ | refine k7 ?_ | refine k8 ?_ | refine k9 ?_ | refine ka ?_ | refine kb ?_ | refine kl ?_ | refine km ?_ | refine kc ?_ | refine kd ?_ | exact True.intro)
  refine CallG.p [] hcS rfl rfl ?_
  repeat ((conv => whnf); with_reducible first | refine Sx.go ?_ | refine Sx.seq ?_ | refine Sx.reg ?_ | refine SxO.cons ?_ | refine SxO.nil ?_ | refine SeqK.normal ?_ | refine SeqK.ret ?_ | refine SeqK.exit ?_ | refine BlkK.normal ?_ | refine BlkK.ret ?_ | refine BlkK.hit ?_ | refine Sx.cond ?_ | refine Sx.block ?_ | refine Sx.loop ?_ | refine Sx.draw ?_ | refine Sx.ret ?_ | refine Sx.exit ?_ | refine Sx.skip ?_ | refine Sx.label ?_ | refine CondG.split ?_ | refine k1 ?_ | refine ke fun _ => ?_ | refine k2 ?_ | refine kg ?_ | refine kf ?_ | refine k3 ?_ | refine k4 ?_ | refine kn ?_ | refine Same.rfl ?_ | refine k5 ?_ | refine k6 ?_ | refine k7 ?_ | refine k8 ?_ | refine k9 ?_ | refine ka ?_ | refine kb ?_ | refine kl ?_ | refine km ?_ | refine kc ?_ | refine kd ?_ | exact True.intro)
  refine CallG.p [] ho1 rfl rfl ?_
  repeat ((conv => whnf); with_reducible first | refine Sx.go ?_ | refine Sx.seq ?_ | refine Sx.reg ?_ | refine SxO.cons ?_ | refine SxO.nil ?_ | refine SeqK.normal ?_ | refine SeqK.ret ?_ | refine SeqK.exit ?_ | refine BlkK.normal ?_ | refine BlkK.ret ?_ | refine BlkK.hit ?_ | refine Sx.cond ?_ | refine Sx.block ?_ | refine Sx.loop ?_ | refine Sx.draw ?_ | refine Sx.ret ?_ | refine Sx.exit ?_ | refine Sx.skip ?_ | refine Sx.label ?_ | refine CondG.split ?_ | refine k1 ?_ | refine ke fun _ => ?_ | refine k2 ?_ | refine kg ?_ | refine kf ?_ | refine k3 ?_ | refine k4 ?_ | refine kn ?_ | refine Same.rfl ?_ | refine k5 ?_ | refine k6 ?_ | refine k7 ?_ | refine k8 ?_ | refine k9 ?_ | refine ka ?_ | refine kb ?_ | refine kl ?_ | refine km ?_ | refine kc ?_ | refine kd ?_ | exact True.intro)
  refine CallG.p [] (seal_ok k n A [] hk hn (by omega) (by simp)) rfl rfl ?_
  repeat ((conv => whnf); with_reducible first | refine Sx.go ?_ | refine Sx.seq ?_ | refine Sx.reg ?_ | refine SxO.cons ?_ | refine SxO.nil ?_ | refine SeqK.normal ?_ | refine SeqK.ret ?_ | refine SeqK.exit ?_ | refine BlkK.normal ?_ | refine BlkK.ret ?_ | refine BlkK.hit ?_ | refine Sx.cond ?_ | refine Sx.block ?_ | refine Sx.loop ?_ | refine Sx.draw ?_ | refine Sx.ret ?_ | refine Sx.exit ?_ | refine Sx.skip ?_ | refine Sx.label ?_ | refine CondG.split ?_ | refine k1 ?_ | refine ke fun _ => ?_ | refine k2 ?_ | refine kg ?_ | refine kf ?_ | refine k3 ?_ | refine k4 ?_ | refine kn ?_ | refine Same.rfl ?_ | refine k5 ?_ | refine k6 ?_ | refine k7 ?_ | refine k8 ?_ | refine k9 ?_ | refine ka ?_ | refine kb ?_ | refine kl ?_ | refine km ?_ | refine kc ?_ | refine kd ?_ | exact True.intro)
  refine CallG.p [] ho2 rfl rfl ?_
  repeat ((conv => whnf); with_reducible first | refine Sx.go ?_ | refine Sx.seq ?_ | refine Sx.reg ?_ | refine SxO.cons ?_ | refine SxO.nil ?_ | refine SeqK.normal ?_ | refine SeqK.ret ?_ | refine SeqK.exit ?_ | refine BlkK.normal ?_ | refine BlkK.ret ?_ | refine BlkK.hit ?_ | refine Sx.cond ?_ | refine Sx.block ?_ | refine Sx.loop ?_ | refine Sx.draw ?_ | refine Sx.ret ?_ | refine Sx.exit ?_ | refine Sx.skip ?_ | refine Sx.label ?_ | refine CondG.split ?_ | refine k1 ?_ | refine ke fun _ => ?_ | refine k2 ?_ | refine kg ?_ | refine kf ?_ | refine k3 ?_ | refine k4 ?_ | refine kn ?_ | refine Same.rfl ?_ | refine k5 ?_ | refine k6 ?_ | refine k7 ?_ | refine k8 ?_ | refine k9 ?_ | refine ka ?_ | refine kb ?_ | refine kl ?_ | refine km ?_ | refine kc ?_ | refine kd ?_ | exact True.intro)
  refine Fin.pure ?_
  exact Chk.mk rfl trivial
theorem and_15i (a : Int) : iand .i64 a 15 = a % 16 := iand_mask 4 (by omega) a
theorem and_127i (a : Int) : iand .i64 a 127 = a % 128 := iand_mask 7 (by omega) a
theorem okA_turned (k n ad p : List UInt8) (j : Nat) (v : UInt8) (hj : j < 16) (hv : v ≠ (sealA k n ad p).getD (p.length + j) 0) : okA k n ad ((sealA k n ad p).set (p.length + j) v) = false := by
  have hl := sealA_length k n ad p
  have htl := tagA_length k n ad (xored k 1 n p)
  have hxl := xored_length k 1 n p
  have hset : (sealA k n ad p).set (p.length + j) v = xored k 1 n p ++ (tagA k n ad (xored k 1 n p)).set j v := by
    unfold sealA
    rw [List.set_append_right _ _ (by omega), hxl, Nat.add_sub_cancel_left]
  have hget : (sealA k n ad p).getD (p.length + j) 0 = (tagA k n ad (xored k 1 n p)).getD j 0 := by
    unfold sealA
    rw [List.getD_eq_getElem?_getD, List.getElem?_append_right (by omega), hxl, Nat.add_sub_cancel_left, ← List.getD_eq_getElem?_getD]
  rw [hget] at hv
  rw [hset]
  unfold okA
  have e : (xored k 1 n p ++ (tagA k n ad (xored k 1 n p)).set j v).length - 16 = (xored k 1 n p).length := by rw [List.length_append, List.length_set]; omega
  rw [e, List.drop_left, List.take_left]
  generalize tagA k n ad (xored k 1 n p) = T at *
  have hne : ¬ T.set j v = T := fun h => hv (by
    have h2 : (T.set j v).getD j 0 = T.getD j 0 := by rw [h]
    rw [set_get T j v 0 (by omega)] at h2
    exact h2)
  rw [decide_eq_false hne, Bool.and_false]
theorem flip_ne (x : UInt8) (r : Nat) (hr : r < 8) : (⟨x.toBitVec ^^^ (1#8 <<< r)⟩ : UInt8) ≠ x := by
  intro h
  have h2 := congrArg (fun y : UInt8 => y.toBitVec.getLsbD r) h
  simp only [BitVec.getLsbD_xor] at h2
  have h3 : (1#8 <<< r).getLsbD r = true := by
    rw [BitVec.getLsbD_shiftLeft]
    simp [hr]
  rw [h3] at h2
  cases hx : x.toBitVec.getLsbD r <;> rw [hx] at h2 <;> cases h2
theorem turned_law (k : List UInt8) (c : BitVec 32) (n : List UInt8) (p : List UInt8) (at_ : Int) (hk : k.length = 32) (hn : n.length = 12) (h2 : p.length ≤ 9223372036854775807) :
    CtrP R 6 [vplace k c n, vs p, vi at_] [gQuarters, gBegin4] (vb true) := by
  refine Ctr.of Tryd.func6 rfl (by kernel_rfl) rfl fun _ _ w0 => ?_
  obtain ⟨Q, hQ⟩ : ∃ Q, Q = p.take 80 := ⟨_, rfl⟩
  have hQl : Q.length ≤ 80 := by rw [hQ, List.length_take]; omega
  have hcQ := cut_ok p 80 (by decide)
  rw [← hQ] at hcQ
  obtain ⟨m, hm, hm2⟩ : ∃ m : Nat, iand .i64 at_ 127 = m ∧ m < 128 := ⟨(at_ % 128).toNat, by rw [and_127i]; omega, by omega⟩
  obtain ⟨m2, hm3, hm4⟩ : ∃ m : Nat, iand .i64 at_ 15 = m ∧ m < 16 := ⟨(at_ % 16).toNat, by rw [and_15i]; omega, by omega⟩
  obtain ⟨S, hS⟩ : ∃ S, S = sealA k n [97, 100] Q := ⟨_, rfl⟩
  have hSl : S.length = Q.length + 16 := by rw [hS]; exact sealA_length _ _ _ _
  have hse := seal_ok k n [97, 100] Q hk hn (by simp) (by omega)
  rw [← hS] at hse
  have hd : (iand .i64 at_ 127).tdiv 8 = ((m / 8 : Nat) : Int) := by rw [hm]; rfl
  have hr : (iand .i64 at_ 127).tmod 8 = ((m % 8 : Nat) : Int) := by rw [hm]; rfl
  have hix : ((Q.length : Int) + (iand .i64 at_ 127).tdiv 8).toNat = Q.length + m / 8 := by rw [hd]; omega
  repeat ((conv => whnf); with_reducible first | refine Sx.go ?_ | refine Sx.seq ?_ | refine Sx.reg ?_ | refine SxO.cons ?_ | refine SxO.nil ?_ | refine SeqK.normal ?_ | refine SeqK.ret ?_ | refine SeqK.exit ?_ | refine BlkK.normal ?_ | refine BlkK.ret ?_ | refine BlkK.hit ?_ | refine Sx.cond ?_ | refine Sx.block ?_ | refine Sx.loop ?_ | refine Sx.draw ?_ | refine Sx.ret ?_ | refine Sx.exit ?_ | refine Sx.skip ?_ | refine Sx.label ?_ | refine CondG.split ?_ | refine k1 ?_ | refine ke fun _ => ?_ | refine k2 ?_ | refine kg ?_ | refine kf ?_ | refine k3 ?_ | refine k4 ?_ | refine kn ?_ | refine Same.rfl ?_ | refine k5 ?_ | refine k6 ?_ | refine k7 ?_ | refine k8 ?_ | refine k9 ?_ | refine ka ?_ | refine kb ?_ | refine kl ?_ | refine km ?_ | refine kc ?_ | refine kd ?_ | exact True.intro)
  refine CallG.p [] awake_ok rfl rfl ?_
  repeat ((conv => whnf); with_reducible first | refine Sx.go ?_ | refine Sx.seq ?_ | refine Sx.reg ?_ | refine SxO.cons ?_ | refine SxO.nil ?_ | refine SeqK.normal ?_ | refine SeqK.ret ?_ | refine SeqK.exit ?_ | refine BlkK.normal ?_ | refine BlkK.ret ?_ | refine BlkK.hit ?_ | refine Sx.cond ?_ | refine Sx.block ?_ | refine Sx.loop ?_ | refine Sx.draw ?_ | refine Sx.ret ?_ | refine Sx.exit ?_ | refine Sx.skip ?_ | refine Sx.label ?_ | refine CondG.split ?_ | refine k1 ?_ | refine ke fun _ => ?_ | refine k2 ?_ | refine kg ?_ | refine kf ?_ | refine k3 ?_ | refine k4 ?_ | refine kn ?_ | refine Same.rfl ?_ | refine k5 ?_ | refine k6 ?_ | refine k7 ?_ | refine k8 ?_ | refine k9 ?_ | refine ka ?_ | refine kb ?_ | refine kl ?_ | refine km ?_ | refine kc ?_ | refine kd ?_ | exact True.intro)
  refine CallG.p [] hcQ rfl rfl ?_
  repeat ((conv => whnf); with_reducible first | refine Sx.go ?_ | refine Sx.seq ?_ | refine Sx.reg ?_ | refine SxO.cons ?_ | refine SxO.nil ?_ | refine SeqK.normal ?_ | refine SeqK.ret ?_ | refine SeqK.exit ?_ | refine BlkK.normal ?_ | refine BlkK.ret ?_ | refine BlkK.hit ?_ | refine Sx.cond ?_ | refine Sx.block ?_ | refine Sx.loop ?_ | refine Sx.draw ?_ | refine Sx.ret ?_ | refine Sx.exit ?_ | refine Sx.skip ?_ | refine Sx.label ?_ | refine CondG.split ?_ | refine k1 ?_ | refine ke fun _ => ?_ | refine k2 ?_ | refine kg ?_ | refine kf ?_ | refine k3 ?_ | refine k4 ?_ | refine kn ?_ | refine Same.rfl ?_ | refine k5 ?_ | refine k6 ?_ | refine k7 ?_ | refine k8 ?_ | refine k9 ?_ | refine ka ?_ | refine kb ?_ | refine kl ?_ | refine km ?_ | refine kc ?_ | refine kd ?_ | exact True.intro)
  refine CallG.p [] hse rfl rfl ?_
  repeat ((conv => whnf); with_reducible first | refine Sx.go ?_ | refine Sx.seq ?_ | refine Sx.reg ?_ | refine SxO.cons ?_ | refine SxO.nil ?_ | refine SeqK.normal ?_ | refine SeqK.ret ?_ | refine SeqK.exit ?_ | refine BlkK.normal ?_ | refine BlkK.ret ?_ | refine BlkK.hit ?_ | refine Sx.cond ?_ | refine Sx.block ?_ | refine Sx.loop ?_ | refine Sx.draw ?_ | refine Sx.ret ?_ | refine Sx.exit ?_ | refine Sx.skip ?_ | refine Sx.label ?_ | refine CondG.split ?_ | refine k1 ?_ | refine ke fun _ => ?_ | refine k2 ?_ | refine kg ?_ | refine kf ?_ | refine k3 ?_ | refine k4 ?_ | refine kn ?_ | refine Same.rfl ?_ | refine k5 ?_ | refine k6 ?_ | refine k7 ?_ | refine k8 ?_ | refine k9 ?_ | refine ka ?_ | refine kb ?_ | refine kl ?_ | refine km ?_ | refine kc ?_ | refine kd ?_ | exact True.intro)
  refine Draw.tailQ 12 (by kernel_rfl) (by kernel_rfl) ?_
  repeat ((conv => whnf); with_reducible first | refine Sx.go ?_ | refine Sx.seq ?_ | refine Sx.reg ?_ | refine SxO.cons ?_ | refine SxO.nil ?_ | refine SeqK.normal ?_ | refine SeqK.ret ?_ | refine SeqK.exit ?_ | refine BlkK.normal ?_ | refine BlkK.ret ?_ | refine BlkK.hit ?_ | refine Sx.cond ?_ | refine Sx.block ?_ | refine Sx.loop ?_ | refine Sx.draw ?_ | refine Sx.ret ?_ | refine Sx.exit ?_ | refine Sx.skip ?_ | refine Sx.label ?_ | refine CondG.split ?_ | refine k1 ?_ | refine ke fun _ => ?_ | refine k2 ?_ | refine kg ?_ | refine kf ?_ | refine k3 ?_ | refine k4 ?_ | refine kn ?_ | refine Same.rfl ?_ | refine k5 ?_ | refine k6 ?_ | refine k7 ?_ | refine k8 ?_ | refine k9 ?_ | refine ka ?_ | refine kb ?_ | refine kl ?_ | refine km ?_ | refine kc ?_ | refine kd ?_ | exact True.intro)
  refine SxO.step rfl ?_; (repeat ((conv => whnf); with_reducible first | refine Sx.go ?_ | refine Sx.seq ?_ | refine Sx.reg ?_ | refine SxO.cons ?_ | refine SxO.nil ?_ | refine SeqK.normal ?_ | refine SeqK.ret ?_ | refine SeqK.exit ?_ | refine BlkK.normal ?_ | refine BlkK.ret ?_ | refine BlkK.hit ?_ | refine Sx.cond ?_ | refine Sx.block ?_ | refine Sx.loop ?_ | refine Sx.draw ?_ | refine Sx.ret ?_ | refine Sx.exit ?_ | refine Sx.skip ?_ | refine Sx.label ?_ | refine CondG.split ?_ | refine k1 ?_ | refine ke fun _ => ?_ | refine k2 ?_ | refine kg ?_ | refine kf ?_ | refine k3 ?_ | refine k4 ?_ | refine kn ?_ | refine Same.rfl ?_ | refine k5 ?_ | refine k6 ?_ | refine k7 ?_ | refine k8 ?_ | refine k9 ?_ | refine ka ?_ | refine kb ?_ | refine kl ?_ | refine km ?_ | refine kc ?_ | refine kd ?_ | exact True.intro))
  obtain ⟨V, hV⟩ : ∃ V, V = S.set (Q.length + m / 8) ⟨(S.getD (Q.length + m / 8) 0).toBitVec ^^^ (1#8 <<< (m % 8))⟩ := ⟨_, rfl⟩
  have hVl : V.length = Q.length + 16 := by rw [hV, List.length_set, hSl]
  have hVf : okA k n [97, 100] V = false := by
    rw [hV, hS]
    exact okA_turned k n [97, 100] Q (m / 8) _ (by omega) (flip_ne _ _ (by omega))
  have hVt : (V.take m2).length = m2 := by rw [List.length_take]; omega
  have hop := open_ok k n [97, 100] V hk hn (by simp) (by omega)
  rw [hVf] at hop
  have hop2 := open_ok k n [97, 100] (V.take m2) hk hn (by simp) (by omega)
  rw [okA_short k n [97, 100] (V.take m2) (by omega)] at hop2
  have hVeq : S.set ((Q.length : Int) + (iand .i64 at_ 127).tdiv 8).toNat ⟨(S.getD ((Q.length : Int) + (iand .i64 at_ 127).tdiv 8).toNat (Enc.sc Sk.u8).dflt).toBitVec ^^^ (⟨(UInt8.ofNat 1).toBitVec <<< ((iand .i64 at_ 127).tmod 8).toNat⟩ : UInt8).toBitVec⟩ = V := by
    rw [hix, hr, hV]; rfl
  refine CallG.use [] hop rfl ?_
  repeat ((conv => whnf); with_reducible first | refine Sx.go ?_ | refine Sx.seq ?_ | refine Sx.reg ?_ | refine SxO.cons ?_ | refine SxO.nil ?_ | refine SeqK.normal ?_ | refine SeqK.ret ?_ | refine SeqK.exit ?_ | refine BlkK.normal ?_ | refine BlkK.ret ?_ | refine BlkK.hit ?_ | refine Sx.cond ?_ | refine Sx.block ?_ | refine Sx.loop ?_ | refine Sx.draw ?_ | refine Sx.ret ?_ | refine Sx.exit ?_ | refine Sx.skip ?_ | refine Sx.label ?_ | refine CondG.split ?_ | refine k1 ?_ | refine ke fun _ => ?_ | refine k2 ?_ | refine kg ?_ | refine kf ?_ | refine k3 ?_ | refine k4 ?_ | refine kn ?_ | refine Same.rfl ?_ | refine k5 ?_ | refine k6 ?_ | refine k7 ?_ | refine k8 ?_ | refine k9 ?_ | refine ka ?_ | refine kb ?_ | refine kl ?_ | refine km ?_ | refine kc ?_ | refine kd ?_ | exact True.intro)
  repeat ((conv => whnf); with_reducible first | refine Sx.go ?_ | refine Sx.seq ?_ | refine Sx.reg ?_ | refine SxO.cons ?_ | refine SxO.nil ?_ | refine SeqK.normal ?_ | refine SeqK.ret ?_ | refine SeqK.exit ?_ | refine BlkK.normal ?_ | refine BlkK.ret ?_ | refine BlkK.hit ?_ | refine Sx.cond ?_ | refine Sx.block ?_ | refine Sx.loop ?_ | refine Sx.draw ?_ | refine Sx.ret ?_ | refine Sx.exit ?_ | refine Sx.skip ?_ | refine Sx.label ?_ | refine CondG.split ?_ | refine k1 ?_ | refine ke fun _ => ?_ | refine k2 ?_ | refine kg ?_ | refine kf ?_ | refine k3 ?_ | refine k4 ?_ | refine kn ?_ | refine Same.rfl ?_ | refine k5 ?_ | refine k6 ?_ | refine k7 ?_ | refine k8 ?_ | refine k9 ?_ | refine ka ?_ | refine kb ?_ | refine kl ?_ | refine km ?_ | refine kc ?_ | refine kd ?_ | exact True.intro)
  rintro ⟨⟩ -
  refine ⟨rfl, ?_⟩
  repeat ((conv => whnf); with_reducible first | refine Sx.go ?_ | refine Sx.seq ?_ | refine Sx.reg ?_ | refine SxO.cons ?_ | refine SxO.nil ?_ | refine SeqK.normal ?_ | refine SeqK.ret ?_ | refine SeqK.exit ?_ | refine BlkK.normal ?_ | refine BlkK.ret ?_ | refine BlkK.hit ?_ | refine Sx.cond ?_ | refine Sx.block ?_ | refine Sx.loop ?_ | refine Sx.draw ?_ | refine Sx.ret ?_ | refine Sx.exit ?_ | refine Sx.skip ?_ | refine Sx.label ?_ | refine CondG.split ?_ | refine k1 ?_ | refine ke fun _ => ?_ | refine k2 ?_ | refine kg ?_ | refine kf ?_ | refine k3 ?_ | refine k4 ?_ | refine kn ?_ | refine Same.rfl ?_ | refine k5 ?_ | refine k6 ?_ | refine k7 ?_ | refine k8 ?_ | refine k9 ?_ | refine ka ?_ | refine kb ?_ | refine kl ?_ | refine km ?_ | refine kc ?_ | refine kd ?_ | exact True.intro)
  refine Draw.tailQ 14 (by kernel_rfl) (by kernel_rfl) ?_
  repeat ((conv => whnf); with_reducible first | refine Sx.go ?_ | refine Sx.seq ?_ | refine Sx.reg ?_ | refine SxO.cons ?_ | refine SxO.nil ?_ | refine SeqK.normal ?_ | refine SeqK.ret ?_ | refine SeqK.exit ?_ | refine BlkK.normal ?_ | refine BlkK.ret ?_ | refine BlkK.hit ?_ | refine Sx.cond ?_ | refine Sx.block ?_ | refine Sx.loop ?_ | refine Sx.draw ?_ | refine Sx.ret ?_ | refine Sx.exit ?_ | refine Sx.skip ?_ | refine Sx.label ?_ | refine CondG.split ?_ | refine k1 ?_ | refine ke fun _ => ?_ | refine k2 ?_ | refine kg ?_ | refine kf ?_ | refine k3 ?_ | refine k4 ?_ | refine kn ?_ | refine Same.rfl ?_ | refine k5 ?_ | refine k6 ?_ | refine k7 ?_ | refine k8 ?_ | refine k9 ?_ | refine ka ?_ | refine kb ?_ | refine kl ?_ | refine km ?_ | refine kc ?_ | refine kd ?_ | exact True.intro)
  refine CallQ.use [] hop2 rfl ⟨⟨trivial, trivial⟩, ⟨trivial, trivial⟩, trivial⟩ ?_
  repeat ((conv => whnf); with_reducible first | refine Sx.go ?_ | refine Sx.seq ?_ | refine Sx.reg ?_ | refine SxO.cons ?_ | refine SxO.nil ?_ | refine SeqK.normal ?_ | refine SeqK.ret ?_ | refine SeqK.exit ?_ | refine BlkK.normal ?_ | refine BlkK.ret ?_ | refine BlkK.hit ?_ | refine Sx.cond ?_ | refine Sx.block ?_ | refine Sx.loop ?_ | refine Sx.draw ?_ | refine Sx.ret ?_ | refine Sx.exit ?_ | refine Sx.skip ?_ | refine Sx.label ?_ | refine CondG.split ?_ | refine k1 ?_ | refine ke fun _ => ?_ | refine k2 ?_ | refine kg ?_ | refine kf ?_ | refine k3 ?_ | refine k4 ?_ | refine kn ?_ | refine Same.rfl ?_ | refine k5 ?_ | refine k6 ?_ | refine k7 ?_ | refine k8 ?_ | refine k9 ?_ | refine ka ?_ | refine kb ?_ | refine kl ?_ | refine km ?_ | refine kc ?_ | refine kd ?_ | exact True.intro)
  refine Chk.mk (by rw [hVeq, hm3]; rfl) ?_
  repeat ((conv => whnf); with_reducible first | refine Sx.go ?_ | refine Sx.seq ?_ | refine Sx.reg ?_ | refine SxO.cons ?_ | refine SxO.nil ?_ | refine SeqK.normal ?_ | refine SeqK.ret ?_ | refine SeqK.exit ?_ | refine BlkK.normal ?_ | refine BlkK.ret ?_ | refine BlkK.hit ?_ | refine Sx.cond ?_ | refine Sx.block ?_ | refine Sx.loop ?_ | refine Sx.draw ?_ | refine Sx.ret ?_ | refine Sx.exit ?_ | refine Sx.skip ?_ | refine Sx.label ?_ | refine CondG.split ?_ | refine k1 ?_ | refine ke fun _ => ?_ | refine k2 ?_ | refine kg ?_ | refine kf ?_ | refine k3 ?_ | refine k4 ?_ | refine kn ?_ | refine Same.rfl ?_ | refine k5 ?_ | refine k6 ?_ | refine k7 ?_ | refine k8 ?_ | refine k9 ?_ | refine ka ?_ | refine kb ?_ | refine kl ?_ | refine km ?_ | refine kc ?_ | refine kd ?_ | exact True.intro)
  refine SxO.step rfl ?_; (repeat ((conv => whnf); with_reducible first | refine Sx.go ?_ | refine Sx.seq ?_ | refine Sx.reg ?_ | refine SxO.cons ?_ | refine SxO.nil ?_ | refine SeqK.normal ?_ | refine SeqK.ret ?_ | refine SeqK.exit ?_ | refine BlkK.normal ?_ | refine BlkK.ret ?_ | refine BlkK.hit ?_ | refine Sx.cond ?_ | refine Sx.block ?_ | refine Sx.loop ?_ | refine Sx.draw ?_ | refine Sx.ret ?_ | refine Sx.exit ?_ | refine Sx.skip ?_ | refine Sx.label ?_ | refine CondG.split ?_ | refine k1 ?_ | refine ke fun _ => ?_ | refine k2 ?_ | refine kg ?_ | refine kf ?_ | refine k3 ?_ | refine k4 ?_ | refine kn ?_ | refine Same.rfl ?_ | refine k5 ?_ | refine k6 ?_ | refine k7 ?_ | refine k8 ?_ | refine k9 ?_ | refine ka ?_ | refine kb ?_ | refine kl ?_ | refine km ?_ | refine kc ?_ | refine kd ?_ | exact True.intro))
  refine Fin.pure ?_
  exact Chk.mk rfl trivial
end Go.Proofs.YtjanfjfccodebaaDoor
