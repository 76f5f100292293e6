/- The document's wire: a number. -/
import Derived.Test.YthkgegbhnhkacaaV4
set_option linter.unusedVariables false
set_option linter.unusedSimpArgs false
set_option maxRecDepth 10000
set_option maxHeartbeats 1000000
namespace Go.Proofs.Ythkgegbhnhkacaa
open Go Go.SY
seal sx sxOps

theorem be8_drop (N i : Nat) (hi : i < 8) : UInt8.ofNat (N / 256 ^ i) :: (be8 N 8).drop (8 - i) = (be8 N 8).drop (8 - (i + 1)) := by
  have hl : 8 - (i + 1) < (be8 N 8).length := by rw [be8_length]; omega
  rw [List.drop_eq_getElem_cons hl, show 8 - (i + 1) + 1 = 8 - i by omega]
  congr 1
  simp only [be8, List.getElem_map, List.getElem_range]
  rw [show 56 - 8 * (8 - (i + 1)) = 8 * i by omega, Nat.pow_mul]
theorem low_byte (m : Nat) : (⟨BitVec.ofInt 8 (Int.tmod (m : Int) 256)⟩ : UInt8) = UInt8.ofNat m := by
  have e : Int.tmod (m : Int) 256 = ((m % 256 : Nat) : Int) := rfl
  rw [e]
  apply UInt8.eq_of_toBitVec_eq
  show BitVec.ofInt 8 _ = BitVec.ofNat 8 _
  rw [BitVec.ofInt_natCast]
  apply BitVec.eq_of_toNat_eq
  simp
theorem rnum_ok (n : Int) (hn : nz n ≤ 9223372036854775807) : CtrP R 52 [vi n] [] (vs (num8 n)) := by
  refine Ctr.of Try.func52 rfl (by kernel_rfl) rfl fun _ _ w0 => ?_
  obtain ⟨N, hN⟩ : ∃ N, N = nz n := ⟨_, rfl⟩
  have hz := nz_ite n
  rw [← hN] at hz hn
  repeat ((conv => whnf); with_reducible first | refine Sx.go ?_ | refine Sx.seq ?_ | refine Sx.reg ?_ | refine SxO.cons ?_ | refine SxO.nil ?_ | refine SeqK.normal ?_ | refine SeqK.ret ?_ | refine SeqK.exit ?_ | refine BlkK.normal ?_ | refine BlkK.ret ?_ | refine BlkK.hit ?_ | refine Sx.cond ?_ | refine Sx.block ?_ | refine Sx.loop ?_ | refine Sx.draw ?_ | refine Sx.ret ?_ | refine Sx.exit ?_ | refine Sx.skip ?_ | refine Sx.label ?_ | refine CondG.split ?_ | refine k1 ?_ | refine ke fun _ => ?_ | refine k2 ?_ | refine kg ?_ | refine kf ?_ | refine k3 ?_ | refine k4 ?_ | refine kn ?_ | refine Same.rfl ?_ | refine k5 ?_ | refine k6 ?_ | refine k7 ?_ | refine k8 ?_ | refine k9 ?_ | refine ka ?_ | refine kb ?_ | refine kl ?_ | refine km ?_ | refine kc ?_ | refine kd ?_ | exact True.intro)
  refine LoopG.auto [] [] (fun (i : Nat) => [(0, vi (N / 256 ^ i : Nat)), (3, vs ((be8 N 8).drop (8 - i))), (4, vi i)]) (fun i => []) (fun i => i ≤ 8) (fun i => 8 - i) 0 ?_
  refine ⟨⟨by omega, ?_⟩, fun i hi => ?_⟩
  · repeat ((conv => whnf); with_reducible first | refine Sx.go ?_ | refine Sx.seq ?_ | refine Sx.reg ?_ | refine SxO.cons ?_ | refine SxO.nil ?_ | refine SeqK.normal ?_ | refine SeqK.ret ?_ | refine SeqK.exit ?_ | refine BlkK.normal ?_ | refine BlkK.ret ?_ | refine BlkK.hit ?_ | refine Sx.cond ?_ | refine Sx.block ?_ | refine Sx.loop ?_ | refine Sx.draw ?_ | refine Sx.ret ?_ | refine Sx.exit ?_ | refine Sx.skip ?_ | refine Sx.label ?_ | refine CondG.split ?_ | refine k1 ?_ | refine ke fun _ => ?_ | refine k2 ?_ | refine kg ?_ | refine kf ?_ | refine k3 ?_ | refine k4 ?_ | refine kn ?_ | refine Same.rfl ?_ | refine k5 ?_ | refine k6 ?_ | refine k7 ?_ | refine k8 ?_ | refine k9 ?_ | refine ka ?_ | refine kb ?_ | refine kl ?_ | refine km ?_ | refine kc ?_ | refine kd ?_ | exact True.intro)
    try (refine Chk.mk (by rw [hz]; simp) ?_; (repeat ((conv => whnf); with_reducible first | refine Sx.go ?_ | refine Sx.seq ?_ | refine Sx.reg ?_ | refine SxO.cons ?_ | refine SxO.nil ?_ | refine SeqK.normal ?_ | refine SeqK.ret ?_ | refine SeqK.exit ?_ | refine BlkK.normal ?_ | refine BlkK.ret ?_ | refine BlkK.hit ?_ | refine Sx.cond ?_ | refine Sx.block ?_ | refine Sx.loop ?_ | refine Sx.draw ?_ | refine Sx.ret ?_ | refine Sx.exit ?_ | refine Sx.skip ?_ | refine Sx.label ?_ | refine CondG.split ?_ | refine k1 ?_ | refine ke fun _ => ?_ | refine k2 ?_ | refine kg ?_ | refine kf ?_ | refine k3 ?_ | refine k4 ?_ | refine kn ?_ | refine Same.rfl ?_ | refine k5 ?_ | refine k6 ?_ | refine k7 ?_ | refine k8 ?_ | refine k9 ?_ | refine ka ?_ | refine kb ?_ | refine kl ?_ | refine km ?_ | refine kc ?_ | refine kd ?_ | exact True.intro)))
    try (refine Chk.mk (by rw [List.drop_of_length_le (by rw [be8_length]; omega)]) ?_; (repeat ((conv => whnf); with_reducible first | refine Sx.go ?_ | refine Sx.seq ?_ | refine Sx.reg ?_ | refine SxO.cons ?_ | refine SxO.nil ?_ | refine SeqK.normal ?_ | refine SeqK.ret ?_ | refine SeqK.exit ?_ | refine BlkK.normal ?_ | refine BlkK.ret ?_ | refine BlkK.hit ?_ | refine Sx.cond ?_ | refine Sx.block ?_ | refine Sx.loop ?_ | refine Sx.draw ?_ | refine Sx.ret ?_ | refine Sx.exit ?_ | refine Sx.skip ?_ | refine Sx.label ?_ | refine CondG.split ?_ | refine k1 ?_ | refine ke fun _ => ?_ | refine k2 ?_ | refine kg ?_ | refine kf ?_ | refine k3 ?_ | refine k4 ?_ | refine kn ?_ | refine Same.rfl ?_ | refine k5 ?_ | refine k6 ?_ | refine k7 ?_ | refine k8 ?_ | refine k9 ?_ | refine ka ?_ | refine kb ?_ | refine kl ?_ | refine km ?_ | refine kc ?_ | refine kd ?_ | exact True.intro)))
  · have hdl : ((be8 N 8).drop (8 - i)).length ≤ 8 := by rw [List.length_drop, be8_length]; omega
    have hNi : N / 256 ^ i ≤ N := Nat.div_le_self _ _
    (repeat ((conv => whnf); with_reducible first | refine Sx.go ?_ | refine Sx.seq ?_ | refine Sx.reg ?_ | refine SxO.cons ?_ | refine SxO.nil ?_ | refine SeqK.normal ?_ | refine SeqK.ret ?_ | refine SeqK.exit ?_ | refine BlkK.normal ?_ | refine BlkK.ret ?_ | refine BlkK.hit ?_ | refine Sx.cond ?_ | refine Sx.block ?_ | refine Sx.loop ?_ | refine Sx.draw ?_ | refine Sx.ret ?_ | refine Sx.exit ?_ | refine Sx.skip ?_ | refine Sx.label ?_ | refine CondG.split ?_ | refine k1 ?_ | refine ke fun _ => ?_ | refine k2 ?_ | refine kg ?_ | refine kf ?_ | refine k3 ?_ | refine k4 ?_ | refine kn ?_ | refine Same.rfl ?_ | refine k5 ?_ | refine k6 ?_ | refine k7 ?_ | refine k8 ?_ | refine k9 ?_ | refine ka ?_ | refine kb ?_ | refine kl ?_ | refine km ?_ | refine kc ?_ | refine kd ?_ | exact True.intro)); refine Br.by (fun g => ?_) (fun g => ?_)
    · have g2 : i < 8 := by
        have g : (i : Int) < 8 := g
        omega
      have hq : Int.tdiv ((N / 256 ^ i : Nat) : Int) 256 = ((N / 256 ^ (i + 1) : Nat) : Int) := by rw [Nat.pow_succ, ← Nat.div_div_eq_div_mul]; rfl
      have hNj : N / 256 ^ (i + 1) ≤ N := Nat.div_le_self _ _
      repeat ((conv => whnf); with_reducible first | refine Sx.go ?_ | refine Sx.seq ?_ | refine Sx.reg ?_ | refine SxO.cons ?_ | refine SxO.nil ?_ | refine SeqK.normal ?_ | refine SeqK.ret ?_ | refine SeqK.exit ?_ | refine BlkK.normal ?_ | refine BlkK.ret ?_ | refine BlkK.hit ?_ | refine Sx.cond ?_ | refine Sx.block ?_ | refine Sx.loop ?_ | refine Sx.draw ?_ | refine Sx.ret ?_ | refine Sx.exit ?_ | refine Sx.skip ?_ | refine Sx.label ?_ | refine CondG.split ?_ | refine k1 ?_ | refine ke fun _ => ?_ | refine k2 ?_ | refine kg ?_ | refine kf ?_ | refine k3 ?_ | refine k4 ?_ | refine kn ?_ | refine Same.rfl ?_ | refine k5 ?_ | refine k6 ?_ | refine k7 ?_ | refine k8 ?_ | refine k9 ?_ | refine ka ?_ | refine kb ?_ | refine kl ?_ | refine km ?_ | refine kc ?_ | refine kd ?_ | exact True.intro)
      refine Wr.nat (N / 256 ^ (i + 1)) hq (by omega) ?_
      repeat ((conv => whnf); with_reducible first | refine Sx.go ?_ | refine Sx.seq ?_ | refine Sx.reg ?_ | refine SxO.cons ?_ | refine SxO.nil ?_ | refine SeqK.normal ?_ | refine SeqK.ret ?_ | refine SeqK.exit ?_ | refine BlkK.normal ?_ | refine BlkK.ret ?_ | refine BlkK.hit ?_ | refine Sx.cond ?_ | refine Sx.block ?_ | refine Sx.loop ?_ | refine Sx.draw ?_ | refine Sx.ret ?_ | refine Sx.exit ?_ | refine Sx.skip ?_ | refine Sx.label ?_ | refine CondG.split ?_ | refine k1 ?_ | refine ke fun _ => ?_ | refine k2 ?_ | refine kg ?_ | refine kf ?_ | refine k3 ?_ | refine k4 ?_ | refine kn ?_ | refine Same.rfl ?_ | refine k5 ?_ | refine k6 ?_ | refine k7 ?_ | refine k8 ?_ | refine k9 ?_ | refine ka ?_ | refine kb ?_ | refine kl ?_ | refine km ?_ | refine kc ?_ | refine kd ?_ | exact True.intro)
      refine ⟨i + 1, by omega, (by dsimp only; omega), ?_⟩
      repeat ((conv => whnf); with_reducible first | refine Sx.go ?_ | refine Sx.seq ?_ | refine Sx.reg ?_ | refine SxO.cons ?_ | refine SxO.nil ?_ | refine SeqK.normal ?_ | refine SeqK.ret ?_ | refine SeqK.exit ?_ | refine BlkK.normal ?_ | refine BlkK.ret ?_ | refine BlkK.hit ?_ | refine Sx.cond ?_ | refine Sx.block ?_ | refine Sx.loop ?_ | refine Sx.draw ?_ | refine Sx.ret ?_ | refine Sx.exit ?_ | refine Sx.skip ?_ | refine Sx.label ?_ | refine CondG.split ?_ | refine k1 ?_ | refine ke fun _ => ?_ | refine k2 ?_ | refine kg ?_ | refine kf ?_ | refine k3 ?_ | refine k4 ?_ | refine kn ?_ | refine Same.rfl ?_ | refine k5 ?_ | refine k6 ?_ | refine k7 ?_ | refine k8 ?_ | refine k9 ?_ | refine ka ?_ | refine kb ?_ | refine kl ?_ | refine km ?_ | refine kc ?_ | refine kd ?_ | exact True.intro)
      try (refine Chk.mk (by rw [low_byte]; exact be8_drop N i g2) ?_; (repeat ((conv => whnf); with_reducible first | refine Sx.go ?_ | refine Sx.seq ?_ | refine Sx.reg ?_ | refine SxO.cons ?_ | refine SxO.nil ?_ | refine SeqK.normal ?_ | refine SeqK.ret ?_ | refine SeqK.exit ?_ | refine BlkK.normal ?_ | refine BlkK.ret ?_ | refine BlkK.hit ?_ | refine Sx.cond ?_ | refine Sx.block ?_ | refine Sx.loop ?_ | refine Sx.draw ?_ | refine Sx.ret ?_ | refine Sx.exit ?_ | refine Sx.skip ?_ | refine Sx.label ?_ | refine CondG.split ?_ | refine k1 ?_ | refine ke fun _ => ?_ | refine k2 ?_ | refine kg ?_ | refine kf ?_ | refine k3 ?_ | refine k4 ?_ | refine kn ?_ | refine Same.rfl ?_ | refine k5 ?_ | refine k6 ?_ | refine k7 ?_ | refine k8 ?_ | refine k9 ?_ | refine ka ?_ | refine kb ?_ | refine kl ?_ | refine km ?_ | refine kc ?_ | refine kd ?_ | exact True.intro)))
    · have hh : i = 8 := by
        have g : ¬ (i : Int) < 8 := g
        omega
      repeat ((conv => whnf); with_reducible first | refine Sx.go ?_ | refine Sx.seq ?_ | refine Sx.reg ?_ | refine SxO.cons ?_ | refine SxO.nil ?_ | refine SeqK.normal ?_ | refine SeqK.ret ?_ | refine SeqK.exit ?_ | refine BlkK.normal ?_ | refine BlkK.ret ?_ | refine BlkK.hit ?_ | refine Sx.cond ?_ | refine Sx.block ?_ | refine Sx.loop ?_ | refine Sx.draw ?_ | refine Sx.ret ?_ | refine Sx.exit ?_ | refine Sx.skip ?_ | refine Sx.label ?_ | refine CondG.split ?_ | refine k1 ?_ | refine ke fun _ => ?_ | refine k2 ?_ | refine kg ?_ | refine kf ?_ | refine k3 ?_ | refine k4 ?_ | refine kn ?_ | refine Same.rfl ?_ | refine k5 ?_ | refine k6 ?_ | refine k7 ?_ | refine k8 ?_ | refine k9 ?_ | refine ka ?_ | refine kb ?_ | refine kl ?_ | refine km ?_ | refine kc ?_ | refine kd ?_ | exact True.intro)
      refine Fin.pure ?_
      refine Chk.mk ?_ trivial
      rw [hh, num8, ← hN]
      rfl
end Go.Proofs.Ythkgegbhnhkacaa
