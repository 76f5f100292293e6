/- Package sha: the state changed by a block. -/
import Derived.Test.YtlhmdknfkbcdjaaDoorW2
set_option linter.unusedVariables false
set_option linter.unusedSimpArgs false
set_option maxRecDepth 10000
namespace Go.Proofs.YtlhmdknfkbcdjaaDoor
open Go Go.SY Go.Sha

abbrev gRound : Nat × Nat × HB := (50001, 1, .ro [.arr .u32 64 round64])
abbrev gBegin : Nat × Nat × HB := (50000, 0, .ro [.arr .u32 8 begin8])
def sums (h v : List (BitVec 32)) (i : Nat) : List (BitVec 32) := List.zipWith (· + ·) (h.take i) (v.take i) ++ h.drop i
theorem sums_set (h v : List (BitVec 32)) (hh : h.length = 8) (hv : v.length = 8) (i : Nat) (hi : i < 8) : (sums h v i).set i ((sums h v i).getD i 0 + v.getD i 0) = sums h v (i + 1) := by
  match h, v, hh, hv with
  | [a0, a1, a2, a3, a4, a5, a6, a7], [b0, b1, b2, b3, b4, b5, b6, b7], _, _ =>
    match i, hi with
    | 0, _ | 1, _ | 2, _ | 3, _ | 4, _ | 5, _ | 6, _ | 7, _ => rfl
theorem change_ok (h : List (BitVec 32)) (b : List UInt8) (hh : h.length = 8) (hb : b.length = 64) :
    CtrP R 83 [va [.arr .u32 8 h], vs b] [gRound] (va [.arr .u32 8 (Sha.change h b)]) := by
  refine Ctr.of Tryd.func83 rfl (by kernel_rfl) rfl fun _ _ w0 => ?_
  repeat ((conv => whnf); with_reducible first | refine CondG.split ?_ | refine k1 ?_ | refine ke fun _ => ?_ | refine k2 ?_ | refine kg ?_ | refine kf ?_ | refine k3 ?_ | refine k4 ?_ | refine kn ?_ | refine Same.rfl ?_ | refine k5 ?_ | refine k6 ?_ | refine k7 ?_ | refine k8 ?_ | refine k9 ?_ | refine ka ?_ | refine kb ?_ | refine kl ?_ | refine km ?_ | refine kc ?_ | refine kd ?_ | exact True.intro)
  refine CallG.one [] (words_ok b hb) rfl rfl ?_
  refine LoopG.auto [0, 1, 2, 4, 5, 15] [2, 4, 50001] (fun t : Nat => [(16, vi t)]) (fun t => [(5, .var 91 [.arr .u32 8 (stirs (Sha.words b 64) h t)])]) (fun t => t ≤ 64) (fun t => 64 - t) 0 ?_
  refine ⟨⟨by omega, ?_⟩, fun t ht => ?_⟩
  · (repeat ((conv => whnf); with_reducible first | refine CondG.split ?_ | refine k1 ?_ | refine ke fun _ => ?_ | refine k2 ?_ | refine kg ?_ | refine kf ?_ | refine k3 ?_ | refine k4 ?_ | refine kn ?_ | refine Same.rfl ?_ | refine k5 ?_ | refine k6 ?_ | refine k7 ?_ | refine k8 ?_ | refine k9 ?_ | refine ka ?_ | refine kb ?_ | refine kl ?_ | refine km ?_ | refine kc ?_ | refine kd ?_ | exact True.intro)); refine Chk.mk rfl ?_; (repeat ((conv => whnf); with_reducible first | refine CondG.split ?_ | refine k1 ?_ | refine ke fun _ => ?_ | refine k2 ?_ | refine kg ?_ | refine kf ?_ | refine k3 ?_ | refine k4 ?_ | refine kn ?_ | refine Same.rfl ?_ | refine k5 ?_ | refine k6 ?_ | refine k7 ?_ | refine k8 ?_ | refine k9 ?_ | refine ka ?_ | refine kb ?_ | refine kl ?_ | refine km ?_ | refine kc ?_ | refine kd ?_ | exact True.intro))
  · (repeat ((conv => whnf); with_reducible first | refine CondG.split ?_ | refine k1 ?_ | refine ke fun _ => ?_ | refine k2 ?_ | refine kg ?_ | refine kf ?_ | refine k3 ?_ | refine k4 ?_ | refine kn ?_ | refine Same.rfl ?_ | refine k5 ?_ | refine k6 ?_ | refine k7 ?_ | refine k8 ?_ | refine k9 ?_ | refine ka ?_ | refine kb ?_ | refine kl ?_ | refine km ?_ | refine kc ?_ | refine kd ?_ | exact True.intro)); refine Br.by (fun g => ?_) (fun g => ?_)
    · have hlt : t < 64 := by omega
      repeat ((conv => whnf); with_reducible first | refine CondG.split ?_ | refine k1 ?_ | refine ke fun _ => ?_ | refine k2 ?_ | refine kg ?_ | refine kf ?_ | refine k3 ?_ | refine k4 ?_ | refine kn ?_ | refine Same.rfl ?_ | refine k5 ?_ | refine k6 ?_ | refine k7 ?_ | refine k8 ?_ | refine k9 ?_ | refine ka ?_ | refine kb ?_ | refine kl ?_ | refine km ?_ | refine kc ?_ | refine kd ?_ | exact True.intro)
      refine Draw.quiet (by kernel_rfl) (by kernel_rfl) ?_
      repeat ((conv => whnf); with_reducible first | refine CondG.split ?_ | refine k1 ?_ | refine ke fun _ => ?_ | refine k2 ?_ | refine kg ?_ | refine kf ?_ | refine k3 ?_ | refine k4 ?_ | refine kn ?_ | refine Same.rfl ?_ | refine k5 ?_ | refine k6 ?_ | refine k7 ?_ | refine k8 ?_ | refine k9 ?_ | refine ka ?_ | refine kb ?_ | refine kl ?_ | refine km ?_ | refine kc ?_ | refine kd ?_ | exact True.intro)
      refine Draw.quiet (by kernel_rfl) (by kernel_rfl) ?_
      repeat ((conv => whnf); with_reducible first | refine CondG.split ?_ | refine k1 ?_ | refine ke fun _ => ?_ | refine k2 ?_ | refine kg ?_ | refine kf ?_ | refine k3 ?_ | refine k4 ?_ | refine kn ?_ | refine Same.rfl ?_ | refine k5 ?_ | refine k6 ?_ | refine k7 ?_ | refine k8 ?_ | refine k9 ?_ | refine ka ?_ | refine kb ?_ | refine kl ?_ | refine km ?_ | refine kc ?_ | refine kd ?_ | exact True.intro)
      refine CallQ.eq [] (right_ok _ 6 (by omega) (by omega)) rfl rfl ⟨trivial, trivial⟩ ?_
      refine CallQ.eq [] (right_ok _ 11 (by omega) (by omega)) rfl rfl ⟨trivial, trivial⟩ ?_
      refine CallQ.eq [] (right_ok _ 25 (by omega) (by omega)) rfl rfl ⟨trivial, trivial⟩ ?_
      repeat ((conv => whnf); with_reducible first | refine CondG.split ?_ | refine k1 ?_ | refine ke fun _ => ?_ | refine k2 ?_ | refine kg ?_ | refine kf ?_ | refine k3 ?_ | refine k4 ?_ | refine kn ?_ | refine Same.rfl ?_ | refine k5 ?_ | refine k6 ?_ | refine k7 ?_ | refine k8 ?_ | refine k9 ?_ | refine ka ?_ | refine kb ?_ | refine kl ?_ | refine km ?_ | refine kc ?_ | refine kd ?_ | exact True.intro)
      refine Draw.quiet (by kernel_rfl) (by kernel_rfl) ?_
      refine CallQ.eq [] (right_ok _ 2 (by omega) (by omega)) rfl rfl ⟨trivial, trivial⟩ ?_
      refine CallQ.eq [] (right_ok _ 13 (by omega) (by omega)) rfl rfl ⟨trivial, trivial⟩ ?_
      refine CallQ.eq [] (right_ok _ 22 (by omega) (by omega)) rfl rfl ⟨trivial, trivial⟩ ?_
      repeat ((conv => whnf); with_reducible first | refine CondG.split ?_ | refine k1 ?_ | refine ke fun _ => ?_ | refine k2 ?_ | refine kg ?_ | refine kf ?_ | refine k3 ?_ | refine k4 ?_ | refine kn ?_ | refine Same.rfl ?_ | refine k5 ?_ | refine k6 ?_ | refine k7 ?_ | refine k8 ?_ | refine k9 ?_ | refine ka ?_ | refine kb ?_ | refine kl ?_ | refine km ?_ | refine kc ?_ | refine kd ?_ | exact True.intro)
      refine ⟨t + 1, by omega, (by dsimp only; omega), ?_⟩
      repeat ((conv => whnf); with_reducible first | refine CondG.split ?_ | refine k1 ?_ | refine ke fun _ => ?_ | refine k2 ?_ | refine kg ?_ | refine kf ?_ | refine k3 ?_ | refine k4 ?_ | refine kn ?_ | refine Same.rfl ?_ | refine k5 ?_ | refine k6 ?_ | refine k7 ?_ | refine k8 ?_ | refine k9 ?_ | refine ka ?_ | refine kb ?_ | refine kl ?_ | refine km ?_ | refine kc ?_ | refine kd ?_ | exact True.intro)
      refine Chk.mk rfl ?_
      repeat ((conv => whnf); with_reducible first | refine CondG.split ?_ | refine k1 ?_ | refine ke fun _ => ?_ | refine k2 ?_ | refine kg ?_ | refine kf ?_ | refine k3 ?_ | refine k4 ?_ | refine kn ?_ | refine Same.rfl ?_ | refine k5 ?_ | refine k6 ?_ | refine k7 ?_ | refine k8 ?_ | refine k9 ?_ | refine ka ?_ | refine kb ?_ | refine kl ?_ | refine km ?_ | refine kc ?_ | refine kd ?_ | exact True.intro)
    · have hge : ¬ (t : Int) < 64 := g
      obtain rfl : t = 64 := by omega
      refine LoopG.auto [0, 1, 2, 4, 5] [4, 5] (fun t : Nat => [(95, vi t)]) (fun t => [(2, .var 91 [.arr .u32 8 (sums h (stirs (Sha.words b 64) h 64) t)])]) (fun t => t ≤ 8) (fun t => 8 - t) 0 ?_
      refine ⟨⟨by omega, ?_⟩, fun t ht => ?_⟩
      · (repeat ((conv => whnf); with_reducible first | refine CondG.split ?_ | refine k1 ?_ | refine ke fun _ => ?_ | refine k2 ?_ | refine kg ?_ | refine kf ?_ | refine k3 ?_ | refine k4 ?_ | refine kn ?_ | refine Same.rfl ?_ | refine k5 ?_ | refine k6 ?_ | refine k7 ?_ | refine k8 ?_ | refine k9 ?_ | refine ka ?_ | refine kb ?_ | refine kl ?_ | refine km ?_ | refine kc ?_ | refine kd ?_ | exact True.intro)); refine Chk.mk rfl ?_; (repeat ((conv => whnf); with_reducible first | refine CondG.split ?_ | refine k1 ?_ | refine ke fun _ => ?_ | refine k2 ?_ | refine kg ?_ | refine kf ?_ | refine k3 ?_ | refine k4 ?_ | refine kn ?_ | refine Same.rfl ?_ | refine k5 ?_ | refine k6 ?_ | refine k7 ?_ | refine k8 ?_ | refine k9 ?_ | refine ka ?_ | refine kb ?_ | refine kl ?_ | refine km ?_ | refine kc ?_ | refine kd ?_ | exact True.intro))
      · (repeat ((conv => whnf); with_reducible first | refine CondG.split ?_ | refine k1 ?_ | refine ke fun _ => ?_ | refine k2 ?_ | refine kg ?_ | refine kf ?_ | refine k3 ?_ | refine k4 ?_ | refine kn ?_ | refine Same.rfl ?_ | refine k5 ?_ | refine k6 ?_ | refine k7 ?_ | refine k8 ?_ | refine k9 ?_ | refine ka ?_ | refine kb ?_ | refine kl ?_ | refine km ?_ | refine kc ?_ | refine kd ?_ | exact True.intro)); refine Br.by (fun g => ?_) (fun g => ?_)
        · have hlt : t < 8 := by omega
          repeat ((conv => whnf); with_reducible first | refine CondG.split ?_ | refine k1 ?_ | refine ke fun _ => ?_ | refine k2 ?_ | refine kg ?_ | refine kf ?_ | refine k3 ?_ | refine k4 ?_ | refine kn ?_ | refine Same.rfl ?_ | refine k5 ?_ | refine k6 ?_ | refine k7 ?_ | refine k8 ?_ | refine k9 ?_ | refine ka ?_ | refine kb ?_ | refine kl ?_ | refine km ?_ | refine kc ?_ | refine kd ?_ | exact True.intro)
          refine Draw.tailQ 6 (by kernel_rfl) (by kernel_rfl) ?_
          repeat ((conv => whnf); with_reducible first | refine CondG.split ?_ | refine k1 ?_ | refine ke fun _ => ?_ | refine k2 ?_ | refine kg ?_ | refine kf ?_ | refine k3 ?_ | refine k4 ?_ | refine kn ?_ | refine Same.rfl ?_ | refine k5 ?_ | refine k6 ?_ | refine k7 ?_ | refine k8 ?_ | refine k9 ?_ | refine ka ?_ | refine kb ?_ | refine kl ?_ | refine km ?_ | refine kc ?_ | refine kd ?_ | exact True.intro)
          refine ⟨t + 1, by omega, (by dsimp only; omega), ?_⟩
          repeat ((conv => whnf); with_reducible first | refine CondG.split ?_ | refine k1 ?_ | refine ke fun _ => ?_ | refine k2 ?_ | refine kg ?_ | refine kf ?_ | refine k3 ?_ | refine k4 ?_ | refine kn ?_ | refine Same.rfl ?_ | refine k5 ?_ | refine k6 ?_ | refine k7 ?_ | refine k8 ?_ | refine k9 ?_ | refine ka ?_ | refine kb ?_ | refine kl ?_ | refine km ?_ | refine kc ?_ | refine kd ?_ | exact True.intro)
          refine Chk.mk (sums_set h _ hh (stirs_length _ _ _ hh) t hlt) ?_
          repeat ((conv => whnf); with_reducible first | refine CondG.split ?_ | refine k1 ?_ | refine ke fun _ => ?_ | refine k2 ?_ | refine kg ?_ | refine kf ?_ | refine k3 ?_ | refine k4 ?_ | refine kn ?_ | refine Same.rfl ?_ | refine k5 ?_ | refine k6 ?_ | refine k7 ?_ | refine k8 ?_ | refine k9 ?_ | refine ka ?_ | refine kb ?_ | refine kl ?_ | refine km ?_ | refine kc ?_ | refine kd ?_ | exact True.intro)
        · have hge : ¬ (t : Int) < 8 := g
          obtain rfl : t = 8 := by omega
          repeat ((conv => whnf); with_reducible first | refine CondG.split ?_ | refine k1 ?_ | refine ke fun _ => ?_ | refine k2 ?_ | refine kg ?_ | refine kf ?_ | refine k3 ?_ | refine k4 ?_ | refine kn ?_ | refine Same.rfl ?_ | refine k5 ?_ | refine k6 ?_ | refine k7 ?_ | refine k8 ?_ | refine k9 ?_ | refine ka ?_ | refine kb ?_ | refine kl ?_ | refine km ?_ | refine kc ?_ | refine kd ?_ | exact True.intro)
          refine Fin.pure ?_
          refine Chk.mk ?_ trivial
          show List.zipWith (· + ·) (h.take 8) ((stirs (Sha.words b 64) h 64).take 8) ++ h.drop 8 = _
          rw [List.take_of_length_le (by omega), List.take_of_length_le (by rw [stirs_length _ _ _ hh]; omega), List.drop_of_length_le (by omega), List.append_nil]
          rfl
end Go.Proofs.YtlhmdknfkbcdjaaDoor
