/- Package sha: what is left. -/
import Derived.Test.YtaklempggodboaaDoorW5
import Derived.Test.YtaklempggodboaaDoorWL
set_option linter.unusedVariables false
set_option linter.unusedSimpArgs false
set_option maxRecDepth 10000
namespace Go.Proofs.YtaklempggodboaaDoor
open Go Go.SY Go.Sha

theorem of_ok (y : SV) (L : List (List UInt8)) (hsz : L.flatten.length ≤ 1152921504606846976) (hLl : L.length ≤ 4611686018427387904) :
    CtrP R 14 [vl 0 y] [(0, y.blk, .view (.sc .str) y L), gBegin, gRound] (va [.arr .u8 32 (Sha.sum L.flatten)]) := by
  refine Ctr.of Tryd.func14 rfl (by kernel_rfl) rfl fun _ _ w0 => ?_
  have h3 := fun b => sum_ok b L.flatten (chain L.flatten (L.flatten.length / 64)) (chain_length _ _) (fun _ => rfl) hsz
  repeat ((conv => whnf); with_reducible first | refine CondG.split ?_ | refine k1 ?_ | refine ke fun _ => ?_ | refine k2 ?_ | refine kg ?_ | refine kf ?_ | refine k3 ?_ | refine k4 ?_ | refine Same.rfl ?_ | refine k5 ?_ | refine k6 ?_ | refine k7 ?_ | refine k8 ?_ | refine k9 ?_ | refine ka ?_ | refine kb ?_ | refine kl ?_ | refine km ?_ | refine kc ?_ | refine kd ?_ | exact True.intro)
  refine CallG.one [(0, 3), (1, 0)] (add_ok _ [] (List.replicate 8 0) y L rfl (fun h => (h rfl).elim) (by show 0 + L.flatten.length ≤ _; omega) hLl) rfl rfl ?_
  ((repeat ((conv => whnf); with_reducible first | refine CondG.split ?_ | refine k1 ?_ | refine ke fun _ => ?_ | refine k2 ?_ | refine kg ?_ | refine kf ?_ | refine k3 ?_ | refine k4 ?_ | refine Same.rfl ?_ | refine k5 ?_ | refine k6 ?_ | refine k7 ?_ | refine k8 ?_ | refine k9 ?_ | refine ka ?_ | refine kb ?_ | refine kl ?_ | refine km ?_ | refine kc ?_ | refine kd ?_ | exact True.intro)); (repeat (refine Chk.mk rfl ?_; (repeat ((conv => whnf); with_reducible first | refine CondG.split ?_ | refine k1 ?_ | refine ke fun _ => ?_ | refine k2 ?_ | refine kg ?_ | refine kf ?_ | refine k3 ?_ | refine k4 ?_ | refine Same.rfl ?_ | refine k5 ?_ | refine k6 ?_ | refine k7 ?_ | refine k8 ?_ | refine k9 ?_ | refine ka ?_ | refine kb ?_ | refine kl ?_ | refine km ?_ | refine kc ?_ | refine kd ?_ | exact True.intro)))))
  refine CallG.one (H' := []) [(0, 3)] (h3 _) rfl rfl ?_
  ((repeat ((conv => whnf); with_reducible first | refine CondG.split ?_ | refine k1 ?_ | refine ke fun _ => ?_ | refine k2 ?_ | refine kg ?_ | refine kf ?_ | refine k3 ?_ | refine k4 ?_ | refine Same.rfl ?_ | refine k5 ?_ | refine k6 ?_ | refine k7 ?_ | refine k8 ?_ | refine k9 ?_ | refine ka ?_ | refine kb ?_ | refine kl ?_ | refine km ?_ | refine kc ?_ | refine kd ?_ | exact True.intro)); (repeat (refine Chk.mk rfl ?_; (repeat ((conv => whnf); with_reducible first | refine CondG.split ?_ | refine k1 ?_ | refine ke fun _ => ?_ | refine k2 ?_ | refine kg ?_ | refine kf ?_ | refine k3 ?_ | refine k4 ?_ | refine Same.rfl ?_ | refine k5 ?_ | refine k6 ?_ | refine k7 ?_ | refine k8 ?_ | refine k9 ?_ | refine ka ?_ | refine kb ?_ | refine kl ?_ | refine km ?_ | refine kc ?_ | refine kd ?_ | exact True.intro)))))
  refine Fin.pure ?_
  repeat ((conv => whnf); with_reducible first | refine CondG.split ?_ | refine k1 ?_ | refine ke fun _ => ?_ | refine k2 ?_ | refine kg ?_ | refine kf ?_ | refine k3 ?_ | refine k4 ?_ | refine Same.rfl ?_ | refine k5 ?_ | refine k6 ?_ | refine k7 ?_ | refine k8 ?_ | refine k9 ?_ | refine ka ?_ | refine kb ?_ | refine kl ?_ | refine km ?_ | refine kc ?_ | refine kd ?_ | exact True.intro)
def digits : List UInt8 := [48, 49, 50, 51, 52, 53, 54, 55, 56, 57, 97, 98, 99, 100, 101, 102]
def hexd (x : UInt8) : List UInt8 := [digits.getD (x.toNat / 16) 0, digits.getD (x.toNat % 16) 0]
theorem nib_hi (x : UInt8) (n : Nat) (hn : n = 4) : (⟨x.toBitVec >>> n⟩ : UInt8).toNat = x.toNat / 16 := by
  subst hn
  show (x.toBitVec >>> 4).toNat = _
  rw [BitVec.toNat_ushiftRight, Nat.shiftRight_eq_div_pow]; rfl
theorem nib_lo (x : UInt8) : (⟨x.toBitVec &&& 15⟩ : UInt8).toNat = x.toNat % 16 := by
  show (x.toBitVec &&& 15).toNat = _
  rw [BitVec.toNat_and]
  exact Nat.and_two_pow_sub_one_eq_mod x.toNat 4
theorem hex_ok (s : List UInt8) (hs : s.length = 32) : CtrP R 20 [va [.arr .u8 32 s]] [] (vs (s.flatMap hexd)) := by
  refine Ctr.of Tryd.func20 rfl (by kernel_rfl) rfl fun _ _ w0 => ?_
  repeat ((conv => whnf); with_reducible first | refine CondG.split ?_ | refine k1 ?_ | refine ke fun _ => ?_ | refine k2 ?_ | refine kg ?_ | refine kf ?_ | refine k3 ?_ | refine k4 ?_ | refine Same.rfl ?_ | refine k5 ?_ | refine k6 ?_ | refine k7 ?_ | refine k8 ?_ | refine k9 ?_ | refine ka ?_ | refine kb ?_ | refine kl ?_ | refine km ?_ | refine kc ?_ | refine kd ?_ | exact True.intro)
  refine LoopG.auto [6] [] (fun x : Nat × SV => [(3, vl 18 x.2), (7, vi x.1)]) (fun x => [(18, .own 5 (.sc .u8) x.2 ((s.take x.1).flatMap hexd))]) (fun x => x.1 ≤ 32) (fun x => 32 - x.1) (0, .nil) ?_
  refine ⟨⟨by omega, ?_⟩, fun ⟨i, x⟩ hi => ?_⟩
  · repeat ((conv => whnf); with_reducible first | refine CondG.split ?_ | refine k1 ?_ | refine ke fun _ => ?_ | refine k2 ?_ | refine kg ?_ | refine kf ?_ | refine k3 ?_ | refine k4 ?_ | refine Same.rfl ?_ | refine k5 ?_ | refine k6 ?_ | refine k7 ?_ | refine k8 ?_ | refine k9 ?_ | refine ka ?_ | refine kb ?_ | refine kl ?_ | refine km ?_ | refine kc ?_ | refine kd ?_ | exact True.intro)
  · replace hi : i ≤ 32 := hi
    have hl : ((s.take i).flatMap hexd).length = 2 * i := by
      rw [List.length_flatMap, show (fun a => (hexd a).length) = fun _ => 2 from rfl, List.map_const', List.sum_replicate_nat, List.length_take]; omega
    (repeat ((conv => whnf); with_reducible first | refine CondG.split ?_ | refine k1 ?_ | refine ke fun _ => ?_ | refine k2 ?_ | refine kg ?_ | refine kf ?_ | refine k3 ?_ | refine k4 ?_ | refine Same.rfl ?_ | refine k5 ?_ | refine k6 ?_ | refine k7 ?_ | refine k8 ?_ | refine k9 ?_ | refine ka ?_ | refine kb ?_ | refine kl ?_ | refine km ?_ | refine kc ?_ | refine kd ?_ | exact True.intro)); refine Br.by (fun g => ?_) (fun g => ?_)
    · have hi2 : i < 32 := by omega
      have h1 := nib_hi (s.getD i 0) 4 rfl
      have h2 := nib_lo (s.getD i 0)
      have h3 := (s.getD i 0).toNat_lt
      repeat ((conv => whnf); with_reducible first | refine CondG.split ?_ | refine k1 ?_ | refine ke fun _ => ?_ | refine k2 ?_ | refine kg ?_ | refine kf ?_ | refine k3 ?_ | refine k4 ?_ | refine Same.rfl ?_ | refine k5 ?_ | refine k6 ?_ | refine k7 ?_ | refine k8 ?_ | refine k9 ?_ | refine ka ?_ | refine kb ?_ | refine kl ?_ | refine km ?_ | refine kc ?_ | refine kd ?_ | exact True.intro)
      refine Draw.sched (.one 0 (.one 1 (.one 2 (.one 3 (.one 4 (.one 5 (.one 6 (.alt 7 (.alt 8 (.one 9 .done) .fin) .fin)))))))) (by kernel_rfl) (by kernel_rfl) ?_
      repeat ((conv => whnf); with_reducible first | refine CondG.split ?_ | refine k1 ?_ | refine ke fun _ => ?_ | refine k2 ?_ | refine kg ?_ | refine kf ?_ | refine k3 ?_ | refine k4 ?_ | refine Same.rfl ?_ | refine k5 ?_ | refine k6 ?_ | refine k7 ?_ | refine k8 ?_ | refine k9 ?_ | refine ka ?_ | refine kb ?_ | refine kl ?_ | refine km ?_ | refine kc ?_ | refine kd ?_ | exact True.intro)
      refine Chk.mk ⟨Int.natCast_nonneg _, Int.ofNat_lt.2 (Nat.lt_of_le_of_lt (Nat.le_of_eq h1) (by show _ < 16; omega))⟩ ?_
      repeat ((conv => whnf); with_reducible first | refine CondG.split ?_ | refine k1 ?_ | refine ke fun _ => ?_ | refine k2 ?_ | refine kg ?_ | refine kf ?_ | refine k3 ?_ | refine k4 ?_ | refine Same.rfl ?_ | refine k5 ?_ | refine k6 ?_ | refine k7 ?_ | refine k8 ?_ | refine k9 ?_ | refine ka ?_ | refine kb ?_ | refine kl ?_ | refine km ?_ | refine kc ?_ | refine kd ?_ | exact True.intro)
      refine Chk.mk ⟨Int.natCast_nonneg _, Int.ofNat_lt.2 (Nat.lt_of_le_of_lt (Nat.le_of_eq h2) (by show _ < 16; omega))⟩ ?_
      repeat ((conv => whnf); with_reducible first | refine CondG.split ?_ | refine k1 ?_ | refine ke fun _ => ?_ | refine k2 ?_ | refine kg ?_ | refine kf ?_ | refine k3 ?_ | refine k4 ?_ | refine Same.rfl ?_ | refine k5 ?_ | refine k6 ?_ | refine k7 ?_ | refine k8 ?_ | refine k9 ?_ | refine ka ?_ | refine kb ?_ | refine kl ?_ | refine km ?_ | refine kc ?_ | refine kd ?_ | exact True.intro)
      refine ⟨?_, trivial⟩
      repeat ((conv => whnf); with_reducible first | refine CondG.split ?_ | refine k1 ?_ | refine ke fun _ => ?_ | refine k2 ?_ | refine kg ?_ | refine kf ?_ | refine k3 ?_ | refine k4 ?_ | refine Same.rfl ?_ | refine k5 ?_ | refine k6 ?_ | refine k7 ?_ | refine k8 ?_ | refine k9 ?_ | refine ka ?_ | refine kb ?_ | refine kl ?_ | refine km ?_ | refine kc ?_ | refine kd ?_ | exact True.intro)
      refine ⟨?_, trivial⟩
      repeat ((conv => whnf); with_reducible first | refine CondG.split ?_ | refine k1 ?_ | refine ke fun _ => ?_ | refine k2 ?_ | refine kg ?_ | refine kf ?_ | refine k3 ?_ | refine k4 ?_ | refine Same.rfl ?_ | refine k5 ?_ | refine k6 ?_ | refine k7 ?_ | refine k8 ?_ | refine k9 ?_ | refine ka ?_ | refine kb ?_ | refine kl ?_ | refine km ?_ | refine kc ?_ | refine kd ?_ | exact True.intro)
      refine ⟨(i + 1, ‹SV›), (by show i + 1 ≤ _; omega), (by dsimp only; omega), ?_⟩
      repeat ((conv => whnf); with_reducible first | refine k1 ?_ | refine ke fun _ => ?_ | refine k2 ?_ | refine kg ?_ | refine kf ?_ | refine k3 ?_ | refine k4 ?_ | refine Same.rfl ?_ | refine k5 ?_ | refine k6 ?_ | refine k7 ?_ | refine k8 ?_ | refine k9 ?_ | refine ka ?_ | refine kb ?_ | refine kl ?_ | refine km ?_ | refine kc ?_ | refine kd ?_ | exact True.intro)
      refine OwnM.same (by with_reducible rfl) ?_ ?_
      · show (s.take i).flatMap hexd ++ [_, _] = (s.take (i + 1)).flatMap hexd
        rw [List.take_succ_eq_append_getElem (by omega : i < s.length), List.flatMap_append, show s[i] = s.getD i 0 from (gd_lt (by omega)).symm]
        congr 1
        exact (show [digits.getD (⟨(s.getD i 0).toBitVec >>> 4⟩ : UInt8).toNat 0, digits.getD (⟨(s.getD i 0).toBitVec &&& 15⟩ : UInt8).toNat 0] = hexd (s.getD i 0) from by rw [h1, h2]; rfl)
      repeat ((conv => whnf); with_reducible first | refine k1 ?_ | refine ke fun _ => ?_ | refine k2 ?_ | refine kg ?_ | refine kf ?_ | refine k3 ?_ | refine k4 ?_ | refine Same.rfl ?_ | refine k5 ?_ | refine k6 ?_ | refine k7 ?_ | refine k8 ?_ | refine k9 ?_ | refine ka ?_ | refine kb ?_ | refine kl ?_ | refine km ?_ | refine kc ?_ | refine kd ?_ | exact True.intro)
    · have hi2 : i = 32 := by omega
      subst hi2
      repeat ((conv => whnf); with_reducible first | refine CondG.split ?_ | refine k1 ?_ | refine ke fun _ => ?_ | refine k2 ?_ | refine kg ?_ | refine kf ?_ | refine k3 ?_ | refine k4 ?_ | refine Same.rfl ?_ | refine k5 ?_ | refine k6 ?_ | refine k7 ?_ | refine k8 ?_ | refine k9 ?_ | refine ka ?_ | refine kb ?_ | refine kl ?_ | refine km ?_ | refine kc ?_ | refine kd ?_ | exact True.intro)
      refine Fin.pure ?_
      repeat ((conv => whnf); with_reducible first | refine CondG.split ?_ | refine k1 ?_ | refine ke fun _ => ?_ | refine k2 ?_ | refine kg ?_ | refine kf ?_ | refine k3 ?_ | refine k4 ?_ | refine Same.rfl ?_ | refine k5 ?_ | refine k6 ?_ | refine k7 ?_ | refine k8 ?_ | refine k9 ?_ | refine ka ?_ | refine kb ?_ | refine kl ?_ | refine km ?_ | refine kc ?_ | refine kd ?_ | exact True.intro)
      refine Chk.mk (by show (s.take 32).flatMap hexd = _; rw [List.take_of_length_le (by omega)]) ?_
      repeat ((conv => whnf); with_reducible first | refine CondG.split ?_ | refine k1 ?_ | refine ke fun _ => ?_ | refine k2 ?_ | refine kg ?_ | refine kf ?_ | refine k3 ?_ | refine k4 ?_ | refine Same.rfl ?_ | refine k5 ?_ | refine k6 ?_ | refine k7 ?_ | refine k8 ?_ | refine k9 ?_ | refine ka ?_ | refine kb ?_ | refine kl ?_ | refine km ?_ | refine kc ?_ | refine kd ?_ | exact True.intro)
end Go.Proofs.YtaklempggodboaaDoor
