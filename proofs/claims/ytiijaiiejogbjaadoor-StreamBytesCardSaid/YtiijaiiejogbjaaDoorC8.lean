/- Package stream: what its laws compute. -/
import Derived.Test.YtiijaiiejogbjaaDoorC7
set_option linter.unusedVariables false
set_option linter.unusedSimpArgs false
set_option maxRecDepth 10000
set_option maxHeartbeats 400000
namespace Go.Proofs.YtiijaiiejogbjaaDoor
open Go Go.SY Go.Cha

theorem xored_zero_get (k : List UInt8) (c : BitVec 32) (n : List UInt8) (N i : Nat) (hi : i < N) : (xored k c n (List.replicate N 0)).getD i 0 = streamAt k c n i := by
  have h : (List.replicate N (0 : UInt8))[i]? = some 0 := by simp [hi]
  simp only [List.getD_eq_getElem?_getD, xored, List.getElem?_mapIdx, h, Option.map_some, Option.getD_some]
  simp
theorem xored_twice (k : List UInt8) (c : BitVec 32) (n s : List UInt8) : xored k c n (xored k c n s) = s := by
  apply List.ext_getElem?; intro i
  simp only [xored, List.getElem?_mapIdx]
  cases s[i]? with
  | none => rfl
  | some x => simp [UInt8.xor_assoc]
theorem ofNat_add (c : BitVec 32) (a b : Nat) : c + BitVec.ofNat 32 a + BitVec.ofNat 32 b = c + BitVec.ofNat 32 (a + b) := by
  rw [BitVec.add_assoc]; congr 1; apply BitVec.eq_of_toNat_eq; simp [BitVec.toNat_ofNat]
theorem stream_later (k : List UInt8) (c : BitVec 32) (n : List UInt8) (m i : Nat) (h : 64 * m ≤ i) : streamAt k (c + BitVec.ofNat 32 m) n (i - 64 * m) = streamAt k c n i := by
  unfold streamAt
  rw [ofNat_add, show m + (i - 64 * m) / 64 = i / 64 by omega, show (i - 64 * m) % 64 = i % 64 by omega]
theorem xored_parts (k : List UInt8) (c : BitVec 32) (n s : List UInt8) (m : Nat) (hm : 64 * m ≤ s.length) : xored k c n (s.take (64 * m)) ++ xored k (c + BitVec.ofNat 32 m) n (s.drop (64 * m)) = xored k c n s := by
  apply List.ext_getElem?; intro i
  have hl : (xored k c n (s.take (64 * m))).length = 64 * m := by rw [xored_length, List.length_take]; omega
  by_cases h : i < 64 * m
  · rw [List.getElem?_append_left (by omega)]
    simp only [xored, List.getElem?_mapIdx, List.getElem?_take, if_pos h]
  · rw [List.getElem?_append_right (by omega), hl]
    simp only [xored, List.getElem?_mapIdx, List.getElem?_drop]
    rw [show 64 * m + (i - 64 * m) = i by omega]
    refine congrArg (fun f => Option.map f _) (funext fun b => ?_)
    rw [stream_later k c n m i (by omega)]
abbrev vplace (k : List UInt8) (c : BitVec 32) (n : List UInt8) : TV := va [.arr .u8 32 k, .c (.w32 c), .arr .u8 12 n]
theorem xors_law (k : List UInt8) (c : BitVec 32) (n s : List UInt8) (hk : k.length = 32) (hn : n.length = 12) (hs : s.length ≤ 9223372036854775807) :
    CtrP R 4 [vplace k c n, vs s] [gQuarters, gBegin4] (vb true) := by
  refine Ctr.of Tryd.func4 rfl (by kernel_rfl) rfl fun _ _ w0 => ?_
  have hc := c.isLt
  have hl : (s.take 200).length ≤ 200 := by rw [List.length_take]; omega
  have hl2 : (xored k c n (s.take 200)).length ≤ 200 := by rw [xored_length]; exact hl
  have ht := xored_twice k c n (s.take 200)
  repeat ((conv => whnf); with_reducible first | refine CondG.split ?_ | refine k1 ?_ | refine ke fun _ => ?_ | refine k2 ?_ | refine kg ?_ | refine kf ?_ | refine k3 ?_ | refine k4 ?_ | refine Same.rfl ?_ | refine k5 ?_ | refine k6 ?_ | refine k7 ?_ | refine k8 ?_ | refine k9 ?_ | refine ka ?_ | refine kb ?_ | refine kl ?_ | refine km ?_ | refine kc ?_ | refine kd ?_ | exact True.intro)
  refine CallG.p [] awake_ok rfl rfl ?_
  repeat ((conv => whnf); with_reducible first | refine CondG.split ?_ | refine k1 ?_ | refine ke fun _ => ?_ | refine k2 ?_ | refine kg ?_ | refine kf ?_ | refine k3 ?_ | refine k4 ?_ | refine Same.rfl ?_ | refine k5 ?_ | refine k6 ?_ | refine k7 ?_ | refine k8 ?_ | refine k9 ?_ | refine ka ?_ | refine kb ?_ | refine kl ?_ | refine km ?_ | refine kc ?_ | refine kd ?_ | exact True.intro)
  refine CallG.p [] (cut_ok s 200 (by omega)) rfl rfl ?_
  repeat ((conv => whnf); with_reducible first | refine CondG.split ?_ | refine k1 ?_ | refine ke fun _ => ?_ | refine k2 ?_ | refine kg ?_ | refine kf ?_ | refine k3 ?_ | refine k4 ?_ | refine Same.rfl ?_ | refine k5 ?_ | refine k6 ?_ | refine k7 ?_ | refine k8 ?_ | refine k9 ?_ | refine ka ?_ | refine kb ?_ | refine kl ?_ | refine km ?_ | refine kc ?_ | refine kd ?_ | exact True.intro)
  refine CallG.p [] (xor_ok k c n _ hk hn (by omega)) rfl rfl ?_
  repeat ((conv => whnf); with_reducible first | refine CondG.split ?_ | refine k1 ?_ | refine ke fun _ => ?_ | refine k2 ?_ | refine kg ?_ | refine kf ?_ | refine k3 ?_ | refine k4 ?_ | refine Same.rfl ?_ | refine k5 ?_ | refine k6 ?_ | refine k7 ?_ | refine k8 ?_ | refine k9 ?_ | refine ka ?_ | refine kb ?_ | refine kl ?_ | refine km ?_ | refine kc ?_ | refine kd ?_ | exact True.intro)
  refine Draw.quiet (by kernel_rfl) (by kernel_rfl) ?_
  repeat ((conv => whnf); with_reducible first | refine CondG.split ?_ | refine k1 ?_ | refine ke fun _ => ?_ | refine k2 ?_ | refine kg ?_ | refine kf ?_ | refine k3 ?_ | refine k4 ?_ | refine Same.rfl ?_ | refine k5 ?_ | refine k6 ?_ | refine k7 ?_ | refine k8 ?_ | refine k9 ?_ | refine ka ?_ | refine kb ?_ | refine kl ?_ | refine km ?_ | refine kc ?_ | refine kd ?_ | exact True.intro)
  refine CallQ.eq [] (key_ok k hk) rfl rfl ⟨trivial, trivial⟩ ?_
  repeat ((conv => whnf); with_reducible first | refine CondG.split ?_ | refine k1 ?_ | refine ke fun _ => ?_ | refine k2 ?_ | refine kg ?_ | refine kf ?_ | refine k3 ?_ | refine k4 ?_ | refine Same.rfl ?_ | refine k5 ?_ | refine k6 ?_ | refine k7 ?_ | refine k8 ?_ | refine k9 ?_ | refine ka ?_ | refine kb ?_ | refine kl ?_ | refine km ?_ | refine kc ?_ | refine kd ?_ | exact True.intro)
  refine CallQ.eq [] (nonce_ok n hn) rfl rfl ⟨trivial, trivial⟩ ?_
  repeat ((conv => whnf); with_reducible first | refine CondG.split ?_ | refine k1 ?_ | refine ke fun _ => ?_ | refine k2 ?_ | refine kg ?_ | refine kf ?_ | refine k3 ?_ | refine k4 ?_ | refine Same.rfl ?_ | refine k5 ?_ | refine k6 ?_ | refine k7 ?_ | refine k8 ?_ | refine k9 ?_ | refine ka ?_ | refine kb ?_ | refine kl ?_ | refine km ?_ | refine kc ?_ | refine kd ?_ | exact True.intro)
  refine CallQ.eq [] (rxor_ok k c n _ hk hn (by omega)) rfl rfl ⟨trivial, trivial⟩ ?_
  repeat ((conv => whnf); with_reducible first | refine CondG.split ?_ | refine k1 ?_ | refine ke fun _ => ?_ | refine k2 ?_ | refine kg ?_ | refine kf ?_ | refine k3 ?_ | refine k4 ?_ | refine Same.rfl ?_ | refine k5 ?_ | refine k6 ?_ | refine k7 ?_ | refine k8 ?_ | refine k9 ?_ | refine ka ?_ | refine kb ?_ | refine kl ?_ | refine km ?_ | refine kc ?_ | refine kd ?_ | exact True.intro)
  refine CallQ.eq [] (xor_ok k c n _ hk hn (by omega)) rfl rfl ⟨trivial, trivial⟩ ?_
  repeat ((conv => whnf); with_reducible first | refine CondG.split ?_ | refine k1 ?_ | refine ke fun _ => ?_ | refine k2 ?_ | refine kg ?_ | refine kf ?_ | refine k3 ?_ | refine k4 ?_ | refine Same.rfl ?_ | refine k5 ?_ | refine k6 ?_ | refine k7 ?_ | refine k8 ?_ | refine k9 ?_ | refine ka ?_ | refine kb ?_ | refine kl ?_ | refine km ?_ | refine kc ?_ | refine kd ?_ | exact True.intro)
  refine Fin.pure ?_
  exact Chk.mk (decide_eq_true ht) trivial
theorem parts_law (k : List UInt8) (c : BitVec 32) (n s : List UInt8) (q : Int) (hk : k.length = 32) (hn : n.length = 12) (hs : s.length ≤ 9223372036854775807) :
    CtrP R 5 [vplace k c n, vs s, vi q] [gQuarters, gBegin4] (vb true) := by
  refine Ctr.of Tryd.func5 rfl (by kernel_rfl) rfl fun _ _ w0 => ?_
  have hc := c.isLt
  obtain ⟨S, hS⟩ : ∃ S, S = s.take 300 := ⟨_, rfl⟩
  have hl : S.length ≤ 300 := by rw [hS, List.length_take]; omega
  have hcut := cut_ok s 300 (by omega)
  rw [← hS] at hcut
  obtain ⟨m, hm, hm2⟩ : ∃ m : Nat, iand .i64 q 3 = m ∧ m < 4 := ⟨(q % 4).toNat, by rw [show iand .i64 q 3 = q % 4 from iand_mask 2 (by omega) q]; omega, by omega⟩
  have hd : Int.tdiv (S.length : Int) 64 = ((S.length / 64 : Nat) : Int) := rfl
  repeat ((conv => whnf); with_reducible first | refine CondG.split ?_ | refine k1 ?_ | refine ke fun _ => ?_ | refine k2 ?_ | refine kg ?_ | refine kf ?_ | refine k3 ?_ | refine k4 ?_ | refine Same.rfl ?_ | refine k5 ?_ | refine k6 ?_ | refine k7 ?_ | refine k8 ?_ | refine k9 ?_ | refine ka ?_ | refine kb ?_ | refine kl ?_ | refine km ?_ | refine kc ?_ | refine kd ?_ | exact True.intro)
  refine CallG.p [] awake_ok rfl rfl ?_
  repeat ((conv => whnf); with_reducible first | refine CondG.split ?_ | refine k1 ?_ | refine ke fun _ => ?_ | refine k2 ?_ | refine kg ?_ | refine kf ?_ | refine k3 ?_ | refine k4 ?_ | refine Same.rfl ?_ | refine k5 ?_ | refine k6 ?_ | refine k7 ?_ | refine k8 ?_ | refine k9 ?_ | refine ka ?_ | refine kb ?_ | refine kl ?_ | refine km ?_ | refine kc ?_ | refine kd ?_ | exact True.intro)
  refine CallG.p [] hcut rfl rfl ?_
  repeat ((conv => whnf); with_reducible first | refine CondG.split ?_ | refine k1 ?_ | refine ke fun _ => ?_ | refine k2 ?_ | refine kg ?_ | refine kf ?_ | refine k3 ?_ | refine k4 ?_ | refine Same.rfl ?_ | refine k5 ?_ | refine k6 ?_ | refine k7 ?_ | refine k8 ?_ | refine k9 ?_ | refine ka ?_ | refine kb ?_ | refine kl ?_ | refine km ?_ | refine kc ?_ | refine kd ?_ | exact True.intro)
  obtain ⟨M, hM, hM2⟩ : ∃ M : Nat, M = min m (S.length / 64) ∧ 64 * M ≤ S.length := ⟨_, rfl, by omega⟩
  refine Draw.set [1, 3] [3, 50000, 50001] [(7, vi (64 * M : Nat))] [] ?_
  refine ⟨?_, ?_⟩
  · repeat ((conv => whnf); with_reducible first | refine CondG.split ?_ | refine k1 ?_ | refine ke fun _ => ?_ | refine k2 ?_ | refine kg ?_ | refine kf ?_ | refine k3 ?_ | refine k4 ?_ | refine Same.rfl ?_ | refine k5 ?_ | refine k6 ?_ | refine k7 ?_ | refine k8 ?_ | refine k9 ?_ | refine ka ?_ | refine kb ?_ | refine kl ?_ | refine km ?_ | refine kc ?_ | refine kd ?_ | exact True.intro)
  have dM : Int.tdiv ((64 * M : Nat) : Int) 64 = (M : Int) := by show ((64 * M / 64 : Nat) : Int) = _; congr 1; omega
  have hp := xored_parts k c n S M hM2
  have hl1 : (S.take (64 * M)).length ≤ 300 := by rw [List.length_take]; omega
  have hl2 : (S.drop (64 * M)).length ≤ 300 := by rw [List.length_drop]; omega
  have hx1 : (xored k c n (S.take (64 * M))).length ≤ 300 := by rw [xored_length]; exact hl1
  have hx2 : (xored k (c + BitVec.ofNat 32 M) n (S.drop (64 * M))).length ≤ 300 := by rw [xored_length]; exact hl2
  refine Draw.quiet (by kernel_rfl) (by kernel_rfl) ?_
  repeat ((conv => whnf); with_reducible first | refine CondG.split ?_ | refine k1 ?_ | refine ke fun _ => ?_ | refine k2 ?_ | refine kg ?_ | refine kf ?_ | refine k3 ?_ | refine k4 ?_ | refine Same.rfl ?_ | refine k5 ?_ | refine k6 ?_ | refine k7 ?_ | refine k8 ?_ | refine k9 ?_ | refine ka ?_ | refine kb ?_ | refine kl ?_ | refine km ?_ | refine kc ?_ | refine kd ?_ | exact True.intro)
  refine CallQ.eq [] (xor_ok k c n _ hk hn (by omega)) rfl rfl ⟨trivial, trivial⟩ ?_
  repeat ((conv => whnf); with_reducible first | refine CondG.split ?_ | refine k1 ?_ | refine ke fun _ => ?_ | refine k2 ?_ | refine kg ?_ | refine kf ?_ | refine k3 ?_ | refine k4 ?_ | refine Same.rfl ?_ | refine k5 ?_ | refine k6 ?_ | refine k7 ?_ | refine k8 ?_ | refine k9 ?_ | refine ka ?_ | refine kb ?_ | refine kl ?_ | refine km ?_ | refine kc ?_ | refine kd ?_ | exact True.intro)
  refine Draw.quiet (by kernel_rfl) (by kernel_rfl) ?_
  repeat ((conv => whnf); with_reducible first | refine CondG.split ?_ | refine k1 ?_ | refine ke fun _ => ?_ | refine k2 ?_ | refine kg ?_ | refine kf ?_ | refine k3 ?_ | refine k4 ?_ | refine Same.rfl ?_ | refine k5 ?_ | refine k6 ?_ | refine k7 ?_ | refine k8 ?_ | refine k9 ?_ | refine ka ?_ | refine kb ?_ | refine kl ?_ | refine km ?_ | refine kc ?_ | refine kd ?_ | exact True.intro)
  refine CallQ.use [] (xor_ok k (c + BitVec.ofNat 32 M) n (S.drop (64 * M)) hk hn (by omega)) rfl ⟨trivial, trivial⟩ ?_
  repeat ((conv => whnf); with_reducible first | refine CondG.split ?_ | refine k1 ?_ | refine ke fun _ => ?_ | refine k2 ?_ | refine kg ?_ | refine kf ?_ | refine k3 ?_ | refine k4 ?_ | refine Same.rfl ?_ | refine k5 ?_ | refine k6 ?_ | refine k7 ?_ | refine k8 ?_ | refine k9 ?_ | refine ka ?_ | refine kb ?_ | refine kl ?_ | refine km ?_ | refine kc ?_ | refine kd ?_ | exact True.intro)
  refine Chk.mk (by rw [dM]; rfl) ?_
  repeat ((conv => whnf); with_reducible first | refine CondG.split ?_ | refine k1 ?_ | refine ke fun _ => ?_ | refine k2 ?_ | refine kg ?_ | refine kf ?_ | refine k3 ?_ | refine k4 ?_ | refine Same.rfl ?_ | refine k5 ?_ | refine k6 ?_ | refine k7 ?_ | refine k8 ?_ | refine k9 ?_ | refine ka ?_ | refine kb ?_ | refine kl ?_ | refine km ?_ | refine kc ?_ | refine kd ?_ | exact True.intro)
  refine Draw.quiet (by kernel_rfl) (by kernel_rfl) ?_
  repeat ((conv => whnf); with_reducible first | refine CondG.split ?_ | refine k1 ?_ | refine ke fun _ => ?_ | refine k2 ?_ | refine kg ?_ | refine kf ?_ | refine k3 ?_ | refine k4 ?_ | refine Same.rfl ?_ | refine k5 ?_ | refine k6 ?_ | refine k7 ?_ | refine k8 ?_ | refine k9 ?_ | refine ka ?_ | refine kb ?_ | refine kl ?_ | refine km ?_ | refine kc ?_ | refine kd ?_ | exact True.intro)
  refine CallQ.eq [] (xor_ok k c n S hk hn (by omega)) rfl rfl ⟨trivial, trivial⟩ ?_
  repeat ((conv => whnf); with_reducible first | refine CondG.split ?_ | refine k1 ?_ | refine ke fun _ => ?_ | refine k2 ?_ | refine kg ?_ | refine kf ?_ | refine k3 ?_ | refine k4 ?_ | refine Same.rfl ?_ | refine k5 ?_ | refine k6 ?_ | refine k7 ?_ | refine k8 ?_ | refine k9 ?_ | refine ka ?_ | refine kb ?_ | refine kl ?_ | refine km ?_ | refine kc ?_ | refine kd ?_ | exact True.intro)
  refine CallQ.eq [] (key_ok k hk) rfl rfl ⟨trivial, trivial⟩ ?_
  repeat ((conv => whnf); with_reducible first | refine CondG.split ?_ | refine k1 ?_ | refine ke fun _ => ?_ | refine k2 ?_ | refine kg ?_ | refine kf ?_ | refine k3 ?_ | refine k4 ?_ | refine Same.rfl ?_ | refine k5 ?_ | refine k6 ?_ | refine k7 ?_ | refine k8 ?_ | refine k9 ?_ | refine ka ?_ | refine kb ?_ | refine kl ?_ | refine km ?_ | refine kc ?_ | refine kd ?_ | exact True.intro)
  refine CallQ.eq [] (nonce_ok n hn) rfl rfl ⟨trivial, trivial⟩ ?_
  repeat ((conv => whnf); with_reducible first | refine CondG.split ?_ | refine k1 ?_ | refine ke fun _ => ?_ | refine k2 ?_ | refine kg ?_ | refine kf ?_ | refine k3 ?_ | refine k4 ?_ | refine Same.rfl ?_ | refine k5 ?_ | refine k6 ?_ | refine k7 ?_ | refine k8 ?_ | refine k9 ?_ | refine ka ?_ | refine kb ?_ | refine kl ?_ | refine km ?_ | refine kc ?_ | refine kd ?_ | exact True.intro)
  refine CallQ.eq [] (rxor_ok k c n S hk hn (by omega)) rfl rfl ⟨trivial, trivial⟩ ?_
  repeat ((conv => whnf); with_reducible first | refine CondG.split ?_ | refine k1 ?_ | refine ke fun _ => ?_ | refine k2 ?_ | refine kg ?_ | refine kf ?_ | refine k3 ?_ | refine k4 ?_ | refine Same.rfl ?_ | refine k5 ?_ | refine k6 ?_ | refine k7 ?_ | refine k8 ?_ | refine k9 ?_ | refine ka ?_ | refine kb ?_ | refine kl ?_ | refine km ?_ | refine kc ?_ | refine kd ?_ | exact True.intro)
  refine Fin.pure ?_
  exact Chk.mk (decide_eq_true hp) trivial
end Go.Proofs.YtiijaiiejogbjaaDoor
