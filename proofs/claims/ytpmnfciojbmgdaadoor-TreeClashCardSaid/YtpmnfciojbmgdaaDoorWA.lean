/- The document's SHA-256. -/
import Derived.Test.YtpmnfciojbmgdaaDoorW9
set_option linter.unusedVariables false
set_option linter.unusedSimpArgs false
set_option maxRecDepth 10000
namespace Go.Proofs.YtpmnfciojbmgdaaDoor
open Go Go.SY Go.Sha

def vs8 (m : List UInt8) (j i : Nat) : List (BitVec 32) := stirs (Sha.words (blk m j) 64) (chain (padded m) j) i
set_option maxHeartbeats 12800000 in
theorem rof_ok (m : List UInt8) (hsz : m.length ≤ 100000) : CtrP R 33 [vs m] [] (vs (Sha.sum m)) := by
  refine Ctr.of Tryd.func33 rfl (by kernel_rfl) rfl fun _ _ w0 => ?_
  have hp := padded_length m
  have hpm := padded_mod m
  repeat ((conv => whnf); with_reducible first | refine CondG.split ?_ | refine k1 ?_ | refine ke fun _ => ?_ | refine k2 ?_ | refine kg ?_ | refine kf ?_ | refine k3 ?_ | refine k4 ?_ | refine kn ?_ | refine Same.rfl ?_ | refine k5 ?_ | refine k6 ?_ | refine k7 ?_ | refine k8 ?_ | refine k9 ?_ | refine ka ?_ | refine kb ?_ | refine kl ?_ | refine km ?_ | refine kc ?_ | refine kd ?_ | exact True.intro)
  refine LoopG.auto [0, 3] [] (fun i : Nat => [(4, vs (m ++ [0x80] ++ List.replicate i 0))]) (fun i => []) (fun i => i ≤ (119 - m.length % 64) % 64) (fun i => 64 - i) 0 ?_
  refine ⟨⟨by omega, ?_⟩, fun i hi => ?_⟩
  · repeat ((conv => whnf); with_reducible first | refine CondG.split ?_ | refine k1 ?_ | refine ke fun _ => ?_ | refine k2 ?_ | refine kg ?_ | refine kf ?_ | refine k3 ?_ | refine k4 ?_ | refine kn ?_ | refine Same.rfl ?_ | refine k5 ?_ | refine k6 ?_ | refine k7 ?_ | refine k8 ?_ | refine k9 ?_ | refine ka ?_ | refine kb ?_ | refine kl ?_ | refine km ?_ | refine kc ?_ | refine kd ?_ | exact True.intro)
    refine Chk.mk (List.append_nil _).symm ?_
    repeat ((conv => whnf); with_reducible first | refine CondG.split ?_ | refine k1 ?_ | refine ke fun _ => ?_ | refine k2 ?_ | refine kg ?_ | refine kf ?_ | refine k3 ?_ | refine k4 ?_ | refine kn ?_ | refine Same.rfl ?_ | refine k5 ?_ | refine k6 ?_ | refine k7 ?_ | refine k8 ?_ | refine k9 ?_ | refine ka ?_ | refine kb ?_ | refine kl ?_ | refine km ?_ | refine kc ?_ | refine kd ?_ | exact True.intro)
  · (repeat ((conv => whnf); with_reducible first | refine CondG.split ?_ | refine k1 ?_ | refine ke fun _ => ?_ | refine k2 ?_ | refine kg ?_ | refine kf ?_ | refine k3 ?_ | refine k4 ?_ | refine kn ?_ | refine Same.rfl ?_ | refine k5 ?_ | refine k6 ?_ | refine k7 ?_ | refine k8 ?_ | refine k9 ?_ | refine ka ?_ | refine kb ?_ | refine kl ?_ | refine km ?_ | refine kc ?_ | refine kd ?_ | exact True.intro)); refine Br.by (fun g => ?_) (fun g => ?_)
    · have g2 : (m.length + 1 + i) % 64 ≠ 56 := by
        intro e; apply g; show Int.tmod ((List.length _ : Nat) : Int) ((64 : Nat) : Int) = _
        simp [Int.tmod] ; omega
      repeat ((conv => whnf); with_reducible first | refine CondG.split ?_ | refine k1 ?_ | refine ke fun _ => ?_ | refine k2 ?_ | refine kg ?_ | refine kf ?_ | refine k3 ?_ | refine k4 ?_ | refine kn ?_ | refine Same.rfl ?_ | refine k5 ?_ | refine k6 ?_ | refine k7 ?_ | refine k8 ?_ | refine k9 ?_ | refine ka ?_ | refine kb ?_ | refine kl ?_ | refine km ?_ | refine kc ?_ | refine kd ?_ | exact True.intro)
      refine ⟨i + 1, by omega, (by dsimp only; omega), ?_⟩
      repeat ((conv => whnf); with_reducible first | refine k1 ?_ | refine ke fun _ => ?_ | refine k2 ?_ | refine kg ?_ | refine kf ?_ | refine k3 ?_ | refine k4 ?_ | refine kn ?_ | refine Same.rfl ?_ | refine k5 ?_ | refine k6 ?_ | refine k7 ?_ | refine k8 ?_ | refine k9 ?_ | refine ka ?_ | refine kb ?_ | refine kl ?_ | refine km ?_ | refine kc ?_ | refine kd ?_ | exact True.intro)
      refine Chk.mk (by rw [List.append_assoc _ _ [0], List.replicate_succ']) ?_
      repeat ((conv => whnf); with_reducible first | refine k1 ?_ | refine ke fun _ => ?_ | refine k2 ?_ | refine kg ?_ | refine kf ?_ | refine k3 ?_ | refine k4 ?_ | refine kn ?_ | refine Same.rfl ?_ | refine k5 ?_ | refine k6 ?_ | refine k7 ?_ | refine k8 ?_ | refine k9 ?_ | refine ka ?_ | refine kb ?_ | refine kl ?_ | refine km ?_ | refine kc ?_ | refine kd ?_ | exact True.intro)
    · have hi2 : i = (119 - m.length % 64) % 64 := by
        by_cases e : i = (119 - m.length % 64) % 64
        · exact e
        · exfalso; apply g; show Int.tmod ((List.length _ : Nat) : Int) ((64 : Nat) : Int) ≠ _
          simp [Int.tmod] ; omega
      subst hi2
      repeat ((conv => whnf); with_reducible first | refine CondG.split ?_ | refine k1 ?_ | refine ke fun _ => ?_ | refine k2 ?_ | refine kg ?_ | refine kf ?_ | refine k3 ?_ | refine k4 ?_ | refine kn ?_ | refine Same.rfl ?_ | refine k5 ?_ | refine k6 ?_ | refine k7 ?_ | refine k8 ?_ | refine k9 ?_ | refine ka ?_ | refine kb ?_ | refine kl ?_ | refine km ?_ | refine kc ?_ | refine kd ?_ | exact True.intro)
      refine LoopG.auto [0, 4] [] (fun i : Nat => [(3, vi (8 * m.length / 256 ^ i : Nat)), (5, vs ((bits8 (8 * m.length)).drop (8 - i))), (6, vi i)]) (fun i => []) (fun i => i ≤ 8) (fun i => 8 - i) 0 ?_
      refine ⟨⟨by omega, ?_⟩, fun i hi => ?_⟩
      · repeat ((conv => whnf); with_reducible first | refine CondG.split ?_ | refine k1 ?_ | refine ke fun _ => ?_ | refine k2 ?_ | refine kg ?_ | refine kf ?_ | refine k3 ?_ | refine k4 ?_ | refine kn ?_ | refine Same.rfl ?_ | refine k5 ?_ | refine k6 ?_ | refine k7 ?_ | refine k8 ?_ | refine k9 ?_ | refine ka ?_ | refine kb ?_ | refine kl ?_ | refine km ?_ | refine kc ?_ | refine kd ?_ | exact True.intro)
        refine Chk.mk rfl ?_
        repeat ((conv => whnf); with_reducible first | refine CondG.split ?_ | refine k1 ?_ | refine ke fun _ => ?_ | refine k2 ?_ | refine kg ?_ | refine kf ?_ | refine k3 ?_ | refine k4 ?_ | refine kn ?_ | refine Same.rfl ?_ | refine k5 ?_ | refine k6 ?_ | refine k7 ?_ | refine k8 ?_ | refine k9 ?_ | refine ka ?_ | refine kb ?_ | refine kl ?_ | refine km ?_ | refine kc ?_ | refine kd ?_ | exact True.intro)
      · (repeat ((conv => whnf); with_reducible first | refine CondG.split ?_ | refine k1 ?_ | refine ke fun _ => ?_ | refine k2 ?_ | refine kg ?_ | refine kf ?_ | refine k3 ?_ | refine k4 ?_ | refine kn ?_ | refine Same.rfl ?_ | refine k5 ?_ | refine k6 ?_ | refine k7 ?_ | refine k8 ?_ | refine k9 ?_ | refine ka ?_ | refine kb ?_ | refine kl ?_ | refine km ?_ | refine kc ?_ | refine kd ?_ | exact True.intro)); refine Br.by (fun g => ?_) (fun g => ?_)
        · have hi2 : i < 8 := by omega
          have hn : 8 * m.length / 256 ^ i ≤ 8 * m.length := Nat.div_le_self _ _
          have hlb : ((bits8 (8 * m.length)).drop (8 - i)).length = i := by rw [List.length_drop, bits8_length]; omega
          generalize hN : 8 * m.length / 256 ^ i = N at hn ⊢
          have hd : Int.tdiv (N : Int) 256 = ((N / 256 : Nat) : Int) := rfl
          repeat ((conv => whnf); with_reducible first | refine CondG.split ?_ | refine k1 ?_ | refine ke fun _ => ?_ | refine k2 ?_ | refine kg ?_ | refine kf ?_ | refine k3 ?_ | refine k4 ?_ | refine kn ?_ | refine Same.rfl ?_ | refine k5 ?_ | refine k6 ?_ | refine k7 ?_ | refine k8 ?_ | refine k9 ?_ | refine ka ?_ | refine kb ?_ | refine kl ?_ | refine km ?_ | refine kc ?_ | refine kd ?_ | exact True.intro)
          refine ⟨i + 1, by omega, (by dsimp only; omega), ?_⟩
          repeat ((conv => whnf); with_reducible first | refine k1 ?_ | refine ke fun _ => ?_ | refine k2 ?_ | refine kg ?_ | refine kf ?_ | refine k3 ?_ | refine k4 ?_ | refine kn ?_ | refine Same.rfl ?_ | refine k5 ?_ | refine k6 ?_ | refine k7 ?_ | refine k8 ?_ | refine k9 ?_ | refine ka ?_ | refine kb ?_ | refine kl ?_ | refine km ?_ | refine kc ?_ | refine kd ?_ | exact True.intro)
          refine Chk.mk (by show Int.tdiv (N : Int) 256 = _; rw [hd, ← hN, Nat.div_div_eq_div_mul, Nat.pow_succ]) ?_
          repeat ((conv => whnf); with_reducible first | refine k1 ?_ | refine ke fun _ => ?_ | refine k2 ?_ | refine kg ?_ | refine kf ?_ | refine k3 ?_ | refine k4 ?_ | refine kn ?_ | refine Same.rfl ?_ | refine k5 ?_ | refine k6 ?_ | refine k7 ?_ | refine k8 ?_ | refine k9 ?_ | refine ka ?_ | refine kb ?_ | refine kl ?_ | refine km ?_ | refine kc ?_ | refine kd ?_ | exact True.intro)
          refine Chk.mk (by show ([_] : List UInt8) ++ _ = _; rw [bits8_get _ _ hi2, byte_mod, hN]; rfl) ?_
          repeat ((conv => whnf); with_reducible first | refine k1 ?_ | refine ke fun _ => ?_ | refine k2 ?_ | refine kg ?_ | refine kf ?_ | refine k3 ?_ | refine k4 ?_ | refine kn ?_ | refine Same.rfl ?_ | refine k5 ?_ | refine k6 ?_ | refine k7 ?_ | refine k8 ?_ | refine k9 ?_ | refine ka ?_ | refine kb ?_ | refine kl ?_ | refine km ?_ | refine kc ?_ | refine kd ?_ | exact True.intro)
        · have hi2 : i = 8 := by omega
          subst hi2
          have hlb : ((bits8 (8 * m.length)).drop (8 - 8)).length = 8 := rfl
          have hpp : m ++ [0x80] ++ List.replicate ((119 - m.length % 64) % 64) 0 ++ (bits8 (8 * m.length)).drop (8 - 8) = padded m := rfl
          repeat ((conv => whnf); with_reducible first | refine CondG.split ?_ | refine k1 ?_ | refine ke fun _ => ?_ | refine k2 ?_ | refine kg ?_ | refine kf ?_ | refine k3 ?_ | refine k4 ?_ | refine kn ?_ | refine Same.rfl ?_ | refine k5 ?_ | refine k6 ?_ | refine k7 ?_ | refine k8 ?_ | refine k9 ?_ | refine ka ?_ | refine kb ?_ | refine kl ?_ | refine km ?_ | refine kc ?_ | refine kd ?_ | exact True.intro)
          rename_i kh
          refine CallG.eq [(1, 60)] constants_ok rfl rfl ?_
          repeat ((conv => whnf); with_reducible first | refine CondG.split ?_ | refine k1 ?_ | refine ke fun _ => ?_ | refine k2 ?_ | refine kg ?_ | refine kf ?_ | refine k3 ?_ | refine k4 ?_ | refine kn ?_ | refine Same.rfl ?_ | refine k5 ?_ | refine k6 ?_ | refine k7 ?_ | refine k8 ?_ | refine k9 ?_ | refine ka ?_ | refine kb ?_ | refine kl ?_ | refine km ?_ | refine kc ?_ | refine kd ?_ | exact True.intro)
          rintro nb ⟨⟩
          refine ⟨rfl, ?_⟩
          repeat ((conv => whnf); with_reducible first | refine CondG.split ?_ | refine k1 ?_ | refine ke fun _ => ?_ | refine k2 ?_ | refine kg ?_ | refine kf ?_ | refine k3 ?_ | refine k4 ?_ | refine kn ?_ | refine Same.rfl ?_ | refine k5 ?_ | refine k6 ?_ | refine k7 ?_ | refine k8 ?_ | refine k9 ?_ | refine ka ?_ | refine kb ?_ | refine kl ?_ | refine km ?_ | refine kc ?_ | refine kd ?_ | exact True.intro)
          refine LoopG.auto [] [] (fun j : Nat => [(4, vs (padded m)), (7, vl 59 (.at kh 0 8 8)), (8, vl 60 (.at nb 0 64 64)), (9, vi (64 * j : Nat))]) (fun j => [(59, .own 3 (.sc (.int .i64)) (.at kh 0 8 8) (nums (chain (padded m) j))), (60, .own 3 (.sc (.int .i64)) (.at nb 0 64 64) (nums round64))]) (fun j => j ≤ (padded m).length / 64) (fun j => (padded m).length / 64 - j) 0 ?_
          refine ⟨⟨by omega, ?_⟩, fun j hj => ?_⟩
          · repeat ((conv => whnf); with_reducible first | refine CondG.split ?_ | refine k1 ?_ | refine ke fun _ => ?_ | refine k2 ?_ | refine kg ?_ | refine kf ?_ | refine k3 ?_ | refine k4 ?_ | refine kn ?_ | refine Same.rfl ?_ | refine k5 ?_ | refine k6 ?_ | refine k7 ?_ | refine k8 ?_ | refine k9 ?_ | refine ka ?_ | refine kb ?_ | refine kl ?_ | refine km ?_ | refine kc ?_ | refine kd ?_ | exact True.intro)
            refine OwnM.same (by with_reducible rfl) (by kernel_rfl) ?_
            repeat ((conv => whnf); with_reducible first | refine CondG.split ?_ | refine k1 ?_ | refine ke fun _ => ?_ | refine k2 ?_ | refine kg ?_ | refine kf ?_ | refine k3 ?_ | refine k4 ?_ | refine kn ?_ | refine Same.rfl ?_ | refine k5 ?_ | refine k6 ?_ | refine k7 ?_ | refine k8 ?_ | refine k9 ?_ | refine ka ?_ | refine kb ?_ | refine kl ?_ | refine km ?_ | refine kc ?_ | refine kd ?_ | exact True.intro)
          · clear hpp hlb
            (repeat ((conv => whnf); with_reducible first | refine CondG.split ?_ | refine k1 ?_ | refine ke fun _ => ?_ | refine k2 ?_ | refine kg ?_ | refine kf ?_ | refine k3 ?_ | refine k4 ?_ | refine kn ?_ | refine Same.rfl ?_ | refine k5 ?_ | refine k6 ?_ | refine k7 ?_ | refine k8 ?_ | refine k9 ?_ | refine ka ?_ | refine kb ?_ | refine kl ?_ | refine km ?_ | refine kc ?_ | refine kd ?_ | exact True.intro)); refine Br.by (fun g => ?_) (fun g => ?_)
            · have hjl : 64 * j + 64 ≤ (padded m).length := by omega
              have hbl := blk_length m j (by omega)
              repeat ((conv => whnf); with_reducible first | refine CondG.split ?_ | refine k1 ?_ | refine ke fun _ => ?_ | refine k2 ?_ | refine kg ?_ | refine kf ?_ | refine k3 ?_ | refine k4 ?_ | refine kn ?_ | refine Same.rfl ?_ | refine k5 ?_ | refine k6 ?_ | refine k7 ?_ | refine k8 ?_ | refine k9 ?_ | refine ka ?_ | refine kb ?_ | refine kl ?_ | refine km ?_ | refine kc ?_ | refine kd ?_ | exact True.intro)
              rename_i kw
              refine LoopG.ren [(67, 103)] [4, 7, 8, 9, 10, 11] [59, 60, 67] ?_
              refine ⟨rfl, ?_⟩
              refine LoopG.two [4, 7, 8, 9] [59, 60] (fun (i : Nat) x => [(10, vl 103 x), (11, vi i)]) (fun i x => [(103, .own 3 (.sc (.int .i64)) x (nums (Sha.words (blk m j) i)))]) (fun i x => i ≤ 16) (fun i => 16 - i) 0 (.at kw 0 0 0) ?_
              refine ⟨⟨by omega, ?_⟩, fun i x hi => ?_⟩
              · repeat ((conv => whnf); with_reducible first | refine CondG.split ?_ | refine k1 ?_ | refine ke fun _ => ?_ | refine k2 ?_ | refine kg ?_ | refine kf ?_ | refine k3 ?_ | refine k4 ?_ | refine kn ?_ | refine Same.rfl ?_ | refine k5 ?_ | refine k6 ?_ | refine k7 ?_ | refine k8 ?_ | refine k9 ?_ | refine ka ?_ | refine kb ?_ | refine kl ?_ | refine km ?_ | refine kc ?_ | refine kd ?_ | exact True.intro)
                refine OwnM.same (by with_reducible rfl) rfl ?_
                repeat ((conv => whnf); with_reducible first | refine CondG.split ?_ | refine k1 ?_ | refine ke fun _ => ?_ | refine k2 ?_ | refine kg ?_ | refine kf ?_ | refine k3 ?_ | refine k4 ?_ | refine kn ?_ | refine Same.rfl ?_ | refine k5 ?_ | refine k6 ?_ | refine k7 ?_ | refine k8 ?_ | refine k9 ?_ | refine ka ?_ | refine kb ?_ | refine kl ?_ | refine km ?_ | refine kc ?_ | refine kd ?_ | exact True.intro)
              · (repeat ((conv => whnf); with_reducible first | refine CondG.split ?_ | refine k1 ?_ | refine ke fun _ => ?_ | refine k2 ?_ | refine kg ?_ | refine kf ?_ | refine k3 ?_ | refine k4 ?_ | refine kn ?_ | refine Same.rfl ?_ | refine k5 ?_ | refine k6 ?_ | refine k7 ?_ | refine k8 ?_ | refine k9 ?_ | refine ka ?_ | refine kb ?_ | refine kl ?_ | refine km ?_ | refine kc ?_ | refine kd ?_ | exact True.intro)); refine Br.by (fun g => ?_) (fun g => ?_)
                · have hi2 : i < 16 := by omega
                  have hql : (((padded m).take (64 * j + 4 * i + 4)).drop (64 * j + 4 * i)).length = 4 := by rw [List.length_drop, List.length_take]; omega
                  repeat ((conv => whnf); with_reducible first | refine CondG.split ?_ | refine k1 ?_ | refine ke fun _ => ?_ | refine k2 ?_ | refine kg ?_ | refine kf ?_ | refine k3 ?_ | refine k4 ?_ | refine kn ?_ | refine Same.rfl ?_ | refine k5 ?_ | refine k6 ?_ | refine k7 ?_ | refine k8 ?_ | refine k9 ?_ | refine ka ?_ | refine kb ?_ | refine kl ?_ | refine km ?_ | refine kc ?_ | refine kd ?_ | exact True.intro)
                  obtain ⟨p, hP⟩ : ∃ p, p = ((padded m).take (64 * j + 4 * i + 4)).drop (64 * j + 4 * i) := ⟨_, rfl⟩
                  rw [← hP] at hql
                  refine Draw.set [4, 7, 8, 9, 10, 11] [59, 60, 103] [(12, vs p)] [] ?_
                  refine ⟨?_, ?_⟩
                  · repeat ((conv => whnf); with_reducible first | refine CondG.split ?_ | refine k1 ?_ | refine ke fun _ => ?_ | refine k2 ?_ | refine kg ?_ | refine kf ?_ | refine k3 ?_ | refine k4 ?_ | refine kn ?_ | refine Same.rfl ?_ | refine k5 ?_ | refine k6 ?_ | refine k7 ?_ | refine k8 ?_ | refine k9 ?_ | refine ka ?_ | refine kb ?_ | refine kl ?_ | refine km ?_ | refine kc ?_ | refine kd ?_ | exact True.intro)
                    refine Chk.mk hP.symm ?_
                    repeat ((conv => whnf); with_reducible first | refine CondG.split ?_ | refine k1 ?_ | refine ke fun _ => ?_ | refine k2 ?_ | refine kg ?_ | refine kf ?_ | refine k3 ?_ | refine k4 ?_ | refine kn ?_ | refine Same.rfl ?_ | refine k5 ?_ | refine k6 ?_ | refine k7 ?_ | refine k8 ?_ | refine k9 ?_ | refine ka ?_ | refine kb ?_ | refine kl ?_ | refine km ?_ | refine kc ?_ | refine kd ?_ | exact True.intro)
                  have b0 := UInt8.toNat_lt (p.getD 0 0)
                  have b1 := UInt8.toNat_lt (p.getD 1 0)
                  have b2 := UInt8.toNat_lt (p.getD 2 0)
                  have b3 := UInt8.toNat_lt (p.getD 3 0)
                  have hnl : (nums (Sha.words (blk m j) i)).length = i := by rw [nums_length, words_length]
                  refine Draw.held [] (.one 0 (.one 1 (.one 2 (.one 3 (.one 4 (.one 5 (.one 6 (.one 7 (.one 8 (.one 9 (.one 10 (.one 11 (.one 12 (.one 13 (.one 14 (.one 15 (.one 16 (.one 17 (.one 18 (.alt 19 (.alt 20 (.one 21 .done) .fin) .fin)))))))))))))))))))) (by kernel_rfl) (by kernel_rfl) ?_
                  repeat ((conv => whnf); with_reducible first | refine CondG.split ?_ | refine k1 ?_ | refine ke fun _ => ?_ | refine k2 ?_ | refine kg ?_ | refine kf ?_ | refine k3 ?_ | refine k4 ?_ | refine kn ?_ | refine Same.rfl ?_ | refine k5 ?_ | refine k6 ?_ | refine k7 ?_ | refine k8 ?_ | refine k9 ?_ | refine ka ?_ | refine kb ?_ | refine kl ?_ | refine km ?_ | refine kc ?_ | refine kd ?_ | exact True.intro)
                  repeat ((conv => whnf); with_reducible first | refine CondG.split ?_ | refine k1 ?_ | refine ke fun _ => ?_ | refine k2 ?_ | refine kg ?_ | refine kf ?_ | refine k3 ?_ | refine k4 ?_ | refine kn ?_ | refine Same.rfl ?_ | refine k5 ?_ | refine k6 ?_ | refine k7 ?_ | refine k8 ?_ | refine k9 ?_ | refine ka ?_ | refine kb ?_ | refine kl ?_ | refine km ?_ | refine kc ?_ | refine kd ?_ | exact True.intro)
                  refine ⟨?_, trivial⟩
                  repeat ((conv => whnf); with_reducible first | refine CondG.split ?_ | refine k1 ?_ | refine ke fun _ => ?_ | refine k2 ?_ | refine kg ?_ | refine kf ?_ | refine k3 ?_ | refine k4 ?_ | refine kn ?_ | refine Same.rfl ?_ | refine k5 ?_ | refine k6 ?_ | refine k7 ?_ | refine k8 ?_ | refine k9 ?_ | refine ka ?_ | refine kb ?_ | refine kl ?_ | refine km ?_ | refine kc ?_ | refine kd ?_ | exact True.intro)
                  refine ⟨?_, trivial⟩
                  repeat ((conv => whnf); with_reducible first | refine CondG.split ?_ | refine k1 ?_ | refine ke fun _ => ?_ | refine k2 ?_ | refine kg ?_ | refine kf ?_ | refine k3 ?_ | refine k4 ?_ | refine kn ?_ | refine Same.rfl ?_ | refine k5 ?_ | refine k6 ?_ | refine k7 ?_ | refine k8 ?_ | refine k9 ?_ | refine ka ?_ | refine kb ?_ | refine kl ?_ | refine km ?_ | refine kc ?_ | refine kd ?_ | exact True.intro)
                  refine ⟨i + 1, ‹SV›, by omega, (by dsimp only; omega), ?_⟩
                  repeat ((conv => whnf); with_reducible first | refine k1 ?_ | refine ke fun _ => ?_ | refine k2 ?_ | refine kg ?_ | refine kf ?_ | refine k3 ?_ | refine k4 ?_ | refine kn ?_ | refine Same.rfl ?_ | refine k5 ?_ | refine k6 ?_ | refine k7 ?_ | refine k8 ?_ | refine k9 ?_ | refine ka ?_ | refine kb ?_ | refine kl ?_ | refine km ?_ | refine kc ?_ | refine kd ?_ | exact True.intro)
                  refine OwnM.same (by with_reducible rfl) (nums_words m j i hi2 p hP _ ?_) ?_
                  · simp only [Int.natCast_add, Int.natCast_mul]; rfl
                  repeat ((conv => whnf); with_reducible first | refine k1 ?_ | refine ke fun _ => ?_ | refine k2 ?_ | refine kg ?_ | refine kf ?_ | refine k3 ?_ | refine k4 ?_ | refine kn ?_ | refine Same.rfl ?_ | refine k5 ?_ | refine k6 ?_ | refine k7 ?_ | refine k8 ?_ | refine k9 ?_ | refine ka ?_ | refine kb ?_ | refine kl ?_ | refine km ?_ | refine kc ?_ | refine kd ?_ | exact True.intro)
                · have hi2 : i = 16 := by omega
                  subst hi2
                  repeat ((conv => whnf); with_reducible first | refine CondG.split ?_ | refine k1 ?_ | refine ke fun _ => ?_ | refine k2 ?_ | refine kg ?_ | refine kf ?_ | refine k3 ?_ | refine k4 ?_ | refine kn ?_ | refine Same.rfl ?_ | refine k5 ?_ | refine k6 ?_ | refine k7 ?_ | refine k8 ?_ | refine k9 ?_ | refine ka ?_ | refine kb ?_ | refine kl ?_ | refine km ?_ | refine kc ?_ | refine kd ?_ | exact True.intro)
                  refine LoopG.ren [(103, 150)] [4, 7, 8, 9, 10, 13] [59, 60, 103] ?_
                  refine ⟨rfl, ?_⟩
                  refine LoopG.two [4, 7, 8, 9] [59, 60] (fun (i : Nat) x => [(10, vl 150 x), (13, vi i)]) (fun i x => [(150, .own 3 (.sc (.int .i64)) x (nums (Sha.words (blk m j) i)))]) (fun i x => 16 ≤ i ∧ i ≤ 64) (fun i => 64 - i) 16 x ?_
                  refine ⟨⟨⟨by omega, by omega⟩, ?_⟩, fun i x hi => ?_⟩
                  · repeat ((conv => whnf); with_reducible first | refine CondG.split ?_ | refine k1 ?_ | refine ke fun _ => ?_ | refine k2 ?_ | refine kg ?_ | refine kf ?_ | refine k3 ?_ | refine k4 ?_ | refine kn ?_ | refine Same.rfl ?_ | refine k5 ?_ | refine k6 ?_ | refine k7 ?_ | refine k8 ?_ | refine k9 ?_ | refine ka ?_ | refine kb ?_ | refine kl ?_ | refine km ?_ | refine kc ?_ | refine kd ?_ | exact True.intro)
                  · (repeat ((conv => whnf); with_reducible first | refine CondG.split ?_ | refine k1 ?_ | refine ke fun _ => ?_ | refine k2 ?_ | refine kg ?_ | refine kf ?_ | refine k3 ?_ | refine k4 ?_ | refine kn ?_ | refine Same.rfl ?_ | refine k5 ?_ | refine k6 ?_ | refine k7 ?_ | refine k8 ?_ | refine k9 ?_ | refine ka ?_ | refine kb ?_ | refine kl ?_ | refine km ?_ | refine kc ?_ | refine kd ?_ | exact True.intro)); refine Br.by (fun g => ?_) (fun g => ?_)
                    · have hi2 : i < 64 := by omega
                      have hnl : (nums (Sha.words (blk m j) i)).length = i := by rw [nums_length, words_length]
                      repeat ((conv => whnf); with_reducible first | refine CondG.split ?_ | refine k1 ?_ | refine ke fun _ => ?_ | refine k2 ?_ | refine kg ?_ | refine kf ?_ | refine k3 ?_ | refine k4 ?_ | refine kn ?_ | refine Same.rfl ?_ | refine k5 ?_ | refine k6 ?_ | refine k7 ?_ | refine k8 ?_ | refine k9 ?_ | refine ka ?_ | refine kb ?_ | refine kl ?_ | refine km ?_ | refine kc ?_ | refine kd ?_ | exact True.intro)
                      obtain ⟨w, hw⟩ : ∃ w, w = Sha.words (blk m j) i := ⟨_, rfl⟩
                      have hwl : (nums w).length = i := by rw [hw]; exact hnl
                      obtain ⟨X, hX⟩ : ∃ X, X = w.getD (i - 15) 0 := ⟨_, rfl⟩
                      obtain ⟨Y, hY⟩ : ∃ Y, Y = w.getD (i - 2) 0 := ⟨_, rfl⟩
                      have e15 : ((i : Int) - 15).toNat = i - 15 := by omega
                      have e2 : ((i : Int) - 2).toNat = i - 2 := by omega
                      have e16 : ((i : Int) - 16).toNat = i - 16 := by omega
                      have e7 : ((i : Int) - 7).toNat = i - 7 := by omega
                      refine Draw.set [4, 7, 8, 9, 13] [59, 60] [(10, vl 150 x), (14, vi X.toNat), (15, vi Y.toNat)] [(150, .own 3 (.sc (.int .i64)) x (nums w))] ?_
                      refine ⟨?_, ?_⟩
                      · repeat ((conv => whnf); with_reducible first | refine CondG.split ?_ | refine k1 ?_ | refine ke fun _ => ?_ | refine k2 ?_ | refine kg ?_ | refine kf ?_ | refine k3 ?_ | refine k4 ?_ | refine kn ?_ | refine Same.rfl ?_ | refine k5 ?_ | refine k6 ?_ | refine k7 ?_ | refine k8 ?_ | refine k9 ?_ | refine ka ?_ | refine kb ?_ | refine kl ?_ | refine km ?_ | refine kc ?_ | refine kd ?_ | exact True.intro)
                        refine Chk.mk (by show (nums (Sha.words (blk m j) i)).getD ((i : Int) - 15).toNat 0 = _; rw [e15, nums_get, hX, hw]) ?_
                        repeat ((conv => whnf); with_reducible first | refine CondG.split ?_ | refine k1 ?_ | refine ke fun _ => ?_ | refine k2 ?_ | refine kg ?_ | refine kf ?_ | refine k3 ?_ | refine k4 ?_ | refine kn ?_ | refine Same.rfl ?_ | refine k5 ?_ | refine k6 ?_ | refine k7 ?_ | refine k8 ?_ | refine k9 ?_ | refine ka ?_ | refine kb ?_ | refine kl ?_ | refine km ?_ | refine kc ?_ | refine kd ?_ | exact True.intro)
                        refine Chk.mk (by show (nums (Sha.words (blk m j) i)).getD ((i : Int) - 2).toNat 0 = _; rw [e2, nums_get, hY, hw]) ?_
                        repeat ((conv => whnf); with_reducible first | refine CondG.split ?_ | refine k1 ?_ | refine ke fun _ => ?_ | refine k2 ?_ | refine kg ?_ | refine kf ?_ | refine k3 ?_ | refine k4 ?_ | refine kn ?_ | refine Same.rfl ?_ | refine k5 ?_ | refine k6 ?_ | refine k7 ?_ | refine k8 ?_ | refine k9 ?_ | refine ka ?_ | refine kb ?_ | refine kl ?_ | refine km ?_ | refine kc ?_ | refine kd ?_ | exact True.intro)
                        refine OwnM.same (by with_reducible rfl) (by rw [hw]) ?_
                        repeat ((conv => whnf); with_reducible first | refine CondG.split ?_ | refine k1 ?_ | refine ke fun _ => ?_ | refine k2 ?_ | refine kg ?_ | refine kf ?_ | refine k3 ?_ | refine k4 ?_ | refine kn ?_ | refine Same.rfl ?_ | refine k5 ?_ | refine k6 ?_ | refine k7 ?_ | refine k8 ?_ | refine k9 ?_ | refine ka ?_ | refine kb ?_ | refine kl ?_ | refine km ?_ | refine kc ?_ | refine kd ?_ | exact True.intro)
                      have q16 : (nums w).getD ((i : Int) - 16).toNat (Enc.sc (.int .i64)).dflt = ((w.getD (i - 16) 0).toNat : Int) := by rw [e16]; exact nums_get _ _
                      have q7 : (nums w).getD ((i : Int) - 7).toNat (Enc.sc (.int .i64)).dflt = ((w.getD (i - 7) 0).toNat : Int) := by rw [e7]; exact nums_get _ _
                      have b16 := (w.getD (i - 16) 0).isLt
                      have b7 := (w.getD (i - 7) 0).isLt
                      have x1 := ixor_nat (right X 7) (right X 18)
                      have x2 : ixor .i64 (ixor .i64 (right X 7).toNat (right X 18).toNat) (X >>> 3).toNat = ((right X 7 ^^^ right X 18 ^^^ X >>> 3).toNat : Int) := by rw [x1]; exact ixor_nat _ _
                      have y1 := ixor_nat (right Y 17) (right Y 19)
                      have y2 : ixor .i64 (ixor .i64 (right Y 17).toNat (right Y 19).toNat) (Y >>> 10).toNat = ((right Y 17 ^^^ right Y 19 ^^^ Y >>> 10).toNat : Int) := by rw [y1]; exact ixor_nat _ _
                      have bx := (right X 7 ^^^ right X 18 ^^^ X >>> 3).isLt
                      have by' := (right Y 17 ^^^ right Y 19 ^^^ Y >>> 10).isLt
                      refine Draw.heldT [150] 32 (.one 0 (.one 1 (.one 2 (.one 3 (.one 4 (.one 5 (.one 6 (.one 7 (.one 8 (.one 9 (.one 10 (.one 11 (.one 12 (.one 14 (.one 17 (.one 21 (.one 23 (.one 26 (.alt 13 (.alt 15 (.one 16 (.alt 18 (.one 19 (.one 20 (.alt 22 (.alt 24 (.one 25 (.alt 27 (.one 28 (.one 29 (.one 30 (.alt 31 .done .fin)))) .fin)) .fin) .fin))) .fin)) .fin) .fin))))))))))))))))))) (by kernel_rfl) (by kernel_rfl) ?_
                      repeat ((conv => whnf); with_reducible first | refine CondG.split ?_ | refine k1 ?_ | refine ke fun _ => ?_ | refine k2 ?_ | refine kg ?_ | refine kf ?_ | refine k3 ?_ | refine k4 ?_ | refine kn ?_ | refine Same.rfl ?_ | refine k5 ?_ | refine k6 ?_ | refine k7 ?_ | refine k8 ?_ | refine k9 ?_ | refine ka ?_ | refine kb ?_ | refine kl ?_ | refine km ?_ | refine kc ?_ | refine kd ?_ | exact True.intro)
                      refine ⟨?_, trivial⟩
                      repeat ((conv => whnf); with_reducible first | refine CondG.split ?_ | refine k1 ?_ | refine ke fun _ => ?_ | refine k2 ?_ | refine kg ?_ | refine kf ?_ | refine k3 ?_ | refine k4 ?_ | refine kn ?_ | refine Same.rfl ?_ | refine k5 ?_ | refine k6 ?_ | refine k7 ?_ | refine k8 ?_ | refine k9 ?_ | refine ka ?_ | refine kb ?_ | refine kl ?_ | refine km ?_ | refine kc ?_ | refine kd ?_ | exact True.intro)
                      refine CallG.one [] (turn_ok X 7 (by omega)) rfl rfl ?_
                      repeat ((conv => whnf); with_reducible first | refine CondG.split ?_ | refine k1 ?_ | refine ke fun _ => ?_ | refine k2 ?_ | refine kg ?_ | refine kf ?_ | refine k3 ?_ | refine k4 ?_ | refine kn ?_ | refine Same.rfl ?_ | refine k5 ?_ | refine k6 ?_ | refine k7 ?_ | refine k8 ?_ | refine k9 ?_ | refine ka ?_ | refine kb ?_ | refine kl ?_ | refine km ?_ | refine kc ?_ | refine kd ?_ | exact True.intro)
                      refine ⟨?_, trivial⟩
                      repeat ((conv => whnf); with_reducible first | refine CondG.split ?_ | refine k1 ?_ | refine ke fun _ => ?_ | refine k2 ?_ | refine kg ?_ | refine kf ?_ | refine k3 ?_ | refine k4 ?_ | refine kn ?_ | refine Same.rfl ?_ | refine k5 ?_ | refine k6 ?_ | refine k7 ?_ | refine k8 ?_ | refine k9 ?_ | refine ka ?_ | refine kb ?_ | refine kl ?_ | refine km ?_ | refine kc ?_ | refine kd ?_ | exact True.intro)
                      refine CallG.one [] (turn_ok X 18 (by omega)) rfl rfl ?_
                      repeat ((conv => whnf); with_reducible first | refine CondG.split ?_ | refine k1 ?_ | refine ke fun _ => ?_ | refine k2 ?_ | refine kg ?_ | refine kf ?_ | refine k3 ?_ | refine k4 ?_ | refine kn ?_ | refine Same.rfl ?_ | refine k5 ?_ | refine k6 ?_ | refine k7 ?_ | refine k8 ?_ | refine k9 ?_ | refine ka ?_ | refine kb ?_ | refine kl ?_ | refine km ?_ | refine kc ?_ | refine kd ?_ | exact True.intro)
                      refine ⟨?_, trivial⟩
                      repeat ((conv => whnf); with_reducible first | refine CondG.split ?_ | refine k1 ?_ | refine ke fun _ => ?_ | refine k2 ?_ | refine kg ?_ | refine kf ?_ | refine k3 ?_ | refine k4 ?_ | refine kn ?_ | refine Same.rfl ?_ | refine k5 ?_ | refine k6 ?_ | refine k7 ?_ | refine k8 ?_ | refine k9 ?_ | refine ka ?_ | refine kb ?_ | refine kl ?_ | refine km ?_ | refine kc ?_ | refine kd ?_ | exact True.intro)
                      refine CallG.one [] (shift_ok X 3 (by omega)) rfl rfl ?_
                      repeat ((conv => whnf); with_reducible first | refine CondG.split ?_ | refine k1 ?_ | refine ke fun _ => ?_ | refine k2 ?_ | refine kg ?_ | refine kf ?_ | refine k3 ?_ | refine k4 ?_ | refine kn ?_ | refine Same.rfl ?_ | refine k5 ?_ | refine k6 ?_ | refine k7 ?_ | refine k8 ?_ | refine k9 ?_ | refine ka ?_ | refine kb ?_ | refine kl ?_ | refine km ?_ | refine kc ?_ | refine kd ?_ | exact True.intro)
                      refine ⟨?_, trivial⟩
                      repeat ((conv => whnf); with_reducible first | refine CondG.split ?_ | refine k1 ?_ | refine ke fun _ => ?_ | refine k2 ?_ | refine kg ?_ | refine kf ?_ | refine k3 ?_ | refine k4 ?_ | refine kn ?_ | refine Same.rfl ?_ | refine k5 ?_ | refine k6 ?_ | refine k7 ?_ | refine k8 ?_ | refine k9 ?_ | refine ka ?_ | refine kb ?_ | refine kl ?_ | refine km ?_ | refine kc ?_ | refine kd ?_ | exact True.intro)
                      refine CallG.one [] (turn_ok Y 17 (by omega)) rfl rfl ?_
                      repeat ((conv => whnf); with_reducible first | refine CondG.split ?_ | refine k1 ?_ | refine ke fun _ => ?_ | refine k2 ?_ | refine kg ?_ | refine kf ?_ | refine k3 ?_ | refine k4 ?_ | refine kn ?_ | refine Same.rfl ?_ | refine k5 ?_ | refine k6 ?_ | refine k7 ?_ | refine k8 ?_ | refine k9 ?_ | refine ka ?_ | refine kb ?_ | refine kl ?_ | refine km ?_ | refine kc ?_ | refine kd ?_ | exact True.intro)
                      refine ⟨?_, trivial⟩
                      repeat ((conv => whnf); with_reducible first | refine CondG.split ?_ | refine k1 ?_ | refine ke fun _ => ?_ | refine k2 ?_ | refine kg ?_ | refine kf ?_ | refine k3 ?_ | refine k4 ?_ | refine kn ?_ | refine Same.rfl ?_ | refine k5 ?_ | refine k6 ?_ | refine k7 ?_ | refine k8 ?_ | refine k9 ?_ | refine ka ?_ | refine kb ?_ | refine kl ?_ | refine km ?_ | refine kc ?_ | refine kd ?_ | exact True.intro)
                      refine CallG.one [] (turn_ok Y 19 (by omega)) rfl rfl ?_
                      repeat ((conv => whnf); with_reducible first | refine CondG.split ?_ | refine k1 ?_ | refine ke fun _ => ?_ | refine k2 ?_ | refine kg ?_ | refine kf ?_ | refine k3 ?_ | refine k4 ?_ | refine kn ?_ | refine Same.rfl ?_ | refine k5 ?_ | refine k6 ?_ | refine k7 ?_ | refine k8 ?_ | refine k9 ?_ | refine ka ?_ | refine kb ?_ | refine kl ?_ | refine km ?_ | refine kc ?_ | refine kd ?_ | exact True.intro)
                      refine ⟨?_, trivial⟩
                      repeat ((conv => whnf); with_reducible first | refine CondG.split ?_ | refine k1 ?_ | refine ke fun _ => ?_ | refine k2 ?_ | refine kg ?_ | refine kf ?_ | refine k3 ?_ | refine k4 ?_ | refine kn ?_ | refine Same.rfl ?_ | refine k5 ?_ | refine k6 ?_ | refine k7 ?_ | refine k8 ?_ | refine k9 ?_ | refine ka ?_ | refine kb ?_ | refine kl ?_ | refine km ?_ | refine kc ?_ | refine kd ?_ | exact True.intro)
                      refine CallG.one [] (shift_ok Y 10 (by omega)) rfl rfl ?_
                      repeat ((conv => whnf); with_reducible first | refine CondG.split ?_ | refine k1 ?_ | refine ke fun _ => ?_ | refine k2 ?_ | refine kg ?_ | refine kf ?_ | refine k3 ?_ | refine k4 ?_ | refine kn ?_ | refine Same.rfl ?_ | refine k5 ?_ | refine k6 ?_ | refine k7 ?_ | refine k8 ?_ | refine k9 ?_ | refine ka ?_ | refine kb ?_ | refine kl ?_ | refine km ?_ | refine kc ?_ | refine kd ?_ | exact True.intro)
                      refine ⟨?_, trivial⟩
                      repeat ((conv => whnf); with_reducible first | refine CondG.split ?_ | refine k1 ?_ | refine ke fun _ => ?_ | refine k2 ?_ | refine kg ?_ | refine kf ?_ | refine k3 ?_ | refine k4 ?_ | refine kn ?_ | refine Same.rfl ?_ | refine k5 ?_ | refine k6 ?_ | refine k7 ?_ | refine k8 ?_ | refine k9 ?_ | refine ka ?_ | refine kb ?_ | refine kl ?_ | refine km ?_ | refine kc ?_ | refine kd ?_ | exact True.intro)
                      refine ⟨i + 1, ‹SV›, ⟨by omega, by omega⟩, (by dsimp only; omega), ?_⟩
                      repeat ((conv => whnf); with_reducible first | refine k1 ?_ | refine ke fun _ => ?_ | refine k2 ?_ | refine kg ?_ | refine kf ?_ | refine k3 ?_ | refine k4 ?_ | refine kn ?_ | refine Same.rfl ?_ | refine k5 ?_ | refine k6 ?_ | refine k7 ?_ | refine k8 ?_ | refine k9 ?_ | refine ka ?_ | refine kb ?_ | refine kl ?_ | refine km ?_ | refine kc ?_ | refine kd ?_ | exact True.intro)
                      refine OwnM.same (by with_reducible rfl) ?_ ?_
                      · rw [hw]
                        refine nums_next i (by omega) _ _ ?_
                        refine next_nat _ i ((Sha.words (blk m j) i).getD (i - 16) 0) ((Sha.words (blk m j) i).getD (i - 7) 0) (right X 7 ^^^ right X 18 ^^^ X >>> 3) (right Y 17 ^^^ right Y 19 ^^^ Y >>> 10) (by rw [hX, hY, hw]; rfl) _ ?_
                        rw [hw] at q16 q7
                        rw [q16, q7, x2, y2]
                      repeat ((conv => whnf); with_reducible first | refine k1 ?_ | refine ke fun _ => ?_ | refine k2 ?_ | refine kg ?_ | refine kf ?_ | refine k3 ?_ | refine k4 ?_ | refine kn ?_ | refine Same.rfl ?_ | refine k5 ?_ | refine k6 ?_ | refine k7 ?_ | refine k8 ?_ | refine k9 ?_ | refine ka ?_ | refine kb ?_ | refine kl ?_ | refine km ?_ | refine kc ?_ | refine kd ?_ | exact True.intro)
                    · obtain rfl : i = 64 := by omega
                      have hh8 : (nums (chain (padded m) j)).length = 8 := by rw [nums_length, chain_length]
                      have hw64 : (nums (Sha.words (blk m j) 64)).length = 64 := by rw [nums_length, words_length]
                      repeat ((conv => whnf); with_reducible first | refine CondG.split ?_ | refine k1 ?_ | refine ke fun _ => ?_ | refine k2 ?_ | refine kg ?_ | refine kf ?_ | refine k3 ?_ | refine k4 ?_ | refine kn ?_ | refine Same.rfl ?_ | refine k5 ?_ | refine k6 ?_ | refine k7 ?_ | refine k8 ?_ | refine k9 ?_ | refine ka ?_ | refine kb ?_ | refine kl ?_ | refine km ?_ | refine kc ?_ | refine kd ?_ | exact True.intro)
                      refine Draw.quiet (by kernel_rfl) (by kernel_rfl) ?_
                      repeat ((conv => whnf); with_reducible first | refine CondG.split ?_ | refine k1 ?_ | refine ke fun _ => ?_ | refine k2 ?_ | refine kg ?_ | refine kf ?_ | refine k3 ?_ | refine k4 ?_ | refine kn ?_ | refine Same.rfl ?_ | refine k5 ?_ | refine k6 ?_ | refine k7 ?_ | refine k8 ?_ | refine k9 ?_ | refine ka ?_ | refine kb ?_ | refine kl ?_ | refine km ?_ | refine kc ?_ | refine kd ?_ | exact True.intro)
                      refine LoopG.auto [4, 7, 8, 9, 10] [59, 60, 150] (fun i : Nat => [(16, vi ((vs8 m j i).getD 0 0).toNat), (17, vi ((vs8 m j i).getD 1 0).toNat), (18, vi ((vs8 m j i).getD 2 0).toNat), (19, vi ((vs8 m j i).getD 3 0).toNat), (20, vi ((vs8 m j i).getD 4 0).toNat), (21, vi ((vs8 m j i).getD 5 0).toNat), (22, vi ((vs8 m j i).getD 6 0).toNat), (23, vi ((vs8 m j i).getD 7 0).toNat), (24, vi i)]) (fun i => []) (fun i => i ≤ 64) (fun i => 64 - i) 0 ?_
                      refine ⟨⟨by omega, ?_⟩, fun i hi => ?_⟩
                      · repeat ((conv => whnf); with_reducible first | refine CondG.split ?_ | refine k1 ?_ | refine ke fun _ => ?_ | refine k2 ?_ | refine kg ?_ | refine kf ?_ | refine k3 ?_ | refine k4 ?_ | refine kn ?_ | refine Same.rfl ?_ | refine k5 ?_ | refine k6 ?_ | refine k7 ?_ | refine k8 ?_ | refine k9 ?_ | refine ka ?_ | refine kb ?_ | refine kl ?_ | refine km ?_ | refine kc ?_ | refine kd ?_ | exact True.intro)
                        repeat (refine Chk.mk (nums_get _ _) ?_; (repeat ((conv => whnf); with_reducible first | refine CondG.split ?_ | refine k1 ?_ | refine ke fun _ => ?_ | refine k2 ?_ | refine kg ?_ | refine kf ?_ | refine k3 ?_ | refine k4 ?_ | refine kn ?_ | refine Same.rfl ?_ | refine k5 ?_ | refine k6 ?_ | refine k7 ?_ | refine k8 ?_ | refine k9 ?_ | refine ka ?_ | refine kb ?_ | refine kl ?_ | refine km ?_ | refine kc ?_ | refine kd ?_ | exact True.intro)))
                      · (repeat ((conv => whnf); with_reducible first | refine CondG.split ?_ | refine k1 ?_ | refine ke fun _ => ?_ | refine k2 ?_ | refine kg ?_ | refine kf ?_ | refine k3 ?_ | refine k4 ?_ | refine kn ?_ | refine Same.rfl ?_ | refine k5 ?_ | refine k6 ?_ | refine k7 ?_ | refine k8 ?_ | refine k9 ?_ | refine ka ?_ | refine kb ?_ | refine kl ?_ | refine km ?_ | refine kc ?_ | refine kd ?_ | exact True.intro)); refine Br.by (fun g => ?_) (fun g => ?_)
                        · have hi2 : i < 64 := by omega
                          obtain ⟨v0, z0⟩ : ∃ v, v = (vs8 m j i).getD 0 0 := ⟨_, rfl⟩
                          have l0 := v0.isLt
                          obtain ⟨v1, z1⟩ : ∃ v, v = (vs8 m j i).getD 1 0 := ⟨_, rfl⟩
                          have l1 := v1.isLt
                          obtain ⟨v2, z2⟩ : ∃ v, v = (vs8 m j i).getD 2 0 := ⟨_, rfl⟩
                          have l2 := v2.isLt
                          obtain ⟨v3, z3⟩ : ∃ v, v = (vs8 m j i).getD 3 0 := ⟨_, rfl⟩
                          have l3 := v3.isLt
                          obtain ⟨v4, z4⟩ : ∃ v, v = (vs8 m j i).getD 4 0 := ⟨_, rfl⟩
                          have l4 := v4.isLt
                          obtain ⟨v5, z5⟩ : ∃ v, v = (vs8 m j i).getD 5 0 := ⟨_, rfl⟩
                          have l5 := v5.isLt
                          obtain ⟨v6, z6⟩ : ∃ v, v = (vs8 m j i).getD 6 0 := ⟨_, rfl⟩
                          have l6 := v6.isLt
                          obtain ⟨v7, z7⟩ : ∃ v, v = (vs8 m j i).getD 7 0 := ⟨_, rfl⟩
                          have l7 := v7.isLt
                          refine Draw.set [4, 7, 8, 9, 10, 24] [59, 60, 150] [(16, vi v0.toNat), (17, vi v1.toNat), (18, vi v2.toNat), (19, vi v3.toNat), (20, vi v4.toNat), (21, vi v5.toNat), (22, vi v6.toNat), (23, vi v7.toNat)] [] ?_
                          refine ⟨?_, ?_⟩
                          · repeat ((conv => whnf); with_reducible first | refine CondG.split ?_ | refine k1 ?_ | refine ke fun _ => ?_ | refine k2 ?_ | refine kg ?_ | refine kf ?_ | refine k3 ?_ | refine k4 ?_ | refine kn ?_ | refine Same.rfl ?_ | refine k5 ?_ | refine k6 ?_ | refine k7 ?_ | refine k8 ?_ | refine k9 ?_ | refine ka ?_ | refine kb ?_ | refine kl ?_ | refine km ?_ | refine kc ?_ | refine kd ?_ | exact True.intro)
                            repeat (refine Chk.mk (congrArg (fun v : BitVec 32 => (v.toNat : Int)) (by assumption)).symm ?_; (repeat ((conv => whnf); with_reducible first | refine CondG.split ?_ | refine k1 ?_ | refine ke fun _ => ?_ | refine k2 ?_ | refine kg ?_ | refine kf ?_ | refine k3 ?_ | refine k4 ?_ | refine kn ?_ | refine Same.rfl ?_ | refine k5 ?_ | refine k6 ?_ | refine k7 ?_ | refine k8 ?_ | refine k9 ?_ | refine ka ?_ | refine kb ?_ | refine kl ?_ | refine km ?_ | refine kc ?_ | refine kd ?_ | exact True.intro)))
                          have kq1 : (nums round64).getD i (Enc.sc (.int .i64)).dflt = ((round64.getD i 0).toNat : Int) := nums_get _ _
                          have kq2 := (round64.getD i 0).isLt
                          have hk64 : (nums round64).length = 64 := rfl
                          have w1 : (nums (Sha.words (blk m j) 64)).getD i (Enc.sc (.int .i64)).dflt = (((Sha.words (blk m j) 64).getD i 0).toNat : Int) := nums_get _ _
                          have w2 := ((Sha.words (blk m j) 64).getD i 0).isLt
                          have s1 := ixor_nat (right v4 6) (right v4 11)
                          have s2 : ixor .i64 (ixor .i64 (right v4 6).toNat (right v4 11).toNat) (right v4 25).toNat = ((right v4 6 ^^^ right v4 11 ^^^ right v4 25).toNat : Int) := by rw [s1]; exact ixor_nat _ _
                          have s3 := (right v4 6 ^^^ right v4 11 ^^^ right v4 25).isLt
                          have c1 := iand_nat v4 v5
                          have c2 : iand .i64 (4294967295 - (v4.toNat : Int)) v6.toNat = ((~~~v4 &&& v6).toNat : Int) := by rw [not_nat]; exact iand_nat _ _
                          have c3 : ixor .i64 (iand .i64 v4.toNat v5.toNat) (iand .i64 (4294967295 - (v4.toNat : Int)) v6.toNat) = ((v4 &&& v5 ^^^ ~~~v4 &&& v6).toNat : Int) := by rw [c1, c2]; exact ixor_nat _ _
                          have c4 := (v4 &&& v5 ^^^ ~~~v4 &&& v6).isLt
                          refine Draw.held [60, 150] (.one 0 (.one 1 (.one 3 (.one 6 (.one 10 (.one 11 (.one 12 (.one 13 (.one 14 (.one 15 (.one 16 (.one 17 (.one 19 (.one 20 (.one 21 (.one 22 (.one 24 (.one 25 (.one 26 (.one 27 (.alt 2 (.alt 4 (.one 5 (.alt 7 (.one 8 (.one 9 (.one 18 (.one 23 (.one 28 (.one 29 .done)))))) .fin)) .fin) .fin))))))))))))))))))))) (by kernel_rfl) (by kernel_rfl) ?_
                          repeat ((conv => whnf); with_reducible first | refine CondG.split ?_ | refine k1 ?_ | refine ke fun _ => ?_ | refine k2 ?_ | refine kg ?_ | refine kf ?_ | refine k3 ?_ | refine k4 ?_ | refine kn ?_ | refine Same.rfl ?_ | refine k5 ?_ | refine k6 ?_ | refine k7 ?_ | refine k8 ?_ | refine k9 ?_ | refine ka ?_ | refine kb ?_ | refine kl ?_ | refine km ?_ | refine kc ?_ | refine kd ?_ | exact True.intro)
                          refine ⟨?_, trivial⟩
                          repeat ((conv => whnf); with_reducible first | refine CondG.split ?_ | refine k1 ?_ | refine ke fun _ => ?_ | refine k2 ?_ | refine kg ?_ | refine kf ?_ | refine k3 ?_ | refine k4 ?_ | refine kn ?_ | refine Same.rfl ?_ | refine k5 ?_ | refine k6 ?_ | refine k7 ?_ | refine k8 ?_ | refine k9 ?_ | refine ka ?_ | refine kb ?_ | refine kl ?_ | refine km ?_ | refine kc ?_ | refine kd ?_ | exact True.intro)
                          refine CallG.one [] (turn_ok v4 6 (by omega)) rfl rfl ?_
                          repeat ((conv => whnf); with_reducible first | refine CondG.split ?_ | refine k1 ?_ | refine ke fun _ => ?_ | refine k2 ?_ | refine kg ?_ | refine kf ?_ | refine k3 ?_ | refine k4 ?_ | refine kn ?_ | refine Same.rfl ?_ | refine k5 ?_ | refine k6 ?_ | refine k7 ?_ | refine k8 ?_ | refine k9 ?_ | refine ka ?_ | refine kb ?_ | refine kl ?_ | refine km ?_ | refine kc ?_ | refine kd ?_ | exact True.intro)
                          refine ⟨?_, trivial⟩
                          repeat ((conv => whnf); with_reducible first | refine CondG.split ?_ | refine k1 ?_ | refine ke fun _ => ?_ | refine k2 ?_ | refine kg ?_ | refine kf ?_ | refine k3 ?_ | refine k4 ?_ | refine kn ?_ | refine Same.rfl ?_ | refine k5 ?_ | refine k6 ?_ | refine k7 ?_ | refine k8 ?_ | refine k9 ?_ | refine ka ?_ | refine kb ?_ | refine kl ?_ | refine km ?_ | refine kc ?_ | refine kd ?_ | exact True.intro)
                          refine CallG.one [] (turn_ok v4 11 (by omega)) rfl rfl ?_
                          repeat ((conv => whnf); with_reducible first | refine CondG.split ?_ | refine k1 ?_ | refine ke fun _ => ?_ | refine k2 ?_ | refine kg ?_ | refine kf ?_ | refine k3 ?_ | refine k4 ?_ | refine kn ?_ | refine Same.rfl ?_ | refine k5 ?_ | refine k6 ?_ | refine k7 ?_ | refine k8 ?_ | refine k9 ?_ | refine ka ?_ | refine kb ?_ | refine kl ?_ | refine km ?_ | refine kc ?_ | refine kd ?_ | exact True.intro)
                          refine ⟨?_, trivial⟩
                          repeat ((conv => whnf); with_reducible first | refine CondG.split ?_ | refine k1 ?_ | refine ke fun _ => ?_ | refine k2 ?_ | refine kg ?_ | refine kf ?_ | refine k3 ?_ | refine k4 ?_ | refine kn ?_ | refine Same.rfl ?_ | refine k5 ?_ | refine k6 ?_ | refine k7 ?_ | refine k8 ?_ | refine k9 ?_ | refine ka ?_ | refine kb ?_ | refine kl ?_ | refine km ?_ | refine kc ?_ | refine kd ?_ | exact True.intro)
                          refine CallG.one [] (turn_ok v4 25 (by omega)) rfl rfl ?_
                          repeat ((conv => whnf); with_reducible first | refine CondG.split ?_ | refine k1 ?_ | refine ke fun _ => ?_ | refine k2 ?_ | refine kg ?_ | refine kf ?_ | refine k3 ?_ | refine k4 ?_ | refine kn ?_ | refine Same.rfl ?_ | refine k5 ?_ | refine k6 ?_ | refine k7 ?_ | refine k8 ?_ | refine k9 ?_ | refine ka ?_ | refine kb ?_ | refine kl ?_ | refine km ?_ | refine kc ?_ | refine kd ?_ | exact True.intro)
                          have y1 := ixor_nat (right v0 2) (right v0 13)
                          have y2 : ixor .i64 (ixor .i64 (right v0 2).toNat (right v0 13).toNat) (right v0 22).toNat = ((right v0 2 ^^^ right v0 13 ^^^ right v0 22).toNat : Int) := by rw [y1]; exact ixor_nat _ _
                          have y3 := (right v0 2 ^^^ right v0 13 ^^^ right v0 22).isLt
                          have d1 : ixor .i64 (iand .i64 v0.toNat v1.toNat) (iand .i64 v0.toNat v2.toNat) = ((v0 &&& v1 ^^^ v0 &&& v2).toNat : Int) := by rw [iand_nat, iand_nat]; exact ixor_nat _ _
                          have d2 : ixor .i64 (ixor .i64 (iand .i64 v0.toNat v1.toNat) (iand .i64 v0.toNat v2.toNat)) (iand .i64 v1.toNat v2.toNat) = ((v0 &&& v1 ^^^ v0 &&& v2 ^^^ v1 &&& v2).toNat : Int) := by rw [d1, iand_nat]; exact ixor_nat _ _
                          have d3 := (v0 &&& v1 ^^^ v0 &&& v2 ^^^ v1 &&& v2).isLt
                          refine CallG.one [] (turn_ok v0 2 (by omega)) rfl rfl ?_
                          repeat ((conv => whnf); with_reducible first | refine CondG.split ?_ | refine k1 ?_ | refine ke fun _ => ?_ | refine k2 ?_ | refine kg ?_ | refine kf ?_ | refine k3 ?_ | refine k4 ?_ | refine kn ?_ | refine Same.rfl ?_ | refine k5 ?_ | refine k6 ?_ | refine k7 ?_ | refine k8 ?_ | refine k9 ?_ | refine ka ?_ | refine kb ?_ | refine kl ?_ | refine km ?_ | refine kc ?_ | refine kd ?_ | exact True.intro)
                          refine CallG.one [] (turn_ok v0 13 (by omega)) rfl rfl ?_
                          repeat ((conv => whnf); with_reducible first | refine CondG.split ?_ | refine k1 ?_ | refine ke fun _ => ?_ | refine k2 ?_ | refine kg ?_ | refine kf ?_ | refine k3 ?_ | refine k4 ?_ | refine kn ?_ | refine Same.rfl ?_ | refine k5 ?_ | refine k6 ?_ | refine k7 ?_ | refine k8 ?_ | refine k9 ?_ | refine ka ?_ | refine kb ?_ | refine kl ?_ | refine km ?_ | refine kc ?_ | refine kd ?_ | exact True.intro)
                          refine CallG.one [] (turn_ok v0 22 (by omega)) rfl rfl ?_
                          repeat ((conv => whnf); with_reducible first | refine CondG.split ?_ | refine k1 ?_ | refine ke fun _ => ?_ | refine k2 ?_ | refine kg ?_ | refine kf ?_ | refine k3 ?_ | refine k4 ?_ | refine kn ?_ | refine Same.rfl ?_ | refine k5 ?_ | refine k6 ?_ | refine k7 ?_ | refine k8 ?_ | refine k9 ?_ | refine ka ?_ | refine kb ?_ | refine kl ?_ | refine km ?_ | refine kc ?_ | refine kd ?_ | exact True.intro)
                          refine ⟨i + 1, by omega, (by dsimp only; omega), ?_⟩
                          repeat ((conv => whnf); with_reducible first | refine k1 ?_ | refine ke fun _ => ?_ | refine k2 ?_ | refine kg ?_ | refine kf ?_ | refine k3 ?_ | refine k4 ?_ | refine kn ?_ | refine Same.rfl ?_ | refine k5 ?_ | refine k6 ?_ | refine k7 ?_ | refine k8 ?_ | refine k9 ?_ | refine ka ?_ | refine kb ?_ | refine kl ?_ | refine km ?_ | refine kc ?_ | refine kd ?_ | exact True.intro)
                          have hst : vs8 m j (i + 1) = stir (vs8 m j i) (round64.getD i 0) ((Sha.words (blk m j) 64).getD i 0) := rfl
                          refine Chk.mk ?_ ?_
                          · rw [s2, c3, kq1, w1, y2, d2, hst]
                            exact stir_0 _ _ _ v0 v1 v2 v4 v5 v6 v7 z0 z1 z2 z4 z5 z6 z7
                          repeat ((conv => whnf); with_reducible first | refine k1 ?_ | refine ke fun _ => ?_ | refine k2 ?_ | refine kg ?_ | refine kf ?_ | refine k3 ?_ | refine k4 ?_ | refine kn ?_ | refine Same.rfl ?_ | refine k5 ?_ | refine k6 ?_ | refine k7 ?_ | refine k8 ?_ | refine k9 ?_ | refine ka ?_ | refine kb ?_ | refine kl ?_ | refine km ?_ | refine kc ?_ | refine kd ?_ | exact True.intro)
                          refine Chk.mk (by rw [hst, z0]; rfl) ?_
                          repeat ((conv => whnf); with_reducible first | refine k1 ?_ | refine ke fun _ => ?_ | refine k2 ?_ | refine kg ?_ | refine kf ?_ | refine k3 ?_ | refine k4 ?_ | refine kn ?_ | refine Same.rfl ?_ | refine k5 ?_ | refine k6 ?_ | refine k7 ?_ | refine k8 ?_ | refine k9 ?_ | refine ka ?_ | refine kb ?_ | refine kl ?_ | refine km ?_ | refine kc ?_ | refine kd ?_ | exact True.intro)
                          refine Chk.mk (by rw [hst, z1]; rfl) ?_
                          repeat ((conv => whnf); with_reducible first | refine k1 ?_ | refine ke fun _ => ?_ | refine k2 ?_ | refine kg ?_ | refine kf ?_ | refine k3 ?_ | refine k4 ?_ | refine kn ?_ | refine Same.rfl ?_ | refine k5 ?_ | refine k6 ?_ | refine k7 ?_ | refine k8 ?_ | refine k9 ?_ | refine ka ?_ | refine kb ?_ | refine kl ?_ | refine km ?_ | refine kc ?_ | refine kd ?_ | exact True.intro)
                          refine Chk.mk (by rw [hst, z2]; rfl) ?_
                          repeat ((conv => whnf); with_reducible first | refine k1 ?_ | refine ke fun _ => ?_ | refine k2 ?_ | refine kg ?_ | refine kf ?_ | refine k3 ?_ | refine k4 ?_ | refine kn ?_ | refine Same.rfl ?_ | refine k5 ?_ | refine k6 ?_ | refine k7 ?_ | refine k8 ?_ | refine k9 ?_ | refine ka ?_ | refine kb ?_ | refine kl ?_ | refine km ?_ | refine kc ?_ | refine kd ?_ | exact True.intro)
                          refine Chk.mk ?_ ?_
                          · rw [s2, c3, kq1, w1, hst]
                            exact stir_4 _ _ _ v3 v4 v5 v6 v7 z3 z4 z5 z6 z7
                          repeat ((conv => whnf); with_reducible first | refine k1 ?_ | refine ke fun _ => ?_ | refine k2 ?_ | refine kg ?_ | refine kf ?_ | refine k3 ?_ | refine k4 ?_ | refine kn ?_ | refine Same.rfl ?_ | refine k5 ?_ | refine k6 ?_ | refine k7 ?_ | refine k8 ?_ | refine k9 ?_ | refine ka ?_ | refine kb ?_ | refine kl ?_ | refine km ?_ | refine kc ?_ | refine kd ?_ | exact True.intro)
                          refine Chk.mk (by rw [hst, z4]; rfl) ?_
                          repeat ((conv => whnf); with_reducible first | refine k1 ?_ | refine ke fun _ => ?_ | refine k2 ?_ | refine kg ?_ | refine kf ?_ | refine k3 ?_ | refine k4 ?_ | refine kn ?_ | refine Same.rfl ?_ | refine k5 ?_ | refine k6 ?_ | refine k7 ?_ | refine k8 ?_ | refine k9 ?_ | refine ka ?_ | refine kb ?_ | refine kl ?_ | refine km ?_ | refine kc ?_ | refine kd ?_ | exact True.intro)
                          refine Chk.mk (by rw [hst, z5]; rfl) ?_
                          repeat ((conv => whnf); with_reducible first | refine k1 ?_ | refine ke fun _ => ?_ | refine k2 ?_ | refine kg ?_ | refine kf ?_ | refine k3 ?_ | refine k4 ?_ | refine kn ?_ | refine Same.rfl ?_ | refine k5 ?_ | refine k6 ?_ | refine k7 ?_ | refine k8 ?_ | refine k9 ?_ | refine ka ?_ | refine kb ?_ | refine kl ?_ | refine km ?_ | refine kc ?_ | refine kd ?_ | exact True.intro)
                          refine Chk.mk (by rw [hst, z6]; rfl) ?_
                          repeat ((conv => whnf); with_reducible first | refine k1 ?_ | refine ke fun _ => ?_ | refine k2 ?_ | refine kg ?_ | refine kf ?_ | refine k3 ?_ | refine k4 ?_ | refine kn ?_ | refine Same.rfl ?_ | refine k5 ?_ | refine k6 ?_ | refine k7 ?_ | refine k8 ?_ | refine k9 ?_ | refine ka ?_ | refine kb ?_ | refine kl ?_ | refine km ?_ | refine kc ?_ | refine kd ?_ | exact True.intro)
                        · obtain rfl : i = 64 := by omega
                          have hv8 : (vs8 m j 64).length = 8 := stirs_length _ _ _ (chain_length _ _)
                          have hsl : ∀ i, i ≤ 8 → (nums (sums (chain (padded m) j) (vs8 m j 64) i)).length = 8 := fun i hi => by
                            rw [nums_length]; unfold sums; rw [List.length_append, List.length_zipWith, List.length_take, List.length_take, List.length_drop, chain_length, hv8]; omega
                          repeat ((conv => whnf); with_reducible first | refine CondG.split ?_ | refine k1 ?_ | refine ke fun _ => ?_ | refine k2 ?_ | refine kg ?_ | refine kf ?_ | refine k3 ?_ | refine k4 ?_ | refine kn ?_ | refine Same.rfl ?_ | refine k5 ?_ | refine k6 ?_ | refine k7 ?_ | refine k8 ?_ | refine k9 ?_ | refine ka ?_ | refine kb ?_ | refine kl ?_ | refine km ?_ | refine kc ?_ | refine kd ?_ | exact True.intro)
                          rename_i kv
                          refine LoopG.auto [4, 7, 8, 9, 250, 251] [60] (fun i : Nat => [(252, vi i)]) (fun i => [(59, .own 3 (.sc (.int .i64)) (.at kh 0 8 8) (nums (sums (chain (padded m) j) (vs8 m j 64) i))), (250, .own 3 (.sc (.int .i64)) (.at kv 0 8 8) (nums (vs8 m j 64)))]) (fun i => i ≤ 8) (fun i => 8 - i) 0 ?_
                          refine ⟨⟨by omega, ?_⟩, fun i hi => ?_⟩
                          · repeat ((conv => whnf); with_reducible first | refine CondG.split ?_ | refine k1 ?_ | refine ke fun _ => ?_ | refine k2 ?_ | refine kg ?_ | refine kf ?_ | refine k3 ?_ | refine k4 ?_ | refine kn ?_ | refine Same.rfl ?_ | refine k5 ?_ | refine k6 ?_ | refine k7 ?_ | refine k8 ?_ | refine k9 ?_ | refine ka ?_ | refine kb ?_ | refine kl ?_ | refine km ?_ | refine kc ?_ | refine kd ?_ | exact True.intro)
                            refine OwnM.same (by with_reducible rfl) (congrArg nums rfl) ?_
                            repeat ((conv => whnf); with_reducible first | refine CondG.split ?_ | refine k1 ?_ | refine ke fun _ => ?_ | refine k2 ?_ | refine kg ?_ | refine kf ?_ | refine k3 ?_ | refine k4 ?_ | refine kn ?_ | refine Same.rfl ?_ | refine k5 ?_ | refine k6 ?_ | refine k7 ?_ | refine k8 ?_ | refine k9 ?_ | refine ka ?_ | refine kb ?_ | refine kl ?_ | refine km ?_ | refine kc ?_ | refine kd ?_ | exact True.intro)
                            refine OwnM.same (by with_reducible rfl) (eight _ hv8) ?_
                            repeat ((conv => whnf); with_reducible first | refine CondG.split ?_ | refine k1 ?_ | refine ke fun _ => ?_ | refine k2 ?_ | refine kg ?_ | refine kf ?_ | refine k3 ?_ | refine k4 ?_ | refine kn ?_ | refine Same.rfl ?_ | refine k5 ?_ | refine k6 ?_ | refine k7 ?_ | refine k8 ?_ | refine k9 ?_ | refine ka ?_ | refine kb ?_ | refine kl ?_ | refine km ?_ | refine kc ?_ | refine kd ?_ | exact True.intro)
                          · have hsi := hsl i hi
                            have hv8' : (nums (vs8 m j 64)).length = 8 := by rw [nums_length, hv8]
                            (repeat ((conv => whnf); with_reducible first | refine CondG.split ?_ | refine k1 ?_ | refine ke fun _ => ?_ | refine k2 ?_ | refine kg ?_ | refine kf ?_ | refine k3 ?_ | refine k4 ?_ | refine kn ?_ | refine Same.rfl ?_ | refine k5 ?_ | refine k6 ?_ | refine k7 ?_ | refine k8 ?_ | refine k9 ?_ | refine ka ?_ | refine kb ?_ | refine kl ?_ | refine km ?_ | refine kc ?_ | refine kd ?_ | exact True.intro)); refine Br.by (fun g => ?_) (fun g => ?_)
                            · replace g : (i : Int) < 8 := g
                              have hi2 : i < 8 := by omega
                              have q1 : (nums (sums (chain (padded m) j) (vs8 m j 64) i)).getD i (Enc.sc (.int .i64)).dflt = (((sums (chain (padded m) j) (vs8 m j 64) i).getD i 0).toNat : Int) := nums_get _ _
                              have q2 : (nums (vs8 m j 64)).getD i (Enc.sc (.int .i64)).dflt = (((vs8 m j 64).getD i 0).toNat : Int) := nums_get _ _
                              have q3 := ((sums (chain (padded m) j) (vs8 m j 64) i).getD i 0).isLt
                              have q4 := ((vs8 m j 64).getD i 0).isLt
                              repeat ((conv => whnf); with_reducible first | refine CondG.split ?_ | refine k1 ?_ | refine ke fun _ => ?_ | refine k2 ?_ | refine kg ?_ | refine kf ?_ | refine k3 ?_ | refine k4 ?_ | refine kn ?_ | refine Same.rfl ?_ | refine k5 ?_ | refine k6 ?_ | refine k7 ?_ | refine k8 ?_ | refine k9 ?_ | refine ka ?_ | refine kb ?_ | refine kl ?_ | refine km ?_ | refine kc ?_ | refine kd ?_ | exact True.intro)
                              refine ⟨i + 1, by omega, (by dsimp only; omega), ?_⟩
                              repeat ((conv => whnf); with_reducible first | refine k1 ?_ | refine ke fun _ => ?_ | refine k2 ?_ | refine kg ?_ | refine kf ?_ | refine k3 ?_ | refine k4 ?_ | refine kn ?_ | refine Same.rfl ?_ | refine k5 ?_ | refine k6 ?_ | refine k7 ?_ | refine k8 ?_ | refine k9 ?_ | refine ka ?_ | refine kb ?_ | refine kl ?_ | refine km ?_ | refine kc ?_ | refine kd ?_ | exact True.intro)
                              refine OwnM.same (by with_reducible rfl) (nums_sums _ _ (chain_length _ _) hv8 i hi2) ?_
                              repeat ((conv => whnf); with_reducible first | refine k1 ?_ | refine ke fun _ => ?_ | refine k2 ?_ | refine kg ?_ | refine kf ?_ | refine k3 ?_ | refine k4 ?_ | refine kn ?_ | refine Same.rfl ?_ | refine k5 ?_ | refine k6 ?_ | refine k7 ?_ | refine k8 ?_ | refine k9 ?_ | refine ka ?_ | refine kb ?_ | refine kl ?_ | refine km ?_ | refine kc ?_ | refine kd ?_ | exact True.intro)
                            · replace g : ¬ (i : Int) < 8 := g
                              obtain rfl : i = 8 := by omega
                              have he : sums (chain (padded m) j) (vs8 m j 64) 8 = chain (padded m) (j + 1) := by
                                show List.zipWith (· + ·) ((chain (padded m) j).take 8) ((vs8 m j 64).take 8) ++ (chain (padded m) j).drop 8 = _
                                rw [List.take_of_length_le (by rw [chain_length]; omega), List.take_of_length_le (by omega), List.drop_of_length_le (by rw [chain_length]; omega), List.append_nil]
                                rfl
                              repeat ((conv => whnf); with_reducible first | refine CondG.split ?_ | refine k1 ?_ | refine ke fun _ => ?_ | refine k2 ?_ | refine kg ?_ | refine kf ?_ | refine k3 ?_ | refine k4 ?_ | refine kn ?_ | refine Same.rfl ?_ | refine k5 ?_ | refine k6 ?_ | refine k7 ?_ | refine k8 ?_ | refine k9 ?_ | refine ka ?_ | refine kb ?_ | refine kl ?_ | refine km ?_ | refine kc ?_ | refine kd ?_ | exact True.intro)
                              refine ⟨j + 1, by omega, (by dsimp only; omega), ?_⟩
                              repeat ((conv => whnf); with_reducible first | refine k1 ?_ | refine ke fun _ => ?_ | refine k2 ?_ | refine kg ?_ | refine kf ?_ | refine k3 ?_ | refine k4 ?_ | refine kn ?_ | refine Same.rfl ?_ | refine k5 ?_ | refine k6 ?_ | refine k7 ?_ | refine k8 ?_ | refine k9 ?_ | refine ka ?_ | refine kb ?_ | refine kl ?_ | refine km ?_ | refine kc ?_ | refine kd ?_ | exact True.intro)
                              refine OwnM.same (by with_reducible rfl) (congrArg nums he) ?_
                              repeat ((conv => whnf); with_reducible first | refine k1 ?_ | refine ke fun _ => ?_ | refine k2 ?_ | refine kg ?_ | refine kf ?_ | refine k3 ?_ | refine k4 ?_ | refine kn ?_ | refine Same.rfl ?_ | refine k5 ?_ | refine k6 ?_ | refine k7 ?_ | refine k8 ?_ | refine k9 ?_ | refine ka ?_ | refine kb ?_ | refine kl ?_ | refine km ?_ | refine kc ?_ | refine kd ?_ | exact True.intro)
            · have hj2 : j = (padded m).length / 64 := by omega
              subst hj2
              have hc8 := chain_length (padded m) ((padded m).length / 64)
              have hn8 : (nums (chain (padded m) ((padded m).length / 64))).length = 8 := by rw [nums_length, hc8]
              repeat ((conv => whnf); with_reducible first | refine CondG.split ?_ | refine k1 ?_ | refine ke fun _ => ?_ | refine k2 ?_ | refine kg ?_ | refine kf ?_ | refine k3 ?_ | refine k4 ?_ | refine kn ?_ | refine Same.rfl ?_ | refine k5 ?_ | refine k6 ?_ | refine k7 ?_ | refine k8 ?_ | refine k9 ?_ | refine ka ?_ | refine kb ?_ | refine kl ?_ | refine km ?_ | refine kc ?_ | refine kd ?_ | exact True.intro)
              rename_i ko
              refine LoopG.ren [(268, 291)] [7, 29, 269, 270, 271] [59, 268] ?_
              refine ⟨rfl, ?_⟩
              refine LoopG.two [7, 269, 270] [59] (fun (i : Nat) x => [(29, vl 291 x), (271, vi i)]) (fun i x => [(291, .own 5 (.sc .u8) x (ser ((chain (padded m) ((padded m).length / 64)).take i)))]) (fun i x => i ≤ 8) (fun i => 8 - i) 0 (.at ko 0 0 0) ?_
              refine ⟨⟨by omega, ?_⟩, fun i x hi => ?_⟩
              · repeat ((conv => whnf); with_reducible first | refine CondG.split ?_ | refine k1 ?_ | refine ke fun _ => ?_ | refine k2 ?_ | refine kg ?_ | refine kf ?_ | refine k3 ?_ | refine k4 ?_ | refine kn ?_ | refine Same.rfl ?_ | refine k5 ?_ | refine k6 ?_ | refine k7 ?_ | refine k8 ?_ | refine k9 ?_ | refine ka ?_ | refine kb ?_ | refine kl ?_ | refine km ?_ | refine kc ?_ | refine kd ?_ | exact True.intro)
                refine OwnM.same (by with_reducible rfl) rfl ?_
                repeat ((conv => whnf); with_reducible first | refine CondG.split ?_ | refine k1 ?_ | refine ke fun _ => ?_ | refine k2 ?_ | refine kg ?_ | refine kf ?_ | refine k3 ?_ | refine k4 ?_ | refine kn ?_ | refine Same.rfl ?_ | refine k5 ?_ | refine k6 ?_ | refine k7 ?_ | refine k8 ?_ | refine k9 ?_ | refine ka ?_ | refine kb ?_ | refine kl ?_ | refine km ?_ | refine kc ?_ | refine kd ?_ | exact True.intro)
              · have hsr : (ser ((chain (padded m) ((padded m).length / 64)).take i)).length = 4 * i := by rw [ser_length, List.length_take, hc8]; omega
                (repeat ((conv => whnf); with_reducible first | refine CondG.split ?_ | refine k1 ?_ | refine ke fun _ => ?_ | refine k2 ?_ | refine kg ?_ | refine kf ?_ | refine k3 ?_ | refine k4 ?_ | refine kn ?_ | refine Same.rfl ?_ | refine k5 ?_ | refine k6 ?_ | refine k7 ?_ | refine k8 ?_ | refine k9 ?_ | refine ka ?_ | refine kb ?_ | refine kl ?_ | refine km ?_ | refine kc ?_ | refine kd ?_ | exact True.intro)); refine Br.by (fun g => ?_) (fun g => ?_)
                · have hi2 : i < 8 := by omega
                  have q1 : (nums (chain (padded m) ((padded m).length / 64))).getD i (Enc.sc (.int .i64)).dflt = (((chain (padded m) ((padded m).length / 64)).getD i 0).toNat : Int) := nums_get _ _
                  have q2 := ((chain (padded m) ((padded m).length / 64)).getD i 0).isLt
                  have q3 : Int.tdiv ((nums (chain (padded m) ((padded m).length / 64))).getD i (Enc.sc (.int .i64)).dflt) 16777216 = ((((chain (padded m) ((padded m).length / 64)).getD i 0).toNat / 16777216 : Nat) : Int) := by rw [q1]; rfl
                  have q4 : Int.tdiv ((nums (chain (padded m) ((padded m).length / 64))).getD i (Enc.sc (.int .i64)).dflt) 65536 = ((((chain (padded m) ((padded m).length / 64)).getD i 0).toNat / 65536 : Nat) : Int) := by rw [q1]; rfl
                  have q5 : Int.tdiv ((nums (chain (padded m) ((padded m).length / 64))).getD i (Enc.sc (.int .i64)).dflt) 256 = ((((chain (padded m) ((padded m).length / 64)).getD i 0).toNat / 256 : Nat) : Int) := by rw [q1]; rfl
                  repeat ((conv => whnf); with_reducible first | refine CondG.split ?_ | refine k1 ?_ | refine ke fun _ => ?_ | refine k2 ?_ | refine kg ?_ | refine kf ?_ | refine k3 ?_ | refine k4 ?_ | refine kn ?_ | refine Same.rfl ?_ | refine k5 ?_ | refine k6 ?_ | refine k7 ?_ | refine k8 ?_ | refine k9 ?_ | refine ka ?_ | refine kb ?_ | refine kl ?_ | refine km ?_ | refine kc ?_ | refine kd ?_ | exact True.intro)
                  refine ⟨i + 1, ‹SV›, by omega, (by dsimp only; omega), ?_⟩
                  repeat ((conv => whnf); with_reducible first | refine k1 ?_ | refine ke fun _ => ?_ | refine k2 ?_ | refine kg ?_ | refine kf ?_ | refine k3 ?_ | refine k4 ?_ | refine kn ?_ | refine Same.rfl ?_ | refine k5 ?_ | refine k6 ?_ | refine k7 ?_ | refine k8 ?_ | refine k9 ?_ | refine ka ?_ | refine kb ?_ | refine kl ?_ | refine km ?_ | refine kc ?_ | refine kd ?_ | exact True.intro)
                  refine OwnM.same (by with_reducible rfl) (ser_step _ i (by rw [hc8]; exact hi2) _ q1) ?_
                  repeat ((conv => whnf); with_reducible first | refine k1 ?_ | refine ke fun _ => ?_ | refine k2 ?_ | refine kg ?_ | refine kf ?_ | refine k3 ?_ | refine k4 ?_ | refine kn ?_ | refine Same.rfl ?_ | refine k5 ?_ | refine k6 ?_ | refine k7 ?_ | refine k8 ?_ | refine k9 ?_ | refine ka ?_ | refine kb ?_ | refine kl ?_ | refine km ?_ | refine kc ?_ | refine kd ?_ | exact True.intro)
                · obtain rfl : i = 8 := by omega
                  repeat ((conv => whnf); with_reducible first | refine CondG.split ?_ | refine k1 ?_ | refine ke fun _ => ?_ | refine k2 ?_ | refine kg ?_ | refine kf ?_ | refine k3 ?_ | refine k4 ?_ | refine kn ?_ | refine Same.rfl ?_ | refine k5 ?_ | refine k6 ?_ | refine k7 ?_ | refine k8 ?_ | refine k9 ?_ | refine ka ?_ | refine kb ?_ | refine kl ?_ | refine km ?_ | refine kc ?_ | refine kd ?_ | exact True.intro)
                  refine Fin.pure ?_
                  repeat ((conv => whnf); with_reducible first | refine CondG.split ?_ | refine k1 ?_ | refine ke fun _ => ?_ | refine k2 ?_ | refine kg ?_ | refine kf ?_ | refine k3 ?_ | refine k4 ?_ | refine kn ?_ | refine Same.rfl ?_ | refine k5 ?_ | refine k6 ?_ | refine k7 ?_ | refine k8 ?_ | refine k9 ?_ | refine ka ?_ | refine kb ?_ | refine kl ?_ | refine km ?_ | refine kc ?_ | refine kd ?_ | exact True.intro)
                  refine Chk.mk (by show ser _ = Sha.sum m; rw [List.take_of_length_le (by rw [hc8]; omega)]; rfl) ?_
                  repeat ((conv => whnf); with_reducible first | refine CondG.split ?_ | refine k1 ?_ | refine ke fun _ => ?_ | refine k2 ?_ | refine kg ?_ | refine kf ?_ | refine k3 ?_ | refine k4 ?_ | refine kn ?_ | refine Same.rfl ?_ | refine k5 ?_ | refine k6 ?_ | refine k7 ?_ | refine k8 ?_ | refine k9 ?_ | refine ka ?_ | refine kb ?_ | refine kl ?_ | refine km ?_ | refine kc ?_ | refine kd ?_ | exact True.intro)
end Go.Proofs.YtpmnfciojbmgdaaDoor
