/- The laws of the disk: what a crash leaves. -/
import Derived.Test.YtchbadngbddmnaaP8
set_option linter.unusedVariables false
set_option linter.unusedSimpArgs false
set_option maxRecDepth 10000
set_option maxHeartbeats 8000000
namespace Go.Proofs.Ytchbadngbddmnaa
open Go Go.SY
seal sx sxOps

theorem crash_loop (ya yb : SV) (F S : List ActT) (w0 : World) (b cb zb : Nat) (pg vw2 : SV) (W : List Str) (V0 : List OpT) (s0 : Nat) (m : BitVec 64)
    (hS : S.length ≤ 9223372036854775807) (hs16 : s0 < 16) (hWl : W.length = 6) (hdc : DK 200 20 (crD s0 m W V0 (crM S 0))) :
    LoopG (ctxOf R Try.f3.ntmps [(500, ya.blk, .view (.st actS) ya F), (501, yb.blk, .view (.st actS) yb S)] w0) (inLoop (partOf 12 (bodyOf Try.f3)))
      [(4, vl 501 yb), (5, vi s0), (6, v64 m), (7, vp 800 b), (8, vl 33 (.at zb 0 6 6)), (12, vi 0), (13, vi 0)]
      ((501, yb.blk, .view (.st actS) yb S) :: (33, zb, .own 9 (.sc .str) (.at zb 0 6 6) W) :: dA8 b pg cb vw2 200 ⟨W, [], (s0 : Int), m, false, [], V0, V0.length⟩)
      (BlkK 4 (SeqK (ctxOf R Try.f3.ntmps [(500, ya.blk, .view (.st actS) ya F), (501, yb.blk, .view (.st actS) yb S)] w0) (rest 13 (bodyOf Try.f3))
        (endQ R.P Try.f3.results.toList (fun _ : Unit => True) (fun _ => vb true) (fun _ => [])))) := by
  have hz0 : crD s0 m W V0 (crM S 0) = ⟨W, [], (s0 : Int), m, false, [], V0, V0.length⟩ := cr_zero s0 m W V0
  conv => arg 2; whnf
  refine LoopG.exits 4 (fun t : Nat × Nat × SV => ([(4, vl 501 yb), (5, vi s0), (6, v64 m), (7, vp 800 b), (8, vl 33 (.at zb 0 6 6)), (12, vi t.2.1)], (501, yb.blk, .view (.st actS) yb S) :: (33, zb, .own 9 (.sc .str) (.at zb 0 6 6) W) :: dA8 b pg cb t.2.2 200 (crD s0 m W V0 (crM S t.1))))
    (fun t => t.1 = min S.length 15 ∧ t.2.1 = min t.1 s0) (fun t => True) (fun t w hw => trivial) ?_ ?_
  · refine LoopG.of (fun t : Nat × Nat × SV => ([(4, vl 501 yb), (5, vi s0), (6, v64 m), (7, vp 800 b), (8, vl 33 (.at zb 0 6 6)), (12, vi t.2.1), (13, vi t.1)], (501, yb.blk, .view (.st actS) yb S) :: (33, zb, .own 9 (.sc .str) (.at zb 0 6 6) W) :: dA8 b pg cb t.2.2 200 (crD s0 m W V0 (crM S t.1))))
      (fun t => (t.1 ≤ 15 ∧ t.1 ≤ S.length ∧ t.2.1 = min t.1 s0) ∧ DK 200 (20 + t.1) (crD s0 m W V0 (crM S t.1))) (fun t => S.length - t.1) (0, 0, vw2) ?_ ?_
    · refine ⟨⟨⟨by omega, by omega, by simp⟩, hdc⟩, ?_⟩
      dsimp only
      rw [hz0]
      ((repeat ((conv=>whnf);with_reducible first|refine Ja ?_|refine Jb ?_|refine Jc ?_|refine Jd ?_|refine Je ?_|refine Jf ?_|refine Jg ?_|refine Jh ?_|refine Ji ?_|refine Jj ?_|refine Jk ?_|refine Jl ?_|refine Jm ?_|refine Jn ?_|refine Jo ?_|refine Jp ?_|refine Jq ?_|refine Jr ?_|refine Js ?_|refine Jt ?_|refine k1 ?_|refine ke fun _ => ?_|refine k2 ?_|refine kg ?_|refine kf ?_|refine k3 ?_|refine k4 ?_|refine kn ?_|refine Ju ?_|refine k5 ?_|refine k6 ?_|refine k7 ?_|refine k8 ?_|refine k9 ?_|refine ka ?_|refine kb ?_|refine kl ?_|refine km ?_|refine kc ?_|refine kd ?_|exact Jv)); (repeat (refine Chk.mk rfl ?_; (repeat ((conv=>whnf);with_reducible first|refine Ja ?_|refine Jb ?_|refine Jc ?_|refine Jd ?_|refine Je ?_|refine Jf ?_|refine Jg ?_|refine Jh ?_|refine Ji ?_|refine Jj ?_|refine Jk ?_|refine Jl ?_|refine Jm ?_|refine Jn ?_|refine Jo ?_|refine Jp ?_|refine Jq ?_|refine Jr ?_|refine Js ?_|refine Jt ?_|refine k1 ?_|refine ke fun _ => ?_|refine k2 ?_|refine kg ?_|refine kf ?_|refine k3 ?_|refine k4 ?_|refine kn ?_|refine Ju ?_|refine k5 ?_|refine k6 ?_|refine k7 ?_|refine k8 ?_|refine k9 ?_|refine ka ?_|refine kb ?_|refine kl ?_|refine km ?_|refine kc ?_|refine kd ?_|exact Jv)))))
    · rintro ⟨i, n, vw3⟩ ⟨⟨hi2, hi1, hn⟩, hd⟩
      dsimp only at hi1 hi2 hd hn ⊢
      have hU := crM_len S i hi1
      obtain ⟨U, hUe⟩ : ∃ U, crM S i = U := ⟨_, rfl⟩
      rw [hUe] at hU hd ⊢
      clear hdc hz0
      (repeat ((conv=>whnf);with_reducible first|refine Ja ?_|refine Jb ?_|refine Jc ?_|refine Jd ?_|refine Je ?_|refine Jf ?_|refine Jg ?_|refine Jh ?_|refine Ji ?_|refine Jj ?_|refine Jk ?_|refine Jl ?_|refine Jm ?_|refine Jn ?_|refine Jo ?_|refine Jp ?_|refine Jq ?_|refine Jr ?_|refine Js ?_|refine Jt ?_|refine k1 ?_|refine ke fun _ => ?_|refine k2 ?_|refine kg ?_|refine kf ?_|refine k3 ?_|refine k4 ?_|refine kn ?_|refine Ju ?_|refine k5 ?_|refine k6 ?_|refine k7 ?_|refine k8 ?_|refine k9 ?_|refine ka ?_|refine kb ?_|refine kl ?_|refine km ?_|refine kc ?_|refine kd ?_|exact Jv)); refine Br.by (fun g => ?_) (fun g => ?_)
      · (repeat ((conv=>whnf);with_reducible first|refine Ja ?_|refine Jb ?_|refine Jc ?_|refine Jd ?_|refine Je ?_|refine Jf ?_|refine Jg ?_|refine Jh ?_|refine Ji ?_|refine Jj ?_|refine Jk ?_|refine Jl ?_|refine Jm ?_|refine Jn ?_|refine Jo ?_|refine Jp ?_|refine Jq ?_|refine Jr ?_|refine Js ?_|refine Jt ?_|refine k1 ?_|refine ke fun _ => ?_|refine k2 ?_|refine kg ?_|refine kf ?_|refine k3 ?_|refine k4 ?_|refine kn ?_|refine Ju ?_|refine k5 ?_|refine k6 ?_|refine k7 ?_|refine k8 ?_|refine k9 ?_|refine ka ?_|refine kb ?_|refine kl ?_|refine km ?_|refine kc ?_|refine kd ?_|exact Jv)); refine Br.by (fun g20 => ?_) (fun g20 => ?_)
        · have gi : i < S.length := by
            have g : (i : Int) < (S.length : Int) := g
            omega
          have gi2 : i < 15 := by
            have g20 : (i : Int) < 15 := g20
            omega
          clear g g20
          obtain ⟨a, ha⟩ : ∃ a : (Enc.st actS).α, a = @List.getD (Enc.st actS).α S i (Enc.st actS).dflt := ⟨_, rfl⟩
          obtain ⟨p, hp6, hpe⟩ := page_of a.2.1
          have hcut := cut_ok a.2.2.2.2 20 (by omega)
          have hpg := page_ok (a.2.2.2.2.take 20) (by rw [List.length_take]; omega)
          obtain ⟨s, hse⟩ : ∃ s, pageR (a.2.2.2.2.take 20) = s := ⟨_, rfl⟩
          have hsl : s.length = 256 := by rw [← hse]; exact pageR_length _
          have hM2 := crM_succ S i gi a ha p s hpe hse
          rw [hUe] at hM2
          rw [hse] at hpg
          have hwd := crD_write s0 m W V0 U (by omega) p (by omega) s hsl
          have hw := write_ok b pg cb .nil vw3 200 (crD s0 m W V0 U) (hd.ok (by omega)) p s (by omega)
          have hd2 := hd.write p s
          obtain ⟨U2, hU2⟩ : ∃ U2, crM S (i + 1) = U2 := ⟨_, rfl⟩
          rw [hwd, ← hM2, hU, hU2] at hw hd2
          dsimp only at hw hd2
          clear hsl hse hM2 hwd hU hUe hd
          by_cases hc : i < s0
          · rw [if_pos hc] at hw
            obtain rfl : n = i := by omega
            clear hn
            have hbt : (!(decide ((0 : Int) = 11)) == decide ((s0 : Int) ≤ (n : Int))) = false := by
              rw [decide_eq_false (show ¬ (s0 : Int) ≤ n by omega)]; rfl
            repeat ((conv=>whnf);with_reducible first|refine Ja ?_|refine Jb ?_|refine Jc ?_|refine Jd ?_|refine Je ?_|refine Jf ?_|refine Jg ?_|refine Jh ?_|refine Ji ?_|refine Jj ?_|refine Jk ?_|refine Jl ?_|refine Jm ?_|refine Jn ?_|refine Jo ?_|refine Jp ?_|refine Jq ?_|refine Jr ?_|refine Js ?_|refine Jt ?_|refine k1 ?_|refine ke fun _ => ?_|refine k2 ?_|refine kg ?_|refine kf ?_|refine k3 ?_|refine k4 ?_|refine kn ?_|refine Ju ?_|refine k5 ?_|refine k6 ?_|refine k7 ?_|refine k8 ?_|refine k9 ?_|refine ka ?_|refine kb ?_|refine kl ?_|refine km ?_|refine kc ?_|refine kd ?_|exact Jv)
            refine Draw.tailQ 14 (by kernel_rfl) (by kernel_rfl) ?_
            repeat ((conv=>whnf);with_reducible first|refine Ja ?_|refine Jb ?_|refine Jc ?_|refine Jd ?_|refine Je ?_|refine Jf ?_|refine Jg ?_|refine Jh ?_|refine Ji ?_|refine Jj ?_|refine Jk ?_|refine Jl ?_|refine Jm ?_|refine Jn ?_|refine Jo ?_|refine Jp ?_|refine Jq ?_|refine Jr ?_|refine Js ?_|refine Jt ?_|refine k1 ?_|refine ke fun _ => ?_|refine k2 ?_|refine kg ?_|refine kf ?_|refine k3 ?_|refine k4 ?_|refine kn ?_|refine Ju ?_|refine k5 ?_|refine k6 ?_|refine k7 ?_|refine k8 ?_|refine k9 ?_|refine ka ?_|refine kb ?_|refine kl ?_|refine km ?_|refine kc ?_|refine kd ?_|exact Jv)
            rw [← ha, hpe]
            refine CallQ.eq [] hcut rfl rfl ⟨trivial, trivial⟩ ?_
            repeat ((conv=>whnf);with_reducible first|refine Ja ?_|refine Jb ?_|refine Jc ?_|refine Jd ?_|refine Je ?_|refine Jf ?_|refine Jg ?_|refine Jh ?_|refine Ji ?_|refine Jj ?_|refine Jk ?_|refine Jl ?_|refine Jm ?_|refine Jn ?_|refine Jo ?_|refine Jp ?_|refine Jq ?_|refine Jr ?_|refine Js ?_|refine Jt ?_|refine k1 ?_|refine ke fun _ => ?_|refine k2 ?_|refine kg ?_|refine kf ?_|refine k3 ?_|refine k4 ?_|refine kn ?_|refine Ju ?_|refine k5 ?_|refine k6 ?_|refine k7 ?_|refine k8 ?_|refine k9 ?_|refine ka ?_|refine kb ?_|refine kl ?_|refine km ?_|refine kc ?_|refine kd ?_|exact Jv)
            refine CallQ.eq [] hpg rfl rfl ⟨trivial, trivial⟩ ?_
            repeat ((conv=>whnf);with_reducible first|refine Ja ?_|refine Jb ?_|refine Jc ?_|refine Jd ?_|refine Je ?_|refine Jf ?_|refine Jg ?_|refine Jh ?_|refine Ji ?_|refine Jj ?_|refine Jk ?_|refine Jl ?_|refine Jm ?_|refine Jn ?_|refine Jo ?_|refine Jp ?_|refine Jq ?_|refine Jr ?_|refine Js ?_|refine Jt ?_|refine k1 ?_|refine ke fun _ => ?_|refine k2 ?_|refine kg ?_|refine kf ?_|refine k3 ?_|refine k4 ?_|refine kn ?_|refine Ju ?_|refine k5 ?_|refine k6 ?_|refine k7 ?_|refine k8 ?_|refine k9 ?_|refine ka ?_|refine kb ?_|refine kl ?_|refine km ?_|refine kc ?_|refine kd ?_|exact Jv)
            refine SxO.step rfl ?_; (repeat ((conv=>whnf);with_reducible first|refine Ja ?_|refine Jb ?_|refine Jc ?_|refine Jd ?_|refine Je ?_|refine Jf ?_|refine Jg ?_|refine Jh ?_|refine Ji ?_|refine Jj ?_|refine Jk ?_|refine Jl ?_|refine Jm ?_|refine Jn ?_|refine Jo ?_|refine Jp ?_|refine Jq ?_|refine Jr ?_|refine Js ?_|refine Jt ?_|refine k1 ?_|refine ke fun _ => ?_|refine k2 ?_|refine kg ?_|refine kf ?_|refine k3 ?_|refine k4 ?_|refine kn ?_|refine Ju ?_|refine k5 ?_|refine k6 ?_|refine k7 ?_|refine k8 ?_|refine k9 ?_|refine ka ?_|refine kb ?_|refine kl ?_|refine km ?_|refine kc ?_|refine kd ?_|exact Jv))
            clear hcut hpg hpe ha
            refine CallG.x [(0, 800), (1, 801), (2, 802), (3, 803), (4, 804)] hw rfl rfl (fun _ => rfl) ?_
            repeat ((conv=>whnf);with_reducible first|refine Ja ?_|refine Jb ?_|refine Jc ?_|refine Jd ?_|refine Je ?_|refine Jf ?_|refine Jg ?_|refine Jh ?_|refine Ji ?_|refine Jj ?_|refine Jk ?_|refine Jl ?_|refine Jm ?_|refine Jn ?_|refine Jo ?_|refine Jp ?_|refine Jq ?_|refine Jr ?_|refine Js ?_|refine Jt ?_|refine k1 ?_|refine ke fun _ => ?_|refine k2 ?_|refine kg ?_|refine kf ?_|refine k3 ?_|refine k4 ?_|refine kn ?_|refine Ju ?_|refine k5 ?_|refine k6 ?_|refine k7 ?_|refine k8 ?_|refine k9 ?_|refine ka ?_|refine kb ?_|refine kl ?_|refine km ?_|refine kc ?_|refine kd ?_|exact Jv)
            intro vw4
            clear hw
            repeat ((conv=>whnf);with_reducible first|refine Ja ?_|refine Jb ?_|refine Jc ?_|refine Jd ?_|refine Je ?_|refine Jf ?_|refine Jg ?_|refine Jh ?_|refine Ji ?_|refine Jj ?_|refine Jk ?_|refine Jl ?_|refine Jm ?_|refine Jn ?_|refine Jo ?_|refine Jp ?_|refine Jq ?_|refine Jr ?_|refine Js ?_|refine Jt ?_|refine k1 ?_|refine ke fun _ => ?_|refine k2 ?_|refine kg ?_|refine kf ?_|refine k3 ?_|refine k4 ?_|refine kn ?_|refine Ju ?_|refine k5 ?_|refine k6 ?_|refine k7 ?_|refine k8 ?_|refine k9 ?_|refine ka ?_|refine kb ?_|refine kl ?_|refine km ?_|refine kc ?_|refine kd ?_|exact Jv)
            refine ⟨(n + 1, n + 1, vw4), ⟨⟨by show n + 1 ≤ _; omega, by show n + 1 ≤ _; omega, by show n + 1 = _; omega⟩, by rw [show 20 + (n + 1, n + 1, vw4).1 = 20 + n + 1 from rfl, hU2]; exact hd2⟩, (by dsimp only; omega), ?_⟩
            dsimp only
            rw [hU2]
            ((repeat ((conv=>whnf);with_reducible first|refine Ja ?_|refine Jb ?_|refine Jc ?_|refine Jd ?_|refine Je ?_|refine Jf ?_|refine Jg ?_|refine Jh ?_|refine Ji ?_|refine Jj ?_|refine Jk ?_|refine Jl ?_|refine Jm ?_|refine Jn ?_|refine Jo ?_|refine Jp ?_|refine Jq ?_|refine Jr ?_|refine Js ?_|refine Jt ?_|refine k1 ?_|refine ke fun _ => ?_|refine k2 ?_|refine kg ?_|refine kf ?_|refine k3 ?_|refine k4 ?_|refine kn ?_|refine Ju ?_|refine k5 ?_|refine k6 ?_|refine k7 ?_|refine k8 ?_|refine k9 ?_|refine ka ?_|refine kb ?_|refine kl ?_|refine km ?_|refine kc ?_|refine kd ?_|exact Jv)); (repeat (refine Chk.mk rfl ?_; (repeat ((conv=>whnf);with_reducible first|refine Ja ?_|refine Jb ?_|refine Jc ?_|refine Jd ?_|refine Je ?_|refine Jf ?_|refine Jg ?_|refine Jh ?_|refine Ji ?_|refine Jj ?_|refine Jk ?_|refine Jl ?_|refine Jm ?_|refine Jn ?_|refine Jo ?_|refine Jp ?_|refine Jq ?_|refine Jr ?_|refine Js ?_|refine Jt ?_|refine k1 ?_|refine ke fun _ => ?_|refine k2 ?_|refine kg ?_|refine kf ?_|refine k3 ?_|refine k4 ?_|refine kn ?_|refine Ju ?_|refine k5 ?_|refine k6 ?_|refine k7 ?_|refine k8 ?_|refine k9 ?_|refine ka ?_|refine kb ?_|refine kl ?_|refine km ?_|refine kc ?_|refine kd ?_|exact Jv)))))
          · rw [if_neg hc] at hw
            obtain rfl : n = s0 := by omega
            clear hn
            have hbt : (!(decide ((11 : Int) = 11)) == decide ((n : Int) ≤ (i : Int))) = false := by
              rw [decide_eq_true (show (n : Int) ≤ i by omega)]; rfl
            repeat ((conv=>whnf);with_reducible first|refine Ja ?_|refine Jb ?_|refine Jc ?_|refine Jd ?_|refine Je ?_|refine Jf ?_|refine Jg ?_|refine Jh ?_|refine Ji ?_|refine Jj ?_|refine Jk ?_|refine Jl ?_|refine Jm ?_|refine Jn ?_|refine Jo ?_|refine Jp ?_|refine Jq ?_|refine Jr ?_|refine Js ?_|refine Jt ?_|refine k1 ?_|refine ke fun _ => ?_|refine k2 ?_|refine kg ?_|refine kf ?_|refine k3 ?_|refine k4 ?_|refine kn ?_|refine Ju ?_|refine k5 ?_|refine k6 ?_|refine k7 ?_|refine k8 ?_|refine k9 ?_|refine ka ?_|refine kb ?_|refine kl ?_|refine km ?_|refine kc ?_|refine kd ?_|exact Jv)
            refine Draw.tailQ 14 (by kernel_rfl) (by kernel_rfl) ?_
            repeat ((conv=>whnf);with_reducible first|refine Ja ?_|refine Jb ?_|refine Jc ?_|refine Jd ?_|refine Je ?_|refine Jf ?_|refine Jg ?_|refine Jh ?_|refine Ji ?_|refine Jj ?_|refine Jk ?_|refine Jl ?_|refine Jm ?_|refine Jn ?_|refine Jo ?_|refine Jp ?_|refine Jq ?_|refine Jr ?_|refine Js ?_|refine Jt ?_|refine k1 ?_|refine ke fun _ => ?_|refine k2 ?_|refine kg ?_|refine kf ?_|refine k3 ?_|refine k4 ?_|refine kn ?_|refine Ju ?_|refine k5 ?_|refine k6 ?_|refine k7 ?_|refine k8 ?_|refine k9 ?_|refine ka ?_|refine kb ?_|refine kl ?_|refine km ?_|refine kc ?_|refine kd ?_|exact Jv)
            rw [← ha, hpe]
            refine CallQ.eq [] hcut rfl rfl ⟨trivial, trivial⟩ ?_
            repeat ((conv=>whnf);with_reducible first|refine Ja ?_|refine Jb ?_|refine Jc ?_|refine Jd ?_|refine Je ?_|refine Jf ?_|refine Jg ?_|refine Jh ?_|refine Ji ?_|refine Jj ?_|refine Jk ?_|refine Jl ?_|refine Jm ?_|refine Jn ?_|refine Jo ?_|refine Jp ?_|refine Jq ?_|refine Jr ?_|refine Js ?_|refine Jt ?_|refine k1 ?_|refine ke fun _ => ?_|refine k2 ?_|refine kg ?_|refine kf ?_|refine k3 ?_|refine k4 ?_|refine kn ?_|refine Ju ?_|refine k5 ?_|refine k6 ?_|refine k7 ?_|refine k8 ?_|refine k9 ?_|refine ka ?_|refine kb ?_|refine kl ?_|refine km ?_|refine kc ?_|refine kd ?_|exact Jv)
            refine CallQ.eq [] hpg rfl rfl ⟨trivial, trivial⟩ ?_
            repeat ((conv=>whnf);with_reducible first|refine Ja ?_|refine Jb ?_|refine Jc ?_|refine Jd ?_|refine Je ?_|refine Jf ?_|refine Jg ?_|refine Jh ?_|refine Ji ?_|refine Jj ?_|refine Jk ?_|refine Jl ?_|refine Jm ?_|refine Jn ?_|refine Jo ?_|refine Jp ?_|refine Jq ?_|refine Jr ?_|refine Js ?_|refine Jt ?_|refine k1 ?_|refine ke fun _ => ?_|refine k2 ?_|refine kg ?_|refine kf ?_|refine k3 ?_|refine k4 ?_|refine kn ?_|refine Ju ?_|refine k5 ?_|refine k6 ?_|refine k7 ?_|refine k8 ?_|refine k9 ?_|refine ka ?_|refine kb ?_|refine kl ?_|refine km ?_|refine kc ?_|refine kd ?_|exact Jv)
            refine SxO.step rfl ?_; (repeat ((conv=>whnf);with_reducible first|refine Ja ?_|refine Jb ?_|refine Jc ?_|refine Jd ?_|refine Je ?_|refine Jf ?_|refine Jg ?_|refine Jh ?_|refine Ji ?_|refine Jj ?_|refine Jk ?_|refine Jl ?_|refine Jm ?_|refine Jn ?_|refine Jo ?_|refine Jp ?_|refine Jq ?_|refine Jr ?_|refine Js ?_|refine Jt ?_|refine k1 ?_|refine ke fun _ => ?_|refine k2 ?_|refine kg ?_|refine kf ?_|refine k3 ?_|refine k4 ?_|refine kn ?_|refine Ju ?_|refine k5 ?_|refine k6 ?_|refine k7 ?_|refine k8 ?_|refine k9 ?_|refine ka ?_|refine kb ?_|refine kl ?_|refine km ?_|refine kc ?_|refine kd ?_|exact Jv))
            clear hcut hpg hpe ha
            refine CallG.x [(0, 800), (1, 801), (2, 802), (3, 803), (4, 804)] hw rfl rfl (fun _ => rfl) ?_
            repeat ((conv=>whnf);with_reducible first|refine Ja ?_|refine Jb ?_|refine Jc ?_|refine Jd ?_|refine Je ?_|refine Jf ?_|refine Jg ?_|refine Jh ?_|refine Ji ?_|refine Jj ?_|refine Jk ?_|refine Jl ?_|refine Jm ?_|refine Jn ?_|refine Jo ?_|refine Jp ?_|refine Jq ?_|refine Jr ?_|refine Js ?_|refine Jt ?_|refine k1 ?_|refine ke fun _ => ?_|refine k2 ?_|refine kg ?_|refine kf ?_|refine k3 ?_|refine k4 ?_|refine kn ?_|refine Ju ?_|refine k5 ?_|refine k6 ?_|refine k7 ?_|refine k8 ?_|refine k9 ?_|refine ka ?_|refine kb ?_|refine kl ?_|refine km ?_|refine kc ?_|refine kd ?_|exact Jv)
            intro vw4
            clear hw
            repeat ((conv=>whnf);with_reducible first|refine Ja ?_|refine Jb ?_|refine Jc ?_|refine Jd ?_|refine Je ?_|refine Jf ?_|refine Jg ?_|refine Jh ?_|refine Ji ?_|refine Jj ?_|refine Jk ?_|refine Jl ?_|refine Jm ?_|refine Jn ?_|refine Jo ?_|refine Jp ?_|refine Jq ?_|refine Jr ?_|refine Js ?_|refine Jt ?_|refine k1 ?_|refine ke fun _ => ?_|refine k2 ?_|refine kg ?_|refine kf ?_|refine k3 ?_|refine k4 ?_|refine kn ?_|refine Ju ?_|refine k5 ?_|refine k6 ?_|refine k7 ?_|refine k8 ?_|refine k9 ?_|refine ka ?_|refine kb ?_|refine kl ?_|refine km ?_|refine kc ?_|refine kd ?_|exact Jv)
            refine ⟨(i + 1, n, vw4), ⟨⟨by show i + 1 ≤ _; omega, by show i + 1 ≤ _; omega, by show n = min (i + 1) n; omega⟩, by rw [show 20 + (i + 1, n, vw4).1 = 20 + i + 1 from rfl, hU2]; exact hd2⟩, (by dsimp only; omega), ?_⟩
            dsimp only
            rw [hU2]
            ((repeat ((conv=>whnf);with_reducible first|refine Ja ?_|refine Jb ?_|refine Jc ?_|refine Jd ?_|refine Je ?_|refine Jf ?_|refine Jg ?_|refine Jh ?_|refine Ji ?_|refine Jj ?_|refine Jk ?_|refine Jl ?_|refine Jm ?_|refine Jn ?_|refine Jo ?_|refine Jp ?_|refine Jq ?_|refine Jr ?_|refine Js ?_|refine Jt ?_|refine k1 ?_|refine ke fun _ => ?_|refine k2 ?_|refine kg ?_|refine kf ?_|refine k3 ?_|refine k4 ?_|refine kn ?_|refine Ju ?_|refine k5 ?_|refine k6 ?_|refine k7 ?_|refine k8 ?_|refine k9 ?_|refine ka ?_|refine kb ?_|refine kl ?_|refine km ?_|refine kc ?_|refine kd ?_|exact Jv)); (repeat (refine Chk.mk rfl ?_; (repeat ((conv=>whnf);with_reducible first|refine Ja ?_|refine Jb ?_|refine Jc ?_|refine Jd ?_|refine Je ?_|refine Jf ?_|refine Jg ?_|refine Jh ?_|refine Ji ?_|refine Jj ?_|refine Jk ?_|refine Jl ?_|refine Jm ?_|refine Jn ?_|refine Jo ?_|refine Jp ?_|refine Jq ?_|refine Jr ?_|refine Js ?_|refine Jt ?_|refine k1 ?_|refine ke fun _ => ?_|refine k2 ?_|refine kg ?_|refine kf ?_|refine k3 ?_|refine k4 ?_|refine kn ?_|refine Ju ?_|refine k5 ?_|refine k6 ?_|refine k7 ?_|refine k8 ?_|refine k9 ?_|refine ka ?_|refine kb ?_|refine kl ?_|refine km ?_|refine kc ?_|refine kd ?_|exact Jv)))))
        · have hie : i = min S.length 15 := by
            have g : (i : Int) < (S.length : Int) := g
            have g20 : ¬ (i : Int) < 15 := g20
            omega
          repeat ((conv=>whnf);with_reducible first|refine Ja ?_|refine Jb ?_|refine Jc ?_|refine Jd ?_|refine Je ?_|refine Jf ?_|refine Jg ?_|refine Jh ?_|refine Ji ?_|refine Jj ?_|refine Jk ?_|refine Jl ?_|refine Jm ?_|refine Jn ?_|refine Jo ?_|refine Jp ?_|refine Jq ?_|refine Jr ?_|refine Js ?_|refine Jt ?_|refine k1 ?_|refine ke fun _ => ?_|refine k2 ?_|refine kg ?_|refine kf ?_|refine k3 ?_|refine k4 ?_|refine kn ?_|refine Ju ?_|refine k5 ?_|refine k6 ?_|refine k7 ?_|refine k8 ?_|refine k9 ?_|refine ka ?_|refine kb ?_|refine kl ?_|refine km ?_|refine kc ?_|refine kd ?_|exact Jv)
          refine ⟨(i, n, vw3), ⟨hie, hn⟩, ?_⟩
          dsimp only
          rw [hUe]
          ((repeat ((conv=>whnf);with_reducible first|refine Ja ?_|refine Jb ?_|refine Jc ?_|refine Jd ?_|refine Je ?_|refine Jf ?_|refine Jg ?_|refine Jh ?_|refine Ji ?_|refine Jj ?_|refine Jk ?_|refine Jl ?_|refine Jm ?_|refine Jn ?_|refine Jo ?_|refine Jp ?_|refine Jq ?_|refine Jr ?_|refine Js ?_|refine Jt ?_|refine k1 ?_|refine ke fun _ => ?_|refine k2 ?_|refine kg ?_|refine kf ?_|refine k3 ?_|refine k4 ?_|refine kn ?_|refine Ju ?_|refine k5 ?_|refine k6 ?_|refine k7 ?_|refine k8 ?_|refine k9 ?_|refine ka ?_|refine kb ?_|refine kl ?_|refine km ?_|refine kc ?_|refine kd ?_|exact Jv)); (repeat (refine Chk.mk rfl ?_; (repeat ((conv=>whnf);with_reducible first|refine Ja ?_|refine Jb ?_|refine Jc ?_|refine Jd ?_|refine Je ?_|refine Jf ?_|refine Jg ?_|refine Jh ?_|refine Ji ?_|refine Jj ?_|refine Jk ?_|refine Jl ?_|refine Jm ?_|refine Jn ?_|refine Jo ?_|refine Jp ?_|refine Jq ?_|refine Jr ?_|refine Js ?_|refine Jt ?_|refine k1 ?_|refine ke fun _ => ?_|refine k2 ?_|refine kg ?_|refine kf ?_|refine k3 ?_|refine k4 ?_|refine kn ?_|refine Ju ?_|refine k5 ?_|refine k6 ?_|refine k7 ?_|refine k8 ?_|refine k9 ?_|refine ka ?_|refine kb ?_|refine kl ?_|refine km ?_|refine kc ?_|refine kd ?_|exact Jv)))))
      · have hie : i = min S.length 15 := by
          have g : ¬ (i : Int) < (S.length : Int) := g
          omega
        repeat ((conv=>whnf);with_reducible first|refine Ja ?_|refine Jb ?_|refine Jc ?_|refine Jd ?_|refine Je ?_|refine Jf ?_|refine Jg ?_|refine Jh ?_|refine Ji ?_|refine Jj ?_|refine Jk ?_|refine Jl ?_|refine Jm ?_|refine Jn ?_|refine Jo ?_|refine Jp ?_|refine Jq ?_|refine Jr ?_|refine Js ?_|refine Jt ?_|refine k1 ?_|refine ke fun _ => ?_|refine k2 ?_|refine kg ?_|refine kf ?_|refine k3 ?_|refine k4 ?_|refine kn ?_|refine Ju ?_|refine k5 ?_|refine k6 ?_|refine k7 ?_|refine k8 ?_|refine k9 ?_|refine ka ?_|refine kb ?_|refine kl ?_|refine km ?_|refine kc ?_|refine kd ?_|exact Jv)
        refine ⟨(i, n, vw3), ⟨hie, hn⟩, ?_⟩
        dsimp only
        rw [hUe]
        ((repeat ((conv=>whnf);with_reducible first|refine Ja ?_|refine Jb ?_|refine Jc ?_|refine Jd ?_|refine Je ?_|refine Jf ?_|refine Jg ?_|refine Jh ?_|refine Ji ?_|refine Jj ?_|refine Jk ?_|refine Jl ?_|refine Jm ?_|refine Jn ?_|refine Jo ?_|refine Jp ?_|refine Jq ?_|refine Jr ?_|refine Js ?_|refine Jt ?_|refine k1 ?_|refine ke fun _ => ?_|refine k2 ?_|refine kg ?_|refine kf ?_|refine k3 ?_|refine k4 ?_|refine kn ?_|refine Ju ?_|refine k5 ?_|refine k6 ?_|refine k7 ?_|refine k8 ?_|refine k9 ?_|refine ka ?_|refine kb ?_|refine kl ?_|refine km ?_|refine kc ?_|refine kd ?_|exact Jv)); (repeat (refine Chk.mk rfl ?_; (repeat ((conv=>whnf);with_reducible first|refine Ja ?_|refine Jb ?_|refine Jc ?_|refine Jd ?_|refine Je ?_|refine Jf ?_|refine Jg ?_|refine Jh ?_|refine Ji ?_|refine Jj ?_|refine Jk ?_|refine Jl ?_|refine Jm ?_|refine Jn ?_|refine Jo ?_|refine Jp ?_|refine Jq ?_|refine Jr ?_|refine Js ?_|refine Jt ?_|refine k1 ?_|refine ke fun _ => ?_|refine k2 ?_|refine kg ?_|refine kf ?_|refine k3 ?_|refine k4 ?_|refine kn ?_|refine Ju ?_|refine k5 ?_|refine k6 ?_|refine k7 ?_|refine k8 ?_|refine k9 ?_|refine ka ?_|refine kb ?_|refine kl ?_|refine km ?_|refine kc ?_|refine kd ?_|exact Jv)))))
  · rintro ⟨i, n, vw3⟩ ⟨hi, hn⟩ _
    (conv => whnf); refine Jk ?_; (conv => whnf); refine Jf ?_
    exact ⟨crash_tail ya yb F S w0 b cb zb pg vw3 W V0 s0 i n m hS hs16 hWl hi hn⟩
end Go.Proofs.Ytchbadngbddmnaa
