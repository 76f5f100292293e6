/- The laws of the disk: what a crash leaves. -/
import Derived.Test.YtchbadngbddmnaaP9
set_option linter.unusedVariables false
set_option linter.unusedSimpArgs false
set_option maxRecDepth 10000
set_option maxHeartbeats 8000000
namespace Go.Proofs.Ytchbadngbddmnaa
open Go Go.SY
seal sx sxOps

theorem crash_mid (ya yb : SV) (F S : List ActT) (st : Int) (w0 : World) (b cb zb k : Nat) (pg vw : SV) (m : BitVec 64)
    (hS : S.length ≤ 9223372036854775807) (hk2 : k ≤ 15) (hk1 : k ≤ F.length) (hd : DK 200 k (evD 200 cZ (crM F k))) :
    sx (ctxOf R Try.f3.ntmps [(500, ya.blk, .view (.st actS) ya F), (501, yb.blk, .view (.st actS) yb S)] w0) (rest 8 (bodyOf Try.f3))
      [(4, vl 501 yb), (5, vi st), (6, v64 m), (7, vp 800 b), (8, vl 33 (.at zb 0 6 6))]
      ((501, yb.blk, .view (.st actS) yb S) :: (33, zb, .own 9 (.sc .str) (.at zb 0 6 6) (allP cZ (crM F k))) :: dA8 b pg cb vw 200 (evD 200 cZ (crM F k)))
      (endQ R.P Try.f3.results.toList (fun _ : Unit => True) (fun _ => vb true) (fun _ => [])) := by
  have hVl := crM_len F k hk1
  obtain ⟨V, hV⟩ : ∃ V, crM F k = V := ⟨_, rfl⟩
  rw [hV] at hd hVl ⊢
  have hf := flush_ok b pg cb .nil vw 200 (evD 200 cZ V) (hd.ok (by omega))
  have hdf := hd.flush
  rw [ev_flush V (by omega)] at hf hdf
  obtain ⟨s0, hs16, hse⟩ := steps_of st
  obtain ⟨W, hW⟩ : ∃ W, allP cZ V = W := ⟨_, rfl⟩
  have hWl : W.length = 6 := by rw [← hW, allP_length]; exact List.length_replicate
  obtain ⟨V0, hV0⟩ : ∃ V0, V ++ [((2 : Int), (0 : Int), ([] : Str))] = V0 := ⟨_, rfl⟩
  have hV0l : V0.length = k + 1 := by rw [← hV0, List.length_append, hVl]; rfl
  have hnn : ((V.length : Int) + 1) = (V0.length : Int) := by omega
  rw [hW, hV0, hnn] at hf hdf
  rw [hW]
  dsimp only at hf hdf
  conv => arg 2; whnf
  repeat ((conv=>whnf);with_reducible first|refine Ja ?_|refine Jb ?_|refine Jc ?_|refine Jd ?_|refine Je ?_|refine Jf ?_|refine Jg ?_|refine Jh ?_|refine Ji ?_|refine Jj ?_|refine Jk ?_|refine Jl ?_|refine Jm ?_|refine Jn ?_|refine Jo ?_|refine Jp ?_|refine Jq ?_|refine Jr ?_|refine Js ?_|refine Jt ?_|refine k1 ?_|refine ke fun _ => ?_|refine k2 ?_|refine kg ?_|refine kf ?_|refine k3 ?_|refine k4 ?_|refine kn ?_|refine Ju ?_|refine k5 ?_|refine k6 ?_|refine k7 ?_|refine k8 ?_|refine k9 ?_|refine ka ?_|refine kb ?_|refine kl ?_|refine km ?_|refine kc ?_|refine kd ?_|exact Jv)
  refine CallG.x [(0, 800), (1, 801), (2, 802), (3, 803), (4, 804)] hf rfl rfl (fun _ => rfl) ?_
  repeat ((conv=>whnf);with_reducible first|refine Ja ?_|refine Jb ?_|refine Jc ?_|refine Jd ?_|refine Je ?_|refine Jf ?_|refine Jg ?_|refine Jh ?_|refine Ji ?_|refine Jj ?_|refine Jk ?_|refine Jl ?_|refine Jm ?_|refine Jn ?_|refine Jo ?_|refine Jp ?_|refine Jq ?_|refine Jr ?_|refine Js ?_|refine Jt ?_|refine k1 ?_|refine ke fun _ => ?_|refine k2 ?_|refine kg ?_|refine kf ?_|refine k3 ?_|refine k4 ?_|refine kn ?_|refine Ju ?_|refine k5 ?_|refine k6 ?_|refine k7 ?_|refine k8 ?_|refine k9 ?_|refine ka ?_|refine kb ?_|refine kl ?_|refine km ?_|refine kc ?_|refine kd ?_|exact Jv)
  intro vw2
  repeat ((conv=>whnf);with_reducible first|refine Ja ?_|refine Jb ?_|refine Jc ?_|refine Jd ?_|refine Je ?_|refine Jf ?_|refine Jg ?_|refine Jh ?_|refine Ji ?_|refine Jj ?_|refine Jk ?_|refine Jl ?_|refine Jm ?_|refine Jn ?_|refine Jo ?_|refine Jp ?_|refine Jq ?_|refine Jr ?_|refine Js ?_|refine Jt ?_|refine k1 ?_|refine ke fun _ => ?_|refine k2 ?_|refine kg ?_|refine kf ?_|refine k3 ?_|refine k4 ?_|refine kn ?_|refine Ju ?_|refine k5 ?_|refine k6 ?_|refine k7 ?_|refine k8 ?_|refine k9 ?_|refine ka ?_|refine kb ?_|refine kl ?_|refine km ?_|refine kc ?_|refine kd ?_|exact Jv)
  rw [hse]
  repeat ((conv=>whnf);with_reducible first|refine Ja ?_|refine Jb ?_|refine Jc ?_|refine Jd ?_|refine Je ?_|refine Jf ?_|refine Jg ?_|refine Jh ?_|refine Ji ?_|refine Jj ?_|refine Jk ?_|refine Jl ?_|refine Jm ?_|refine Jn ?_|refine Jo ?_|refine Jp ?_|refine Jq ?_|refine Jr ?_|refine Js ?_|refine Jt ?_|refine k1 ?_|refine ke fun _ => ?_|refine k2 ?_|refine kg ?_|refine kf ?_|refine k3 ?_|refine k4 ?_|refine kn ?_|refine Ju ?_|refine k5 ?_|refine k6 ?_|refine k7 ?_|refine k8 ?_|refine k9 ?_|refine ka ?_|refine kb ?_|refine kl ?_|refine km ?_|refine kc ?_|refine kd ?_|exact Jv)
  refine CallG.one [(0, 800), (1, 801), (2, 802), (3, 803), (4, 804)] (arm_ok b pg cb (-1) 0 false .nil vw2 V0.length s0 m) rfl rfl ?_
  repeat ((conv=>whnf);with_reducible first|refine Ja ?_|refine Jb ?_|refine Jc ?_|refine Jd ?_|refine Je ?_|refine Jf ?_|refine Jg ?_|refine Jh ?_|refine Ji ?_|refine Jj ?_|refine Jk ?_|refine Jl ?_|refine Jm ?_|refine Jn ?_|refine Jo ?_|refine Jp ?_|refine Jq ?_|refine Jr ?_|refine Js ?_|refine Jt ?_|refine k1 ?_|refine ke fun _ => ?_|refine k2 ?_|refine kg ?_|refine kf ?_|refine k3 ?_|refine k4 ?_|refine kn ?_|refine Ju ?_|refine k5 ?_|refine k6 ?_|refine k7 ?_|refine k8 ?_|refine k9 ?_|refine ka ?_|refine kb ?_|refine kl ?_|refine km ?_|refine kc ?_|refine kd ?_|exact Jv)
  have hdc : DK 200 20 (crD s0 m W V0 (crM S 0)) := by
    rw [show crD s0 m W V0 (crM S 0) = ⟨W, [], (s0 : Int), m, false, [], V0, V0.length⟩ from cr_zero s0 m W V0]
    exact ⟨hdf.q, hdf.ql, hdf.ml, by dsimp only; omega, by dsimp only; omega, by dsimp only; omega, hdf.p, hdf.s, hdf.sl⟩
  clear hf hd hse hV hVl
  refine LoopG.anew [(4, vl 501 yb), (5, vi s0), (6, v64 m), (7, vp 800 b), (8, vl 33 (.at zb 0 6 6)), (12, vi 0), (13, vi 0)] [(501, .view (.st actS) yb S), (33, .own 9 (.sc .str) (.at zb 0 6 6) W), (800, .var 66 [.c (.lst 801 pg), .c (.ch 802 cb), .c (.int .i64 s0), .c (.w64 m), .c (.bool false), .c (.lst 803 .nil), .c (.lst 804 vw2), .c (.int .i64 V0.length)]),
    (801, .own 9 (.sc .str) pg W), (802, .sem (chanS 200 (.st opS) [])), (804, .own 68 (.st opS) vw2 V0)] ?_
  refine ⟨?_, ?_⟩
  · ((repeat ((conv=>whnf);with_reducible first|refine Ja ?_|refine Jb ?_|refine Jc ?_|refine Jd ?_|refine Je ?_|refine Jf ?_|refine Jg ?_|refine Jh ?_|refine Ji ?_|refine Jj ?_|refine Jk ?_|refine Jl ?_|refine Jm ?_|refine Jn ?_|refine Jo ?_|refine Jp ?_|refine Jq ?_|refine Jr ?_|refine Js ?_|refine Jt ?_|refine k1 ?_|refine ke fun _ => ?_|refine k2 ?_|refine kg ?_|refine kf ?_|refine k3 ?_|refine k4 ?_|refine kn ?_|refine Ju ?_|refine k5 ?_|refine k6 ?_|refine k7 ?_|refine k8 ?_|refine k9 ?_|refine ka ?_|refine kb ?_|refine kl ?_|refine km ?_|refine kc ?_|refine kd ?_|exact Jv)); (repeat (refine Chk.mk rfl ?_; (repeat ((conv=>whnf);with_reducible first|refine Ja ?_|refine Jb ?_|refine Jc ?_|refine Jd ?_|refine Je ?_|refine Jf ?_|refine Jg ?_|refine Jh ?_|refine Ji ?_|refine Jj ?_|refine Jk ?_|refine Jl ?_|refine Jm ?_|refine Jn ?_|refine Jo ?_|refine Jp ?_|refine Jq ?_|refine Jr ?_|refine Js ?_|refine Jt ?_|refine k1 ?_|refine ke fun _ => ?_|refine k2 ?_|refine kg ?_|refine kf ?_|refine k3 ?_|refine k4 ?_|refine kn ?_|refine Ju ?_|refine k5 ?_|refine k6 ?_|refine k7 ?_|refine k8 ?_|refine k9 ?_|refine ka ?_|refine kb ?_|refine kl ?_|refine km ?_|refine kc ?_|refine kd ?_|exact Jv)))))
  · exact crash_loop ya yb F S w0 b cb zb pg vw2 W V0 s0 m hS hs16 hWl hdc
end Go.Proofs.Ytchbadngbddmnaa
