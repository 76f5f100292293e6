/- The laws of the disk: swapped twice, brought back. -/
import Derived.Test.YtchbadngbddmnaaPB
set_option linter.unusedVariables false
set_option linter.unusedSimpArgs false
set_option maxRecDepth 10000
set_option maxHeartbeats 8000000
namespace Go.Proofs.Ytchbadngbddmnaa
open Go Go.SY
seal sx sxOps

theorem back_mid (ya : SV) (L : List ActT) (w0 : World) (b c8 : Nat) (P : List Str) (Q V : List OpT) (l : Int) (m : BitVec 64) (c : Bool) (n : Int) (pg : SV) (cb : Nat) (sv vw : SV) (y : QX) (p q : Int) (pt : Str) (hptl : pt.length = 256) (hP : P.length = 6)
    (hpage : CtrP R 11 [vs [111, 116, 104, 101, 114]] [] (vs pt)) (hd : DK 4 10 ⟨P, Q, l, m, c, [], V, n⟩) :
    sx (ctxOf R Try.f7.ntmps [(0, ya.blk, .view (.st actS) ya L)] w0) (rest 5 (bodyOf Try.f7)) [(1, vi p), (2, vi q), (7, vp 800 b), (8, vp 8 c8)]
      ((8, c8, .var 50 (qA 4 ⟨P, Q, l, m, c, [], V, n⟩ y)) :: pqAll b 4 ⟨P, Q, l, m, c, [], V, n⟩ ⟨pg, cb, sv, vw, []⟩ y)
      (endQ R.P Try.f7.results.toList (fun _ : Unit => True) (fun _ => vb true) (fun _ => [])) := by
  have hV := hd.v
  have hQl := hd.ql
  dsimp only at hV hQl
  obtain ⟨P2, e, hP2, he, hs1, hs2⟩ := swaps b pg cb sv vw ⟨P, Q, l, m, c, [], V, n⟩ p q hP
  dsimp only at hs1 hs2
  have hcase : (p < 0 ∧ e = false) ∨ ((0 ≤ p ∧ 6 ≤ p) ∧ e = false) ∨ (((0 ≤ p ∧ p < 6) ∧ q < 0) ∧ e = false) ∨ (((0 ≤ p ∧ p < 6) ∧ 0 ≤ q ∧ 6 ≤ q) ∧ e = false) ∨ (((0 ≤ p ∧ p < 6) ∧ 0 ≤ q ∧ q < 6) ∧ e = true) := by
    by_cases h : (0 ≤ p ∧ p < 6) ∧ (0 ≤ q ∧ q < 6)
    · exact .inr (.inr (.inr (.inr ⟨h, he.trans (decide_eq_true h)⟩)))
    · have e0 : e = false := he.trans (decide_eq_false h)
      by_cases h1 : p < 0
      · exact .inl ⟨h1, e0⟩
      by_cases h2 : 6 ≤ p
      · exact .inr (.inl ⟨⟨by omega, h2⟩, e0⟩)
      by_cases h3 : q < 0
      · exact .inr (.inr (.inl ⟨⟨⟨by omega, by omega⟩, h3⟩, e0⟩))
      · exact .inr (.inr (.inr (.inl ⟨⟨⟨by omega, by omega⟩, by omega, by omega⟩, e0⟩)))
  have hee : (!e == e) = false := by cases e <;> rfl
  clear hd
  conv => arg 2; whnf
  repeat ((conv=>whnf);with_reducible first|refine Ja ?_|refine Jb ?_|refine Jc ?_|refine Jd ?_|refine Je ?_|refine Jf ?_|refine Jg ?_|refine Jh ?_|refine Ji ?_|refine Jj ?_|refine Jk ?_|refine Jl ?_|refine Jm ?_|refine Jn ?_|refine Jo ?_|refine Jp ?_|refine Jq ?_|refine Jr ?_|refine Js ?_|refine Jt ?_|refine k1 ?_|refine ke fun _ => ?_|refine k2 ?_|refine kg ?_|refine kf ?_|refine k3 ?_|refine k4 ?_|refine kn ?_|refine Ju ?_|refine k5 ?_|refine k6 ?_|refine k7 ?_|refine k8 ?_|refine k9 ?_|refine ka ?_|refine kb ?_|refine kl ?_|refine km ?_|refine kc ?_|refine kd ?_|exact Jv)
  refine CallG.x [(0, 800), (1, 801), (2, 802), (3, 803), (4, 804), (5, 805), (7, 907)] (stable_ok b pg cb l m c sv vw n P (by omega)) rfl rfl (fun _ => rfl) ?_
  repeat ((conv=>whnf);with_reducible first|refine Ja ?_|refine Jb ?_|refine Jc ?_|refine Jd ?_|refine Je ?_|refine Jf ?_|refine Jg ?_|refine Jh ?_|refine Ji ?_|refine Jj ?_|refine Jk ?_|refine Jl ?_|refine Jm ?_|refine Jn ?_|refine Jo ?_|refine Jp ?_|refine Jq ?_|refine Jr ?_|refine Js ?_|refine Jt ?_|refine k1 ?_|refine ke fun _ => ?_|refine k2 ?_|refine kg ?_|refine kf ?_|refine k3 ?_|refine k4 ?_|refine kn ?_|refine Ju ?_|refine k5 ?_|refine k6 ?_|refine k7 ?_|refine k8 ?_|refine k9 ?_|refine ka ?_|refine kb ?_|refine kl ?_|refine km ?_|refine kc ?_|refine kd ?_|exact Jv)
  intro was
  repeat ((conv=>whnf);with_reducible first|refine Ja ?_|refine Jb ?_|refine Jc ?_|refine Jd ?_|refine Je ?_|refine Jf ?_|refine Jg ?_|refine Jh ?_|refine Ji ?_|refine Jj ?_|refine Jk ?_|refine Jl ?_|refine Jm ?_|refine Jn ?_|refine Jo ?_|refine Jp ?_|refine Jq ?_|refine Jr ?_|refine Js ?_|refine Jt ?_|refine k1 ?_|refine ke fun _ => ?_|refine k2 ?_|refine kg ?_|refine kf ?_|refine k3 ?_|refine k4 ?_|refine kn ?_|refine Ju ?_|refine k5 ?_|refine k6 ?_|refine k7 ?_|refine k8 ?_|refine k9 ?_|refine ka ?_|refine kb ?_|refine kl ?_|refine km ?_|refine kc ?_|refine kd ?_|exact Jv)
  refine CallG.one [(0, 800), (1, 801), (2, 802), (3, 803), (4, 804), (5, 805)] hs1 rfl rfl ?_
  repeat ((conv=>whnf);with_reducible first|refine Ja ?_|refine Jb ?_|refine Jc ?_|refine Jd ?_|refine Je ?_|refine Jf ?_|refine Jg ?_|refine Jh ?_|refine Ji ?_|refine Jj ?_|refine Jk ?_|refine Jl ?_|refine Jm ?_|refine Jn ?_|refine Jo ?_|refine Jp ?_|refine Jq ?_|refine Jr ?_|refine Js ?_|refine Jt ?_|refine k1 ?_|refine ke fun _ => ?_|refine k2 ?_|refine kg ?_|refine kf ?_|refine k3 ?_|refine k4 ?_|refine kn ?_|refine Ju ?_|refine k5 ?_|refine k6 ?_|refine k7 ?_|refine k8 ?_|refine k9 ?_|refine ka ?_|refine kb ?_|refine kl ?_|refine km ?_|refine kc ?_|refine kd ?_|exact Jv)
  refine CallG.one [(0, 800), (1, 801), (2, 802), (3, 803), (4, 804), (5, 805)] hs2 rfl rfl ?_
  repeat ((conv=>whnf);with_reducible first|refine Ja ?_|refine Jb ?_|refine Jc ?_|refine Jd ?_|refine Je ?_|refine Jf ?_|refine Jg ?_|refine Jh ?_|refine Ji ?_|refine Jj ?_|refine Jk ?_|refine Jl ?_|refine Jm ?_|refine Jn ?_|refine Jo ?_|refine Jp ?_|refine Jq ?_|refine Jr ?_|refine Js ?_|refine Jt ?_|refine k1 ?_|refine ke fun _ => ?_|refine k2 ?_|refine kg ?_|refine kf ?_|refine k3 ?_|refine k4 ?_|refine kn ?_|refine Ju ?_|refine k5 ?_|refine k6 ?_|refine k7 ?_|refine k8 ?_|refine k9 ?_|refine ka ?_|refine kb ?_|refine kl ?_|refine km ?_|refine kc ?_|refine kd ?_|exact Jv)
  rcases hcase with h | h | h | h | h
  all_goals
    obtain ⟨h, h2⟩ := h
    subst h2
    (repeat ((conv=>whnf);with_reducible first|refine Ja ?_|refine Jb ?_|refine Jc ?_|refine Jd ?_|refine Je ?_|refine Jf ?_|refine Jg ?_|refine Jh ?_|refine Ji ?_|refine Jj ?_|refine Jk ?_|refine Jl ?_|refine Jm ?_|refine Jn ?_|refine Jo ?_|refine Jp ?_|refine Jq ?_|refine Jr ?_|refine Js ?_|refine k1 ?_|refine ke fun _ => ?_|refine k2 ?_|refine kg ?_|refine kf ?_|refine k3 ?_|refine k4 ?_|refine kn ?_|refine Ju ?_|refine k5 ?_|refine k6 ?_|refine k7 ?_|refine k8 ?_|refine k9 ?_|refine ka ?_|refine kb ?_|refine kl ?_|refine km ?_|refine kc ?_|refine kd ?_|exact Jv))
    try (refine Br.any (fun g => absurd g (by simp; omega)) (fun _ => ?_); (repeat ((conv=>whnf);with_reducible first|refine Ja ?_|refine Jb ?_|refine Jc ?_|refine Jd ?_|refine Je ?_|refine Jf ?_|refine Jg ?_|refine Jh ?_|refine Ji ?_|refine Jj ?_|refine Jk ?_|refine Jl ?_|refine Jm ?_|refine Jn ?_|refine Jo ?_|refine Jp ?_|refine Jq ?_|refine Jr ?_|refine Js ?_|refine k1 ?_|refine ke fun _ => ?_|refine k2 ?_|refine kg ?_|refine kf ?_|refine k3 ?_|refine k4 ?_|refine kn ?_|refine Ju ?_|refine k5 ?_|refine k6 ?_|refine k7 ?_|refine k8 ?_|refine k9 ?_|refine ka ?_|refine kb ?_|refine kl ?_|refine km ?_|refine kc ?_|refine kd ?_|exact Jv)))
    refine CallG.one [] (is_raw b 4 pg cb l m c sv vw n y.p y.q y.sv y.vw P Q V (by omega) (by omega) (by omega)) rfl rfl ?_
    (repeat ((conv=>whnf);with_reducible first|refine Ja ?_|refine Jb ?_|refine Jc ?_|refine Jd ?_|refine Je ?_|refine Jf ?_|refine Jg ?_|refine Jh ?_|refine Ji ?_|refine Jj ?_|refine Jk ?_|refine Jl ?_|refine Jm ?_|refine Jn ?_|refine Jo ?_|refine Jp ?_|refine Jq ?_|refine Jr ?_|refine Js ?_|refine k1 ?_|refine ke fun _ => ?_|refine k2 ?_|refine kg ?_|refine kf ?_|refine k3 ?_|refine k4 ?_|refine kn ?_|refine Ju ?_|refine k5 ?_|refine k6 ?_|refine k7 ?_|refine k8 ?_|refine k9 ?_|refine ka ?_|refine kb ?_|refine kl ?_|refine km ?_|refine kc ?_|refine kd ?_|exact Jv))
    refine CondG.anew [(83, vb false), (7, vp 800 b), (10, vl 907 was)] [(800, .var 66 [.c (.lst 801 pg), .c (.ch 802 cb), .c (.int .i64 l), .c (.w64 m), .c (.bool c), .c (.lst 803 sv), .c (.lst 804 vw), .c (.int .i64 n)]),
      (801, .own 9 (.sc .str) pg P), (803, .own 29 (.st slS) sv []), (805, .sem (viewsS (.sc .str) [] [])), (907, .own 9 (.sc .str) was P)] ?_
    refine ⟨?_, ?_⟩
    · ((repeat ((conv=>whnf);with_reducible first|refine Ja ?_|refine Jb ?_|refine Jc ?_|refine Jd ?_|refine Je ?_|refine Jf ?_|refine Jg ?_|refine Jh ?_|refine Ji ?_|refine Jj ?_|refine Jk ?_|refine Jl ?_|refine Jm ?_|refine Jn ?_|refine Jo ?_|refine Jp ?_|refine Jq ?_|refine Jr ?_|refine Js ?_|refine Jt ?_|refine k1 ?_|refine ke fun _ => ?_|refine k2 ?_|refine kg ?_|refine kf ?_|refine k3 ?_|refine k4 ?_|refine kn ?_|refine Ju ?_|refine k5 ?_|refine k6 ?_|refine k7 ?_|refine k8 ?_|refine k9 ?_|refine ka ?_|refine kb ?_|refine kl ?_|refine km ?_|refine kc ?_|refine kd ?_|exact Jv)); (repeat (refine Chk.mk rfl ?_; (repeat ((conv=>whnf);with_reducible first|refine Ja ?_|refine Jb ?_|refine Jc ?_|refine Jd ?_|refine Je ?_|refine Jf ?_|refine Jg ?_|refine Jh ?_|refine Ji ?_|refine Jj ?_|refine Jk ?_|refine Jl ?_|refine Jm ?_|refine Jn ?_|refine Jo ?_|refine Jp ?_|refine Jq ?_|refine Jr ?_|refine Js ?_|refine Jt ?_|refine k1 ?_|refine ke fun _ => ?_|refine k2 ?_|refine kg ?_|refine kf ?_|refine k3 ?_|refine k4 ?_|refine kn ?_|refine Ju ?_|refine k5 ?_|refine k6 ?_|refine k7 ?_|refine k8 ?_|refine k9 ?_|refine ka ?_|refine kb ?_|refine kl ?_|refine km ?_|refine kc ?_|refine kd ?_|exact Jv)))))
    · refine CondG.split ?_
      (conv => whnf)
      refine Br.any (fun h => absurd h (by decide)) (fun _ => ?_)
      refine Ja ?_; (conv => whnf); refine Jr ?_; (conv => whnf); refine Jf ?_
      exact ⟨back_tail _ w0 b cb pg sv vw was P l m c n pt hptl hP hpage⟩
end Go.Proofs.Ytchbadngbddmnaa
