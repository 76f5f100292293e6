/- The document's disk: any write. -/
import Derived.Test.YtchbadngbddmnaaL2
set_option linter.unusedVariables false
set_option linter.unusedSimpArgs false
set_option maxRecDepth 10000
set_option maxHeartbeats 8000000
namespace Go.Proofs.Ytchbadngbddmnaa
open Go Go.SY
seal sx sxOps

section
variable (most : Nat) (p q sv vw : SV)
theorem rwrite_stop (P : List Str) (Q : List OpT) (m : BitVec 64) (V : List OpT) (n : Int) (pp : Int) (s : Str) (hin1 : 0 ≤ pp) (hin2 : pp < P.length) (h3 : s.length = 256) (hp : P.length ≤ 10000)
    (hq : QOk P Q) (hql : Q.length ≤ 300) :
    Ctr R 42 [va (rC most p q sv vw 0 m false n), vi pp, vs s] [rP p P, rQ q Q, rV vw V] (fun _ : SV × SV × SV => True)
      (fun z => .tup [.agg (rC most z.1 z.2.1 sv z.2.2 (-1) m true n), .one (.int .i64 11)]) (fun z => [rP z.1 (crashP m 0 P Q), rQ z.2.1 [], rV z.2.2 V]) := by
  have hst := rstep_crash most p q sv vw ⟨P, Q, 0, m, false, [], V, n⟩ (1, pp, s) rfl hq hql hp
  dsimp only [dA, crashD] at hst
  refine Ctr.of Try.func42 rfl (by kernel_rfl) rfl fun _ _ w0 => ?_
  repeat ((conv=>whnf);with_reducible first|refine Ja ?_|refine Jb ?_|refine Jc ?_|refine Jd ?_|refine Je ?_|refine Jf ?_|refine Jg ?_|refine Jh ?_|refine Ji ?_|refine Jj ?_|refine Jk ?_|refine Jl ?_|refine Jm ?_|refine Jn ?_|refine Jo ?_|refine Jp ?_|refine Jq ?_|refine Jr ?_|refine Js ?_|refine Jt ?_|refine k1 ?_|refine ke fun _ => ?_|refine k2 ?_|refine kg ?_|refine kf ?_|refine k3 ?_|refine k4 ?_|refine kn ?_|refine Ju ?_|refine k5 ?_|refine k6 ?_|refine k7 ?_|refine k8 ?_|refine k9 ?_|refine ka ?_|refine kb ?_|refine kl ?_|refine km ?_|refine kc ?_|refine kd ?_|exact Jv)
  refine CallG.v [] hst rfl rfl (fun _ => rfl) ?_
  clear hst
  repeat ((conv=>whnf);with_reducible first|refine Ja ?_|refine Jb ?_|refine Jc ?_|refine Jd ?_|refine Je ?_|refine Jf ?_|refine Jg ?_|refine Jh ?_|refine Ji ?_|refine Jj ?_|refine Jk ?_|refine Jl ?_|refine Jm ?_|refine Jn ?_|refine Jo ?_|refine Jp ?_|refine Jq ?_|refine Jr ?_|refine Js ?_|refine Jt ?_|refine k1 ?_|refine ke fun _ => ?_|refine k2 ?_|refine kg ?_|refine kf ?_|refine k3 ?_|refine k4 ?_|refine kn ?_|refine Ju ?_|refine k5 ?_|refine k6 ?_|refine k7 ?_|refine k8 ?_|refine k9 ?_|refine ka ?_|refine kb ?_|refine kl ?_|refine km ?_|refine kc ?_|refine kd ?_|exact Jv)
  intro p2 _
  repeat ((conv=>whnf);with_reducible first|refine Ja ?_|refine Jb ?_|refine Jc ?_|refine Jd ?_|refine Je ?_|refine Jf ?_|refine Jg ?_|refine Jh ?_|refine Ji ?_|refine Jj ?_|refine Jk ?_|refine Jl ?_|refine Jm ?_|refine Jn ?_|refine Jo ?_|refine Jp ?_|refine Jq ?_|refine Jr ?_|refine Js ?_|refine Jt ?_|refine k1 ?_|refine ke fun _ => ?_|refine k2 ?_|refine kg ?_|refine kf ?_|refine k3 ?_|refine k4 ?_|refine kn ?_|refine Ju ?_|refine k5 ?_|refine k6 ?_|refine k7 ?_|refine k8 ?_|refine k9 ?_|refine ka ?_|refine kb ?_|refine kl ?_|refine km ?_|refine kc ?_|refine kd ?_|exact Jv)
  refine Fin.ren [] [300, 303] (p2, .nil, vw) trivial ?_
  refine ⟨rfl, ?_⟩
  ((repeat ((conv=>whnf);with_reducible first|refine Ja ?_|refine Jb ?_|refine Jc ?_|refine Jd ?_|refine Je ?_|refine Jf ?_|refine Jg ?_|refine Jh ?_|refine Ji ?_|refine Jj ?_|refine Jk ?_|refine Jl ?_|refine Jm ?_|refine Jn ?_|refine Jo ?_|refine Jp ?_|refine Jq ?_|refine Jr ?_|refine Js ?_|refine Jt ?_|refine k1 ?_|refine ke fun _ => ?_|refine k2 ?_|refine kg ?_|refine kf ?_|refine k3 ?_|refine k4 ?_|refine kn ?_|refine Ju ?_|refine k5 ?_|refine k6 ?_|refine k7 ?_|refine k8 ?_|refine k9 ?_|refine ka ?_|refine kb ?_|refine kl ?_|refine km ?_|refine kc ?_|refine kd ?_|exact Jv)); (repeat (refine Chk.mk rfl ?_; (repeat ((conv=>whnf);with_reducible first|refine Ja ?_|refine Jb ?_|refine Jc ?_|refine Jd ?_|refine Je ?_|refine Jf ?_|refine Jg ?_|refine Jh ?_|refine Ji ?_|refine Jj ?_|refine Jk ?_|refine Jl ?_|refine Jm ?_|refine Jn ?_|refine Jo ?_|refine Jp ?_|refine Jq ?_|refine Jr ?_|refine Js ?_|refine Jt ?_|refine k1 ?_|refine ke fun _ => ?_|refine k2 ?_|refine kg ?_|refine kf ?_|refine k3 ?_|refine k4 ?_|refine kn ?_|refine Ju ?_|refine k5 ?_|refine k6 ?_|refine k7 ?_|refine k8 ?_|refine k9 ?_|refine ka ?_|refine kb ?_|refine kl ?_|refine km ?_|refine kc ?_|refine kd ?_|exact Jv)))))
theorem rwrite_dead (P : List Str) (Q : List OpT) (l : Int) (m : BitVec 64) (V : List OpT) (n : Int) (pp : Int) (s : Str) :
    Ctr R 42 [va (rC most p q sv vw l m true n), vi pp, vs s] [rP p P, rQ q Q, rV vw V] (fun _ : SV × SV × SV => True)
      (fun z => .tup [.agg (rC most z.1 z.2.1 sv z.2.2 l m true n), .one (.int .i64 11)]) (fun z => [rP z.1 P, rQ z.2.1 Q, rV z.2.2 V]) := by
  refine Ctr.of Try.func42 rfl (by kernel_rfl) rfl fun _ _ w0 => ?_
  repeat ((conv=>whnf);with_reducible first|refine Ja ?_|refine Jb ?_|refine Jc ?_|refine Jd ?_|refine Je ?_|refine Jf ?_|refine Jg ?_|refine Jh ?_|refine Ji ?_|refine Jj ?_|refine Jk ?_|refine Jl ?_|refine Jm ?_|refine Jn ?_|refine Jo ?_|refine Jp ?_|refine Jq ?_|refine Jr ?_|refine Js ?_|refine Jt ?_|refine k1 ?_|refine ke fun _ => ?_|refine k2 ?_|refine kg ?_|refine kf ?_|refine k3 ?_|refine k4 ?_|refine kn ?_|refine Ju ?_|refine k5 ?_|refine k6 ?_|refine k7 ?_|refine k8 ?_|refine k9 ?_|refine ka ?_|refine kb ?_|refine kl ?_|refine km ?_|refine kc ?_|refine kd ?_|exact Jv)
  refine Fin.mk' (p, q, vw) trivial ?_
  repeat ((conv=>whnf);with_reducible first|refine Ja ?_|refine Jb ?_|refine Jc ?_|refine Jd ?_|refine Je ?_|refine Jf ?_|refine Jg ?_|refine Jh ?_|refine Ji ?_|refine Jj ?_|refine Jk ?_|refine Jl ?_|refine Jm ?_|refine Jn ?_|refine Jo ?_|refine Jp ?_|refine Jq ?_|refine Jr ?_|refine Js ?_|refine Jt ?_|refine k1 ?_|refine ke fun _ => ?_|refine k2 ?_|refine kg ?_|refine kf ?_|refine k3 ?_|refine k4 ?_|refine kn ?_|refine Ju ?_|refine k5 ?_|refine k6 ?_|refine k7 ?_|refine k8 ?_|refine k9 ?_|refine ka ?_|refine kb ?_|refine kl ?_|refine km ?_|refine kc ?_|refine kd ?_|exact Jv)
theorem rwrite_bad (P : List Str) (Q : List OpT) (l : Int) (m : BitVec 64) (V : List OpT) (n : Int) (pp : Int) (s : Str) (hs : s.length ≤ 1000000) (hp : P.length ≤ 10000) (h : ¬ (inP P pp ∧ s.length = 256)) :
    Ctr R 42 [va (rC most p q sv vw l m false n), vi pp, vs s] [rP p P, rQ q Q, rV vw V] (fun _ : SV × SV × SV => True)
      (fun z => .tup [.agg (rC most z.1 z.2.1 sv z.2.2 l m false n), .one (.int .i64 4)]) (fun z => [rP z.1 P, rQ z.2.1 Q, rV z.2.2 V]) := by
  refine Ctr.of Try.func42 rfl (by kernel_rfl) rfl fun _ _ w0 => ?_
  by_cases h0 : pp < 0
  · repeat ((conv=>whnf);with_reducible first|refine Ja ?_|refine Jb ?_|refine Jc ?_|refine Jd ?_|refine Je ?_|refine Jf ?_|refine Jg ?_|refine Jh ?_|refine Ji ?_|refine Jj ?_|refine Jk ?_|refine Jl ?_|refine Jm ?_|refine Jn ?_|refine Jo ?_|refine Jp ?_|refine Jq ?_|refine Jr ?_|refine Js ?_|refine Jt ?_|refine k1 ?_|refine ke fun _ => ?_|refine k2 ?_|refine kg ?_|refine kf ?_|refine k3 ?_|refine k4 ?_|refine kn ?_|refine Ju ?_|refine k5 ?_|refine k6 ?_|refine k7 ?_|refine k8 ?_|refine k9 ?_|refine ka ?_|refine kb ?_|refine kl ?_|refine km ?_|refine kc ?_|refine kd ?_|exact Jv)
    refine Fin.mk' (p, q, vw) trivial ?_
    repeat ((conv=>whnf);with_reducible first|refine Ja ?_|refine Jb ?_|refine Jc ?_|refine Jd ?_|refine Je ?_|refine Jf ?_|refine Jg ?_|refine Jh ?_|refine Ji ?_|refine Jj ?_|refine Jk ?_|refine Jl ?_|refine Jm ?_|refine Jn ?_|refine Jo ?_|refine Jp ?_|refine Jq ?_|refine Jr ?_|refine Js ?_|refine Jt ?_|refine k1 ?_|refine ke fun _ => ?_|refine k2 ?_|refine kg ?_|refine kf ?_|refine k3 ?_|refine k4 ?_|refine kn ?_|refine Ju ?_|refine k5 ?_|refine k6 ?_|refine k7 ?_|refine k8 ?_|refine k9 ?_|refine ka ?_|refine kb ?_|refine kl ?_|refine km ?_|refine kc ?_|refine kd ?_|exact Jv)
  · by_cases h1 : (P.length : Int) ≤ pp
    · repeat ((conv=>whnf);with_reducible first|refine Ja ?_|refine Jb ?_|refine Jc ?_|refine Jd ?_|refine Je ?_|refine Jf ?_|refine Jg ?_|refine Jh ?_|refine Ji ?_|refine Jj ?_|refine Jk ?_|refine Jl ?_|refine Jm ?_|refine Jn ?_|refine Jo ?_|refine Jp ?_|refine Jq ?_|refine Jr ?_|refine Js ?_|refine Jt ?_|refine k1 ?_|refine ke fun _ => ?_|refine k2 ?_|refine kg ?_|refine kf ?_|refine k3 ?_|refine k4 ?_|refine kn ?_|refine Ju ?_|refine k5 ?_|refine k6 ?_|refine k7 ?_|refine k8 ?_|refine k9 ?_|refine ka ?_|refine kb ?_|refine kl ?_|refine km ?_|refine kc ?_|refine kd ?_|exact Jv)
      refine Fin.mk' (p, q, vw) trivial ?_
      repeat ((conv=>whnf);with_reducible first|refine Ja ?_|refine Jb ?_|refine Jc ?_|refine Jd ?_|refine Je ?_|refine Jf ?_|refine Jg ?_|refine Jh ?_|refine Ji ?_|refine Jj ?_|refine Jk ?_|refine Jl ?_|refine Jm ?_|refine Jn ?_|refine Jo ?_|refine Jp ?_|refine Jq ?_|refine Jr ?_|refine Js ?_|refine Jt ?_|refine k1 ?_|refine ke fun _ => ?_|refine k2 ?_|refine kg ?_|refine kf ?_|refine k3 ?_|refine k4 ?_|refine kn ?_|refine Ju ?_|refine k5 ?_|refine k6 ?_|refine k7 ?_|refine k8 ?_|refine k9 ?_|refine ka ?_|refine kb ?_|refine kl ?_|refine km ?_|refine kc ?_|refine kd ?_|exact Jv)
    · have h3 : ¬ s.length = 256 := fun e => h ⟨⟨by omega, by omega⟩, e⟩
      repeat ((conv=>whnf);with_reducible first|refine Ja ?_|refine Jb ?_|refine Jc ?_|refine Jd ?_|refine Je ?_|refine Jf ?_|refine Jg ?_|refine Jh ?_|refine Ji ?_|refine Jj ?_|refine Jk ?_|refine Jl ?_|refine Jm ?_|refine Jn ?_|refine Jo ?_|refine Jp ?_|refine Jq ?_|refine Jr ?_|refine Js ?_|refine Jt ?_|refine k1 ?_|refine ke fun _ => ?_|refine k2 ?_|refine kg ?_|refine kf ?_|refine k3 ?_|refine k4 ?_|refine kn ?_|refine Ju ?_|refine k5 ?_|refine k6 ?_|refine k7 ?_|refine k8 ?_|refine k9 ?_|refine ka ?_|refine kb ?_|refine kl ?_|refine km ?_|refine kc ?_|refine kd ?_|exact Jv)
      refine Fin.mk' (p, q, vw) trivial ?_
      repeat ((conv=>whnf);with_reducible first|refine Ja ?_|refine Jb ?_|refine Jc ?_|refine Jd ?_|refine Je ?_|refine Jf ?_|refine Jg ?_|refine Jh ?_|refine Ji ?_|refine Jj ?_|refine Jk ?_|refine Jl ?_|refine Jm ?_|refine Jn ?_|refine Jo ?_|refine Jp ?_|refine Jq ?_|refine Jr ?_|refine Js ?_|refine Jt ?_|refine k1 ?_|refine ke fun _ => ?_|refine k2 ?_|refine kg ?_|refine kf ?_|refine k3 ?_|refine k4 ?_|refine kn ?_|refine Ju ?_|refine k5 ?_|refine k6 ?_|refine k7 ?_|refine k8 ?_|refine k9 ?_|refine ka ?_|refine kb ?_|refine kl ?_|refine km ?_|refine kc ?_|refine kd ?_|exact Jv)
theorem rwrite_ok (d : DS) (hd : DOk most d) (pp : Int) (s : Str) (hs : s.length ≤ 1000000) :
    Ctr R 42 [va (dA d most p q sv vw), vi pp, vs s] [rP p d.P, rQ q d.Q, rV vw d.V] (fun _ : SV × SV × SV => True)
      (fun z => .tup [.agg (rA (writeD most d pp s).1 most sv z), .one (.int .i64 (writeD most d pp s).2)]) (fun z => rAll (writeD most d pp s).1 z) := by
  obtain ⟨P, Q, l, m, c, S, V, n⟩ := d
  obtain ⟨hq, hql, ⟨hm1, hm2⟩, hl, hv, hn, hp⟩ := hd
  dsimp only at hq hql hl hv hn hp
  cases c with
  | true =>
    rw [show writeD most ⟨P, Q, l, m, true, S, V, n⟩ pp s = (⟨P, Q, l, m, true, S, V, n⟩, 11) from rfl]
    exact rwrite_dead most p q sv vw P Q l m V n pp s
  | false =>
    by_cases h : inP P pp ∧ s.length = 256
    · obtain ⟨hin, h3⟩ := h
      by_cases hl0 : l = 0
      · subst hl0
        rw [show writeD most ⟨P, Q, 0, m, false, S, V, n⟩ pp s = (⟨crashP m 0 P Q, [], -1, m, true, S, V, n⟩, 11) by
          unfold writeD; rw [if_neg (by simp), if_neg (by simp only [hin, h3]; simp), if_pos rfl]; rfl]
        exact rwrite_stop most p q sv vw P Q m V n pp s hin.1 hin.2 h3 hp hq (by omega)
      · have e1 : writeD most ⟨P, Q, l, m, false, S, V, n⟩ pp s = (putD most (goD ⟨P, Q, l, m, false, S, V, n⟩ (1, pp, s)) (1, pp, s), 0) := by
          unfold writeD; rw [if_neg (by simp), if_neg (by simp only [hin, h3]; simp), if_neg hl0]
        by_cases hr : Q.length < most
        · have e2 : putD most (goD ⟨P, Q, l, m, false, S, V, n⟩ (1, pp, s)) (1, pp, s) = ⟨P, Q ++ [(1, pp, s)], max (-1) (l - 1), m, false, S, V ++ [(1, pp, s)], n + 1⟩ := by
            cases Q with
            | nil => rfl
            | cons y r => unfold putD goD; dsimp only; rw [if_pos (by simpa using hr)]
          rw [e1, e2]
          exact rwrite_room most p q sv vw P Q l m V n pp s hin.1 hin.2 h3 hp hl0 hl hv hn hr hm2
        · obtain ⟨y, r, rfl⟩ : ∃ y r, Q = y :: r := by
            cases Q with
            | nil => simp at hr; omega
            | cons y r => exact ⟨y, r, rfl⟩
          have e2 : putD most (goD ⟨P, y :: r, l, m, false, S, V, n⟩ (1, pp, s)) (1, pp, s) = ⟨putP P y, r ++ [(1, pp, s)], max (-1) (l - 1), m, false, S, V ++ [(1, pp, s)], n + 1⟩ := by
            unfold putD goD; dsimp only; rw [if_neg (by simpa using hr)]
          rw [e1, e2]
          exact rwrite_full most p q sv vw P r l m V n pp s hin.1 hin.2 h3 hp hl0 hl hv hn y hq.head (by simp only [List.length_cons] at hql hr; omega) hm2
    · rw [show writeD most ⟨P, Q, l, m, false, S, V, n⟩ pp s = (⟨P, Q, l, m, false, S, V, n⟩, 4) by
        unfold writeD; rw [if_neg (by simp), if_pos h]]
      exact rwrite_bad most p q sv vw P Q l m V n pp s hs hp h
end
end Go.Proofs.Ytchbadngbddmnaa
