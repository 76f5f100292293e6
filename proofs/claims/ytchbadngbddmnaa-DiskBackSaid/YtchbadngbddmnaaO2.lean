/- The laws of the disk: a new disk, with all of its rows; what is fixed. -/
import Derived.Test.YtchbadngbddmnaaO1
set_option linter.unusedVariables false
set_option linter.unusedSimpArgs false
set_option maxRecDepth 10000
set_option maxHeartbeats 8000000
namespace Go.Proofs.Ytchbadngbddmnaa
open Go Go.SY
seal sx sxOps

theorem dnew_all (pages cache : Int) :
    Ctr R 10 [vi pages, vi cache] [] (fun _ : Nat × Nat × SV => True) (fun x => vp 0 x.1)
      (fun x => [dV x.1 x.2.2 x.2.1 (-1) 0 false .nil .nil 0, dP x.2.2 (newP pages), dC x.2.1 (max 1 (min cache 256)).toNat [], dW .nil [], dS .nil [], dG [] []]) := by
  refine Ctr.of Try.func10 rfl (by kernel_rfl) rfl fun _ _ w0 => ?_
  have hrep := drepeat_ok [0] 256 (by omega) (by simp)
  rw [drepeat_one] at hrep
  repeat ((conv=>whnf);with_reducible first|refine Ja ?_|refine Jb ?_|refine Jc ?_|refine Jd ?_|refine Je ?_|refine Jf ?_|refine Jg ?_|refine Jh ?_|refine Ji ?_|refine Jj ?_|refine Jk ?_|refine Jl ?_|refine Jm ?_|refine Jn ?_|refine Jo ?_|refine Jp ?_|refine Jq ?_|refine Jr ?_|refine Js ?_|refine Jt ?_|refine k1 ?_|refine ke fun _ => ?_|refine k2 ?_|refine kg ?_|refine kf ?_|refine k3 ?_|refine k4 ?_|refine kn ?_|refine Ju ?_|refine k5 ?_|refine k6 ?_|refine k7 ?_|refine k8 ?_|refine k9 ?_|refine ka ?_|refine kb ?_|refine kl ?_|refine km ?_|refine kc ?_|refine kd ?_|exact Jv)
  refine CallG.p [] hrep rfl rfl ?_
  repeat ((conv=>whnf);with_reducible first|refine Ja ?_|refine Jb ?_|refine Jc ?_|refine Jd ?_|refine Je ?_|refine Jf ?_|refine Jg ?_|refine Jh ?_|refine Ji ?_|refine Jj ?_|refine Jk ?_|refine Jl ?_|refine Jm ?_|refine Jn ?_|refine Jo ?_|refine Jp ?_|refine Jq ?_|refine Jr ?_|refine Js ?_|refine Jt ?_|refine k1 ?_|refine ke fun _ => ?_|refine k2 ?_|refine kg ?_|refine kf ?_|refine k3 ?_|refine k4 ?_|refine kn ?_|refine Ju ?_|refine k5 ?_|refine k6 ?_|refine k7 ?_|refine k8 ?_|refine k9 ?_|refine ka ?_|refine kb ?_|refine kl ?_|refine km ?_|refine kc ?_|refine kd ?_|exact Jv)
  refine CallG.p [] (clip_ok pages 1 4096) rfl rfl ?_
  repeat ((conv=>whnf);with_reducible first|refine Ja ?_|refine Jb ?_|refine Jc ?_|refine Jd ?_|refine Je ?_|refine Jf ?_|refine Jg ?_|refine Jh ?_|refine Ji ?_|refine Jj ?_|refine Jk ?_|refine Jl ?_|refine Jm ?_|refine Jn ?_|refine Jo ?_|refine Jp ?_|refine Jq ?_|refine Jr ?_|refine Js ?_|refine Jt ?_|refine k1 ?_|refine ke fun _ => ?_|refine k2 ?_|refine kg ?_|refine kf ?_|refine k3 ?_|refine k4 ?_|refine kn ?_|refine Ju ?_|refine k5 ?_|refine k6 ?_|refine k7 ?_|refine k8 ?_|refine k9 ?_|refine ka ?_|refine kb ?_|refine kl ?_|refine km ?_|refine kc ?_|refine kd ?_|exact Jv)
  rename_i b8
  have hc := srepeat_ok (.at b8 0 1 1) (List.replicate 256 0) (max 1 (min pages 4096)).toNat (by omega)
  rw [Int.toNat_of_nonneg (by omega)] at hc
  refine CallG.x [(1, 8)] hc rfl rfl (fun _ => rfl) ?_
  repeat ((conv=>whnf);with_reducible first|refine Ja ?_|refine Jb ?_|refine Jc ?_|refine Jd ?_|refine Je ?_|refine Jf ?_|refine Jg ?_|refine Jh ?_|refine Ji ?_|refine Jj ?_|refine Jk ?_|refine Jl ?_|refine Jm ?_|refine Jn ?_|refine Jo ?_|refine Jp ?_|refine Jq ?_|refine Jr ?_|refine Js ?_|refine Jt ?_|refine k1 ?_|refine ke fun _ => ?_|refine k2 ?_|refine kg ?_|refine kf ?_|refine k3 ?_|refine k4 ?_|refine kn ?_|refine Ju ?_|refine k5 ?_|refine k6 ?_|refine k7 ?_|refine k8 ?_|refine k9 ?_|refine ka ?_|refine kb ?_|refine kl ?_|refine km ?_|refine kc ?_|refine kd ?_|exact Jv)
  intro z
  repeat ((conv=>whnf);with_reducible first|refine Ja ?_|refine Jb ?_|refine Jc ?_|refine Jd ?_|refine Je ?_|refine Jf ?_|refine Jg ?_|refine Jh ?_|refine Ji ?_|refine Jj ?_|refine Jk ?_|refine Jl ?_|refine Jm ?_|refine Jn ?_|refine Jo ?_|refine Jp ?_|refine Jq ?_|refine Jr ?_|refine Js ?_|refine Jt ?_|refine k1 ?_|refine ke fun _ => ?_|refine k2 ?_|refine kg ?_|refine kf ?_|refine k3 ?_|refine k4 ?_|refine kn ?_|refine Ju ?_|refine k5 ?_|refine k6 ?_|refine k7 ?_|refine k8 ?_|refine k9 ?_|refine ka ?_|refine kb ?_|refine kl ?_|refine km ?_|refine kc ?_|refine kd ?_|exact Jv)
  refine CallG.p [] (clip_ok cache 1 256) rfl rfl ?_
  repeat ((conv=>whnf);with_reducible first|refine Ja ?_|refine Jb ?_|refine Jc ?_|refine Jd ?_|refine Je ?_|refine Jf ?_|refine Jg ?_|refine Jh ?_|refine Ji ?_|refine Jj ?_|refine Jk ?_|refine Jl ?_|refine Jm ?_|refine Jn ?_|refine Jo ?_|refine Jp ?_|refine Jq ?_|refine Jr ?_|refine Js ?_|refine Jt ?_|refine k1 ?_|refine ke fun _ => ?_|refine k2 ?_|refine kg ?_|refine kf ?_|refine k3 ?_|refine k4 ?_|refine kn ?_|refine Ju ?_|refine k5 ?_|refine k6 ?_|refine k7 ?_|refine k8 ?_|refine k9 ?_|refine ka ?_|refine kb ?_|refine kl ?_|refine km ?_|refine kc ?_|refine kd ?_|exact Jv)
  refine OpG.makeChan (dir := .both) (te := 68) (n := max 1 (min cache 256)) (by_ := 32) (.st opS) rfl rfl rfl (by kernel_rfl) (by kernel_rfl) rfl ⟨by omega, by omega, by omega⟩ ?_
  intro cb
  repeat ((conv=>whnf);with_reducible first|refine Ja ?_|refine Jb ?_|refine Jc ?_|refine Jd ?_|refine Je ?_|refine Jf ?_|refine Jg ?_|refine Jh ?_|refine Ji ?_|refine Jj ?_|refine Jk ?_|refine Jl ?_|refine Jm ?_|refine Jn ?_|refine Jo ?_|refine Jp ?_|refine Jq ?_|refine Jr ?_|refine Js ?_|refine Jt ?_|refine k1 ?_|refine ke fun _ => ?_|refine k2 ?_|refine kg ?_|refine kf ?_|refine k3 ?_|refine k4 ?_|refine kn ?_|refine Ju ?_|refine k5 ?_|refine k6 ?_|refine k7 ?_|refine k8 ?_|refine k9 ?_|refine ka ?_|refine kb ?_|refine kl ?_|refine km ?_|refine kc ?_|refine kd ?_|exact Jv)
  rename_i b
  refine Fin.ghost (Ghost.none 5 (.sc .str)) ?_
  refine Fin.ren [(16, 0), (30, 1), (14, 2)] [5, 16, 30, 14] (b, cb, z) trivial ?_
  refine ⟨rfl, ?_⟩
  ((repeat ((conv=>whnf);with_reducible first|refine Ja ?_|refine Jb ?_|refine Jc ?_|refine Jd ?_|refine Je ?_|refine Jf ?_|refine Jg ?_|refine Jh ?_|refine Ji ?_|refine Jj ?_|refine Jk ?_|refine Jl ?_|refine Jm ?_|refine Jn ?_|refine Jo ?_|refine Jp ?_|refine Jq ?_|refine Jr ?_|refine Js ?_|refine Jt ?_|refine k1 ?_|refine ke fun _ => ?_|refine k2 ?_|refine kg ?_|refine kf ?_|refine k3 ?_|refine k4 ?_|refine kn ?_|refine Ju ?_|refine k5 ?_|refine k6 ?_|refine k7 ?_|refine k8 ?_|refine k9 ?_|refine ka ?_|refine kb ?_|refine kl ?_|refine km ?_|refine kc ?_|refine kd ?_|exact Jv)); (repeat (refine Chk.mk rfl ?_; (repeat ((conv=>whnf);with_reducible first|refine Ja ?_|refine Jb ?_|refine Jc ?_|refine Jd ?_|refine Je ?_|refine Jf ?_|refine Jg ?_|refine Jh ?_|refine Ji ?_|refine Jj ?_|refine Jk ?_|refine Jl ?_|refine Jm ?_|refine Jn ?_|refine Jo ?_|refine Jp ?_|refine Jq ?_|refine Jr ?_|refine Js ?_|refine Jt ?_|refine k1 ?_|refine ke fun _ => ?_|refine k2 ?_|refine kg ?_|refine kf ?_|refine k3 ?_|refine k4 ?_|refine kn ?_|refine Ju ?_|refine k5 ?_|refine k6 ?_|refine k7 ?_|refine k8 ?_|refine k9 ?_|refine ka ?_|refine kb ?_|refine kl ?_|refine km ?_|refine kc ?_|refine kd ?_|exact Jv)))))
  refine OwnM.same rfl rfl ?_
  ((repeat ((conv=>whnf);with_reducible first|refine Ja ?_|refine Jb ?_|refine Jc ?_|refine Jd ?_|refine Je ?_|refine Jf ?_|refine Jg ?_|refine Jh ?_|refine Ji ?_|refine Jj ?_|refine Jk ?_|refine Jl ?_|refine Jm ?_|refine Jn ?_|refine Jo ?_|refine Jp ?_|refine Jq ?_|refine Jr ?_|refine Js ?_|refine Jt ?_|refine k1 ?_|refine ke fun _ => ?_|refine k2 ?_|refine kg ?_|refine kf ?_|refine k3 ?_|refine k4 ?_|refine kn ?_|refine Ju ?_|refine k5 ?_|refine k6 ?_|refine k7 ?_|refine k8 ?_|refine k9 ?_|refine ka ?_|refine kb ?_|refine kl ?_|refine km ?_|refine kc ?_|refine kd ?_|exact Jv)); (repeat (refine Chk.mk rfl ?_; (repeat ((conv=>whnf);with_reducible first|refine Ja ?_|refine Jb ?_|refine Jc ?_|refine Jd ?_|refine Je ?_|refine Jf ?_|refine Jg ?_|refine Jh ?_|refine Ji ?_|refine Jj ?_|refine Jk ?_|refine Jl ?_|refine Jm ?_|refine Jn ?_|refine Jo ?_|refine Jp ?_|refine Jq ?_|refine Jr ?_|refine Js ?_|refine Jt ?_|refine k1 ?_|refine ke fun _ => ?_|refine k2 ?_|refine kg ?_|refine kf ?_|refine k3 ?_|refine k4 ?_|refine kn ?_|refine Ju ?_|refine k5 ?_|refine k6 ?_|refine k7 ?_|refine k8 ?_|refine k9 ?_|refine ka ?_|refine kb ?_|refine kl ?_|refine km ?_|refine kc ?_|refine kd ?_|exact Jv)))))

abbrev zT : Str := List.replicate 256 0
abbrev aD0 : DS := ⟨[zT, zT, zT], [], -1, 0, false, [], [], 0⟩
abbrev aD1 (t : Str) (l : Int) (m : BitVec 64) : DS := ⟨[zT, zT, zT], [(1, 1, t)], l, m, false, [], [(1, 1, t)], 1⟩
abbrev aD2 (t : Str) (c : Bool) : DS := ⟨[zT, t, zT], [], -1, 1, c, [], [(1, 1, t)], 1⟩
theorem newP3 : newP 3 = [zT, zT, zT] := rfl
theorem aw1 (t : Str) (h : t.length = 256) : writeD 4 aD0 1 t = (aD1 t (-1) 0, 0) := by
  unfold writeD
  rw [if_neg (by decide), if_neg (not_not_intro ⟨by exact ⟨by decide, by show (1 : Int) < 3; decide⟩, h⟩), if_neg (by decide)]
  rfl
theorem aw2 (t : Str) : flushD (aD1 t 0 1) = (aD2 t true, 11) := by
  unfold flushD
  rw [if_neg (by show ¬ false = true; decide), if_pos (by show (0 : Int) = 0; rfl)]
  unfold crashD
  simp [crashP, putP]
theorem aw3 (t : Str) : readD (aD2 t true) 1 = ([], 11) := rfl
theorem aw4 (t : Str) : readD (aD2 t false) 1 = (t, 0) := rfl
theorem awake_ok : CtrP R 9 [] [] (vb true) := by
  obtain ⟨t, ht⟩ : ∃ t, t = pageR [97] := ⟨_, rfl⟩
  have htl : t.length = 256 := by rw [ht]; exact pageR_length _
  have hpage := page_ok [97] (by decide)
  rw [← ht] at hpage
  have hnew := dnew_all 3 4
  simp only [newP3] at hnew
  refine Ctr.of Try.func9 rfl (by kernel_rfl) rfl fun _ _ w0 => ?_
  repeat ((conv=>whnf);with_reducible first|refine Ja ?_|refine Jb ?_|refine Jc ?_|refine Jd ?_|refine Je ?_|refine Jf ?_|refine Jg ?_|refine Jh ?_|refine Ji ?_|refine Jj ?_|refine Jk ?_|refine Jl ?_|refine Jm ?_|refine Jn ?_|refine Jo ?_|refine Jp ?_|refine Jq ?_|refine Jr ?_|refine Js ?_|refine Jt ?_|refine k1 ?_|refine ke fun _ => ?_|refine k2 ?_|refine kg ?_|refine kf ?_|refine k3 ?_|refine k4 ?_|refine kn ?_|refine Ju ?_|refine k5 ?_|refine k6 ?_|refine k7 ?_|refine k8 ?_|refine k9 ?_|refine ka ?_|refine kb ?_|refine kl ?_|refine km ?_|refine kc ?_|refine kd ?_|exact Jv)
  refine CallG.x [] hnew rfl rfl (fun _ => rfl) ?_
  repeat ((conv=>whnf);with_reducible first|refine Ja ?_|refine Jb ?_|refine Jc ?_|refine Jd ?_|refine Je ?_|refine Jf ?_|refine Jg ?_|refine Jh ?_|refine Ji ?_|refine Jj ?_|refine Jk ?_|refine Jl ?_|refine Jm ?_|refine Jn ?_|refine Jo ?_|refine Jp ?_|refine Jq ?_|refine Jr ?_|refine Js ?_|refine Jt ?_|refine k1 ?_|refine ke fun _ => ?_|refine k2 ?_|refine kg ?_|refine kf ?_|refine k3 ?_|refine k4 ?_|refine kn ?_|refine Ju ?_|refine k5 ?_|refine k6 ?_|refine k7 ?_|refine k8 ?_|refine k9 ?_|refine ka ?_|refine kb ?_|refine kl ?_|refine km ?_|refine kc ?_|refine kd ?_|exact Jv)
  rintro ⟨b, cb, pg⟩
  have h0 : DOk 4 aD0 := ⟨fun y hy => (by cases hy), by show 0 ≤ 4; decide, by decide, by show (-1 : Int) ≤ -1 ∧ (-1 : Int) ≤ 9223372036854775807; decide, by show 0 ≤ 4000; decide, by show (0 : Int) ≤ 0 ∧ (0 : Int) ≤ 1000000000; decide, by show 3 ≤ 10000; decide⟩
  have h1 : DOk 4 (aD1 t 0 1) := ⟨fun y hy => (by rcases List.mem_singleton.1 hy with rfl; exact ⟨by show (0 : Int) ≤ 1; decide, by show (1 : Int) < 3; decide⟩), by show 1 ≤ 4; decide, by decide, by show (-1 : Int) ≤ 0 ∧ (0 : Int) ≤ 9223372036854775807; decide, by show 1 ≤ 4000; decide, by show (0 : Int) ≤ 1 ∧ (1 : Int) ≤ 1000000000; decide, by show 3 ≤ 10000; decide⟩
  have h2 : ∀ c, DOk 4 (aD2 t c) := fun c => ⟨fun y hy => (by cases hy), by show 0 ≤ 4; decide, by decide, by show (-1 : Int) ≤ -1 ∧ (-1 : Int) ≤ 9223372036854775807; decide, by show 1 ≤ 4000; decide, by show (0 : Int) ≤ 1 ∧ (1 : Int) ≤ 1000000000; decide, by show 3 ≤ 10000; decide⟩
  have hw := write_ok b pg cb .nil .nil 4 aD0 h0 1 t (by omega)
  rw [aw1 t htl] at hw
  repeat ((conv=>whnf);with_reducible first|refine Ja ?_|refine Jb ?_|refine Jc ?_|refine Jd ?_|refine Je ?_|refine Jf ?_|refine Jg ?_|refine Jh ?_|refine Ji ?_|refine Jj ?_|refine Jk ?_|refine Jl ?_|refine Jm ?_|refine Jn ?_|refine Jo ?_|refine Jp ?_|refine Jq ?_|refine Jr ?_|refine Js ?_|refine Jt ?_|refine k1 ?_|refine ke fun _ => ?_|refine k2 ?_|refine kg ?_|refine kf ?_|refine k3 ?_|refine k4 ?_|refine kn ?_|refine Ju ?_|refine k5 ?_|refine k6 ?_|refine k7 ?_|refine k8 ?_|refine k9 ?_|refine ka ?_|refine kb ?_|refine kl ?_|refine km ?_|refine kc ?_|refine kd ?_|exact Jv)
  refine CallG.p [] hpage rfl rfl ?_
  repeat ((conv=>whnf);with_reducible first|refine Ja ?_|refine Jb ?_|refine Jc ?_|refine Jd ?_|refine Je ?_|refine Jf ?_|refine Jg ?_|refine Jh ?_|refine Ji ?_|refine Jj ?_|refine Jk ?_|refine Jl ?_|refine Jm ?_|refine Jn ?_|refine Jo ?_|refine Jp ?_|refine Jq ?_|refine Jr ?_|refine Js ?_|refine Jt ?_|refine k1 ?_|refine ke fun _ => ?_|refine k2 ?_|refine kg ?_|refine kf ?_|refine k3 ?_|refine k4 ?_|refine kn ?_|refine Ju ?_|refine k5 ?_|refine k6 ?_|refine k7 ?_|refine k8 ?_|refine k9 ?_|refine ka ?_|refine kb ?_|refine kl ?_|refine km ?_|refine kc ?_|refine kd ?_|exact Jv)
  refine CallG.x [] hw rfl rfl (fun _ => rfl) ?_
  repeat ((conv=>whnf);with_reducible first|refine Ja ?_|refine Jb ?_|refine Jc ?_|refine Jd ?_|refine Je ?_|refine Jf ?_|refine Jg ?_|refine Jh ?_|refine Ji ?_|refine Jj ?_|refine Jk ?_|refine Jl ?_|refine Jm ?_|refine Jn ?_|refine Jo ?_|refine Jp ?_|refine Jq ?_|refine Jr ?_|refine Js ?_|refine Jt ?_|refine k1 ?_|refine ke fun _ => ?_|refine k2 ?_|refine kg ?_|refine kf ?_|refine k3 ?_|refine k4 ?_|refine kn ?_|refine Ju ?_|refine k5 ?_|refine k6 ?_|refine k7 ?_|refine k8 ?_|refine k9 ?_|refine ka ?_|refine kb ?_|refine kl ?_|refine km ?_|refine kc ?_|refine kd ?_|exact Jv)
  intro vw
  repeat ((conv=>whnf);with_reducible first|refine Ja ?_|refine Jb ?_|refine Jc ?_|refine Jd ?_|refine Je ?_|refine Jf ?_|refine Jg ?_|refine Jh ?_|refine Ji ?_|refine Jj ?_|refine Jk ?_|refine Jl ?_|refine Jm ?_|refine Jn ?_|refine Jo ?_|refine Jp ?_|refine Jq ?_|refine Jr ?_|refine Js ?_|refine Jt ?_|refine k1 ?_|refine ke fun _ => ?_|refine k2 ?_|refine kg ?_|refine kf ?_|refine k3 ?_|refine k4 ?_|refine kn ?_|refine Ju ?_|refine k5 ?_|refine k6 ?_|refine k7 ?_|refine k8 ?_|refine k9 ?_|refine ka ?_|refine kb ?_|refine kl ?_|refine km ?_|refine kc ?_|refine kd ?_|exact Jv)
  refine CallG.one [] (arm_ok b pg cb (-1) 0 false .nil vw 1 0 1) rfl rfl ?_
  repeat ((conv=>whnf);with_reducible first|refine Ja ?_|refine Jb ?_|refine Jc ?_|refine Jd ?_|refine Je ?_|refine Jf ?_|refine Jg ?_|refine Jh ?_|refine Ji ?_|refine Jj ?_|refine Jk ?_|refine Jl ?_|refine Jm ?_|refine Jn ?_|refine Jo ?_|refine Jp ?_|refine Jq ?_|refine Jr ?_|refine Js ?_|refine Jt ?_|refine k1 ?_|refine ke fun _ => ?_|refine k2 ?_|refine kg ?_|refine kf ?_|refine k3 ?_|refine k4 ?_|refine kn ?_|refine Ju ?_|refine k5 ?_|refine k6 ?_|refine k7 ?_|refine k8 ?_|refine k9 ?_|refine ka ?_|refine kb ?_|refine kl ?_|refine km ?_|refine kc ?_|refine kd ?_|exact Jv)
  have hf := flush_ok b pg cb .nil vw 4 (aD1 t 0 1) h1
  rw [aw2] at hf
  refine CallG.x [] hf rfl rfl (fun _ => rfl) ?_
  repeat ((conv=>whnf);with_reducible first|refine Ja ?_|refine Jb ?_|refine Jc ?_|refine Jd ?_|refine Je ?_|refine Jf ?_|refine Jg ?_|refine Jh ?_|refine Ji ?_|refine Jj ?_|refine Jk ?_|refine Jl ?_|refine Jm ?_|refine Jn ?_|refine Jo ?_|refine Jp ?_|refine Jq ?_|refine Jr ?_|refine Js ?_|refine Jt ?_|refine k1 ?_|refine ke fun _ => ?_|refine k2 ?_|refine kg ?_|refine kf ?_|refine k3 ?_|refine k4 ?_|refine kn ?_|refine Ju ?_|refine k5 ?_|refine k6 ?_|refine k7 ?_|refine k8 ?_|refine k9 ?_|refine ka ?_|refine kb ?_|refine kl ?_|refine km ?_|refine kc ?_|refine kd ?_|exact Jv)
  intro vw2
  repeat ((conv=>whnf);with_reducible first|refine Ja ?_|refine Jb ?_|refine Jc ?_|refine Jd ?_|refine Je ?_|refine Jf ?_|refine Jg ?_|refine Jh ?_|refine Ji ?_|refine Jj ?_|refine Jk ?_|refine Jl ?_|refine Jm ?_|refine Jn ?_|refine Jo ?_|refine Jp ?_|refine Jq ?_|refine Jr ?_|refine Js ?_|refine Jt ?_|refine k1 ?_|refine ke fun _ => ?_|refine k2 ?_|refine kg ?_|refine kf ?_|refine k3 ?_|refine k4 ?_|refine kn ?_|refine Ju ?_|refine k5 ?_|refine k6 ?_|refine k7 ?_|refine k8 ?_|refine k9 ?_|refine ka ?_|refine kb ?_|refine kl ?_|refine km ?_|refine kc ?_|refine kd ?_|exact Jv)
  have hr := read_ok b pg cb .nil vw2 4 (aD2 t true) (h2 _) 1
  rw [aw3] at hr
  refine CallG.one [] hr rfl rfl ?_
  repeat ((conv=>whnf);with_reducible first|refine Ja ?_|refine Jb ?_|refine Jc ?_|refine Jd ?_|refine Je ?_|refine Jf ?_|refine Jg ?_|refine Jh ?_|refine Ji ?_|refine Jj ?_|refine Jk ?_|refine Jl ?_|refine Jm ?_|refine Jn ?_|refine Jo ?_|refine Jp ?_|refine Jq ?_|refine Jr ?_|refine Js ?_|refine Jt ?_|refine k1 ?_|refine ke fun _ => ?_|refine k2 ?_|refine kg ?_|refine kf ?_|refine k3 ?_|refine k4 ?_|refine kn ?_|refine Ju ?_|refine k5 ?_|refine k6 ?_|refine k7 ?_|refine k8 ?_|refine k9 ?_|refine ka ?_|refine kb ?_|refine kl ?_|refine km ?_|refine kc ?_|refine kd ?_|exact Jv)
  refine CallG.x [] (start_ok b pg cb (-1) 1 true .nil vw2 1 [] 4 (by decide)) rfl rfl (fun _ => rfl) ?_
  repeat ((conv=>whnf);with_reducible first|refine Ja ?_|refine Jb ?_|refine Jc ?_|refine Jd ?_|refine Je ?_|refine Jf ?_|refine Jg ?_|refine Jh ?_|refine Ji ?_|refine Jj ?_|refine Jk ?_|refine Jl ?_|refine Jm ?_|refine Jn ?_|refine Jo ?_|refine Jp ?_|refine Jq ?_|refine Jr ?_|refine Js ?_|refine Jt ?_|refine k1 ?_|refine ke fun _ => ?_|refine k2 ?_|refine kg ?_|refine kf ?_|refine k3 ?_|refine k4 ?_|refine kn ?_|refine Ju ?_|refine k5 ?_|refine k6 ?_|refine k7 ?_|refine k8 ?_|refine k9 ?_|refine ka ?_|refine kb ?_|refine kl ?_|refine km ?_|refine kc ?_|refine kd ?_|exact Jv)
  intro cb2
  repeat ((conv=>whnf);with_reducible first|refine Ja ?_|refine Jb ?_|refine Jc ?_|refine Jd ?_|refine Je ?_|refine Jf ?_|refine Jg ?_|refine Jh ?_|refine Ji ?_|refine Jj ?_|refine Jk ?_|refine Jl ?_|refine Jm ?_|refine Jn ?_|refine Jo ?_|refine Jp ?_|refine Jq ?_|refine Jr ?_|refine Js ?_|refine Jt ?_|refine k1 ?_|refine ke fun _ => ?_|refine k2 ?_|refine kg ?_|refine kf ?_|refine k3 ?_|refine k4 ?_|refine kn ?_|refine Ju ?_|refine k5 ?_|refine k6 ?_|refine k7 ?_|refine k8 ?_|refine k9 ?_|refine ka ?_|refine kb ?_|refine kl ?_|refine km ?_|refine kc ?_|refine kd ?_|exact Jv)
  have hr := read_ok b pg cb2 .nil vw2 4 (aD2 t false) (h2 _) 1
  rw [aw4] at hr
  refine CallG.one [] hr rfl rfl ?_
  repeat ((conv=>whnf);with_reducible first|refine Ja ?_|refine Jb ?_|refine Jc ?_|refine Jd ?_|refine Je ?_|refine Jf ?_|refine Jg ?_|refine Jh ?_|refine Ji ?_|refine Jj ?_|refine Jk ?_|refine Jl ?_|refine Jm ?_|refine Jn ?_|refine Jo ?_|refine Jp ?_|refine Jq ?_|refine Jr ?_|refine Js ?_|refine Jt ?_|refine k1 ?_|refine ke fun _ => ?_|refine k2 ?_|refine kg ?_|refine kf ?_|refine k3 ?_|refine k4 ?_|refine kn ?_|refine Ju ?_|refine k5 ?_|refine k6 ?_|refine k7 ?_|refine k8 ?_|refine k9 ?_|refine ka ?_|refine kb ?_|refine kl ?_|refine km ?_|refine kc ?_|refine kd ?_|exact Jv)
  refine CallG.p [] hpage rfl rfl ?_
  repeat ((conv=>whnf);with_reducible first|refine Ja ?_|refine Jb ?_|refine Jc ?_|refine Jd ?_|refine Je ?_|refine Jf ?_|refine Jg ?_|refine Jh ?_|refine Ji ?_|refine Jj ?_|refine Jk ?_|refine Jl ?_|refine Jm ?_|refine Jn ?_|refine Jo ?_|refine Jp ?_|refine Jq ?_|refine Jr ?_|refine Js ?_|refine Jt ?_|refine k1 ?_|refine ke fun _ => ?_|refine k2 ?_|refine kg ?_|refine kf ?_|refine k3 ?_|refine k4 ?_|refine kn ?_|refine Ju ?_|refine k5 ?_|refine k6 ?_|refine k7 ?_|refine k8 ?_|refine k9 ?_|refine ka ?_|refine kb ?_|refine kl ?_|refine km ?_|refine kc ?_|refine kd ?_|exact Jv)
  refine CallG.one [] (pages_ok b pg cb2 (-1) 1 false .nil vw2 1 [zT, t, zT]) rfl rfl ?_
  repeat ((conv=>whnf);with_reducible first|refine Ja ?_|refine Jb ?_|refine Jc ?_|refine Jd ?_|refine Je ?_|refine Jf ?_|refine Jg ?_|refine Jh ?_|refine Ji ?_|refine Jj ?_|refine Jk ?_|refine Jl ?_|refine Jm ?_|refine Jn ?_|refine Jo ?_|refine Jp ?_|refine Jq ?_|refine Jr ?_|refine Js ?_|refine Jt ?_|refine k1 ?_|refine ke fun _ => ?_|refine k2 ?_|refine kg ?_|refine kf ?_|refine k3 ?_|refine k4 ?_|refine kn ?_|refine Ju ?_|refine k5 ?_|refine k6 ?_|refine k7 ?_|refine k8 ?_|refine k9 ?_|refine ka ?_|refine kb ?_|refine kl ?_|refine km ?_|refine kc ?_|refine kd ?_|exact Jv)
  refine Fin.mk' () trivial ?_
  ((repeat ((conv=>whnf);with_reducible first|refine Ja ?_|refine Jb ?_|refine Jc ?_|refine Jd ?_|refine Je ?_|refine Jf ?_|refine Jg ?_|refine Jh ?_|refine Ji ?_|refine Jj ?_|refine Jk ?_|refine Jl ?_|refine Jm ?_|refine Jn ?_|refine Jo ?_|refine Jp ?_|refine Jq ?_|refine Jr ?_|refine Js ?_|refine Jt ?_|refine k1 ?_|refine ke fun _ => ?_|refine k2 ?_|refine kg ?_|refine kf ?_|refine k3 ?_|refine k4 ?_|refine kn ?_|refine Ju ?_|refine k5 ?_|refine k6 ?_|refine k7 ?_|refine k8 ?_|refine k9 ?_|refine ka ?_|refine kb ?_|refine kl ?_|refine km ?_|refine kc ?_|refine kd ?_|exact Jv)); (repeat (refine Chk.mk rfl ?_; (repeat ((conv=>whnf);with_reducible first|refine Ja ?_|refine Jb ?_|refine Jc ?_|refine Jd ?_|refine Je ?_|refine Jf ?_|refine Jg ?_|refine Jh ?_|refine Ji ?_|refine Jj ?_|refine Jk ?_|refine Jl ?_|refine Jm ?_|refine Jn ?_|refine Jo ?_|refine Jp ?_|refine Jq ?_|refine Jr ?_|refine Js ?_|refine Jt ?_|refine k1 ?_|refine ke fun _ => ?_|refine k2 ?_|refine kg ?_|refine kf ?_|refine k3 ?_|refine k4 ?_|refine kn ?_|refine Ju ?_|refine k5 ?_|refine k6 ?_|refine k7 ?_|refine k8 ?_|refine k9 ?_|refine ka ?_|refine kb ?_|refine kl ?_|refine km ?_|refine kc ?_|refine kd ?_|exact Jv)))))
end Go.Proofs.Ytchbadngbddmnaa
