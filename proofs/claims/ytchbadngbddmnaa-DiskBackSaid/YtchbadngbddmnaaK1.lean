/- Functions that package disk leans on: copies of rows, a text again and again. -/
import Derived.Test.YtchbadngbddmnaaB
import Derived.Test.YtchbadngbddmnaaShelf
import Derived.Test.YtchbadngbddmnaaSy4
set_option linter.unusedVariables false
set_option linter.unusedSimpArgs false
set_option maxRecDepth 10000
set_option maxHeartbeats 1000000
namespace Go.Proofs.Ytchbadngbddmnaa
open Go Go.SY
seal sx sxOps

theorem clip_ok (n lo hi : Int) : CtrP R 34 [vi n, vi lo, vi hi] [] (vi (max lo (min n hi))) := by
  refine Ctr.of Try.func34 rfl (by kernel_rfl) rfl fun _ _ w0 => ?_
  repeat ((conv=>whnf);with_reducible first|refine Ja ?_|refine Jb ?_|refine Jc ?_|refine Jd ?_|refine Je ?_|refine Jf ?_|refine Jg ?_|refine Jh ?_|refine Ji ?_|refine Jj ?_|refine Jk ?_|refine Jl ?_|refine Jm ?_|refine Jn ?_|refine Jo ?_|refine Jp ?_|refine Jq ?_|refine Jr ?_|refine Js ?_|refine Jt ?_|refine k1 ?_|refine ke fun _ => ?_|refine k2 ?_|refine kg ?_|refine kf ?_|refine k3 ?_|refine k4 ?_|refine kn ?_|refine Ju ?_|refine k5 ?_|refine k6 ?_|refine k7 ?_|refine k8 ?_|refine k9 ?_|refine ka ?_|refine kb ?_|refine kl ?_|refine km ?_|refine kc ?_|refine kd ?_|exact Jv)
  refine Fin.pure ?_
  ((repeat ((conv=>whnf);with_reducible first|refine Ja ?_|refine Jb ?_|refine Jc ?_|refine Jd ?_|refine Je ?_|refine Jf ?_|refine Jg ?_|refine Jh ?_|refine Ji ?_|refine Jj ?_|refine Jk ?_|refine Jl ?_|refine Jm ?_|refine Jn ?_|refine Jo ?_|refine Jp ?_|refine Jq ?_|refine Jr ?_|refine Js ?_|refine Jt ?_|refine k1 ?_|refine ke fun _ => ?_|refine k2 ?_|refine kg ?_|refine kf ?_|refine k3 ?_|refine k4 ?_|refine kn ?_|refine Ju ?_|refine k5 ?_|refine k6 ?_|refine k7 ?_|refine k8 ?_|refine k9 ?_|refine ka ?_|refine kb ?_|refine kl ?_|refine km ?_|refine kc ?_|refine kd ?_|exact Jv)); (repeat (refine Chk.mk rfl ?_; (repeat ((conv=>whnf);with_reducible first|refine Ja ?_|refine Jb ?_|refine Jc ?_|refine Jd ?_|refine Je ?_|refine Jf ?_|refine Jg ?_|refine Jh ?_|refine Ji ?_|refine Jj ?_|refine Jk ?_|refine Jl ?_|refine Jm ?_|refine Jn ?_|refine Jo ?_|refine Jp ?_|refine Jq ?_|refine Jr ?_|refine Js ?_|refine Jt ?_|refine k1 ?_|refine ke fun _ => ?_|refine k2 ?_|refine kg ?_|refine kf ?_|refine k3 ?_|refine k4 ?_|refine kn ?_|refine Ju ?_|refine k5 ?_|refine k6 ?_|refine k7 ?_|refine k8 ?_|refine k9 ?_|refine ka ?_|refine kb ?_|refine kl ?_|refine km ?_|refine kc ?_|refine kd ?_|exact Jv)))))
theorem sclone_ok (x : SV) (L : List Str) (hL : L.length ≤ 1000000) :
    Ctr R 39 [vl 1 x] [(1, x.blk, .view (.sc .str) x L)] (fun _ : SV => True) (fun z => vl 5 z) (fun z => [(5, z.blk, .own 9 (.sc .str) z L)]) := by
  refine Ctr.told (p := x = .nil → L = []) ⟨_, Try.func39, by kernel_rfl, by kernel_rfl⟩ (fun w hw => ?_) fun hx => ?_
  · rintro rfl
    exact (hw.is 1 _ (.view (.sc .str) .nil L) rfl).2
  refine Ctr.of Try.func39 rfl (by kernel_rfl) rfl fun _ _ w0 => ?_
  cases x with
  | nil =>
    repeat ((conv=>whnf);with_reducible first|refine Ja ?_|refine Jb ?_|refine Jc ?_|refine Jd ?_|refine Je ?_|refine Jf ?_|refine Jg ?_|refine Jh ?_|refine Ji ?_|refine Jj ?_|refine Jk ?_|refine Jl ?_|refine Jm ?_|refine Jn ?_|refine Jo ?_|refine Jp ?_|refine Jq ?_|refine Jr ?_|refine Js ?_|refine Jt ?_|refine k1 ?_|refine ke fun _ => ?_|refine k2 ?_|refine kg ?_|refine kf ?_|refine k3 ?_|refine k4 ?_|refine kn ?_|refine Ju ?_|refine k5 ?_|refine k6 ?_|refine k7 ?_|refine k8 ?_|refine k9 ?_|refine ka ?_|refine kb ?_|refine kl ?_|refine km ?_|refine kc ?_|refine kd ?_|exact Jv)
    refine Fin.mk' .nil trivial ?_
    repeat ((conv=>whnf);with_reducible first|refine Ja ?_|refine Jb ?_|refine Jc ?_|refine Jd ?_|refine Je ?_|refine Jf ?_|refine Jg ?_|refine Jh ?_|refine Ji ?_|refine Jj ?_|refine Jk ?_|refine Jl ?_|refine Jm ?_|refine Jn ?_|refine Jo ?_|refine Jp ?_|refine Jq ?_|refine Jr ?_|refine Js ?_|refine Jt ?_|refine k1 ?_|refine ke fun _ => ?_|refine k2 ?_|refine kg ?_|refine kf ?_|refine k3 ?_|refine k4 ?_|refine kn ?_|refine Ju ?_|refine k5 ?_|refine k6 ?_|refine k7 ?_|refine k8 ?_|refine k9 ?_|refine ka ?_|refine kb ?_|refine kl ?_|refine km ?_|refine kc ?_|refine kd ?_|exact Jv)
    refine Chk.mk ⟨rfl, hx rfl⟩ ?_
    repeat ((conv=>whnf);with_reducible first|refine Ja ?_|refine Jb ?_|refine Jc ?_|refine Jd ?_|refine Je ?_|refine Jf ?_|refine Jg ?_|refine Jh ?_|refine Ji ?_|refine Jj ?_|refine Jk ?_|refine Jl ?_|refine Jm ?_|refine Jn ?_|refine Jo ?_|refine Jp ?_|refine Jq ?_|refine Jr ?_|refine Js ?_|refine Jt ?_|refine k1 ?_|refine ke fun _ => ?_|refine k2 ?_|refine kg ?_|refine kf ?_|refine k3 ?_|refine k4 ?_|refine kn ?_|refine Ju ?_|refine k5 ?_|refine k6 ?_|refine k7 ?_|refine k8 ?_|refine k9 ?_|refine ka ?_|refine kb ?_|refine kl ?_|refine km ?_|refine kc ?_|refine kd ?_|exact Jv)
  | «at» b o len cap =>
    repeat ((conv=>whnf);with_reducible first|refine Ja ?_|refine Jb ?_|refine Jc ?_|refine Jd ?_|refine Je ?_|refine Jf ?_|refine Jg ?_|refine Jh ?_|refine Ji ?_|refine Jj ?_|refine Jk ?_|refine Jl ?_|refine Jm ?_|refine Jn ?_|refine Jo ?_|refine Jp ?_|refine Jq ?_|refine Jr ?_|refine Js ?_|refine Jt ?_|refine k1 ?_|refine ke fun _ => ?_|refine k2 ?_|refine kg ?_|refine kf ?_|refine k3 ?_|refine k4 ?_|refine kn ?_|refine Ju ?_|refine k5 ?_|refine k6 ?_|refine k7 ?_|refine k8 ?_|refine k9 ?_|refine ka ?_|refine kb ?_|refine kl ?_|refine km ?_|refine kc ?_|refine kd ?_|exact Jv)
    rename_i z
    refine Fin.mk' z trivial ?_
    repeat ((conv=>whnf);with_reducible first|refine Ja ?_|refine Jb ?_|refine Jc ?_|refine Jd ?_|refine Je ?_|refine Jf ?_|refine Jg ?_|refine Jh ?_|refine Ji ?_|refine Jj ?_|refine Jk ?_|refine Jl ?_|refine Jm ?_|refine Jn ?_|refine Jo ?_|refine Jp ?_|refine Jq ?_|refine Jr ?_|refine Js ?_|refine Jt ?_|refine k1 ?_|refine ke fun _ => ?_|refine k2 ?_|refine kg ?_|refine kf ?_|refine k3 ?_|refine k4 ?_|refine kn ?_|refine Ju ?_|refine k5 ?_|refine k6 ?_|refine k7 ?_|refine k8 ?_|refine k9 ?_|refine ka ?_|refine kb ?_|refine kl ?_|refine km ?_|refine kc ?_|refine kd ?_|exact Jv)
    refine OwnM.same rfl (List.nil_append L) ?_
    repeat ((conv=>whnf);with_reducible first|refine Ja ?_|refine Jb ?_|refine Jc ?_|refine Jd ?_|refine Je ?_|refine Jf ?_|refine Jg ?_|refine Jh ?_|refine Ji ?_|refine Jj ?_|refine Jk ?_|refine Jl ?_|refine Jm ?_|refine Jn ?_|refine Jo ?_|refine Jp ?_|refine Jq ?_|refine Jr ?_|refine Js ?_|refine Jt ?_|refine k1 ?_|refine ke fun _ => ?_|refine k2 ?_|refine kg ?_|refine kf ?_|refine k3 ?_|refine k4 ?_|refine kn ?_|refine Ju ?_|refine k5 ?_|refine k6 ?_|refine k7 ?_|refine k8 ?_|refine k9 ?_|refine ka ?_|refine kb ?_|refine kl ?_|refine km ?_|refine kc ?_|refine kd ?_|exact Jv)
theorem oclone_ok (x : SV) (L : List OpT) (hL : L.length ≤ 1000000) :
    Ctr R 41 [vl 1 x] [(1, x.blk, .view (.st opS) x L)] (fun _ : SV => True) (fun z => vl 5 z) (fun z => [(5, z.blk, .own 68 (.st opS) z L)]) := by
  refine Ctr.told (p := x = .nil → L = []) ⟨_, Try.func41, by kernel_rfl, by kernel_rfl⟩ (fun w hw => ?_) fun hx => ?_
  · rintro rfl
    exact (hw.is 1 _ (.view (.st opS) .nil L) rfl).2
  refine Ctr.of Try.func41 rfl (by kernel_rfl) rfl fun _ _ w0 => ?_
  cases x with
  | nil =>
    repeat ((conv=>whnf);with_reducible first|refine Ja ?_|refine Jb ?_|refine Jc ?_|refine Jd ?_|refine Je ?_|refine Jf ?_|refine Jg ?_|refine Jh ?_|refine Ji ?_|refine Jj ?_|refine Jk ?_|refine Jl ?_|refine Jm ?_|refine Jn ?_|refine Jo ?_|refine Jp ?_|refine Jq ?_|refine Jr ?_|refine Js ?_|refine Jt ?_|refine k1 ?_|refine ke fun _ => ?_|refine k2 ?_|refine kg ?_|refine kf ?_|refine k3 ?_|refine k4 ?_|refine kn ?_|refine Ju ?_|refine k5 ?_|refine k6 ?_|refine k7 ?_|refine k8 ?_|refine k9 ?_|refine ka ?_|refine kb ?_|refine kl ?_|refine km ?_|refine kc ?_|refine kd ?_|exact Jv)
    refine Fin.mk' .nil trivial ?_
    repeat ((conv=>whnf);with_reducible first|refine Ja ?_|refine Jb ?_|refine Jc ?_|refine Jd ?_|refine Je ?_|refine Jf ?_|refine Jg ?_|refine Jh ?_|refine Ji ?_|refine Jj ?_|refine Jk ?_|refine Jl ?_|refine Jm ?_|refine Jn ?_|refine Jo ?_|refine Jp ?_|refine Jq ?_|refine Jr ?_|refine Js ?_|refine Jt ?_|refine k1 ?_|refine ke fun _ => ?_|refine k2 ?_|refine kg ?_|refine kf ?_|refine k3 ?_|refine k4 ?_|refine kn ?_|refine Ju ?_|refine k5 ?_|refine k6 ?_|refine k7 ?_|refine k8 ?_|refine k9 ?_|refine ka ?_|refine kb ?_|refine kl ?_|refine km ?_|refine kc ?_|refine kd ?_|exact Jv)
    refine Chk.mk ⟨rfl, hx rfl⟩ ?_
    repeat ((conv=>whnf);with_reducible first|refine Ja ?_|refine Jb ?_|refine Jc ?_|refine Jd ?_|refine Je ?_|refine Jf ?_|refine Jg ?_|refine Jh ?_|refine Ji ?_|refine Jj ?_|refine Jk ?_|refine Jl ?_|refine Jm ?_|refine Jn ?_|refine Jo ?_|refine Jp ?_|refine Jq ?_|refine Jr ?_|refine Js ?_|refine Jt ?_|refine k1 ?_|refine ke fun _ => ?_|refine k2 ?_|refine kg ?_|refine kf ?_|refine k3 ?_|refine k4 ?_|refine kn ?_|refine Ju ?_|refine k5 ?_|refine k6 ?_|refine k7 ?_|refine k8 ?_|refine k9 ?_|refine ka ?_|refine kb ?_|refine kl ?_|refine km ?_|refine kc ?_|refine kd ?_|exact Jv)
  | «at» b o len cap =>
    repeat ((conv=>whnf);with_reducible first|refine Ja ?_|refine Jb ?_|refine Jc ?_|refine Jd ?_|refine Je ?_|refine Jf ?_|refine Jg ?_|refine Jh ?_|refine Ji ?_|refine Jj ?_|refine Jk ?_|refine Jl ?_|refine Jm ?_|refine Jn ?_|refine Jo ?_|refine Jp ?_|refine Jq ?_|refine Jr ?_|refine Js ?_|refine Jt ?_|refine k1 ?_|refine ke fun _ => ?_|refine k2 ?_|refine kg ?_|refine kf ?_|refine k3 ?_|refine k4 ?_|refine kn ?_|refine Ju ?_|refine k5 ?_|refine k6 ?_|refine k7 ?_|refine k8 ?_|refine k9 ?_|refine ka ?_|refine kb ?_|refine kl ?_|refine km ?_|refine kc ?_|refine kd ?_|exact Jv)
    rename_i z
    refine Fin.mk' z trivial ?_
    repeat ((conv=>whnf);with_reducible first|refine Ja ?_|refine Jb ?_|refine Jc ?_|refine Jd ?_|refine Je ?_|refine Jf ?_|refine Jg ?_|refine Jh ?_|refine Ji ?_|refine Jj ?_|refine Jk ?_|refine Jl ?_|refine Jm ?_|refine Jn ?_|refine Jo ?_|refine Jp ?_|refine Jq ?_|refine Jr ?_|refine Js ?_|refine Jt ?_|refine k1 ?_|refine ke fun _ => ?_|refine k2 ?_|refine kg ?_|refine kf ?_|refine k3 ?_|refine k4 ?_|refine kn ?_|refine Ju ?_|refine k5 ?_|refine k6 ?_|refine k7 ?_|refine k8 ?_|refine k9 ?_|refine ka ?_|refine kb ?_|refine kl ?_|refine km ?_|refine kc ?_|refine kd ?_|exact Jv)
    refine OwnM.same rfl (List.nil_append L) ?_
    repeat ((conv=>whnf);with_reducible first|refine Ja ?_|refine Jb ?_|refine Jc ?_|refine Jd ?_|refine Je ?_|refine Jf ?_|refine Jg ?_|refine Jh ?_|refine Ji ?_|refine Jj ?_|refine Jk ?_|refine Jl ?_|refine Jm ?_|refine Jn ?_|refine Jo ?_|refine Jp ?_|refine Jq ?_|refine Jr ?_|refine Js ?_|refine Jt ?_|refine k1 ?_|refine ke fun _ => ?_|refine k2 ?_|refine kg ?_|refine kf ?_|refine k3 ?_|refine k4 ?_|refine kn ?_|refine Ju ?_|refine k5 ?_|refine k6 ?_|refine k7 ?_|refine k8 ?_|refine k9 ?_|refine ka ?_|refine kb ?_|refine kl ?_|refine km ?_|refine kc ?_|refine kd ?_|exact Jv)
theorem ssclone_ok (x : SV) (L : List SV) (hL : L.length ≤ 1000000) :
    Ctr R 51 [vl 1 x] [(1, x.blk, .view (.st slS) x L)] (fun _ : SV => True) (fun z => vl 5 z) (fun z => [(5, z.blk, .own 29 (.st slS) z L)]) := by
  refine Ctr.told (p := x = .nil → L = []) ⟨_, Try.func51, by kernel_rfl, by kernel_rfl⟩ (fun w hw => ?_) fun hx => ?_
  · rintro rfl
    exact (hw.is 1 _ (.view (.st slS) .nil L) rfl).2
  refine Ctr.of Try.func51 rfl (by kernel_rfl) rfl fun _ _ w0 => ?_
  cases x with
  | nil =>
    repeat ((conv=>whnf);with_reducible first|refine Ja ?_|refine Jb ?_|refine Jc ?_|refine Jd ?_|refine Je ?_|refine Jf ?_|refine Jg ?_|refine Jh ?_|refine Ji ?_|refine Jj ?_|refine Jk ?_|refine Jl ?_|refine Jm ?_|refine Jn ?_|refine Jo ?_|refine Jp ?_|refine Jq ?_|refine Jr ?_|refine Js ?_|refine Jt ?_|refine k1 ?_|refine ke fun _ => ?_|refine k2 ?_|refine kg ?_|refine kf ?_|refine k3 ?_|refine k4 ?_|refine kn ?_|refine Ju ?_|refine k5 ?_|refine k6 ?_|refine k7 ?_|refine k8 ?_|refine k9 ?_|refine ka ?_|refine kb ?_|refine kl ?_|refine km ?_|refine kc ?_|refine kd ?_|exact Jv)
    refine Fin.mk' .nil trivial ?_
    repeat ((conv=>whnf);with_reducible first|refine Ja ?_|refine Jb ?_|refine Jc ?_|refine Jd ?_|refine Je ?_|refine Jf ?_|refine Jg ?_|refine Jh ?_|refine Ji ?_|refine Jj ?_|refine Jk ?_|refine Jl ?_|refine Jm ?_|refine Jn ?_|refine Jo ?_|refine Jp ?_|refine Jq ?_|refine Jr ?_|refine Js ?_|refine Jt ?_|refine k1 ?_|refine ke fun _ => ?_|refine k2 ?_|refine kg ?_|refine kf ?_|refine k3 ?_|refine k4 ?_|refine kn ?_|refine Ju ?_|refine k5 ?_|refine k6 ?_|refine k7 ?_|refine k8 ?_|refine k9 ?_|refine ka ?_|refine kb ?_|refine kl ?_|refine km ?_|refine kc ?_|refine kd ?_|exact Jv)
    refine Chk.mk ⟨rfl, hx rfl⟩ ?_
    repeat ((conv=>whnf);with_reducible first|refine Ja ?_|refine Jb ?_|refine Jc ?_|refine Jd ?_|refine Je ?_|refine Jf ?_|refine Jg ?_|refine Jh ?_|refine Ji ?_|refine Jj ?_|refine Jk ?_|refine Jl ?_|refine Jm ?_|refine Jn ?_|refine Jo ?_|refine Jp ?_|refine Jq ?_|refine Jr ?_|refine Js ?_|refine Jt ?_|refine k1 ?_|refine ke fun _ => ?_|refine k2 ?_|refine kg ?_|refine kf ?_|refine k3 ?_|refine k4 ?_|refine kn ?_|refine Ju ?_|refine k5 ?_|refine k6 ?_|refine k7 ?_|refine k8 ?_|refine k9 ?_|refine ka ?_|refine kb ?_|refine kl ?_|refine km ?_|refine kc ?_|refine kd ?_|exact Jv)
  | «at» b o len cap =>
    repeat ((conv=>whnf);with_reducible first|refine Ja ?_|refine Jb ?_|refine Jc ?_|refine Jd ?_|refine Je ?_|refine Jf ?_|refine Jg ?_|refine Jh ?_|refine Ji ?_|refine Jj ?_|refine Jk ?_|refine Jl ?_|refine Jm ?_|refine Jn ?_|refine Jo ?_|refine Jp ?_|refine Jq ?_|refine Jr ?_|refine Js ?_|refine Jt ?_|refine k1 ?_|refine ke fun _ => ?_|refine k2 ?_|refine kg ?_|refine kf ?_|refine k3 ?_|refine k4 ?_|refine kn ?_|refine Ju ?_|refine k5 ?_|refine k6 ?_|refine k7 ?_|refine k8 ?_|refine k9 ?_|refine ka ?_|refine kb ?_|refine kl ?_|refine km ?_|refine kc ?_|refine kd ?_|exact Jv)
    rename_i z
    refine Fin.mk' z trivial ?_
    repeat ((conv=>whnf);with_reducible first|refine Ja ?_|refine Jb ?_|refine Jc ?_|refine Jd ?_|refine Je ?_|refine Jf ?_|refine Jg ?_|refine Jh ?_|refine Ji ?_|refine Jj ?_|refine Jk ?_|refine Jl ?_|refine Jm ?_|refine Jn ?_|refine Jo ?_|refine Jp ?_|refine Jq ?_|refine Jr ?_|refine Js ?_|refine Jt ?_|refine k1 ?_|refine ke fun _ => ?_|refine k2 ?_|refine kg ?_|refine kf ?_|refine k3 ?_|refine k4 ?_|refine kn ?_|refine Ju ?_|refine k5 ?_|refine k6 ?_|refine k7 ?_|refine k8 ?_|refine k9 ?_|refine ka ?_|refine kb ?_|refine kl ?_|refine km ?_|refine kc ?_|refine kd ?_|exact Jv)
    refine OwnM.same rfl (List.nil_append L) ?_
    repeat ((conv=>whnf);with_reducible first|refine Ja ?_|refine Jb ?_|refine Jc ?_|refine Jd ?_|refine Je ?_|refine Jf ?_|refine Jg ?_|refine Jh ?_|refine Ji ?_|refine Jj ?_|refine Jk ?_|refine Jl ?_|refine Jm ?_|refine Jn ?_|refine Jo ?_|refine Jp ?_|refine Jq ?_|refine Jr ?_|refine Js ?_|refine Jt ?_|refine k1 ?_|refine ke fun _ => ?_|refine k2 ?_|refine kg ?_|refine kf ?_|refine k3 ?_|refine k4 ?_|refine kn ?_|refine Ju ?_|refine k5 ?_|refine k6 ?_|refine k7 ?_|refine k8 ?_|refine k9 ?_|refine ka ?_|refine kb ?_|refine kl ?_|refine km ?_|refine kc ?_|refine kd ?_|exact Jv)
theorem drepeat_ok (s : List UInt8) (c : Nat) (hc : c ≤ 1000000000) (hs : s.length * c ≤ 1000000000) : CtrP R 32 [vs s, vi c] [] (vs (Lib.repeatL s c)) :=
  Ctr.lib ⟨_, Try.func32, by kernel_rfl, by kernel_rfl⟩ ⟨trivial, trivial⟩ fun w _ => Try.strings_Repeat ⟨⟨s⟩⟩ c w (by omega) (by show s.length * c ≤ _; omega)
theorem drepeat_one (x : UInt8) (c : Nat) : Lib.repeatL [x] c = List.replicate c x := by
  induction c with
  | zero => rfl
  | succ c ih => simp [Lib.repeatL, ih, List.replicate_succ]
theorem mul_ok (c : Nat) (hc : c < 18446744073709551616) : CtrP R 52 [v64 1#64, v64 (BitVec.ofNat 64 c)] [] (.tup [.one (.w64 0#64), .one (.w64 (BitVec.ofNat 64 c))]) :=
  Ctr.lib ⟨_, Try.func52, by kernel_rfl, by kernel_rfl⟩ ⟨bone_wf _, bone_wf _, trivial⟩ fun w _ => by
    have h := Try.bits_Mul 1 c (by decide) hc w
    have e : (BitVec.ofNat 64 c).toNat = c := by rw [BitVec.toNat_ofNat]; exact Nat.mod_eq_of_lt hc
    have ha : (([v64 1#64, v64 (BitVec.ofNat 64 c)] : List TV).map TV.val).toArray = #[.int .u64 ((1 : Nat) : Int), .int .u64 (c : Int)] := by
      simp only [List.map_cons, List.map_nil, TV.val, BV.val, SC.val, e]; rfl
    rw [ha]
    refine h.mono ?_
    rintro r w' ⟨he, rfl⟩
    have e1 : 1 * c / 18446744073709551616 = 0 := by omega
    have e2 : 1 * c % 18446744073709551616 = c := by omega
    rw [e1, e2] at he
    refine ⟨?_, RowKit.Below.refl _ _⟩
    rw [he]
    simp only [TV.val, BV.val, SC.val, e, List.map_cons, List.map_nil]
    rfl
end Go.Proofs.Ytchbadngbddmnaa
