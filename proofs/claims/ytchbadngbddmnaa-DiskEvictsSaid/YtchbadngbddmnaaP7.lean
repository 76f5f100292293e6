/- The laws of the disk: what a crash leaves. -/
import Derived.Test.YtchbadngbddmnaaO2
import Derived.Test.YtchbadngbddmnaaP0
import Derived.Test.YtchbadngbddmnaaSy4
set_option linter.unusedVariables false
set_option linter.unusedSimpArgs false
set_option maxRecDepth 10000
set_option maxHeartbeats 8000000
namespace Go.Proofs.Ytchbadngbddmnaa
open Go Go.SY
seal sx sxOps

theorem repR_set6 (s : Str) (n c : Nat) (h : n < c) : (repR s n c).set n s = repR s (n + 1) c := by
  unfold repR
  obtain ⟨k, hk⟩ : ∃ k, c - n = k + 1 := ⟨c - n - 1, by omega⟩
  rw [hk, show c - (n + 1) = k by omega, List.set_append_right n s (by simp), List.length_replicate, Nat.sub_self, List.replicate_succ, List.set_cons_zero, List.replicate_succ', List.append_assoc]
  rfl
theorem repR_zero6 (s : Str) (c : Nat) : repR s 0 c = List.replicate c [] := by unfold repR; simp
theorem page_nil6 : pageR [] = zT := by
  unfold pageR pageT
  rw [if_pos rfl]
  rfl
theorem mask_of (n : Nat) (hn : n ≤ 62) (a : Int) : ∃ p : Nat, p < 2 ^ n ∧ iand .i64 a (2 ^ n - 1 : Nat) = (p : Int) := by
  have h := iand_mask n hn a
  have hp : 0 < 2 ^ n := Nat.two_pow_pos n
  have h0 : (0 : Int) ≤ a % (2 ^ n : Nat) := Int.emod_nonneg _ (by omega)
  have h1 : a % (2 ^ n : Nat) < (2 ^ n : Nat) := Int.emod_lt_of_pos _ (by omega)
  exact ⟨(a % (2 ^ n : Nat)).toNat, by omega, by rw [h]; omega⟩
/-- The page of an act. -/
theorem page_of (a : Int) : ∃ p : Nat, p < 6 ∧ Int.tmod (iand .i64 a 7) 6 = (p : Int) := by
  obtain ⟨q, hq, he⟩ := mask_of 3 (by omega) a
  have e : ((2 ^ 3 - 1 : Nat) : Int) = 7 := by decide
  rw [e] at he
  refine ⟨q % 6, Nat.mod_lt _ (by omega), ?_⟩
  rw [he, Int.tmod_eq_emod_of_nonneg (by omega)]; omega
theorem steps_of (a : Int) : ∃ p : Nat, p < 16 ∧ iand .i64 a 15 = (p : Int) := by
  obtain ⟨q, hq, he⟩ := mask_of 4 (by omega) a
  have e : ((2 ^ 4 - 1 : Nat) : Int) = 15 := by decide
  rw [e] at he
  exact ⟨q, hq, he⟩
def crO (a : ActT) : OpT := (1, Int.tmod (iand .i64 a.2.1 7) 6, pageR (a.2.2.2.2.take 20))
def crM (L : List ActT) (i : Nat) : List OpT := (L.take i).map crO
theorem crM_succ (L : List ActT) (i : Nat) (h : i < L.length) (a : ActT) (ha : a = @List.getD (Enc.st actS).α L i (Enc.st actS).dflt) (p : Int) (s : Str) (hp : Int.tmod (iand .i64 a.2.1 7) 6 = p) (hs : pageR (a.2.2.2.2.take 20) = s) :
    crM L (i + 1) = crM L i ++ [(1, p, s)] := by
  unfold crM
  rw [List.take_succ_eq_append_getElem h, List.map_append, ← hp, ← hs, ha, List.getD_eq_getElem?_getD, List.getElem?_eq_getElem h]
  rfl
theorem crM_len (L : List ActT) (i : Nat) (h : i ≤ L.length) : (crM L i).length = i := by
  unfold crM; rw [List.length_map, List.length_take]; omega
abbrev cZ : List Str := List.replicate 6 zT
theorem ev_flush (V : List OpT) (h : V.length ≤ 200) : flushD (evD 200 cZ V) = (⟨allP cZ V, [], -1, 0, false, [], V ++ [(2, 0, [])], V.length + 1⟩, 0) := by
  unfold flushD evD
  rw [if_neg (by show ¬ false = true; decide), if_neg (by show ¬ (-1 : Int) = 0; decide)]
  dsimp only [goD]
  rw [show V.length - 200 = 0 by omega]
  rfl
theorem cr_zero (st : Nat) (m : BitVec 64) (W : List Str) (V0 : List OpT) : crD st m W V0 [] = ⟨W, [], (st : Int), m, false, [], V0, V0.length⟩ := by
  unfold crD
  rw [if_pos (by simp), List.append_nil]
  congr 1
abbrev dA8 (b : Nat) (pg : SV) (cb : Nat) (vw : SV) (most : Nat) (d : DS) : Heap :=
  [(800, b, .var 66 [.c (.lst 801 pg), .c (.ch 802 cb), .c (.int .i64 d.l), .c (.w64 d.m), .c (.bool d.c), .c (.lst 803 .nil), .c (.lst 804 vw), .c (.int .i64 d.n)]),
    (801, pg.blk, .own 9 (.sc .str) pg d.P), (802, cb, .sem (chanS most (.st opS) d.Q)), (804, vw.blk, .own 68 (.st opS) vw d.V)]
theorem crash_cmp (G : Heap) (w0 : World) (b cb zb : Nat) (pg vw3 : SV) (Z : List Str) (Q1 V1 : List OpT) (l1 N1 : Int) (m : BitVec 64) (c1 q1 : Bool) (hZl : Z.length = 6) :
    sx (ctxOf R Try.f3.ntmps G w0) (rest 15 (bodyOf Try.f3)) [(142, vb q1), (7, vp 800 b), (8, vl 33 (.at zb 0 6 6))] ((33, zb, .own 9 (.sc .str) (.at zb 0 6 6) Z) :: dA8 b pg cb vw3 200 ⟨Z, Q1, l1, m, c1, [], V1, N1⟩)
      (endQ R.P Try.f3.results.toList (fun _ : Unit => True) (fun _ => vb true) (fun _ => [])) := by
  conv => arg 2; whnf
  repeat ((conv=>whnf);with_reducible first|refine Ja ?_|refine Jb ?_|refine Jc ?_|refine Jd ?_|refine Je ?_|refine Jf ?_|refine Jg ?_|refine Jh ?_|refine Ji ?_|refine Jj ?_|refine Jk ?_|refine Jl ?_|refine Jm ?_|refine Jn ?_|refine Jo ?_|refine Jp ?_|refine Jq ?_|refine Jr ?_|refine Js ?_|refine Jt ?_|refine k1 ?_|refine ke fun _ => ?_|refine k2 ?_|refine kg ?_|refine kf ?_|refine k3 ?_|refine k4 ?_|refine kn ?_|refine Ju ?_|refine k5 ?_|refine k6 ?_|refine k7 ?_|refine k8 ?_|refine k9 ?_|refine ka ?_|refine kb ?_|refine kl ?_|refine km ?_|refine kc ?_|refine kd ?_|exact Jv)
  refine CallG.x [(0, 800), (1, 801), (2, 802), (3, 803), (4, 804), (7, 907)] (stable_ok b pg cb l1 m c1 .nil vw3 N1 Z (by omega)) rfl rfl (fun _ => rfl) ?_
  repeat ((conv=>whnf);with_reducible first|refine Ja ?_|refine Jb ?_|refine Jc ?_|refine Jd ?_|refine Je ?_|refine Jf ?_|refine Jg ?_|refine Jh ?_|refine Ji ?_|refine Jj ?_|refine Jk ?_|refine Jl ?_|refine Jm ?_|refine Jn ?_|refine Jo ?_|refine Jp ?_|refine Jq ?_|refine Jr ?_|refine Js ?_|refine Jt ?_|refine k1 ?_|refine ke fun _ => ?_|refine k2 ?_|refine kg ?_|refine kf ?_|refine k3 ?_|refine k4 ?_|refine kn ?_|refine Ju ?_|refine k5 ?_|refine k6 ?_|refine k7 ?_|refine k8 ?_|refine k9 ?_|refine ka ?_|refine kb ?_|refine kl ?_|refine km ?_|refine kc ?_|refine kd ?_|exact Jv)
  intro lz
  repeat ((conv=>whnf);with_reducible first|refine Ja ?_|refine Jb ?_|refine Jc ?_|refine Jd ?_|refine Je ?_|refine Jf ?_|refine Jg ?_|refine Jh ?_|refine Ji ?_|refine Jj ?_|refine Jk ?_|refine Jl ?_|refine Jm ?_|refine Jn ?_|refine Jo ?_|refine Jp ?_|refine Jq ?_|refine Jr ?_|refine Js ?_|refine Jt ?_|refine k1 ?_|refine ke fun _ => ?_|refine k2 ?_|refine kg ?_|refine kf ?_|refine k3 ?_|refine k4 ?_|refine kn ?_|refine Ju ?_|refine k5 ?_|refine k6 ?_|refine k7 ?_|refine k8 ?_|refine k9 ?_|refine ka ?_|refine kb ?_|refine kl ?_|refine km ?_|refine kc ?_|refine kd ?_|exact Jv)
  refine LoopG.of (fun j : Nat => ([(8, vl 33 (.at zb 0 6 6)), (18, vl 907 lz), (175, vi Z.length), (176, vi j)], [(33, zb, .own 9 (.sc .str) (.at zb 0 6 6) Z), (907, lz.blk, .own 9 (.sc .str) lz Z)]))
    (fun j => j ≤ Z.length) (fun j => Z.length - j) 0 ?_ ?_
  · refine ⟨by omega, ?_⟩
    ((repeat ((conv=>whnf);with_reducible first|refine Ja ?_|refine Jb ?_|refine Jc ?_|refine Jd ?_|refine Je ?_|refine Jf ?_|refine Jg ?_|refine Jh ?_|refine Ji ?_|refine Jj ?_|refine Jk ?_|refine Jl ?_|refine Jm ?_|refine Jn ?_|refine Jo ?_|refine Jp ?_|refine Jq ?_|refine Jr ?_|refine Js ?_|refine Jt ?_|refine k1 ?_|refine ke fun _ => ?_|refine k2 ?_|refine kg ?_|refine kf ?_|refine k3 ?_|refine k4 ?_|refine kn ?_|refine Ju ?_|refine k5 ?_|refine k6 ?_|refine k7 ?_|refine k8 ?_|refine k9 ?_|refine ka ?_|refine kb ?_|refine kl ?_|refine km ?_|refine kc ?_|refine kd ?_|exact Jv)); (repeat (refine Chk.mk rfl ?_; (repeat ((conv=>whnf);with_reducible first|refine Ja ?_|refine Jb ?_|refine Jc ?_|refine Jd ?_|refine Je ?_|refine Jf ?_|refine Jg ?_|refine Jh ?_|refine Ji ?_|refine Jj ?_|refine Jk ?_|refine Jl ?_|refine Jm ?_|refine Jn ?_|refine Jo ?_|refine Jp ?_|refine Jq ?_|refine Jr ?_|refine Js ?_|refine Jt ?_|refine k1 ?_|refine ke fun _ => ?_|refine k2 ?_|refine kg ?_|refine kf ?_|refine k3 ?_|refine k4 ?_|refine kn ?_|refine Ju ?_|refine k5 ?_|refine k6 ?_|refine k7 ?_|refine k8 ?_|refine k9 ?_|refine ka ?_|refine kb ?_|refine kl ?_|refine km ?_|refine kc ?_|refine kd ?_|exact Jv)))))
  · intro j hj
    (repeat ((conv=>whnf);with_reducible first|refine Ja ?_|refine Jb ?_|refine Jc ?_|refine Jd ?_|refine Je ?_|refine Jf ?_|refine Jg ?_|refine Jh ?_|refine Ji ?_|refine Jj ?_|refine Jk ?_|refine Jl ?_|refine Jm ?_|refine Jn ?_|refine Jo ?_|refine Jp ?_|refine Jq ?_|refine Jr ?_|refine Js ?_|refine Jt ?_|refine k1 ?_|refine ke fun _ => ?_|refine k2 ?_|refine kg ?_|refine kf ?_|refine k3 ?_|refine k4 ?_|refine kn ?_|refine Ju ?_|refine k5 ?_|refine k6 ?_|refine k7 ?_|refine k8 ?_|refine k9 ?_|refine ka ?_|refine kb ?_|refine kl ?_|refine km ?_|refine kc ?_|refine kd ?_|exact Jv)); refine Br.by (fun g2 => ?_) (fun g2 => ?_)
    · have gj : j < Z.length := by
        have g2 : (j : Int) < (Z.length : Int) := g2
        omega
      repeat ((conv=>whnf);with_reducible first|refine Ja ?_|refine Jb ?_|refine Jc ?_|refine Jd ?_|refine Je ?_|refine Jf ?_|refine Jg ?_|refine Jh ?_|refine Ji ?_|refine Jj ?_|refine Jk ?_|refine Jl ?_|refine Jm ?_|refine Jn ?_|refine Jo ?_|refine Jp ?_|refine Jq ?_|refine Jr ?_|refine Js ?_|refine Jt ?_|refine k1 ?_|refine ke fun _ => ?_|refine k2 ?_|refine kg ?_|refine kf ?_|refine k3 ?_|refine k4 ?_|refine kn ?_|refine Ju ?_|refine k5 ?_|refine k6 ?_|refine k7 ?_|refine k8 ?_|refine k9 ?_|refine ka ?_|refine kb ?_|refine kl ?_|refine km ?_|refine kc ?_|refine kd ?_|exact Jv)
      refine Draw.quiet (by kernel_rfl) (by kernel_rfl) ?_
      repeat ((conv=>whnf);with_reducible first|refine Ja ?_|refine Jb ?_|refine Jc ?_|refine Jd ?_|refine Je ?_|refine Jf ?_|refine Jg ?_|refine Jh ?_|refine Ji ?_|refine Jj ?_|refine Jk ?_|refine Jl ?_|refine Jm ?_|refine Jn ?_|refine Jo ?_|refine Jp ?_|refine Jq ?_|refine Jr ?_|refine Js ?_|refine Jt ?_|refine k1 ?_|refine ke fun _ => ?_|refine k2 ?_|refine kg ?_|refine kf ?_|refine k3 ?_|refine k4 ?_|refine kn ?_|refine Ju ?_|refine k5 ?_|refine k6 ?_|refine k7 ?_|refine k8 ?_|refine k9 ?_|refine ka ?_|refine kb ?_|refine kl ?_|refine km ?_|refine kc ?_|refine kd ?_|exact Jv)
      refine ⟨j + 1, by omega, (by dsimp only; omega), ?_⟩
      repeat ((conv=>whnf);with_reducible first|refine Ja ?_|refine Jb ?_|refine Jc ?_|refine Jd ?_|refine Je ?_|refine Jf ?_|refine Jg ?_|refine Jh ?_|refine Ji ?_|refine Jj ?_|refine Jk ?_|refine Jl ?_|refine Jm ?_|refine Jn ?_|refine Jo ?_|refine Jp ?_|refine Jq ?_|refine Jr ?_|refine Js ?_|refine Jt ?_|refine k1 ?_|refine ke fun _ => ?_|refine k2 ?_|refine kg ?_|refine kf ?_|refine k3 ?_|refine k4 ?_|refine kn ?_|refine Ju ?_|refine k5 ?_|refine k6 ?_|refine k7 ?_|refine k8 ?_|refine k9 ?_|refine ka ?_|refine kb ?_|refine kl ?_|refine km ?_|refine kc ?_|refine kd ?_|exact Jv)
    · repeat ((conv=>whnf);with_reducible first|refine Ja ?_|refine Jb ?_|refine Jc ?_|refine Jd ?_|refine Je ?_|refine Jf ?_|refine Jg ?_|refine Jh ?_|refine Ji ?_|refine Jj ?_|refine Jk ?_|refine Jl ?_|refine Jm ?_|refine Jn ?_|refine Jo ?_|refine Jp ?_|refine Jq ?_|refine Jr ?_|refine Js ?_|refine Jt ?_|refine k1 ?_|refine ke fun _ => ?_|refine k2 ?_|refine kg ?_|refine kf ?_|refine k3 ?_|refine k4 ?_|refine kn ?_|refine Ju ?_|refine k5 ?_|refine k6 ?_|refine k7 ?_|refine k8 ?_|refine k9 ?_|refine ka ?_|refine kb ?_|refine kl ?_|refine km ?_|refine kc ?_|refine kd ?_|exact Jv)
      refine Fin.pure ?_
      ((repeat ((conv=>whnf);with_reducible first|refine Ja ?_|refine Jb ?_|refine Jc ?_|refine Jd ?_|refine Je ?_|refine Jf ?_|refine Jg ?_|refine Jh ?_|refine Ji ?_|refine Jj ?_|refine Jk ?_|refine Jl ?_|refine Jm ?_|refine Jn ?_|refine Jo ?_|refine Jp ?_|refine Jq ?_|refine Jr ?_|refine Js ?_|refine Jt ?_|refine k1 ?_|refine ke fun _ => ?_|refine k2 ?_|refine kg ?_|refine kf ?_|refine k3 ?_|refine k4 ?_|refine kn ?_|refine Ju ?_|refine k5 ?_|refine k6 ?_|refine k7 ?_|refine k8 ?_|refine k9 ?_|refine ka ?_|refine kb ?_|refine kl ?_|refine km ?_|refine kc ?_|refine kd ?_|exact Jv)); (repeat (refine Chk.mk rfl ?_; (repeat ((conv=>whnf);with_reducible first|refine Ja ?_|refine Jb ?_|refine Jc ?_|refine Jd ?_|refine Je ?_|refine Jf ?_|refine Jg ?_|refine Jh ?_|refine Ji ?_|refine Jj ?_|refine Jk ?_|refine Jl ?_|refine Jm ?_|refine Jn ?_|refine Jo ?_|refine Jp ?_|refine Jq ?_|refine Jr ?_|refine Js ?_|refine Jt ?_|refine k1 ?_|refine ke fun _ => ?_|refine k2 ?_|refine kg ?_|refine kf ?_|refine k3 ?_|refine k4 ?_|refine kn ?_|refine Ju ?_|refine k5 ?_|refine k6 ?_|refine k7 ?_|refine k8 ?_|refine k9 ?_|refine ka ?_|refine kb ?_|refine kl ?_|refine km ?_|refine kc ?_|refine kd ?_|exact Jv)))))
end Go.Proofs.Ytchbadngbddmnaa
