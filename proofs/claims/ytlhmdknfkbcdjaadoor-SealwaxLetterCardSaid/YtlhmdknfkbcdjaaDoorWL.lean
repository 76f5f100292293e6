/- Texts that are cut; the first few texts; an array's bytes as a text. -/
import Derived.Test.YtlhmdknfkbcdjaaDoorW1
set_option linter.unusedVariables false
set_option linter.unusedSimpArgs false
set_option maxRecDepth 10000
namespace Go.Proofs.YtlhmdknfkbcdjaaDoor
open Go Go.SY

theorem cut_ok (s : List UInt8) (n : Nat) (hn : n < 1000000) : CtrP R 7 [vs s, vi n] [] (vs (s.take n)) := by
  refine Ctr.of Tryd.func7 rfl (by kernel_rfl) rfl fun _ _ w0 => ?_
  (repeat ((conv => whnf); with_reducible first | refine CondG.split ?_ | refine k1 ?_ | refine ke fun _ => ?_ | refine k2 ?_ | refine kg ?_ | refine kf ?_ | refine k3 ?_ | refine k4 ?_ | refine kn ?_ | refine Same.rfl ?_ | refine k5 ?_ | refine k6 ?_ | refine k7 ?_ | refine k8 ?_ | refine k9 ?_ | refine ka ?_ | refine kb ?_ | refine kl ?_ | refine km ?_ | refine kc ?_ | refine kd ?_ | exact True.intro)); refine Br.by (fun g => ?_) (fun g => ?_)
  · repeat ((conv => whnf); with_reducible first | refine CondG.split ?_ | refine k1 ?_ | refine ke fun _ => ?_ | refine k2 ?_ | refine kg ?_ | refine kf ?_ | refine k3 ?_ | refine k4 ?_ | refine kn ?_ | refine Same.rfl ?_ | refine k5 ?_ | refine k6 ?_ | refine k7 ?_ | refine k8 ?_ | refine k9 ?_ | refine ka ?_ | refine kb ?_ | refine kl ?_ | refine km ?_ | refine kc ?_ | refine kd ?_ | exact True.intro)
    refine Fin.pure ?_
    repeat ((conv => whnf); with_reducible first | refine CondG.split ?_ | refine k1 ?_ | refine ke fun _ => ?_ | refine k2 ?_ | refine kg ?_ | refine kf ?_ | refine k3 ?_ | refine k4 ?_ | refine kn ?_ | refine Same.rfl ?_ | refine k5 ?_ | refine k6 ?_ | refine k7 ?_ | refine k8 ?_ | refine k9 ?_ | refine ka ?_ | refine kb ?_ | refine kl ?_ | refine km ?_ | refine kc ?_ | refine kd ?_ | exact True.intro)
  · repeat ((conv => whnf); with_reducible first | refine CondG.split ?_ | refine k1 ?_ | refine ke fun _ => ?_ | refine k2 ?_ | refine kg ?_ | refine kf ?_ | refine k3 ?_ | refine k4 ?_ | refine kn ?_ | refine Same.rfl ?_ | refine k5 ?_ | refine k6 ?_ | refine k7 ?_ | refine k8 ?_ | refine k9 ?_ | refine ka ?_ | refine kb ?_ | refine kl ?_ | refine km ?_ | refine kc ?_ | refine kd ?_ | exact True.intro)
    refine Fin.pure ?_
    (repeat ((conv => whnf); with_reducible first | refine CondG.split ?_ | refine k1 ?_ | refine ke fun _ => ?_ | refine k2 ?_ | refine kg ?_ | refine kf ?_ | refine k3 ?_ | refine k4 ?_ | refine kn ?_ | refine Same.rfl ?_ | refine k5 ?_ | refine k6 ?_ | refine k7 ?_ | refine k8 ?_ | refine k9 ?_ | refine ka ?_ | refine kb ?_ | refine kl ?_ | refine km ?_ | refine kc ?_ | refine kd ?_ | exact True.intro))
    refine Chk.mk (List.take_of_length_le (by omega)).symm ?_
    repeat ((conv => whnf); with_reducible first | refine CondG.split ?_ | refine k1 ?_ | refine ke fun _ => ?_ | refine k2 ?_ | refine kg ?_ | refine kf ?_ | refine k3 ?_ | refine k4 ?_ | refine kn ?_ | refine Same.rfl ?_ | refine k5 ?_ | refine k6 ?_ | refine k7 ?_ | refine k8 ?_ | refine k9 ?_ | refine ka ?_ | refine kb ?_ | refine kl ?_ | refine km ?_ | refine kc ?_ | refine kd ?_ | exact True.intro)
theorem few_len (L : List (List UInt8)) (most : Nat) : ∀ n, ((L.take n).map (List.take most)).flatten.length ≤ n * most := by
  induction L with
  | nil => intro n; simp
  | cons x L ih =>
    intro n
    cases n with
    | zero => simp
    | succ n =>
      have := ih n
      simp only [List.take_succ_cons, List.map_cons, List.flatten_cons, List.length_append, List.length_take, Nat.succ_mul] at this ⊢
      omega
theorem few_ok (y : SV) (L : List (List UInt8)) (n most : Nat) (F : List (List UInt8)) (hF : F = (L.take n).map (List.take most)) (hn : n < 100) (hm : most < 1000000) (hL : L.length ≤ 9223372036854775807) : Ctr R 22 [vl 0 y, vi n, vi most] [(0, y.blk, .view (.sc .str) y L)]
    (fun _ : SV => True) (fun x => vl 28 x) (fun x => [(28, x.blk, .own 9 (.sc .str) x F)]) := by
  subst hF
  refine Ctr.of Tryd.func22 rfl (by kernel_rfl) rfl fun _ _ w0 => ?_
  repeat ((conv => whnf); with_reducible first | refine CondG.split ?_ | refine k1 ?_ | refine ke fun _ => ?_ | refine k2 ?_ | refine kg ?_ | refine kf ?_ | refine k3 ?_ | refine k4 ?_ | refine kn ?_ | refine Same.rfl ?_ | refine k5 ?_ | refine k6 ?_ | refine k7 ?_ | refine k8 ?_ | refine k9 ?_ | refine ka ?_ | refine kb ?_ | refine kl ?_ | refine km ?_ | refine kc ?_ | refine kd ?_ | exact True.intro)
  refine LoopG.two [0, 1, 2] [0] (fun (i : Nat) x => [(7, vl 28 x), (8, vi i)]) (fun i x => [(28, .own 9 (.sc .str) x ((L.take i).map (List.take most)))]) (fun i x => i ≤ n ∧ i ≤ L.length) (fun i => n - i) 0 .nil ?_
  refine ⟨⟨by omega, ?_⟩, fun i x hi => ?_⟩
  · repeat ((conv => whnf); with_reducible first | refine CondG.split ?_ | refine k1 ?_ | refine ke fun _ => ?_ | refine k2 ?_ | refine kg ?_ | refine kf ?_ | refine k3 ?_ | refine k4 ?_ | refine kn ?_ | refine Same.rfl ?_ | refine k5 ?_ | refine k6 ?_ | refine k7 ?_ | refine k8 ?_ | refine k9 ?_ | refine ka ?_ | refine kb ?_ | refine kl ?_ | refine km ?_ | refine kc ?_ | refine kd ?_ | exact True.intro)
  · have hl : ((L.take i).map (List.take most)).length = i := by rw [List.length_map, List.length_take]; omega
    (repeat ((conv => whnf); with_reducible first | refine CondG.split ?_ | refine k1 ?_ | refine ke fun _ => ?_ | refine k2 ?_ | refine kg ?_ | refine kf ?_ | refine k3 ?_ | refine k4 ?_ | refine kn ?_ | refine Same.rfl ?_ | refine k5 ?_ | refine k6 ?_ | refine k7 ?_ | refine k8 ?_ | refine k9 ?_ | refine ka ?_ | refine kb ?_ | refine kl ?_ | refine km ?_ | refine kc ?_ | refine kd ?_ | exact True.intro)); refine Br.by (fun g => ?_) (fun g => ?_)
    · (repeat ((conv => whnf); with_reducible first | refine CondG.split ?_ | refine k1 ?_ | refine ke fun _ => ?_ | refine k2 ?_ | refine kg ?_ | refine kf ?_ | refine k3 ?_ | refine k4 ?_ | refine kn ?_ | refine Same.rfl ?_ | refine k5 ?_ | refine k6 ?_ | refine k7 ?_ | refine k8 ?_ | refine k9 ?_ | refine ka ?_ | refine kb ?_ | refine kl ?_ | refine km ?_ | refine kc ?_ | refine kd ?_ | exact True.intro)); refine Br.by (fun g2 => ?_) (fun g2 => ?_)
      · have hlt : i < L.length := by omega
        repeat ((conv => whnf); with_reducible first | refine CondG.split ?_ | refine k1 ?_ | refine ke fun _ => ?_ | refine k2 ?_ | refine kg ?_ | refine kf ?_ | refine k3 ?_ | refine k4 ?_ | refine kn ?_ | refine Same.rfl ?_ | refine k5 ?_ | refine k6 ?_ | refine k7 ?_ | refine k8 ?_ | refine k9 ?_ | refine ka ?_ | refine kb ?_ | refine kl ?_ | refine km ?_ | refine kc ?_ | refine kd ?_ | exact True.intro)
        refine CallG.p [] (cut_ok _ most hm) rfl rfl ?_
        repeat ((conv => whnf); with_reducible first | refine CondG.split ?_ | refine k1 ?_ | refine ke fun _ => ?_ | refine k2 ?_ | refine kg ?_ | refine kf ?_ | refine k3 ?_ | refine k4 ?_ | refine kn ?_ | refine Same.rfl ?_ | refine k5 ?_ | refine k6 ?_ | refine k7 ?_ | refine k8 ?_ | refine k9 ?_ | refine ka ?_ | refine kb ?_ | refine kl ?_ | refine km ?_ | refine kc ?_ | refine kd ?_ | exact True.intro)
        refine ⟨i + 1, ‹SV›, ⟨by omega, by omega⟩, (by dsimp only; omega), ?_⟩
        repeat ((conv => whnf); with_reducible first | refine CondG.split ?_ | refine k1 ?_ | refine ke fun _ => ?_ | refine k2 ?_ | refine kg ?_ | refine kf ?_ | refine k3 ?_ | refine k4 ?_ | refine kn ?_ | refine Same.rfl ?_ | refine k5 ?_ | refine k6 ?_ | refine k7 ?_ | refine k8 ?_ | refine k9 ?_ | refine ka ?_ | refine kb ?_ | refine kl ?_ | refine km ?_ | refine kc ?_ | refine kd ?_ | exact True.intro)
        refine OwnM.same (by with_reducible rfl) (by rw [List.take_succ_eq_append_getElem hlt, List.map_append, gd_lt hlt]; rfl) ?_
        repeat ((conv => whnf); with_reducible first | refine CondG.split ?_ | refine k1 ?_ | refine ke fun _ => ?_ | refine k2 ?_ | refine kg ?_ | refine kf ?_ | refine k3 ?_ | refine k4 ?_ | refine kn ?_ | refine Same.rfl ?_ | refine k5 ?_ | refine k6 ?_ | refine k7 ?_ | refine k8 ?_ | refine k9 ?_ | refine ka ?_ | refine kb ?_ | refine kl ?_ | refine km ?_ | refine kc ?_ | refine kd ?_ | exact True.intro)
      · have e : i = n := by omega
        subst e
        repeat ((conv => whnf); with_reducible first | refine CondG.split ?_ | refine k1 ?_ | refine ke fun _ => ?_ | refine k2 ?_ | refine kg ?_ | refine kf ?_ | refine k3 ?_ | refine k4 ?_ | refine kn ?_ | refine Same.rfl ?_ | refine k5 ?_ | refine k6 ?_ | refine k7 ?_ | refine k8 ?_ | refine k9 ?_ | refine ka ?_ | refine kb ?_ | refine kl ?_ | refine km ?_ | refine kc ?_ | refine kd ?_ | exact True.intro)
        refine Fin.mk' x trivial ?_
        repeat ((conv => whnf); with_reducible first | refine CondG.split ?_ | refine k1 ?_ | refine ke fun _ => ?_ | refine k2 ?_ | refine kg ?_ | refine kf ?_ | refine k3 ?_ | refine k4 ?_ | refine kn ?_ | refine Same.rfl ?_ | refine k5 ?_ | refine k6 ?_ | refine k7 ?_ | refine k8 ?_ | refine k9 ?_ | refine ka ?_ | refine kb ?_ | refine kl ?_ | refine km ?_ | refine kc ?_ | refine kd ?_ | exact True.intro)
    · have e : i = L.length := by omega
      subst e
      repeat ((conv => whnf); with_reducible first | refine CondG.split ?_ | refine k1 ?_ | refine ke fun _ => ?_ | refine k2 ?_ | refine kg ?_ | refine kf ?_ | refine k3 ?_ | refine k4 ?_ | refine kn ?_ | refine Same.rfl ?_ | refine k5 ?_ | refine k6 ?_ | refine k7 ?_ | refine k8 ?_ | refine k9 ?_ | refine ka ?_ | refine kb ?_ | refine kl ?_ | refine km ?_ | refine kc ?_ | refine kd ?_ | exact True.intro)
      refine Fin.mk' x trivial ?_
      repeat ((conv => whnf); with_reducible first | refine CondG.split ?_ | refine k1 ?_ | refine ke fun _ => ?_ | refine k2 ?_ | refine kg ?_ | refine kf ?_ | refine k3 ?_ | refine k4 ?_ | refine kn ?_ | refine Same.rfl ?_ | refine k5 ?_ | refine k6 ?_ | refine k7 ?_ | refine k8 ?_ | refine k9 ?_ | refine ka ?_ | refine kb ?_ | refine kl ?_ | refine km ?_ | refine kc ?_ | refine kd ?_ | exact True.intro)
      refine OwnM.same rfl (by rw [List.take_length, List.take_of_length_le (by omega)]) ?_
      repeat ((conv => whnf); with_reducible first | refine CondG.split ?_ | refine k1 ?_ | refine ke fun _ => ?_ | refine k2 ?_ | refine kg ?_ | refine kf ?_ | refine k3 ?_ | refine k4 ?_ | refine kn ?_ | refine Same.rfl ?_ | refine k5 ?_ | refine k6 ?_ | refine k7 ?_ | refine k8 ?_ | refine k9 ?_ | refine ka ?_ | refine kb ?_ | refine kl ?_ | refine km ?_ | refine kc ?_ | refine kd ?_ | exact True.intro)
end Go.Proofs.YtlhmdknfkbcdjaaDoor
