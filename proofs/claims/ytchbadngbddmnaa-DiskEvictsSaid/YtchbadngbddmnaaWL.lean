/- Texts that are cut; the first few texts; an array's bytes as a text. -/
import Derived.Test.YtchbadngbddmnaaW1
set_option linter.unusedVariables false
set_option linter.unusedSimpArgs false
set_option maxRecDepth 10000
namespace Go.Proofs.Ytchbadngbddmnaa
open Go Go.SY

theorem cut_ok (s : List UInt8) (n : Nat) (hn : n < 1000000) : CtrP R 12 [vs s, vi n] [] (vs (s.take n)) := by
  refine Ctr.of Try.func12 rfl (by kernel_rfl) rfl fun _ _ w0 => ?_
  (repeat ((conv => whnf); with_reducible first | refine CondG.split ?_ | refine k1 ?_|refine ke fun _ => ?_|refine k2 ?_|refine kg ?_|refine kf ?_|refine k3 ?_|refine k4 ?_|refine kn ?_|refine Ju ?_|refine k5 ?_|refine k6 ?_|refine k7 ?_|refine k8 ?_|refine k9 ?_|refine ka ?_|refine kb ?_|refine kl ?_|refine km ?_|refine kc ?_|refine kd ?_|exact Jv)); refine Br.by (fun g => ?_) (fun g => ?_)
  · repeat ((conv => whnf); with_reducible first | refine CondG.split ?_ | refine k1 ?_|refine ke fun _ => ?_|refine k2 ?_|refine kg ?_|refine kf ?_|refine k3 ?_|refine k4 ?_|refine kn ?_|refine Ju ?_|refine k5 ?_|refine k6 ?_|refine k7 ?_|refine k8 ?_|refine k9 ?_|refine ka ?_|refine kb ?_|refine kl ?_|refine km ?_|refine kc ?_|refine kd ?_|exact Jv)
    refine Fin.pure ?_
    repeat ((conv => whnf); with_reducible first | refine CondG.split ?_ | refine k1 ?_|refine ke fun _ => ?_|refine k2 ?_|refine kg ?_|refine kf ?_|refine k3 ?_|refine k4 ?_|refine kn ?_|refine Ju ?_|refine k5 ?_|refine k6 ?_|refine k7 ?_|refine k8 ?_|refine k9 ?_|refine ka ?_|refine kb ?_|refine kl ?_|refine km ?_|refine kc ?_|refine kd ?_|exact Jv)
  · repeat ((conv => whnf); with_reducible first | refine CondG.split ?_ | refine k1 ?_|refine ke fun _ => ?_|refine k2 ?_|refine kg ?_|refine kf ?_|refine k3 ?_|refine k4 ?_|refine kn ?_|refine Ju ?_|refine k5 ?_|refine k6 ?_|refine k7 ?_|refine k8 ?_|refine k9 ?_|refine ka ?_|refine kb ?_|refine kl ?_|refine km ?_|refine kc ?_|refine kd ?_|exact Jv)
    refine Fin.pure ?_
    (repeat ((conv => whnf); with_reducible first | refine CondG.split ?_ | refine k1 ?_|refine ke fun _ => ?_|refine k2 ?_|refine kg ?_|refine kf ?_|refine k3 ?_|refine k4 ?_|refine kn ?_|refine Ju ?_|refine k5 ?_|refine k6 ?_|refine k7 ?_|refine k8 ?_|refine k9 ?_|refine ka ?_|refine kb ?_|refine kl ?_|refine km ?_|refine kc ?_|refine kd ?_|exact Jv))
    refine Chk.mk (List.take_of_length_le (by omega)).symm ?_
    repeat ((conv => whnf); with_reducible first | refine CondG.split ?_ | refine k1 ?_|refine ke fun _ => ?_|refine k2 ?_|refine kg ?_|refine kf ?_|refine k3 ?_|refine k4 ?_|refine kn ?_|refine Ju ?_|refine k5 ?_|refine k6 ?_|refine k7 ?_|refine k8 ?_|refine k9 ?_|refine ka ?_|refine kb ?_|refine kl ?_|refine km ?_|refine kc ?_|refine kd ?_|exact Jv)
theorem few_len (L : List (List UInt8)) (most : Nat) : ∀ n, ((L.take n).map (List.take most)).flatten.length ≤ n * most := by
  induction L with
  | nil => intro n; simp
  | cons x L ih =>
    intro n
    cases n with
    | zero => simp
    | succ n =>
      have := ih n
      simp only [List.take_succ_cons, List.map_cons, List.flatten_cons, List.length_append, List.length_take, Nat.succ_mul] at this ⊢
      omega
end Go.Proofs.Ytchbadngbddmnaa
