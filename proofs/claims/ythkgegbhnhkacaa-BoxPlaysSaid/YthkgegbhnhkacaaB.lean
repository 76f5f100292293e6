/- The program, and what the elements of its slices are: entries are three numbers. -/
import Derived.Test.YthkgegbhnhkacaaProg
import Derived.Test.YthkgegbhnhkacaaSy4
namespace Go.Proofs.Ythkgegbhnhkacaa
open Go Go.SY
abbrev Ent := Int × Int × Int
abbrev entA (x : Ent) : List Sg := [.c (.int .i64 x.1), .c (.int .i64 x.2.1), .c (.int .i64 x.2.2)]
def entDec : List Sg → Option Ent
  | [.c (.int .i64 a), .c (.int .i64 b), .c (.int .i64 c)] => some (a, b, c)
  | _ => none
theorem entDec_ok (l : List Sg) (x : Ent) (h : entDec l = some x) : entA x = l := by
  unfold entDec at h
  split at h
  · cases h; rfl
  · cases h
abbrev entS : EncS := ⟨Ent, 3, entA, (0, 0, 0), entDec, fun _ => rfl, entDec_ok⟩
abbrev pairS : EncS := ⟨List Int, 2, fun x => [.arr (.int .i64) 2 x], [0, 0], fun _ => none, fun _ => rfl, fun _ _ h => by cases h⟩
noncomputable def R : Pr := ⟨Try.prog, fun e => match Nat.beq e 27 with | true => some (.st entS) | false => (match Nat.beq e 31 with | true => some (.st pairS) | false => (match Nat.beq e 69 with | true => some (.st entS) | false => none))⟩
end Go.Proofs.Ythkgegbhnhkacaa
