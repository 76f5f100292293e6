/- Each of these laws returns true, whatever its arguments, and each argument reads as it did. Conditions: the listed variables read as the program lays them (tied by the card). -/
import Derived.Test.YtchbadngbddmnaaP6
import Derived.Test.YtchbadngbddmnaaAC
import Derived.Test.YtchbadngbddmnaaSy4
import Derived.Test.YtchbadngbddmnaaRows
import Derived.ChangeSame
import Derived.ChangeVars
import Derived.JoinedOf
import Derived.RowKit
import Derived.WalkKit
import Derived.ProofKit
import Derived.LaidHandle
import Derived.Lay
import Derived.SevenTiedAt
import Derived.SizedLaws
set_option linter.unusedVariables false
set_option linter.unusedSimpArgs false
set_option maxRecDepth 100000
namespace Go.Proofs.Ytchbadngbddmnaa
open Go Go.SY Go.ChangeShapes Go.WideShapes Go.ChangeAt Go.RowKit
theorem ownKnobNone : ownKnob Try.prog.godebug = none := by kernel_rfl
theorem laidOutP : laidOutB Try.prog = true := by kernel_rfl

set_option maxRecDepth 100000 in
theorem diskCrashes_lifted (os : Os) (started : os.Started) (H : Type) (enc : TypeId × Value → H) :
    ReturnsInHanded {} Try.checked os 3 .any (Rows.diskCrashesSpec.pre6 enc Try.prog Try.f3 [] false)
      (Rows.diskCrashesSpec.post enc Try.prog Try.f3 false true false false) := by
  refine returnsInHanded_of_change_sized (C := Try.checked) ownKnobNone started (by kernel_rfl) Try.func3
    (ChangeSpec.witness6 false ⟨#[], #[(.agg #[.slice none 0 0, .slice none 0 0, .int .i64 0, .int .u64 0] : Value)], []⟩ 8 (by kernel_rfl) (by kernel_rfl) (by kernel_rfl) (by kernel_rfl)) ?_
  intro W base args ds gs before hval0 hW _ _ _
  have hval : ∀ (j : Nat) t v, Try.f3.params[j]? = some t → args[j]? = some v → Value.okWide Try.prog W .any base t v := hval0
  have hW' := hW
  obtain ⟨p, q, hA0, hV, rfl, _, _⟩ := hW
  have hA : DataW.TrodAll enc Try.prog W 0 (fun _ => true) true Try.f3.params.toList args.toList ds p := hA0
  rw [Try.params3] at hA hval
  obtain ⟨v0, d0, rfl, rfl, h0⟩ := trodAll_one hA
  obtain ⟨rfl, rfl⟩ := trodVars_none hV
  obtain ⟨st0, m0, x0, y0, L0, M0, rfl, hI0, hJ0, hl0, hm0⟩ := crash_arg (hval 0 25 _ rfl rfl) h0
  rw [List.append_nil] at hW'
  exact law_post (R := R) (args := [va [.c (.lst 500 x0), .c (.lst 501 y0), .c (.int .i64 st0), .c (.w64 m0)]]) (G := [(500, x0.blk, .view (.st actS) x0 L0), (501, y0.blk, .view (.st actS) y0 M0)]) (crashes_law x0 y0 L0 M0 st0 m0 (by unfold maxLen at hl0; omega) (by unfold maxLen at hm0; omega)) rfl (by repeat (first | exact trivial | assumption | refine ⟨?_, ?_⟩)) (W := W) ⟨hI0, hJ0, trivial⟩ laidOutP (by kernel_rfl) rfl (by kernel_rfl) Try.underlying4 rfl hW' (fun x hx => by simpa using hW'.lt x hx)
theorem diskCrashes_holds : Rows.DiskCrashesSaid :=
  OpenClaim.holds_of_wide 3 Try.f3 rfl rfl rfl rfl rfl rfl rfl ⟨rfl, rfl, rfl, rfl, rfl⟩ rfl rfl rfl rfl rfl (by kernel_rfl) Try.func3 (by kernel_rfl)
    (of_decide_eq_true (by kernel_rfl)) (by unfold Func.isWrapper; first | (rw [if_pos (by decide +kernel)]; kernel_rfl) | (rw [if_neg (by decide +kernel)]; exact ⟨rfl, rfl⟩))
    (fun os started H enc _ => diskCrashes_lifted os started H enc)

#print axioms diskCrashes_holds
end Go.Proofs.Ytchbadngbddmnaa
