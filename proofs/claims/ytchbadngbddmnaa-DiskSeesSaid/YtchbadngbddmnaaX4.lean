/- Each of these laws returns true, whatever its arguments, and each argument reads as it did. Conditions: the listed variables read as the program lays them (tied by the card). -/
import Derived.Test.YtchbadngbddmnaaP4
import Derived.Test.YtchbadngbddmnaaAR
import Derived.Test.YtchbadngbddmnaaSy4
import Derived.Test.YtchbadngbddmnaaRows
import Derived.ChangeSame
import Derived.ChangeVars
import Derived.JoinedOf
import Derived.RowKit
import Derived.WalkKit
import Derived.ProofKit
import Derived.LaidHandle
import Derived.Lay
import Derived.SevenTiedAt
import Derived.SizedLaws
set_option linter.unusedVariables false
set_option linter.unusedSimpArgs false
set_option maxRecDepth 100000
namespace Go.Proofs.Ytchbadngbddmnaa
open Go Go.SY Go.ChangeShapes Go.WideShapes Go.ChangeAt Go.RowKit
theorem ownKnobNone : ownKnob Try.prog.godebug = none := by kernel_rfl
theorem laidOutP : laidOutB Try.prog = true := by kernel_rfl

set_option maxRecDepth 100000 in
theorem diskSees_lifted (os : Os) (started : os.Started) (H : Type) (enc : TypeId × Value → H) :
    ReturnsInHanded {} Try.checked os 5 .any (Rows.diskSeesSpec.pre6 enc Try.prog Try.f5 [] false)
      (Rows.diskSeesSpec.post enc Try.prog Try.f5 false true false false) := by
  refine returnsInHanded_of_change_sized (C := Try.checked) ownKnobNone started (by kernel_rfl) Try.func5
    (ChangeSpec.witness6 false ⟨#[], #[(.slice none 0 0 : Value)], []⟩ 8 (by kernel_rfl) (by kernel_rfl) (by kernel_rfl) (by kernel_rfl)) ?_
  intro W base args ds gs before hval0 hW _ _ _
  have hval : ∀ (j : Nat) t v, Try.f5.params[j]? = some t → args[j]? = some v → Value.okWide Try.prog W .any base t v := hval0
  have hW' := hW
  obtain ⟨p, q, hA0, hV, rfl, _, _⟩ := hW
  have hA : DataW.TrodAll enc Try.prog W 0 (fun _ => true) true Try.f5.params.toList args.toList ds p := hA0
  rw [Try.params5] at hA hval
  obtain ⟨v0, d0, rfl, rfl, h0⟩ := trodAll_one hA
  obtain ⟨rfl, rfl⟩ := trodVars_none hV
  obtain ⟨x0, L0, rfl, hI0, hQ0, hl0⟩ := arg_acts Try.underlying22 (hval 0 22 _ rfl rfl) h0
  rw [List.append_nil] at hW'
  exact law_post (R := R) (args := [vl 0 x0]) (G := [(0, x0.blk, .view (.st actS) x0 L0)]) (sees_law x0 L0 (by unfold maxLen at hl0; omega)) rfl (by repeat (first | exact trivial | assumption | refine ⟨?_, ?_⟩)) (W := W) ⟨hI0, trivial⟩ laidOutP (by kernel_rfl) rfl (by kernel_rfl) Try.underlying4 rfl hW' (fun x hx => by simpa using hW'.lt x hx)
theorem diskSees_holds : Rows.DiskSeesSaid :=
  OpenClaim.holds_of_wide 5 Try.f5 rfl rfl rfl rfl rfl rfl rfl ⟨rfl, rfl, rfl, rfl, rfl⟩ rfl rfl rfl rfl rfl (by kernel_rfl) Try.func5 (by kernel_rfl)
    (of_decide_eq_true (by kernel_rfl)) (by unfold Func.isWrapper; first | (rw [if_pos (by decide +kernel)]; kernel_rfl) | (rw [if_neg (by decide +kernel)]; exact ⟨rfl, rfl⟩))
    (fun os started H enc _ => diskSees_lifted os started H enc)

#print axioms diskSees_holds
end Go.Proofs.Ytchbadngbddmnaa
