/- What is shown: as long as the tree is deep; its sums. -/
import Derived.Test.YtpmnfciojbmgdaaDoorT8
import Derived.Test.YtpmnfciojbmgdaaDoorTA
set_option linter.unusedVariables false
set_option linter.unusedSimpArgs false
set_option maxRecDepth 10000
set_option maxHeartbeats 1000000
namespace Go.Proofs.YtpmnfciojbmgdaaDoor
open Go Go.SY Go.Sha
seal sx sxOps

theorem shows_wf (D : Nat) (hD : D ≤ 16) (i : Int) (F : List (List UInt8)) : (∀ x ∈ shows D i F, x.length = 32) ∧ (shows D i F).length ≤ 16 := by
  unfold shows
  split
  · refine ⟨fun x hx => ?_, by rw [showS_length]; exact hD⟩
    obtain ⟨h, _, rfl⟩ := List.mem_map.1 hx
    obtain ⟨w1, w2, _⟩ := rowAt_wf D F h
    exact getD_len w1 w2 _
  · exact ⟨by simp, by simp⟩
end Go.Proofs.YtpmnfciojbmgdaaDoor
