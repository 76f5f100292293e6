/- The document's SHA-256: as digits. -/
import Derived.Test.YtpmnfciojbmgdaaDoorW7
set_option linter.unusedVariables false
set_option linter.unusedSimpArgs false
set_option maxRecDepth 10000
namespace Go.Proofs.YtpmnfciojbmgdaaDoor
open Go Go.SY Go.Sha

theorem hex2 (x : UInt8) : (digits.take (x.toNat / 16 + 1)).drop (x.toNat / 16) ++ (digits.take (x.toNat % 16 + 1)).drop (x.toNat % 16) = hexd x := by
  have h : ∀ n, n < 16 → (digits.take (n + 1)).drop n = [digits.getD n 0] := by
    intro n hn
    have : ∀ n : _root_.Fin 16, (digits.take (n.val + 1)).drop n.val = [digits.getD n.val 0] := by decide
    exact this ⟨n, hn⟩
  have hx := x.toNat_lt
  rw [h _ (by omega), h _ (by omega)]; rfl
end Go.Proofs.YtpmnfciojbmgdaaDoor
