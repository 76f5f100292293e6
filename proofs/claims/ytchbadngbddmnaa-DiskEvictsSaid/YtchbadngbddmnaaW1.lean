/- Package sha: turned right, a block's words. -/
import Derived.Test.YtchbadngbddmnaaB
import Derived.Test.YtchbadngbddmnaaSy4
set_option linter.unusedVariables false
set_option linter.unusedSimpArgs false
set_option maxRecDepth 10000
namespace Go.Proofs.Ytchbadngbddmnaa
open Go Go.SY Go.Sha

def rotG (x : BitVec 32) (k : Int) : BitVec 32 := x <<< (BitVec.ofInt 64 k &&& 31#64).toNat ||| x >>> (32#64 - (BitVec.ofInt 64 k &&& 31#64)).toNat
theorem rotG_right : ∀ n : Nat, n < 32 → 0 < n → (BitVec.ofInt 64 (0 - (n : Int)) &&& 31#64).toNat = 32 - n ∧ (32#64 - (BitVec.ofInt 64 (0 - (n : Int)) &&& 31#64)).toNat = 32 - (32 - n) := by decide
end Go.Proofs.Ytchbadngbddmnaa
