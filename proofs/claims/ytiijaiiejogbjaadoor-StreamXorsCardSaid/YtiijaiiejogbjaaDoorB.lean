/- The program, and what the elements of its slices are. -/
import Derived.Test.YtiijaiiejogbjaaDoorProg
import Derived.Test.YtiijaiiejogbjaaDoorSy3
namespace Go.Proofs.YtiijaiiejogbjaaDoor
open Go Go.SY
noncomputable def R : Pr := ⟨Tryd.prog, fun _ => none⟩
end Go.Proofs.YtiijaiiejogbjaaDoor
