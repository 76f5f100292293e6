/- The program, and what the elements of its slices are. -/
import Derived.Test.YtaklempggodboaaDoorProg
import Derived.Test.YtaklempggodboaaDoorSy3
namespace Go.Proofs.YtaklempggodboaaDoor
open Go Go.SY
noncomputable def R : Pr := ⟨Tryd.prog, fun _ => none⟩
end Go.Proofs.YtaklempggodboaaDoor
