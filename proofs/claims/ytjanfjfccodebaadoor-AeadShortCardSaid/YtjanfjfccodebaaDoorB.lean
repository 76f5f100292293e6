/- The program, and what the elements of its slices are. -/
import Derived.Test.YtjanfjfccodebaaDoorProg
import Derived.Test.YtjanfjfccodebaaDoorSy4
namespace Go.Proofs.YtjanfjfccodebaaDoor
open Go Go.SY
noncomputable def R : Pr := ⟨Tryd.prog, fun _ => none⟩
end Go.Proofs.YtjanfjfccodebaaDoor
