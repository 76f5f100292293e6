/- The program, and what the elements of its slices are. -/
import Derived.Test.YtgmcdhaagclgpaaDoorProg
import Derived.Test.YtgmcdhaagclgpaaDoorSy4
namespace Go.Proofs.YtgmcdhaagclgpaaDoor
open Go Go.SY
noncomputable def R : Pr := ⟨Tryd.prog, fun _ => none⟩
end Go.Proofs.YtgmcdhaagclgpaaDoor
