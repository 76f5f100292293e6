/- The program, and what the elements of its slices are. -/
import Derived.Test.YtlnndodcicjhpaaDoorProg
import Derived.Test.YtlnndodcicjhpaaDoorSy3
namespace Go.Proofs.YtlnndodcicjhpaaDoor
open Go Go.SY
noncomputable def R : Pr := ⟨Tryd.prog, fun _ => none⟩
end Go.Proofs.YtlnndodcicjhpaaDoor
