/- The program, and what the elements of its slices are. -/
import Derived.Test.YteibnphhcddliaaProg
import Derived.Test.YteibnphhcddliaaSy4
namespace Go.Proofs.Yteibnphhcddliaa
open Go Go.SY
noncomputable def R : Pr := ⟨Try.prog, fun _ => none⟩
end Go.Proofs.Yteibnphhcddliaa
