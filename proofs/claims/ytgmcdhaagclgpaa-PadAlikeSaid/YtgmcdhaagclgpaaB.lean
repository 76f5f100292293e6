/- The program, and what the elements of its slices are. -/
import Derived.Test.YtgmcdhaagclgpaaProg
import Derived.Test.YtgmcdhaagclgpaaSy4
namespace Go.Proofs.Ytgmcdhaagclgpaa
open Go Go.SY
noncomputable def R : Pr := ⟨Try.prog, fun _ => none⟩
end Go.Proofs.Ytgmcdhaagclgpaa
