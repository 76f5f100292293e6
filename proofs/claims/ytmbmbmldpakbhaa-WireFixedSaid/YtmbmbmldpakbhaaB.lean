/- The program, and what the elements of its slices are. -/
import Derived.Test.YtmbmbmldpakbhaaProg
import Derived.Test.YtmbmbmldpakbhaaSy4
namespace Go.Proofs.Ytmbmbmldpakbhaa
open Go Go.SY
noncomputable def R : Pr := ⟨Try.prog, fun _ => none⟩
end Go.Proofs.Ytmbmbmldpakbhaa
