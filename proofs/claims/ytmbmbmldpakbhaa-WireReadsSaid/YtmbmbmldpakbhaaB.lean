/- The program, and what the elements of its slices are: calls are two numbers and a text. -/
import Derived.Test.YtmbmbmldpakbhaaProg
import Derived.Test.YtmbmbmldpakbhaaSy4
namespace Go.Proofs.Ytmbmbmldpakbhaa
open Go Go.SY
abbrev actS : EncS := ⟨Int × Int × List UInt8, 3, fun x => [.c (.int .i64 x.1), .c (.int .i64 x.2.1), .c (.str x.2.2)], (0, 0, []), fun _ => none, fun _ => rfl, fun _ _ h => by cases h⟩
noncomputable def R : Pr := ⟨Try.prog, fun e => match Nat.beq e 42 with | true => some (.st actS) | false => none⟩
end Go.Proofs.Ytmbmbmldpakbhaa
