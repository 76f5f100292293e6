/- The program, and what the elements of its slices are: steps of a disk; rows of rows. -/
import Derived.Test.YtchbadngbddmnaaProg
import Derived.Test.YtchbadngbddmnaaSy4
namespace Go.Proofs.Ytchbadngbddmnaa
open Go Go.SY
abbrev Str := List UInt8
abbrev OpT := Int × Int × Str
abbrev opA (x : OpT) : List Sg := [.c (.int .i64 x.1), .c (.int .i64 x.2.1), .c (.str x.2.2)]
def opDec : List Sg → Option OpT
  | [.c (.int .i64 a), .c (.int .i64 b), .c (.str s)] => some (a, b, s)
  | _ => none
theorem opDec_ok (l : List Sg) (x : OpT) (h : opDec l = some x) : opA x = l := by
  unfold opDec at h
  split at h
  · cases h; rfl
  · cases h
abbrev opS : EncS := ⟨OpT, 3, opA, (0, 0, []), opDec, fun _ => rfl, fun l x h => .of (opDec_ok l x h)⟩
/-- A row of texts, as an element: where it lies; its key is 700. -/
abbrev slA (y : SV) : List Sg := [.c (.lst 700 y)]
def slDec : List Sg → Option SV
  | [.c .nilsl] => some .nil
  | [.c (.lst _ y)] => some y
  | _ => none
theorem slDec_ok (l : List Sg) (x : SV) (h : slDec l = some x) : SgEq (slA x) l := by
  unfold slDec at h
  split at h
  · cases h; exact ⟨rfl, fun _ => ⟨trivial, trivial⟩⟩
  · cases h; exact ⟨rfl, fun _ => ⟨trivial, trivial⟩⟩
  · cases h
abbrev slS : EncS := ⟨SV, 1, slA, .nil, slDec, fun _ => rfl, slDec_ok⟩
abbrev ActT := Int × Int × Int × BitVec 64 × Str
abbrev actS : EncS := ⟨ActT, 5, fun x => [.c (.int .i64 x.1), .c (.int .i64 x.2.1), .c (.int .i64 x.2.2.1), .c (.w64 x.2.2.2.1), .c (.str x.2.2.2.2)], (0, 0, 0, 0, []), fun _ => none, fun _ => rfl, fun _ _ h => by cases h⟩
noncomputable def R : Pr := ⟨Try.prog, fun e => match Nat.beq e 68 with | true => some (.st opS) | false => (match Nat.beq e 83 with | true => some (.st opS) | false => (match Nat.beq e 29 with | true => some (.st slS) | false => (match Nat.beq e 32 with | true => some (.st actS) | false => none)))⟩
end Go.Proofs.Ytchbadngbddmnaa
