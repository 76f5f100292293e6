/-
  No cell of these rows narrows 'for every input' (looked for: loops, veiled, ifaces, maps, wideKeys, modest, calm, conditions, laid).
  DERIVED. THE GIVEN ROWS OF THIS SEAT. 4 by the template 'for every input the law returns true; each argument reads behind the call as it read before'; 0 by the template 'total and deterministic' (their statements: YteibnphhcddliaaTotals.lean).
  GIVEN WITH THE SEED: the statements are not yours to turn. If you find one false, say at which input.
  Laid BY PROGRAM, IN A SANDBOX (cutbox-rows.mjs): the forced cells as the released guide's own fill.sh prints them over the translation 6336e9f30bdf5d87… (all of the seat's roots in one cut). By AI agents, Wed Nov 11 2026. No macro, syntax, notation, axiom, sorry.
-/
import Derived.Test.YteibnphhcddliaaChecked
import GoSem.Claim
import GoSem.ClaimJoined
import GoSem.ClaimMapViews
import Derived.JoinedTies
import Derived.KernelRfl
namespace Go.Proofs.Yteibnphhcddliaa
/- THE CELL 'sum', in the pinned program and in every row, IS THE sha256 OF THE DUMP (.gsa) THAT YteibnphhcddliaaProg.lean LOADS. Nothing in Lean hashes anything: it is a label: what it is worth is what the hold of that sum in a sandbox is worth. -/
noncomputable def Try.pinned : Pinned := { name := "yteibnphhcddliaa", sum := "6336e9f30bdf5d87159827d31aa9fab0237144ecadbfe48df412a8922e994a61", checked := Try.checked }
namespace Rows
def none {H : Type} : Left H := { results := [], args := [] }

/-- 'sealwaxlaw04.PolyEnds': WHATEVER THE INPUT: true; the input reads as it did. -/
def polyEndsSpec : ChangeSpec := { name := "polyEnds", fn := fun _ => fun
  | [d1, d2, d3] => { results := [.lit (.bool true)], args := [d1, d2, d3] }
  | _ => none }
def polyEndsRow : OpenClaim := { program := "yteibnphhcddliaa", sum := "6336e9f30bdf5d87159827d31aa9fab0237144ecadbfe48df412a8922e994a61", func := "sealwax/sealwaxlaw04.PolyEnds", spec := "polyEnds", inPlace := ["internal/abi.NoEscape", "internal/bytealg.MakeNoZero"], apart := false }
def PolyEndsSaid : Prop := polyEndsRow.holds Try.pinned (OpenSpec.ofChange polyEndsSpec)

/-- ITS FALSE NEIGHBOUR: 'it returns false'. Refute it at one input. -/
def polyEndsWrong : ChangeSpec := { name := "polyEnds", fn := fun _ => fun
  | [d1, d2, d3] => { results := [.lit (.bool false)], args := [d1, d2, d3] }
  | _ => none }
def PolyEndsWrongFalsely : Prop := polyEndsRow.holds Try.pinned (OpenSpec.ofChange polyEndsWrong)

/-- 'sealwaxlaw04.PolySimple': WHATEVER THE INPUT: true; the input reads as it did. -/
def polySimpleSpec : ChangeSpec := { name := "polySimple", fn := fun _ => fun
  | [d1, d2, d3] => { results := [.lit (.bool true)], args := [d1, d2, d3] }
  | _ => none }
def polySimpleRow : OpenClaim := { program := "yteibnphhcddliaa", sum := "6336e9f30bdf5d87159827d31aa9fab0237144ecadbfe48df412a8922e994a61", func := "sealwax/sealwaxlaw04.PolySimple", spec := "polySimple", inPlace := ["internal/abi.NoEscape", "internal/bytealg.MakeNoZero"], apart := false }
def PolySimpleSaid : Prop := polySimpleRow.holds Try.pinned (OpenSpec.ofChange polySimpleSpec)

/-- ITS FALSE NEIGHBOUR: 'it returns false'. Refute it at one input. -/
def polySimpleWrong : ChangeSpec := { name := "polySimple", fn := fun _ => fun
  | [d1, d2, d3] => { results := [.lit (.bool false)], args := [d1, d2, d3] }
  | _ => none }
def PolySimpleWrongFalsely : Prop := polySimpleRow.holds Try.pinned (OpenSpec.ofChange polySimpleWrong)

/-- 'sealwaxlaw04.PolyTags': WHATEVER THE INPUT: true; the input reads as it did. -/
def polyTagsSpec : ChangeSpec := { name := "polyTags", fn := fun _ => fun
  | [d1, d2] => { results := [.lit (.bool true)], args := [d1, d2] }
  | _ => none }
def polyTagsRow : OpenClaim := { program := "yteibnphhcddliaa", sum := "6336e9f30bdf5d87159827d31aa9fab0237144ecadbfe48df412a8922e994a61", func := "sealwax/sealwaxlaw04.PolyTags", spec := "polyTags", inPlace := ["internal/abi.NoEscape", "internal/bytealg.MakeNoZero"], apart := false }
def PolyTagsSaid : Prop := polyTagsRow.holds Try.pinned (OpenSpec.ofChange polyTagsSpec)

/-- ITS FALSE NEIGHBOUR: 'it returns false'. Refute it at one input. -/
def polyTagsWrong : ChangeSpec := { name := "polyTags", fn := fun _ => fun
  | [d1, d2] => { results := [.lit (.bool false)], args := [d1, d2] }
  | _ => none }
def PolyTagsWrongFalsely : Prop := polyTagsRow.holds Try.pinned (OpenSpec.ofChange polyTagsWrong)

/-- 'sealwaxlaw04.PolyEqual': WHATEVER THE INPUT: true; the input reads as it did. -/
def polyEqualSpec : ChangeSpec := { name := "polyEqual", fn := fun _ => fun
  | [d1, d2, d3] => { results := [.lit (.bool true)], args := [d1, d2, d3] }
  | _ => none }
def polyEqualRow : OpenClaim := { program := "yteibnphhcddliaa", sum := "6336e9f30bdf5d87159827d31aa9fab0237144ecadbfe48df412a8922e994a61", func := "sealwax/sealwaxlaw04.PolyEqual", spec := "polyEqual", inPlace := ["internal/abi.NoEscape", "internal/bytealg.MakeNoZero"], apart := false }
def PolyEqualSaid : Prop := polyEqualRow.holds Try.pinned (OpenSpec.ofChange polyEqualSpec)

/-- ITS FALSE NEIGHBOUR: 'it returns false'. Refute it at one input. -/
def polyEqualWrong : ChangeSpec := { name := "polyEqual", fn := fun _ => fun
  | [d1, d2, d3] => { results := [.lit (.bool false)], args := [d1, d2, d3] }
  | _ => none }
def PolyEqualWrongFalsely : Prop := polyEqualRow.holds Try.pinned (OpenSpec.ofChange polyEqualWrong)

/- THE SECOND FORM. 'bulk': how many values and letters a reading holds, each counted each time it is reached (what is shared counts as often as it is met; a slice's spare places count too). A statement '..UptoSaid' is the law's where the arguments, and the package variables that the reading takes, are together of bulk at most 1048576: NARROWER than '..Said'. Prove '..Said' where nothing that the law and all that it calls make is longer than what came in: it says more and counts as full. Else prove '..UptoSaid'. A law counts once. -/
mutual
def uptoBulk {H : Type} : DataW H → Nat
  | .lit (.string bytes) => bytes.length + 1
  | .lit _ => 1
  | .nil => 1
  | .ptr d => uptoBulk d + 1
  | .slice elems spare => uptoBulkAll elems + uptoBulkAll spare + 1
  | .agg parts => uptoBulkAll parts + 1
  | .iface _ d => uptoBulk d + 1
  | .map entries => uptoBulkEntries entries + 1
  | .held _ => 1
def uptoBulkAll {H : Type} : List (DataW H) → Nat
  | [] => 0
  | d :: r => uptoBulk d + uptoBulkAll r
def uptoBulkEntries {H : Type} : List (Lit × DataW H) → Nat
  | [] => 0
  | x :: r => uptoBulkEntry x + uptoBulkEntries r
def uptoBulkEntry {H : Type} : Lit × DataW H → Nat
  | (.string bytes, d) => bytes.length + uptoBulk d + 1
  | (_, d) => uptoBulk d + 1
 end
def uptoSmall : (H : Type) → List (DataW H) → Bool := fun _ ds => decide (uptoBulkAll ds ≤ 1048576)
def OpenSpec.upto (s : _root_.Go.ChangeSpec) : _root_.Go.OpenSpec := { _root_.Go.OpenSpec.ofChange s with cond := some uptoSmall }

/-- 'sealwaxlaw04.PolyEnds', WHERE WHAT IT READS IS OF BULK AT MOST 1048576: true; the input reads as it did. -/
def polyEndsUptoRow : OpenClaim := { program := "yteibnphhcddliaa", sum := "6336e9f30bdf5d87159827d31aa9fab0237144ecadbfe48df412a8922e994a61", func := "sealwax/sealwaxlaw04.PolyEnds", spec := "polyEnds", inPlace := ["internal/abi.NoEscape", "internal/bytealg.MakeNoZero"], apart := false, narrowed := true }
def PolyEndsUptoSaid : Prop := polyEndsUptoRow.holds Try.pinned (OpenSpec.upto polyEndsSpec)

/-- 'sealwaxlaw04.PolySimple', WHERE WHAT IT READS IS OF BULK AT MOST 1048576: true; the input reads as it did. -/
def polySimpleUptoRow : OpenClaim := { program := "yteibnphhcddliaa", sum := "6336e9f30bdf5d87159827d31aa9fab0237144ecadbfe48df412a8922e994a61", func := "sealwax/sealwaxlaw04.PolySimple", spec := "polySimple", inPlace := ["internal/abi.NoEscape", "internal/bytealg.MakeNoZero"], apart := false, narrowed := true }
def PolySimpleUptoSaid : Prop := polySimpleUptoRow.holds Try.pinned (OpenSpec.upto polySimpleSpec)

/-- 'sealwaxlaw04.PolyTags', WHERE WHAT IT READS IS OF BULK AT MOST 1048576: true; the input reads as it did. -/
def polyTagsUptoRow : OpenClaim := { program := "yteibnphhcddliaa", sum := "6336e9f30bdf5d87159827d31aa9fab0237144ecadbfe48df412a8922e994a61", func := "sealwax/sealwaxlaw04.PolyTags", spec := "polyTags", inPlace := ["internal/abi.NoEscape", "internal/bytealg.MakeNoZero"], apart := false, narrowed := true }
def PolyTagsUptoSaid : Prop := polyTagsUptoRow.holds Try.pinned (OpenSpec.upto polyTagsSpec)

/-- 'sealwaxlaw04.PolyEqual', WHERE WHAT IT READS IS OF BULK AT MOST 1048576: true; the input reads as it did. -/
def polyEqualUptoRow : OpenClaim := { program := "yteibnphhcddliaa", sum := "6336e9f30bdf5d87159827d31aa9fab0237144ecadbfe48df412a8922e994a61", func := "sealwax/sealwaxlaw04.PolyEqual", spec := "polyEqual", inPlace := ["internal/abi.NoEscape", "internal/bytealg.MakeNoZero"], apart := false, narrowed := true }
def PolyEqualUptoSaid : Prop := polyEqualUptoRow.holds Try.pinned (OpenSpec.upto polyEqualSpec)

end Rows
end Go.Proofs.Yteibnphhcddliaa
