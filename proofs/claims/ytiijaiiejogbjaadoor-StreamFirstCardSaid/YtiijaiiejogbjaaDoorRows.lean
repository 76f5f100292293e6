/-
  NARROWER THAN 'FOR EVERY INPUT', by the rows' own cells (each row's printed sentence says how): StreamBlocks: laid · StreamXors: laid · StreamParts: laid · StreamBytes: laid · StreamFirst: laid.
  DERIVED. THE GIVEN ROWS OF THIS SEAT. 5 by the template 'for every input the law returns true; each argument reads behind the call as it read before'; 0 by the template 'total and deterministic' (their statements: YtiijaiiejogbjaaDoorTotals.lean).
  GIVEN WITH THE SEED: the statements are not yours to turn. If you find one false, say at which input.
  Laid BY PROGRAM, IN A SANDBOX (cutbox-rows.mjs): the forced cells as the released guide's own fill.sh prints them over the translation 75b5fb1925869093… (all of the seat's roots in one cut). By AI agents, Wed Nov 11 2026. No macro, syntax, notation, axiom, sorry.
-/
import Derived.Test.YtiijaiiejogbjaaDoorChecked
import GoSem.Claim
import GoSem.ClaimJoined
import GoSem.ClaimMapViews
import Derived.JoinedTies
import Derived.KernelRfl
namespace Go.Proofs.YtiijaiiejogbjaaDoor
/- THE CELL 'sum', in the pinned program and in every row, IS THE sha256 OF THE DUMP (.gsa) THAT YtiijaiiejogbjaaDoorProg.lean LOADS. Nothing in Lean hashes anything: it is a label: what it is worth is what the hold of that sum in a sandbox is worth. -/
noncomputable def Tryd.pinned : Pinned := { name := "ytiijaiiejogbjaadoor", sum := "75b5fb1925869093c77fc6f6615ce3111b6baf835c5091a32c6c9fcc0032ca68", checked := Tryd.checked }
namespace Rows
def none {H : Type} : Left H := { results := [], args := [] }

/- WHAT THE LISTED PACKAGE-LEVEL VARIABLES READ AS WHEN THE CALL BEGINS. Each datum BY PROGRAM (the guide's laid-datum.mjs) off the statement by which the dump's own 'gosem.cut.vars' lays the variable. In a bare row this is a premise. The card (YtiijaiiejogbjaaDoorCards.lean) ties it to the program's text. -/
def laid_sealwax_stream_begin {H : Type} : DataW H := .agg [.lit (.int .u32 1634760805), .lit (.int .u32 857760878), .lit (.int .u32 2036477234), .lit (.int .u32 1797285236)]
def laid_sealwax_stream_quarters {H : Type} : DataW H := .agg [.agg [.lit (.int .i64 0), .lit (.int .i64 4), .lit (.int .i64 8), .lit (.int .i64 12)], .agg [.lit (.int .i64 1), .lit (.int .i64 5), .lit (.int .i64 9), .lit (.int .i64 13)], .agg [.lit (.int .i64 2), .lit (.int .i64 6), .lit (.int .i64 10), .lit (.int .i64 14)], .agg [.lit (.int .i64 3), .lit (.int .i64 7), .lit (.int .i64 11), .lit (.int .i64 15)], .agg [.lit (.int .i64 0), .lit (.int .i64 5), .lit (.int .i64 10), .lit (.int .i64 15)], .agg [.lit (.int .i64 1), .lit (.int .i64 6), .lit (.int .i64 11), .lit (.int .i64 12)], .agg [.lit (.int .i64 2), .lit (.int .i64 7), .lit (.int .i64 8), .lit (.int .i64 13)], .agg [.lit (.int .i64 3), .lit (.int .i64 4), .lit (.int .i64 9), .lit (.int .i64 14)]]

/-- 'sealwaxlaw03.StreamBlocks': WHATEVER THE INPUT: true; the input reads as it did. -/
def streamBlocksSpec : ChangeSpec := { name := "streamBlocks", fn := fun _ => fun
  | [d] => { results := [.lit (.bool true)], args := [d] }
  | _ => none }
def streamBlocksRow : OpenClaim := { program := "ytiijaiiejogbjaadoor", sum := "75b5fb1925869093c77fc6f6615ce3111b6baf835c5091a32c6c9fcc0032ca68", func := "sealwax/sealwaxlaw03.StreamBlocks", spec := "streamBlocks", named := ["sealwax/stream.quarters", "sealwax/stream.begin"], apart := false, laid := [("sealwax/stream.begin", laid_sealwax_stream_begin), ("sealwax/stream.quarters", laid_sealwax_stream_quarters)] }
def StreamBlocksSaid : Prop := streamBlocksRow.holds Tryd.pinned (OpenSpec.ofChange streamBlocksSpec)

/-- ITS FALSE NEIGHBOUR: 'it returns false'. Refute it at one input. -/
def streamBlocksWrong : ChangeSpec := { name := "streamBlocks", fn := fun _ => fun
  | [d] => { results := [.lit (.bool false)], args := [d] }
  | _ => none }
def StreamBlocksWrongFalsely : Prop := streamBlocksRow.holds Tryd.pinned (OpenSpec.ofChange streamBlocksWrong)

/-- 'sealwaxlaw03.StreamXors': WHATEVER THE INPUT: true; the input reads as it did. -/
def streamXorsSpec : ChangeSpec := { name := "streamXors", fn := fun _ => fun
  | [d1, d2] => { results := [.lit (.bool true)], args := [d1, d2] }
  | _ => none }
def streamXorsRow : OpenClaim := { program := "ytiijaiiejogbjaadoor", sum := "75b5fb1925869093c77fc6f6615ce3111b6baf835c5091a32c6c9fcc0032ca68", func := "sealwax/sealwaxlaw03.StreamXors", spec := "streamXors", named := ["sealwax/stream.quarters", "sealwax/stream.begin"], apart := false, laid := [("sealwax/stream.begin", laid_sealwax_stream_begin), ("sealwax/stream.quarters", laid_sealwax_stream_quarters)] }
def StreamXorsSaid : Prop := streamXorsRow.holds Tryd.pinned (OpenSpec.ofChange streamXorsSpec)

/-- ITS FALSE NEIGHBOUR: 'it returns false'. Refute it at one input. -/
def streamXorsWrong : ChangeSpec := { name := "streamXors", fn := fun _ => fun
  | [d1, d2] => { results := [.lit (.bool false)], args := [d1, d2] }
  | _ => none }
def StreamXorsWrongFalsely : Prop := streamXorsRow.holds Tryd.pinned (OpenSpec.ofChange streamXorsWrong)

/-- 'sealwaxlaw03.StreamParts': WHATEVER THE INPUT: true; the input reads as it did. -/
def streamPartsSpec : ChangeSpec := { name := "streamParts", fn := fun _ => fun
  | [d1, d2, d3] => { results := [.lit (.bool true)], args := [d1, d2, d3] }
  | _ => none }
def streamPartsRow : OpenClaim := { program := "ytiijaiiejogbjaadoor", sum := "75b5fb1925869093c77fc6f6615ce3111b6baf835c5091a32c6c9fcc0032ca68", func := "sealwax/sealwaxlaw03.StreamParts", spec := "streamParts", named := ["sealwax/stream.quarters", "sealwax/stream.begin"], apart := false, laid := [("sealwax/stream.begin", laid_sealwax_stream_begin), ("sealwax/stream.quarters", laid_sealwax_stream_quarters)] }
def StreamPartsSaid : Prop := streamPartsRow.holds Tryd.pinned (OpenSpec.ofChange streamPartsSpec)

/-- ITS FALSE NEIGHBOUR: 'it returns false'. Refute it at one input. -/
def streamPartsWrong : ChangeSpec := { name := "streamParts", fn := fun _ => fun
  | [d1, d2, d3] => { results := [.lit (.bool false)], args := [d1, d2, d3] }
  | _ => none }
def StreamPartsWrongFalsely : Prop := streamPartsRow.holds Tryd.pinned (OpenSpec.ofChange streamPartsWrong)

/-- 'sealwaxlaw03.StreamBytes': WHATEVER THE INPUT: true; the input reads as it did. -/
def streamBytesSpec : ChangeSpec := { name := "streamBytes", fn := fun _ => fun
  | [d1, d2, d3] => { results := [.lit (.bool true)], args := [d1, d2, d3] }
  | _ => none }
def streamBytesRow : OpenClaim := { program := "ytiijaiiejogbjaadoor", sum := "75b5fb1925869093c77fc6f6615ce3111b6baf835c5091a32c6c9fcc0032ca68", func := "sealwax/sealwaxlaw03.StreamBytes", spec := "streamBytes", named := ["sealwax/stream.quarters", "sealwax/stream.begin"], apart := false, laid := [("sealwax/stream.begin", laid_sealwax_stream_begin), ("sealwax/stream.quarters", laid_sealwax_stream_quarters)] }
def StreamBytesSaid : Prop := streamBytesRow.holds Tryd.pinned (OpenSpec.ofChange streamBytesSpec)

/-- ITS FALSE NEIGHBOUR: 'it returns false'. Refute it at one input. -/
def streamBytesWrong : ChangeSpec := { name := "streamBytes", fn := fun _ => fun
  | [d1, d2, d3] => { results := [.lit (.bool false)], args := [d1, d2, d3] }
  | _ => none }
def StreamBytesWrongFalsely : Prop := streamBytesRow.holds Tryd.pinned (OpenSpec.ofChange streamBytesWrong)

/-- 'sealwaxlaw03.StreamFirst': WHATEVER THE INPUT: true; the input reads as it did. -/
def streamFirstSpec : ChangeSpec := { name := "streamFirst", fn := fun _ => fun
  | [d] => { results := [.lit (.bool true)], args := [d] }
  | _ => none }
def streamFirstRow : OpenClaim := { program := "ytiijaiiejogbjaadoor", sum := "75b5fb1925869093c77fc6f6615ce3111b6baf835c5091a32c6c9fcc0032ca68", func := "sealwax/sealwaxlaw03.StreamFirst", spec := "streamFirst", named := ["sealwax/stream.quarters", "sealwax/stream.begin"], apart := false, laid := [("sealwax/stream.begin", laid_sealwax_stream_begin), ("sealwax/stream.quarters", laid_sealwax_stream_quarters)] }
def StreamFirstSaid : Prop := streamFirstRow.holds Tryd.pinned (OpenSpec.ofChange streamFirstSpec)

/-- ITS FALSE NEIGHBOUR: 'it returns false'. Refute it at one input. -/
def streamFirstWrong : ChangeSpec := { name := "streamFirst", fn := fun _ => fun
  | [d] => { results := [.lit (.bool false)], args := [d] }
  | _ => none }
def StreamFirstWrongFalsely : Prop := streamFirstRow.holds Tryd.pinned (OpenSpec.ofChange streamFirstWrong)

/- THE SECOND FORM. 'bulk': how many values and letters a reading holds, each counted each time it is reached (what is shared counts as often as it is met; a slice's spare places count too). A statement '..UptoSaid' is the law's where the arguments, and the package variables that the reading takes, are together of bulk at most 1048576: NARROWER than '..Said'. Prove '..Said' where nothing that the law and all that it calls make is longer than what came in: it says more and counts as full. Else prove '..UptoSaid'. A law counts once. -/
mutual
def uptoBulk {H : Type} : DataW H → Nat
  | .lit (.string bytes) => bytes.length + 1
  | .lit _ => 1
  | .nil => 1
  | .ptr d => uptoBulk d + 1
  | .slice elems spare => uptoBulkAll elems + uptoBulkAll spare + 1
  | .agg parts => uptoBulkAll parts + 1
  | .iface _ d => uptoBulk d + 1
  | .map entries => uptoBulkEntries entries + 1
  | .held _ => 1
def uptoBulkAll {H : Type} : List (DataW H) → Nat
  | [] => 0
  | d :: r => uptoBulk d + uptoBulkAll r
def uptoBulkEntries {H : Type} : List (Lit × DataW H) → Nat
  | [] => 0
  | x :: r => uptoBulkEntry x + uptoBulkEntries r
def uptoBulkEntry {H : Type} : Lit × DataW H → Nat
  | (.string bytes, d) => bytes.length + uptoBulk d + 1
  | (_, d) => uptoBulk d + 1
 end
def uptoSmall : (H : Type) → List (DataW H) → Bool := fun _ ds => decide (uptoBulkAll ds ≤ 1048576)
def OpenSpec.upto (s : _root_.Go.ChangeSpec) : _root_.Go.OpenSpec := { _root_.Go.OpenSpec.ofChange s with cond := some uptoSmall }

/-- 'sealwaxlaw03.StreamBlocks', WHERE WHAT IT READS IS OF BULK AT MOST 1048576: true; the input reads as it did. -/
def streamBlocksUptoRow : OpenClaim := { program := "ytiijaiiejogbjaadoor", sum := "75b5fb1925869093c77fc6f6615ce3111b6baf835c5091a32c6c9fcc0032ca68", func := "sealwax/sealwaxlaw03.StreamBlocks", spec := "streamBlocks", named := ["sealwax/stream.quarters", "sealwax/stream.begin"], apart := false, laid := [("sealwax/stream.begin", laid_sealwax_stream_begin), ("sealwax/stream.quarters", laid_sealwax_stream_quarters)], narrowed := true }
def StreamBlocksUptoSaid : Prop := streamBlocksUptoRow.holds Tryd.pinned (OpenSpec.upto streamBlocksSpec)

/-- 'sealwaxlaw03.StreamXors', WHERE WHAT IT READS IS OF BULK AT MOST 1048576: true; the input reads as it did. -/
def streamXorsUptoRow : OpenClaim := { program := "ytiijaiiejogbjaadoor", sum := "75b5fb1925869093c77fc6f6615ce3111b6baf835c5091a32c6c9fcc0032ca68", func := "sealwax/sealwaxlaw03.StreamXors", spec := "streamXors", named := ["sealwax/stream.quarters", "sealwax/stream.begin"], apart := false, laid := [("sealwax/stream.begin", laid_sealwax_stream_begin), ("sealwax/stream.quarters", laid_sealwax_stream_quarters)], narrowed := true }
def StreamXorsUptoSaid : Prop := streamXorsUptoRow.holds Tryd.pinned (OpenSpec.upto streamXorsSpec)

/-- 'sealwaxlaw03.StreamParts', WHERE WHAT IT READS IS OF BULK AT MOST 1048576: true; the input reads as it did. -/
def streamPartsUptoRow : OpenClaim := { program := "ytiijaiiejogbjaadoor", sum := "75b5fb1925869093c77fc6f6615ce3111b6baf835c5091a32c6c9fcc0032ca68", func := "sealwax/sealwaxlaw03.StreamParts", spec := "streamParts", named := ["sealwax/stream.quarters", "sealwax/stream.begin"], apart := false, laid := [("sealwax/stream.begin", laid_sealwax_stream_begin), ("sealwax/stream.quarters", laid_sealwax_stream_quarters)], narrowed := true }
def StreamPartsUptoSaid : Prop := streamPartsUptoRow.holds Tryd.pinned (OpenSpec.upto streamPartsSpec)

/-- 'sealwaxlaw03.StreamBytes', WHERE WHAT IT READS IS OF BULK AT MOST 1048576: true; the input reads as it did. -/
def streamBytesUptoRow : OpenClaim := { program := "ytiijaiiejogbjaadoor", sum := "75b5fb1925869093c77fc6f6615ce3111b6baf835c5091a32c6c9fcc0032ca68", func := "sealwax/sealwaxlaw03.StreamBytes", spec := "streamBytes", named := ["sealwax/stream.quarters", "sealwax/stream.begin"], apart := false, laid := [("sealwax/stream.begin", laid_sealwax_stream_begin), ("sealwax/stream.quarters", laid_sealwax_stream_quarters)], narrowed := true }
def StreamBytesUptoSaid : Prop := streamBytesUptoRow.holds Tryd.pinned (OpenSpec.upto streamBytesSpec)

/-- 'sealwaxlaw03.StreamFirst', WHERE WHAT IT READS IS OF BULK AT MOST 1048576: true; the input reads as it did. -/
def streamFirstUptoRow : OpenClaim := { program := "ytiijaiiejogbjaadoor", sum := "75b5fb1925869093c77fc6f6615ce3111b6baf835c5091a32c6c9fcc0032ca68", func := "sealwax/sealwaxlaw03.StreamFirst", spec := "streamFirst", named := ["sealwax/stream.quarters", "sealwax/stream.begin"], apart := false, laid := [("sealwax/stream.begin", laid_sealwax_stream_begin), ("sealwax/stream.quarters", laid_sealwax_stream_quarters)], narrowed := true }
def StreamFirstUptoSaid : Prop := streamFirstUptoRow.holds Tryd.pinned (OpenSpec.upto streamFirstSpec)

end Rows
end Go.Proofs.YtiijaiiejogbjaaDoor
