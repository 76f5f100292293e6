/-
  No cell of these rows narrows 'for every input' (looked for: loops, veiled, ifaces, maps, wideKeys, modest, calm, conditions, laid).
  DERIVED. THE GIVEN ROWS OF THIS SEAT. 5 by the template 'for every input the law returns true; each argument reads behind the call as it read before'; 0 by the template 'total and deterministic' (their statements: YthkgegbhnhkacaaTotals.lean).
  GIVEN WITH THE SEED: the statements are not yours to turn. If you find one false, say at which input.
  Laid BY PROGRAM, IN A SANDBOX (cutbox-rows.mjs): the forced cells as the released guide's own fill.sh prints them over the translation 006ba49574d8612c… (all of the seat's roots in one cut). By AI agents, Wed Nov 11 2026. No macro, syntax, notation, axiom, sorry.
-/
import Derived.Test.YthkgegbhnhkacaaChecked
import GoSem.Claim
import GoSem.ClaimJoined
import GoSem.ClaimMapViews
import Derived.JoinedTies
import Derived.KernelRfl
namespace Go.Proofs.Ythkgegbhnhkacaa
/- THE CELL 'sum', in the pinned program and in every row, IS THE sha256 OF THE DUMP (.gsa) THAT YthkgegbhnhkacaaProg.lean LOADS. Nothing in Lean hashes anything: it is a label: what it is worth is what the hold of that sum in a sandbox is worth. -/
noncomputable def Try.pinned : Pinned := { name := "ythkgegbhnhkacaa", sum := "006ba49574d8612c2c5e60ee28cc96cf0c5f509d2acbc570ace0a2cff8de6cf2", checked := Try.checked }
namespace Rows
def none {H : Type} : Left H := { results := [], args := [] }

/-- 'sealwaxlaw18.BoxFlags': WHATEVER THE INPUT: true; the input reads as it did. -/
def boxFlagsSpec : ChangeSpec := { name := "boxFlags", fn := fun _ => fun
  | [d1, d2, d3] => { results := [.lit (.bool true)], args := [d1, d2, d3] }
  | _ => none }
def boxFlagsRow : OpenClaim := { program := "ythkgegbhnhkacaa", sum := "006ba49574d8612c2c5e60ee28cc96cf0c5f509d2acbc570ace0a2cff8de6cf2", func := "sealwax/sealwaxlaw18.BoxFlags", spec := "boxFlags", unfollowed := true, recurses := true, apart := false }
def BoxFlagsSaid : Prop := boxFlagsRow.holds Try.pinned (OpenSpec.ofChange boxFlagsSpec)

/-- ITS FALSE NEIGHBOUR: 'it returns false'. Refute it at one input. -/
def boxFlagsWrong : ChangeSpec := { name := "boxFlags", fn := fun _ => fun
  | [d1, d2, d3] => { results := [.lit (.bool false)], args := [d1, d2, d3] }
  | _ => none }
def BoxFlagsWrongFalsely : Prop := boxFlagsRow.holds Try.pinned (OpenSpec.ofChange boxFlagsWrong)

/-- 'sealwaxlaw18.BoxFull': WHATEVER THE INPUT: true; the input reads as it did. -/
def boxFullSpec : ChangeSpec := { name := "boxFull", fn := fun _ => fun
  | [d] => { results := [.lit (.bool true)], args := [d] }
  | _ => none }
def boxFullRow : OpenClaim := { program := "ythkgegbhnhkacaa", sum := "006ba49574d8612c2c5e60ee28cc96cf0c5f509d2acbc570ace0a2cff8de6cf2", func := "sealwax/sealwaxlaw18.BoxFull", spec := "boxFull", unfollowed := true, recurses := true, apart := false }
def BoxFullSaid : Prop := boxFullRow.holds Try.pinned (OpenSpec.ofChange boxFullSpec)

/-- ITS FALSE NEIGHBOUR: 'it returns false'. Refute it at one input. -/
def boxFullWrong : ChangeSpec := { name := "boxFull", fn := fun _ => fun
  | [d] => { results := [.lit (.bool false)], args := [d] }
  | _ => none }
def BoxFullWrongFalsely : Prop := boxFullRow.holds Try.pinned (OpenSpec.ofChange boxFullWrong)

/-- 'sealwaxlaw18.BoxPlays': WHATEVER THE INPUT: true; the input reads as it did. -/
def boxPlaysSpec : ChangeSpec := { name := "boxPlays", fn := fun _ => fun
  | [d1, d2, d3] => { results := [.lit (.bool true)], args := [d1, d2, d3] }
  | _ => none }
def boxPlaysRow : OpenClaim := { program := "ythkgegbhnhkacaa", sum := "006ba49574d8612c2c5e60ee28cc96cf0c5f509d2acbc570ace0a2cff8de6cf2", func := "sealwax/sealwaxlaw18.BoxPlays", spec := "boxPlays", inPlace := ["internal/abi.NoEscape"], unfollowed := true, recurses := true, apart := false }
def BoxPlaysSaid : Prop := boxPlaysRow.holds Try.pinned (OpenSpec.ofChange boxPlaysSpec)

/-- ITS FALSE NEIGHBOUR: 'it returns false'. Refute it at one input. -/
def boxPlaysWrong : ChangeSpec := { name := "boxPlays", fn := fun _ => fun
  | [d1, d2, d3] => { results := [.lit (.bool false)], args := [d1, d2, d3] }
  | _ => none }
def BoxPlaysWrongFalsely : Prop := boxPlaysRow.holds Try.pinned (OpenSpec.ofChange boxPlaysWrong)

/-- 'sealwaxlaw18.BoxOnce': WHATEVER THE INPUT: true; the input reads as it did. -/
def boxOnceSpec : ChangeSpec := { name := "boxOnce", fn := fun _ => fun
  | [d] => { results := [.lit (.bool true)], args := [d] }
  | _ => none }
def boxOnceRow : OpenClaim := { program := "ythkgegbhnhkacaa", sum := "006ba49574d8612c2c5e60ee28cc96cf0c5f509d2acbc570ace0a2cff8de6cf2", func := "sealwax/sealwaxlaw18.BoxOnce", spec := "boxOnce", inPlace := ["internal/abi.NoEscape"], unfollowed := true, recurses := true, apart := false }
def BoxOnceSaid : Prop := boxOnceRow.holds Try.pinned (OpenSpec.ofChange boxOnceSpec)

/-- ITS FALSE NEIGHBOUR: 'it returns false'. Refute it at one input. -/
def boxOnceWrong : ChangeSpec := { name := "boxOnce", fn := fun _ => fun
  | [d] => { results := [.lit (.bool false)], args := [d] }
  | _ => none }
def BoxOnceWrongFalsely : Prop := boxOnceRow.holds Try.pinned (OpenSpec.ofChange boxOnceWrong)

/-- 'sealwaxlaw18.BoxBehind': WHATEVER THE INPUT: true; the input reads as it did. -/
def boxBehindSpec : ChangeSpec := { name := "boxBehind", fn := fun _ => fun
  | [d1, d2] => { results := [.lit (.bool true)], args := [d1, d2] }
  | _ => none }
def boxBehindRow : OpenClaim := { program := "ythkgegbhnhkacaa", sum := "006ba49574d8612c2c5e60ee28cc96cf0c5f509d2acbc570ace0a2cff8de6cf2", func := "sealwax/sealwaxlaw18.BoxBehind", spec := "boxBehind", inPlace := ["internal/abi.NoEscape"], unfollowed := true, recurses := true, apart := false }
def BoxBehindSaid : Prop := boxBehindRow.holds Try.pinned (OpenSpec.ofChange boxBehindSpec)

/-- ITS FALSE NEIGHBOUR: 'it returns false'. Refute it at one input. -/
def boxBehindWrong : ChangeSpec := { name := "boxBehind", fn := fun _ => fun
  | [d1, d2] => { results := [.lit (.bool false)], args := [d1, d2] }
  | _ => none }
def BoxBehindWrongFalsely : Prop := boxBehindRow.holds Try.pinned (OpenSpec.ofChange boxBehindWrong)

/- THE SECOND FORM. 'bulk': how many values and letters a reading holds, each counted each time it is reached (what is shared counts as often as it is met; a slice's spare places count too). A statement '..UptoSaid' is the law's where the arguments, and the package variables that the reading takes, are together of bulk at most 1048576: NARROWER than '..Said'. Prove '..Said' where nothing that the law and all that it calls make is longer than what came in: it says more and counts as full. Else prove '..UptoSaid'. A law counts once. -/
mutual
def uptoBulk {H : Type} : DataW H → Nat
  | .lit (.string bytes) => bytes.length + 1
  | .lit _ => 1
  | .nil => 1
  | .ptr d => uptoBulk d + 1
  | .slice elems spare => uptoBulkAll elems + uptoBulkAll spare + 1
  | .agg parts => uptoBulkAll parts + 1
  | .iface _ d => uptoBulk d + 1
  | .map entries => uptoBulkEntries entries + 1
  | .held _ => 1
def uptoBulkAll {H : Type} : List (DataW H) → Nat
  | [] => 0
  | d :: r => uptoBulk d + uptoBulkAll r
def uptoBulkEntries {H : Type} : List (Lit × DataW H) → Nat
  | [] => 0
  | x :: r => uptoBulkEntry x + uptoBulkEntries r
def uptoBulkEntry {H : Type} : Lit × DataW H → Nat
  | (.string bytes, d) => bytes.length + uptoBulk d + 1
  | (_, d) => uptoBulk d + 1
 end
def uptoSmall : (H : Type) → List (DataW H) → Bool := fun _ ds => decide (uptoBulkAll ds ≤ 1048576)
def OpenSpec.upto (s : _root_.Go.ChangeSpec) : _root_.Go.OpenSpec := { _root_.Go.OpenSpec.ofChange s with cond := some uptoSmall }

/-- 'sealwaxlaw18.BoxFlags', WHERE WHAT IT READS IS OF BULK AT MOST 1048576: true; the input reads as it did. -/
def boxFlagsUptoRow : OpenClaim := { program := "ythkgegbhnhkacaa", sum := "006ba49574d8612c2c5e60ee28cc96cf0c5f509d2acbc570ace0a2cff8de6cf2", func := "sealwax/sealwaxlaw18.BoxFlags", spec := "boxFlags", unfollowed := true, recurses := true, apart := false, narrowed := true }
def BoxFlagsUptoSaid : Prop := boxFlagsUptoRow.holds Try.pinned (OpenSpec.upto boxFlagsSpec)

/-- 'sealwaxlaw18.BoxFull', WHERE WHAT IT READS IS OF BULK AT MOST 1048576: true; the input reads as it did. -/
def boxFullUptoRow : OpenClaim := { program := "ythkgegbhnhkacaa", sum := "006ba49574d8612c2c5e60ee28cc96cf0c5f509d2acbc570ace0a2cff8de6cf2", func := "sealwax/sealwaxlaw18.BoxFull", spec := "boxFull", unfollowed := true, recurses := true, apart := false, narrowed := true }
def BoxFullUptoSaid : Prop := boxFullUptoRow.holds Try.pinned (OpenSpec.upto boxFullSpec)

/-- 'sealwaxlaw18.BoxPlays', WHERE WHAT IT READS IS OF BULK AT MOST 1048576: true; the input reads as it did. -/
def boxPlaysUptoRow : OpenClaim := { program := "ythkgegbhnhkacaa", sum := "006ba49574d8612c2c5e60ee28cc96cf0c5f509d2acbc570ace0a2cff8de6cf2", func := "sealwax/sealwaxlaw18.BoxPlays", spec := "boxPlays", inPlace := ["internal/abi.NoEscape"], unfollowed := true, recurses := true, apart := false, narrowed := true }
def BoxPlaysUptoSaid : Prop := boxPlaysUptoRow.holds Try.pinned (OpenSpec.upto boxPlaysSpec)

/-- 'sealwaxlaw18.BoxOnce', WHERE WHAT IT READS IS OF BULK AT MOST 1048576: true; the input reads as it did. -/
def boxOnceUptoRow : OpenClaim := { program := "ythkgegbhnhkacaa", sum := "006ba49574d8612c2c5e60ee28cc96cf0c5f509d2acbc570ace0a2cff8de6cf2", func := "sealwax/sealwaxlaw18.BoxOnce", spec := "boxOnce", inPlace := ["internal/abi.NoEscape"], unfollowed := true, recurses := true, apart := false, narrowed := true }
def BoxOnceUptoSaid : Prop := boxOnceUptoRow.holds Try.pinned (OpenSpec.upto boxOnceSpec)

/-- 'sealwaxlaw18.BoxBehind', WHERE WHAT IT READS IS OF BULK AT MOST 1048576: true; the input reads as it did. -/
def boxBehindUptoRow : OpenClaim := { program := "ythkgegbhnhkacaa", sum := "006ba49574d8612c2c5e60ee28cc96cf0c5f509d2acbc570ace0a2cff8de6cf2", func := "sealwax/sealwaxlaw18.BoxBehind", spec := "boxBehind", inPlace := ["internal/abi.NoEscape"], unfollowed := true, recurses := true, apart := false, narrowed := true }
def BoxBehindUptoSaid : Prop := boxBehindUptoRow.holds Try.pinned (OpenSpec.upto boxBehindSpec)

end Rows
end Go.Proofs.Ythkgegbhnhkacaa
