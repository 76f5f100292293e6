/-
  DERIVED. GIVEN WITH THE SEED: THE CARDS: each row of YtiijaiiejogbjaaDoorRows.lean that lists a variable, with what it lists TIED to the program's text (the seventh form; the later family's looks); each row that meets fmt, with fmt's text TOLD by the authors' own Lean function (tested against real Go, not proved from fmt's source: count such statements apart). THE CARD IS WHAT COUNTS. Prove the row's statement (the work); the ties are given (YtiijaiiejogbjaaDoorTie.lean); close each card by the builder's one call (the guide's Derived/Test/ToyasCard.lean, 'card_holds'). Laid BY PROGRAM, IN A SANDBOX (cutbox-door.mjs). By AI agents, Wed Nov 11 2026. No macro, syntax, notation, axiom, sorry.
-/
import Derived.Test.YtiijaiiejogbjaaDoorRows
import GoSem.ClaimSeven
namespace Go.Proofs.YtiijaiiejogbjaaDoor
namespace Rows

/-- THE TIED CARD OF 'sealwaxlaw03.StreamBlocks'. -/
def streamBlocksCard : Claim7 := { stood := { row := streamBlocksRow, standIns := [], harness := (true, "3467f63696ca9918b9deff1e26c6534500597e9310a752fbd40849a46baf8cd6"), looks := false }, kinds := [], alts := [], laidByText := true, laidKinds := [.widerDeep, .data], laidTests := true, laidLooks := .later }
def StreamBlocksCardSaid : Prop := Claim7.holds Tryd.pinned (.plain (OpenSpec.ofChange streamBlocksSpec)) streamBlocksCard

/-- THE TIED CARD OF 'sealwaxlaw03.StreamXors'. -/
def streamXorsCard : Claim7 := { stood := { row := streamXorsRow, standIns := [], harness := (true, "3467f63696ca9918b9deff1e26c6534500597e9310a752fbd40849a46baf8cd6"), looks := false }, kinds := [], alts := [], laidByText := true, laidKinds := [.widerDeep, .data], laidTests := true, laidLooks := .later }
def StreamXorsCardSaid : Prop := Claim7.holds Tryd.pinned (.plain (OpenSpec.ofChange streamXorsSpec)) streamXorsCard

/-- THE TIED CARD OF 'sealwaxlaw03.StreamParts'. -/
def streamPartsCard : Claim7 := { stood := { row := streamPartsRow, standIns := [], harness := (true, "3467f63696ca9918b9deff1e26c6534500597e9310a752fbd40849a46baf8cd6"), looks := false }, kinds := [], alts := [], laidByText := true, laidKinds := [.widerDeep, .data], laidTests := true, laidLooks := .later }
def StreamPartsCardSaid : Prop := Claim7.holds Tryd.pinned (.plain (OpenSpec.ofChange streamPartsSpec)) streamPartsCard

/-- THE TIED CARD OF 'sealwaxlaw03.StreamBytes'. -/
def streamBytesCard : Claim7 := { stood := { row := streamBytesRow, standIns := [], harness := (true, "3467f63696ca9918b9deff1e26c6534500597e9310a752fbd40849a46baf8cd6"), looks := false }, kinds := [], alts := [], laidByText := true, laidKinds := [.widerDeep, .data], laidTests := true, laidLooks := .later }
def StreamBytesCardSaid : Prop := Claim7.holds Tryd.pinned (.plain (OpenSpec.ofChange streamBytesSpec)) streamBytesCard

/-- THE TIED CARD OF 'sealwaxlaw03.StreamFirst'. -/
def streamFirstCard : Claim7 := { stood := { row := streamFirstRow, standIns := [], harness := (true, "3467f63696ca9918b9deff1e26c6534500597e9310a752fbd40849a46baf8cd6"), looks := false }, kinds := [], alts := [], laidByText := true, laidKinds := [.widerDeep, .data], laidTests := true, laidLooks := .later }
def StreamFirstCardSaid : Prop := Claim7.holds Tryd.pinned (.plain (OpenSpec.ofChange streamFirstSpec)) streamFirstCard

/-- THE SECOND FORM's CARD OF 'sealwaxlaw03.StreamBlocks'. -/
def streamBlocksUptoCard : Claim7 := { stood := { row := streamBlocksUptoRow, standIns := [], harness := (true, "3467f63696ca9918b9deff1e26c6534500597e9310a752fbd40849a46baf8cd6"), looks := false }, kinds := [], alts := [], laidByText := true, laidKinds := [.widerDeep, .data], laidTests := true, laidLooks := .later }
def StreamBlocksUptoCardSaid : Prop := Claim7.holds Tryd.pinned (.plain (OpenSpec.upto streamBlocksSpec)) streamBlocksUptoCard

/-- THE SECOND FORM's CARD OF 'sealwaxlaw03.StreamXors'. -/
def streamXorsUptoCard : Claim7 := { stood := { row := streamXorsUptoRow, standIns := [], harness := (true, "3467f63696ca9918b9deff1e26c6534500597e9310a752fbd40849a46baf8cd6"), looks := false }, kinds := [], alts := [], laidByText := true, laidKinds := [.widerDeep, .data], laidTests := true, laidLooks := .later }
def StreamXorsUptoCardSaid : Prop := Claim7.holds Tryd.pinned (.plain (OpenSpec.upto streamXorsSpec)) streamXorsUptoCard

/-- THE SECOND FORM's CARD OF 'sealwaxlaw03.StreamParts'. -/
def streamPartsUptoCard : Claim7 := { stood := { row := streamPartsUptoRow, standIns := [], harness := (true, "3467f63696ca9918b9deff1e26c6534500597e9310a752fbd40849a46baf8cd6"), looks := false }, kinds := [], alts := [], laidByText := true, laidKinds := [.widerDeep, .data], laidTests := true, laidLooks := .later }
def StreamPartsUptoCardSaid : Prop := Claim7.holds Tryd.pinned (.plain (OpenSpec.upto streamPartsSpec)) streamPartsUptoCard

/-- THE SECOND FORM's CARD OF 'sealwaxlaw03.StreamBytes'. -/
def streamBytesUptoCard : Claim7 := { stood := { row := streamBytesUptoRow, standIns := [], harness := (true, "3467f63696ca9918b9deff1e26c6534500597e9310a752fbd40849a46baf8cd6"), looks := false }, kinds := [], alts := [], laidByText := true, laidKinds := [.widerDeep, .data], laidTests := true, laidLooks := .later }
def StreamBytesUptoCardSaid : Prop := Claim7.holds Tryd.pinned (.plain (OpenSpec.upto streamBytesSpec)) streamBytesUptoCard

/-- THE SECOND FORM's CARD OF 'sealwaxlaw03.StreamFirst'. -/
def streamFirstUptoCard : Claim7 := { stood := { row := streamFirstUptoRow, standIns := [], harness := (true, "3467f63696ca9918b9deff1e26c6534500597e9310a752fbd40849a46baf8cd6"), looks := false }, kinds := [], alts := [], laidByText := true, laidKinds := [.widerDeep, .data], laidTests := true, laidLooks := .later }
def StreamFirstUptoCardSaid : Prop := Claim7.holds Tryd.pinned (.plain (OpenSpec.upto streamFirstSpec)) streamFirstUptoCard
end Rows
end Go.Proofs.YtiijaiiejogbjaaDoor
