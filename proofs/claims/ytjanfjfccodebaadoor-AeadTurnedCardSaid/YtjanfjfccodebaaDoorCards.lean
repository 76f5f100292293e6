/-
  DERIVED. GIVEN WITH THE SEED: THE CARDS: each row of YtjanfjfccodebaaDoorRows.lean that lists a variable, with what it lists TIED to the program's text (the seventh form; the later family's looks); each row that meets fmt, with fmt's text TOLD by the authors' own Lean function (tested against real Go, not proved from fmt's source: count such statements apart). THE CARD IS WHAT COUNTS. Prove the row's statement (the work); the ties are given (YtjanfjfccodebaaDoorTie.lean); close each card by the builder's one call (the guide's Derived/Test/ToyasCard.lean, 'card_holds'). Laid BY PROGRAM, IN A SANDBOX (cutbox-door.mjs). By AI agents, Wed Nov 11 2026. No macro, syntax, notation, axiom, sorry.
-/
import Derived.Test.YtjanfjfccodebaaDoorRows
import GoSem.ClaimSeven
namespace Go.Proofs.YtjanfjfccodebaaDoor
namespace Rows

/-- THE TIED CARD OF 'sealwaxlaw05.AeadParts'. -/
def aeadPartsCard : Claim7 := { stood := { row := aeadPartsRow, standIns := [], harness := (true, "3337613e3eac31265131e07e4b82d764f542ffed3036900e1beed8ee12770c8a"), looks := false }, kinds := [], alts := [], laidByText := true, laidKinds := [.widerDeep, .data], laidTests := true, laidLooks := .later }
def AeadPartsCardSaid : Prop := Claim7.holds Tryd.pinned (.plain (OpenSpec.ofChange aeadPartsSpec)) aeadPartsCard

/-- THE TIED CARD OF 'sealwaxlaw05.AeadSeals'. -/
def aeadSealsCard : Claim7 := { stood := { row := aeadSealsRow, standIns := [], harness := (true, "3337613e3eac31265131e07e4b82d764f542ffed3036900e1beed8ee12770c8a"), looks := false }, kinds := [], alts := [], laidByText := true, laidKinds := [.widerDeep, .data], laidTests := true, laidLooks := .later }
def AeadSealsCardSaid : Prop := Claim7.holds Tryd.pinned (.plain (OpenSpec.ofChange aeadSealsSpec)) aeadSealsCard

/-- THE TIED CARD OF 'sealwaxlaw05.AeadOpens'. -/
def aeadOpensCard : Claim7 := { stood := { row := aeadOpensRow, standIns := [], harness := (true, "3337613e3eac31265131e07e4b82d764f542ffed3036900e1beed8ee12770c8a"), looks := false }, kinds := [], alts := [], laidByText := true, laidKinds := [.widerDeep, .data], laidTests := true, laidLooks := .later }
def AeadOpensCardSaid : Prop := Claim7.holds Tryd.pinned (.plain (OpenSpec.ofChange aeadOpensSpec)) aeadOpensCard

/-- THE TIED CARD OF 'sealwaxlaw05.AeadTurned'. -/
def aeadTurnedCard : Claim7 := { stood := { row := aeadTurnedRow, standIns := [], harness := (true, "3337613e3eac31265131e07e4b82d764f542ffed3036900e1beed8ee12770c8a"), looks := false }, kinds := [], alts := [], laidByText := true, laidKinds := [.widerDeep, .data], laidTests := true, laidLooks := .later }
def AeadTurnedCardSaid : Prop := Claim7.holds Tryd.pinned (.plain (OpenSpec.ofChange aeadTurnedSpec)) aeadTurnedCard

/-- THE TIED CARD OF 'sealwaxlaw05.AeadShort'. -/
def aeadShortCard : Claim7 := { stood := { row := aeadShortRow, standIns := [], harness := (true, "3337613e3eac31265131e07e4b82d764f542ffed3036900e1beed8ee12770c8a"), looks := false }, kinds := [], alts := [], laidByText := true, laidKinds := [.widerDeep, .data], laidTests := true, laidLooks := .later }
def AeadShortCardSaid : Prop := Claim7.holds Tryd.pinned (.plain (OpenSpec.ofChange aeadShortSpec)) aeadShortCard

/-- THE SECOND FORM's CARD OF 'sealwaxlaw05.AeadParts'. -/
def aeadPartsUptoCard : Claim7 := { stood := { row := aeadPartsUptoRow, standIns := [], harness := (true, "3337613e3eac31265131e07e4b82d764f542ffed3036900e1beed8ee12770c8a"), looks := false }, kinds := [], alts := [], laidByText := true, laidKinds := [.widerDeep, .data], laidTests := true, laidLooks := .later }
def AeadPartsUptoCardSaid : Prop := Claim7.holds Tryd.pinned (.plain (OpenSpec.upto aeadPartsSpec)) aeadPartsUptoCard

/-- THE SECOND FORM's CARD OF 'sealwaxlaw05.AeadSeals'. -/
def aeadSealsUptoCard : Claim7 := { stood := { row := aeadSealsUptoRow, standIns := [], harness := (true, "3337613e3eac31265131e07e4b82d764f542ffed3036900e1beed8ee12770c8a"), looks := false }, kinds := [], alts := [], laidByText := true, laidKinds := [.widerDeep, .data], laidTests := true, laidLooks := .later }
def AeadSealsUptoCardSaid : Prop := Claim7.holds Tryd.pinned (.plain (OpenSpec.upto aeadSealsSpec)) aeadSealsUptoCard

/-- THE SECOND FORM's CARD OF 'sealwaxlaw05.AeadOpens'. -/
def aeadOpensUptoCard : Claim7 := { stood := { row := aeadOpensUptoRow, standIns := [], harness := (true, "3337613e3eac31265131e07e4b82d764f542ffed3036900e1beed8ee12770c8a"), looks := false }, kinds := [], alts := [], laidByText := true, laidKinds := [.widerDeep, .data], laidTests := true, laidLooks := .later }
def AeadOpensUptoCardSaid : Prop := Claim7.holds Tryd.pinned (.plain (OpenSpec.upto aeadOpensSpec)) aeadOpensUptoCard

/-- THE SECOND FORM's CARD OF 'sealwaxlaw05.AeadTurned'. -/
def aeadTurnedUptoCard : Claim7 := { stood := { row := aeadTurnedUptoRow, standIns := [], harness := (true, "3337613e3eac31265131e07e4b82d764f542ffed3036900e1beed8ee12770c8a"), looks := false }, kinds := [], alts := [], laidByText := true, laidKinds := [.widerDeep, .data], laidTests := true, laidLooks := .later }
def AeadTurnedUptoCardSaid : Prop := Claim7.holds Tryd.pinned (.plain (OpenSpec.upto aeadTurnedSpec)) aeadTurnedUptoCard

/-- THE SECOND FORM's CARD OF 'sealwaxlaw05.AeadShort'. -/
def aeadShortUptoCard : Claim7 := { stood := { row := aeadShortUptoRow, standIns := [], harness := (true, "3337613e3eac31265131e07e4b82d764f542ffed3036900e1beed8ee12770c8a"), looks := false }, kinds := [], alts := [], laidByText := true, laidKinds := [.widerDeep, .data], laidTests := true, laidLooks := .later }
def AeadShortUptoCardSaid : Prop := Claim7.holds Tryd.pinned (.plain (OpenSpec.upto aeadShortSpec)) aeadShortUptoCard
end Rows
end Go.Proofs.YtjanfjfccodebaaDoor
