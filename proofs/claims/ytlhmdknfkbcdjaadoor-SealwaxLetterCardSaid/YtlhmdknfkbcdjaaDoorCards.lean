/-
  DERIVED. GIVEN WITH THE SEED: THE CARDS: each row of YtlhmdknfkbcdjaaDoorRows.lean that lists a variable, with what it lists TIED to the program's text (the seventh form; the later family's looks); each row that meets fmt, with fmt's text TOLD by the authors' own Lean function (tested against real Go, not proved from fmt's source: count such statements apart). THE CARD IS WHAT COUNTS. Prove the row's statement (the work); the ties are given (YtlhmdknfkbcdjaaDoorTie.lean); close each card by the builder's one call (the guide's Derived/Test/ToyasCard.lean, 'card_holds'). Laid BY PROGRAM, IN A SANDBOX (cutbox-door.mjs). By AI agents, Wed Nov 11 2026. No macro, syntax, notation, axiom, sorry.
-/
import Derived.Test.YtlhmdknfkbcdjaaDoorRows
import GoSem.ClaimSeven
namespace Go.Proofs.YtlhmdknfkbcdjaaDoor
namespace Rows

/-- THE TIED CARD OF 'sealwaxtop.SealwaxLetter'. -/
def sealwaxLetterCard : Claim7 := { stood := { row := sealwaxLetterRow, standIns := [], harness := (true, "bafd60054f28daeffbc23f17e390898cb3aa5a29a933c92c5fa1dbeb27df3967"), looks := false }, kinds := [], alts := [], laidByText := true, laidKinds := [.data, .data, .widerDeep, .data], laidTests := true, laidLooks := .later }
def SealwaxLetterCardSaid : Prop := Claim7.holds Tryd.pinned (.plain (OpenSpec.ofChange sealwaxLetterSpec)) sealwaxLetterCard

/-- THE TIED CARD OF 'sealwaxtop.SealwaxShown'. -/
def sealwaxShownCard : Claim7 := { stood := { row := sealwaxShownRow, standIns := [], harness := (true, "bafd60054f28daeffbc23f17e390898cb3aa5a29a933c92c5fa1dbeb27df3967"), looks := false }, kinds := [], alts := [], laidByText := true, laidKinds := [.data, .data, .widerDeep, .data], laidTests := true, laidLooks := .later }
def SealwaxShownCardSaid : Prop := Claim7.holds Tryd.pinned (.plain (OpenSpec.ofChange sealwaxShownSpec)) sealwaxShownCard

/-- THE TIED CARD OF 'sealwaxtop.SealwaxPages'. -/
def sealwaxPagesCard : Claim7 := { stood := { row := sealwaxPagesRow, standIns := [], harness := (true, "bafd60054f28daeffbc23f17e390898cb3aa5a29a933c92c5fa1dbeb27df3967"), looks := false }, kinds := [], alts := [], laidByText := true, laidKinds := [.data, .data, .data, .pinned], laidTests := true, laidLooks := .later }
def SealwaxPagesCardSaid : Prop := Claim7.holds Tryd.pinned (.plain (OpenSpec.ofChange sealwaxPagesSpec)) sealwaxPagesCard

/-- THE SECOND FORM's CARD OF 'sealwaxtop.SealwaxLetter'. -/
def sealwaxLetterUptoCard : Claim7 := { stood := { row := sealwaxLetterUptoRow, standIns := [], harness := (true, "bafd60054f28daeffbc23f17e390898cb3aa5a29a933c92c5fa1dbeb27df3967"), looks := false }, kinds := [], alts := [], laidByText := true, laidKinds := [.data, .data, .widerDeep, .data], laidTests := true, laidLooks := .later }
def SealwaxLetterUptoCardSaid : Prop := Claim7.holds Tryd.pinned (.plain (OpenSpec.upto sealwaxLetterSpec)) sealwaxLetterUptoCard

/-- THE SECOND FORM's CARD OF 'sealwaxtop.SealwaxShown'. -/
def sealwaxShownUptoCard : Claim7 := { stood := { row := sealwaxShownUptoRow, standIns := [], harness := (true, "bafd60054f28daeffbc23f17e390898cb3aa5a29a933c92c5fa1dbeb27df3967"), looks := false }, kinds := [], alts := [], laidByText := true, laidKinds := [.data, .data, .widerDeep, .data], laidTests := true, laidLooks := .later }
def SealwaxShownUptoCardSaid : Prop := Claim7.holds Tryd.pinned (.plain (OpenSpec.upto sealwaxShownSpec)) sealwaxShownUptoCard

/-- THE SECOND FORM's CARD OF 'sealwaxtop.SealwaxPages'. -/
def sealwaxPagesUptoCard : Claim7 := { stood := { row := sealwaxPagesUptoRow, standIns := [], harness := (true, "bafd60054f28daeffbc23f17e390898cb3aa5a29a933c92c5fa1dbeb27df3967"), looks := false }, kinds := [], alts := [], laidByText := true, laidKinds := [.data, .data, .data, .pinned], laidTests := true, laidLooks := .later }
def SealwaxPagesUptoCardSaid : Prop := Claim7.holds Tryd.pinned (.plain (OpenSpec.upto sealwaxPagesSpec)) sealwaxPagesUptoCard
end Rows
end Go.Proofs.YtlhmdknfkbcdjaaDoor
