/-
  DERIVED. GIVEN WITH THE SEED: THE CARDS: each row of YtpmnfciojbmgdaaDoorRows.lean that lists a variable, with what it lists TIED to the program's text (the seventh form; the later family's looks); each row that meets fmt, with fmt's text TOLD by the authors' own Lean function (tested against real Go, not proved from fmt's source: count such statements apart). THE CARD IS WHAT COUNTS. Prove the row's statement (the work); the ties are given (YtpmnfciojbmgdaaDoorTie.lean); close each card by the builder's one call (the guide's Derived/Test/ToyasCard.lean, 'card_holds'). Laid BY PROGRAM, IN A SANDBOX (cutbox-door.mjs). By AI agents, Wed Nov 11 2026. No macro, syntax, notation, axiom, sorry.
-/
import Derived.Test.YtpmnfciojbmgdaaDoorRows
import GoSem.ClaimSeven
namespace Go.Proofs.YtpmnfciojbmgdaaDoor
namespace Rows

/-- THE TIED CARD OF 'sealwaxlaw07.TreeGrows'. -/
def treeGrowsCard : Claim7 := { stood := { row := treeGrowsRow, standIns := [], harness := (true, "741743e2c2e17179df17f8961f45c29fe664d7a8ea147bc18a32fd5a7438b5eb"), looks := false }, kinds := [], alts := [], laidByText := true, laidKinds := [.data, .data], laidTests := true, laidLooks := .later }
def TreeGrowsCardSaid : Prop := Claim7.holds Tryd.pinned (.plain (OpenSpec.ofChange treeGrowsSpec)) treeGrowsCard

/-- THE TIED CARD OF 'sealwaxlaw07.TreeShows'. -/
def treeShowsCard : Claim7 := { stood := { row := treeShowsRow, standIns := [], harness := (true, "741743e2c2e17179df17f8961f45c29fe664d7a8ea147bc18a32fd5a7438b5eb"), looks := false }, kinds := [], alts := [], laidByText := true, laidKinds := [.data, .data], laidTests := true, laidLooks := .later }
def TreeShowsCardSaid : Prop := Claim7.holds Tryd.pinned (.plain (OpenSpec.ofChange treeShowsSpec)) treeShowsCard

/-- THE TIED CARD OF 'sealwaxlaw07.TreeHolds'. -/
def treeHoldsCard : Claim7 := { stood := { row := treeHoldsRow, standIns := [], harness := (true, "741743e2c2e17179df17f8961f45c29fe664d7a8ea147bc18a32fd5a7438b5eb"), looks := false }, kinds := [], alts := [], laidByText := true, laidKinds := [.data, .data], laidTests := true, laidLooks := .later }
def TreeHoldsCardSaid : Prop := Claim7.holds Tryd.pinned (.plain (OpenSpec.ofChange treeHoldsSpec)) treeHoldsCard

/-- THE TIED CARD OF 'sealwaxlaw07.TreeEach'. -/
def treeEachCard : Claim7 := { stood := { row := treeEachRow, standIns := [], harness := (true, "741743e2c2e17179df17f8961f45c29fe664d7a8ea147bc18a32fd5a7438b5eb"), looks := false }, kinds := [], alts := [], laidByText := true, laidKinds := [.data, .data], laidTests := true, laidLooks := .later }
def TreeEachCardSaid : Prop := Claim7.holds Tryd.pinned (.plain (OpenSpec.ofChange treeEachSpec)) treeEachCard

/-- THE TIED CARD OF 'sealwaxlaw07.TreeClash'. -/
def treeClashCard : Claim7 := { stood := { row := treeClashRow, standIns := [], harness := (true, "741743e2c2e17179df17f8961f45c29fe664d7a8ea147bc18a32fd5a7438b5eb"), looks := false }, kinds := [], alts := [], laidByText := true, laidKinds := [.data, .data], laidTests := true, laidLooks := .later }
def TreeClashCardSaid : Prop := Claim7.holds Tryd.pinned (.plain (OpenSpec.ofChange treeClashSpec)) treeClashCard

/-- THE SECOND FORM's CARD OF 'sealwaxlaw07.TreeGrows'. -/
def treeGrowsUptoCard : Claim7 := { stood := { row := treeGrowsUptoRow, standIns := [], harness := (true, "741743e2c2e17179df17f8961f45c29fe664d7a8ea147bc18a32fd5a7438b5eb"), looks := false }, kinds := [], alts := [], laidByText := true, laidKinds := [.data, .data], laidTests := true, laidLooks := .later }
def TreeGrowsUptoCardSaid : Prop := Claim7.holds Tryd.pinned (.plain (OpenSpec.upto treeGrowsSpec)) treeGrowsUptoCard

/-- THE SECOND FORM's CARD OF 'sealwaxlaw07.TreeShows'. -/
def treeShowsUptoCard : Claim7 := { stood := { row := treeShowsUptoRow, standIns := [], harness := (true, "741743e2c2e17179df17f8961f45c29fe664d7a8ea147bc18a32fd5a7438b5eb"), looks := false }, kinds := [], alts := [], laidByText := true, laidKinds := [.data, .data], laidTests := true, laidLooks := .later }
def TreeShowsUptoCardSaid : Prop := Claim7.holds Tryd.pinned (.plain (OpenSpec.upto treeShowsSpec)) treeShowsUptoCard

/-- THE SECOND FORM's CARD OF 'sealwaxlaw07.TreeHolds'. -/
def treeHoldsUptoCard : Claim7 := { stood := { row := treeHoldsUptoRow, standIns := [], harness := (true, "741743e2c2e17179df17f8961f45c29fe664d7a8ea147bc18a32fd5a7438b5eb"), looks := false }, kinds := [], alts := [], laidByText := true, laidKinds := [.data, .data], laidTests := true, laidLooks := .later }
def TreeHoldsUptoCardSaid : Prop := Claim7.holds Tryd.pinned (.plain (OpenSpec.upto treeHoldsSpec)) treeHoldsUptoCard

/-- THE SECOND FORM's CARD OF 'sealwaxlaw07.TreeEach'. -/
def treeEachUptoCard : Claim7 := { stood := { row := treeEachUptoRow, standIns := [], harness := (true, "741743e2c2e17179df17f8961f45c29fe664d7a8ea147bc18a32fd5a7438b5eb"), looks := false }, kinds := [], alts := [], laidByText := true, laidKinds := [.data, .data], laidTests := true, laidLooks := .later }
def TreeEachUptoCardSaid : Prop := Claim7.holds Tryd.pinned (.plain (OpenSpec.upto treeEachSpec)) treeEachUptoCard

/-- THE SECOND FORM's CARD OF 'sealwaxlaw07.TreeClash'. -/
def treeClashUptoCard : Claim7 := { stood := { row := treeClashUptoRow, standIns := [], harness := (true, "741743e2c2e17179df17f8961f45c29fe664d7a8ea147bc18a32fd5a7438b5eb"), looks := false }, kinds := [], alts := [], laidByText := true, laidKinds := [.data, .data], laidTests := true, laidLooks := .later }
def TreeClashUptoCardSaid : Prop := Claim7.holds Tryd.pinned (.plain (OpenSpec.upto treeClashSpec)) treeClashUptoCard
end Rows
end Go.Proofs.YtpmnfciojbmgdaaDoor
