/-
  DERIVED. GIVEN WITH THE SEED: THE CARDS: each row of YtaklempggodboaaDoorRows.lean that lists a variable, with what it lists TIED to the program's text (the seventh form; the later family's looks); each row that meets fmt, with fmt's text TOLD by the authors' own Lean function (tested against real Go, not proved from fmt's source: count such statements apart). THE CARD IS WHAT COUNTS. Prove the row's statement (the work); the ties are given (YtaklempggodboaaDoorTie.lean); close each card by the builder's one call (the guide's Derived/Test/ToyasCard.lean, 'card_holds'). Laid BY PROGRAM, IN A SANDBOX (cutbox-door.mjs). By AI agents, Wed Nov 11 2026. No macro, syntax, notation, axiom, sorry.
-/
import Derived.Test.YtaklempggodboaaDoorRows
import GoSem.ClaimSeven
namespace Go.Proofs.YtaklempggodboaaDoor
namespace Rows

/-- THE TIED CARD OF 'sealwaxlaw02.MacSums'. -/
def macSumsCard : Claim7 := { stood := { row := macSumsRow, standIns := [], harness := (true, "20ee218bcf90a5cd5a84533e93b05a940d7a7c4de9ff4744c41ddc44c7090584"), looks := false }, kinds := [], alts := [], laidByText := true, laidKinds := [.data, .data], laidTests := true, laidLooks := .later }
def MacSumsCardSaid : Prop := Claim7.holds Tryd.pinned (.plain (OpenSpec.ofChange macSumsSpec)) macSumsCard

/-- THE TIED CARD OF 'sealwaxlaw02.MacNoughts'. -/
def macNoughtsCard : Claim7 := { stood := { row := macNoughtsRow, standIns := [], harness := (true, "20ee218bcf90a5cd5a84533e93b05a940d7a7c4de9ff4744c41ddc44c7090584"), looks := false }, kinds := [], alts := [], laidByText := true, laidKinds := [.data, .data], laidTests := true, laidLooks := .later }
def MacNoughtsCardSaid : Prop := Claim7.holds Tryd.pinned (.plain (OpenSpec.ofChange macNoughtsSpec)) macNoughtsCard

/-- THE TIED CARD OF 'sealwaxlaw02.MacEqual'. -/
def macEqualCard : Claim7 := { stood := { row := macEqualRow, standIns := [], harness := (true, "20ee218bcf90a5cd5a84533e93b05a940d7a7c4de9ff4744c41ddc44c7090584"), looks := false }, kinds := [], alts := [], laidByText := true, laidKinds := [.data, .data], laidTests := true, laidLooks := .later }
def MacEqualCardSaid : Prop := Claim7.holds Tryd.pinned (.plain (OpenSpec.ofChange macEqualSpec)) macEqualCard

/-- THE TIED CARD OF 'sealwaxlaw02.MacExpands'. -/
def macExpandsCard : Claim7 := { stood := { row := macExpandsRow, standIns := [], harness := (true, "20ee218bcf90a5cd5a84533e93b05a940d7a7c4de9ff4744c41ddc44c7090584"), looks := false }, kinds := [], alts := [], laidByText := true, laidKinds := [.data, .data], laidTests := true, laidLooks := .later }
def MacExpandsCardSaid : Prop := Claim7.holds Tryd.pinned (.plain (OpenSpec.ofChange macExpandsSpec)) macExpandsCard

/-- THE TIED CARD OF 'sealwaxlaw02.MacKeys'. -/
def macKeysCard : Claim7 := { stood := { row := macKeysRow, standIns := [], harness := (true, "20ee218bcf90a5cd5a84533e93b05a940d7a7c4de9ff4744c41ddc44c7090584"), looks := false }, kinds := [], alts := [], laidByText := true, laidKinds := [.data, .data], laidTests := true, laidLooks := .later }
def MacKeysCardSaid : Prop := Claim7.holds Tryd.pinned (.plain (OpenSpec.ofChange macKeysSpec)) macKeysCard

/-- THE SECOND FORM's CARD OF 'sealwaxlaw02.MacSums'. -/
def macSumsUptoCard : Claim7 := { stood := { row := macSumsUptoRow, standIns := [], harness := (true, "20ee218bcf90a5cd5a84533e93b05a940d7a7c4de9ff4744c41ddc44c7090584"), looks := false }, kinds := [], alts := [], laidByText := true, laidKinds := [.data, .data], laidTests := true, laidLooks := .later }
def MacSumsUptoCardSaid : Prop := Claim7.holds Tryd.pinned (.plain (OpenSpec.upto macSumsSpec)) macSumsUptoCard

/-- THE SECOND FORM's CARD OF 'sealwaxlaw02.MacNoughts'. -/
def macNoughtsUptoCard : Claim7 := { stood := { row := macNoughtsUptoRow, standIns := [], harness := (true, "20ee218bcf90a5cd5a84533e93b05a940d7a7c4de9ff4744c41ddc44c7090584"), looks := false }, kinds := [], alts := [], laidByText := true, laidKinds := [.data, .data], laidTests := true, laidLooks := .later }
def MacNoughtsUptoCardSaid : Prop := Claim7.holds Tryd.pinned (.plain (OpenSpec.upto macNoughtsSpec)) macNoughtsUptoCard

/-- THE SECOND FORM's CARD OF 'sealwaxlaw02.MacEqual'. -/
def macEqualUptoCard : Claim7 := { stood := { row := macEqualUptoRow, standIns := [], harness := (true, "20ee218bcf90a5cd5a84533e93b05a940d7a7c4de9ff4744c41ddc44c7090584"), looks := false }, kinds := [], alts := [], laidByText := true, laidKinds := [.data, .data], laidTests := true, laidLooks := .later }
def MacEqualUptoCardSaid : Prop := Claim7.holds Tryd.pinned (.plain (OpenSpec.upto macEqualSpec)) macEqualUptoCard

/-- THE SECOND FORM's CARD OF 'sealwaxlaw02.MacExpands'. -/
def macExpandsUptoCard : Claim7 := { stood := { row := macExpandsUptoRow, standIns := [], harness := (true, "20ee218bcf90a5cd5a84533e93b05a940d7a7c4de9ff4744c41ddc44c7090584"), looks := false }, kinds := [], alts := [], laidByText := true, laidKinds := [.data, .data], laidTests := true, laidLooks := .later }
def MacExpandsUptoCardSaid : Prop := Claim7.holds Tryd.pinned (.plain (OpenSpec.upto macExpandsSpec)) macExpandsUptoCard

/-- THE SECOND FORM's CARD OF 'sealwaxlaw02.MacKeys'. -/
def macKeysUptoCard : Claim7 := { stood := { row := macKeysUptoRow, standIns := [], harness := (true, "20ee218bcf90a5cd5a84533e93b05a940d7a7c4de9ff4744c41ddc44c7090584"), looks := false }, kinds := [], alts := [], laidByText := true, laidKinds := [.data, .data], laidTests := true, laidLooks := .later }
def MacKeysUptoCardSaid : Prop := Claim7.holds Tryd.pinned (.plain (OpenSpec.upto macKeysSpec)) macKeysUptoCard
end Rows
end Go.Proofs.YtaklempggodboaaDoor
