/-
  DERIVED. GIVEN WITH THE SEED: THE CARDS: each row of YtgmcdhaagclgpaaDoorRows.lean that lists a variable, with what it lists TIED to the program's text (the seventh form; the later family's looks); each row that meets fmt, with fmt's text TOLD by the authors' own Lean function (tested against real Go, not proved from fmt's source: count such statements apart). THE CARD IS WHAT COUNTS. Prove the row's statement (the work); the ties are given (YtgmcdhaagclgpaaDoorTie.lean); close each card by the builder's one call (the guide's Derived/Test/ToyasCard.lean, 'card_holds'). Laid BY PROGRAM, IN A SANDBOX (cutbox-door.mjs). By AI agents, Wed Nov 11 2026. No macro, syntax, notation, axiom, sorry.
-/
import Derived.Test.YtgmcdhaagclgpaaDoorRows
import GoSem.ClaimSeven
namespace Go.Proofs.YtgmcdhaagclgpaaDoor
namespace Rows

/-- THE TIED CARD OF 'sealwaxlaw12.PadPacks'. -/
def padPacksCard : Claim7 := { stood := { row := padPacksRow, standIns := [], harness := (true, "cc592496f0eab9c5e75bc714d7486ae9e85ee5df28491938aaac074d5ced0626"), looks := false }, kinds := [], alts := [], laidByText := true, laidKinds := [.data, .pinned], laidTests := true, laidLooks := .later }
def PadPacksCardSaid : Prop := Claim7.holds Tryd.pinned (.plain (OpenSpec.ofChange padPacksSpec)) padPacksCard

/-- THE TIED CARD OF 'sealwaxlaw12.PadUnpacks'. -/
def padUnpacksCard : Claim7 := { stood := { row := padUnpacksRow, standIns := [], harness := (true, "cc592496f0eab9c5e75bc714d7486ae9e85ee5df28491938aaac074d5ced0626"), looks := false }, kinds := [], alts := [], laidByText := true, laidKinds := [.data, .pinned], laidTests := true, laidLooks := .later }
def PadUnpacksCardSaid : Prop := Claim7.holds Tryd.pinned (.plain (OpenSpec.ofChange padUnpacksSpec)) padUnpacksCard

/-- THE TIED CARD OF 'sealwaxlaw12.PadSizes'. -/
def padSizesCard : Claim7 := { stood := { row := padSizesRow, standIns := [], harness := (true, "cc592496f0eab9c5e75bc714d7486ae9e85ee5df28491938aaac074d5ced0626"), looks := false }, kinds := [], alts := [], laidByText := true, laidKinds := [.data, .pinned], laidTests := true, laidLooks := .later }
def PadSizesCardSaid : Prop := Claim7.holds Tryd.pinned (.plain (OpenSpec.ofChange padSizesSpec)) padSizesCard

/-- THE SECOND FORM's CARD OF 'sealwaxlaw12.PadPacks'. -/
def padPacksUptoCard : Claim7 := { stood := { row := padPacksUptoRow, standIns := [], harness := (true, "cc592496f0eab9c5e75bc714d7486ae9e85ee5df28491938aaac074d5ced0626"), looks := false }, kinds := [], alts := [], laidByText := true, laidKinds := [.data, .pinned], laidTests := true, laidLooks := .later }
def PadPacksUptoCardSaid : Prop := Claim7.holds Tryd.pinned (.plain (OpenSpec.upto padPacksSpec)) padPacksUptoCard

/-- THE SECOND FORM's CARD OF 'sealwaxlaw12.PadUnpacks'. -/
def padUnpacksUptoCard : Claim7 := { stood := { row := padUnpacksUptoRow, standIns := [], harness := (true, "cc592496f0eab9c5e75bc714d7486ae9e85ee5df28491938aaac074d5ced0626"), looks := false }, kinds := [], alts := [], laidByText := true, laidKinds := [.data, .pinned], laidTests := true, laidLooks := .later }
def PadUnpacksUptoCardSaid : Prop := Claim7.holds Tryd.pinned (.plain (OpenSpec.upto padUnpacksSpec)) padUnpacksUptoCard

/-- THE SECOND FORM's CARD OF 'sealwaxlaw12.PadSizes'. -/
def padSizesUptoCard : Claim7 := { stood := { row := padSizesUptoRow, standIns := [], harness := (true, "cc592496f0eab9c5e75bc714d7486ae9e85ee5df28491938aaac074d5ced0626"), looks := false }, kinds := [], alts := [], laidByText := true, laidKinds := [.data, .pinned], laidTests := true, laidLooks := .later }
def PadSizesUptoCardSaid : Prop := Claim7.holds Tryd.pinned (.plain (OpenSpec.upto padSizesSpec)) padSizesUptoCard
end Rows
end Go.Proofs.YtgmcdhaagclgpaaDoor
