/-
  DERIVED. GIVEN WITH THE SEED: THE CARDS: each row of YtbnemnhmejmeeaaGreatDoorRows.lean that lists a variable, with what it lists TIED to the program's text (the seventh form; the later family's looks); each row that meets fmt, with fmt's text TOLD by the authors' own Lean function (tested against real Go, not proved from fmt's source: count such statements apart). THE CARD IS WHAT COUNTS. Prove the row's statement (the work); the ties are given (YtbnemnhmejmeeaaGreatDoorTie.lean); close each card by the builder's one call (the guide's Derived/Test/ToyasCard.lean, 'card_holds'). Laid BY PROGRAM, IN A SANDBOX (cutbox-door.mjs). By AI agents, Wed Nov 11 2026. No macro, syntax, notation, axiom, sorry.
-/
import Derived.Test.YtbnemnhmejmeeaaGreatDoorRows
import GoSem.ClaimSeven
namespace Go.Proofs.YtbnemnhmejmeeaaGreatDoor
namespace Rows

/-- THE TIED CARD OF 'pencilworkstop.TopSheets'. -/
def topSheetsCard : Claim7 := { stood := { row := topSheetsRow, standIns := [], harness := (true, "cf1efd746eec394e4b1c45bec186a5cb0bc492e409df02b744aae241cc8e30d6"), looks := true }, kinds := [], alts := [], laidByText := true, laidKinds := [.data, .data, .data], laidTests := true, laidLooks := .later }
def TopSheetsCardSaid : Prop := Claim7.holds Tryz.pinned (.plain (OpenSpec.ofChange topSheetsSpec)) topSheetsCard

/-- THE TIED CARD OF 'pencilworkstop.TopPacks'. -/
def topPacksCard : Claim7 := { stood := { row := topPacksRow, standIns := [], harness := (true, "cf1efd746eec394e4b1c45bec186a5cb0bc492e409df02b744aae241cc8e30d6"), looks := true }, kinds := [], alts := [], laidByText := true, laidKinds := [.data, .data, .data, .data, .pinned], laidTests := true, laidLooks := .later }
def TopPacksCardSaid : Prop := Claim7.holds Tryz.pinned (.plain (OpenSpec.ofChange topPacksSpec)) topPacksCard

/-- THE SECOND FORM's CARD OF 'pencilworkstop.TopSheets'. -/
def topSheetsUptoCard : Claim7 := { stood := { row := topSheetsUptoRow, standIns := [], harness := (true, "cf1efd746eec394e4b1c45bec186a5cb0bc492e409df02b744aae241cc8e30d6"), looks := true }, kinds := [], alts := [], laidByText := true, laidKinds := [.data, .data, .data], laidTests := true, laidLooks := .later }
def TopSheetsUptoCardSaid : Prop := Claim7.holds Tryz.pinned (.plain (OpenSpec.upto topSheetsSpec)) topSheetsUptoCard

/-- THE SECOND FORM's CARD OF 'pencilworkstop.TopPacks'. -/
def topPacksUptoCard : Claim7 := { stood := { row := topPacksUptoRow, standIns := [], harness := (true, "cf1efd746eec394e4b1c45bec186a5cb0bc492e409df02b744aae241cc8e30d6"), looks := true }, kinds := [], alts := [], laidByText := true, laidKinds := [.data, .data, .data, .data, .pinned], laidTests := true, laidLooks := .later }
def TopPacksUptoCardSaid : Prop := Claim7.holds Tryz.pinned (.plain (OpenSpec.upto topPacksSpec)) topPacksUptoCard
end Rows
end Go.Proofs.YtbnemnhmejmeeaaGreatDoor
