/-
  DERIVED. GIVEN WITH THE SEED: THE CARDS: each row of YtambmifhidallaaGreatDoorRows.lean that lists a variable, with what it lists TIED to the program's text (the seventh form; the later family's looks); each row that meets fmt, with fmt's text TOLD by the authors' own Lean function (tested against real Go, not proved from fmt's source: count such statements apart). THE CARD IS WHAT COUNTS. Prove the row's statement (the work); the ties are given (YtambmifhidallaaGreatDoorTie.lean); close each card by the builder's one call (the guide's Derived/Test/ToyasCard.lean, 'card_holds'). Laid BY PROGRAM, IN A SANDBOX (cutbox-door.mjs). By AI agents, Wed Nov 11 2026. No macro, syntax, notation, axiom, sorry.
-/
import Derived.Test.YtambmifhidallaaGreatDoorRows
import GoSem.ClaimSeven
namespace Go.Proofs.YtambmifhidallaaGreatDoor
namespace Rows

/-- THE TIED CARD OF 'pencilworkslaw14.BookNames'. -/
def bookNamesCard : Claim7 := { stood := { row := bookNamesRow, standIns := [], harness := (true, "74a1341203ddbc9419e52e7fbdd9b59d0711fbdf392116e55983e274f1318fbf"), looks := true }, kinds := [], alts := [], laidByText := true, laidKinds := [.data, .data, .data, .data, .pinned], laidTests := true, laidLooks := .later }
def BookNamesCardSaid : Prop := Claim7.holds Tryz.pinned (.plain (OpenSpec.ofChange bookNamesSpec)) bookNamesCard

/-- THE TIED CARD OF 'pencilworkslaw14.BookLines'. -/
def bookLinesCard : Claim7 := { stood := { row := bookLinesRow, standIns := [], harness := (true, "74a1341203ddbc9419e52e7fbdd9b59d0711fbdf392116e55983e274f1318fbf"), looks := true }, kinds := [], alts := [], laidByText := true, laidKinds := [.data, .data, .data, .data, .pinned], laidTests := true, laidLooks := .later }
def BookLinesCardSaid : Prop := Claim7.holds Tryz.pinned (.plain (OpenSpec.ofChange bookLinesSpec)) bookLinesCard

/-- THE SECOND FORM's CARD OF 'pencilworkslaw14.BookNames'. -/
def bookNamesUptoCard : Claim7 := { stood := { row := bookNamesUptoRow, standIns := [], harness := (true, "74a1341203ddbc9419e52e7fbdd9b59d0711fbdf392116e55983e274f1318fbf"), looks := true }, kinds := [], alts := [], laidByText := true, laidKinds := [.data, .data, .data, .data, .pinned], laidTests := true, laidLooks := .later }
def BookNamesUptoCardSaid : Prop := Claim7.holds Tryz.pinned (.plain (OpenSpec.upto bookNamesSpec)) bookNamesUptoCard

/-- THE SECOND FORM's CARD OF 'pencilworkslaw14.BookLines'. -/
def bookLinesUptoCard : Claim7 := { stood := { row := bookLinesUptoRow, standIns := [], harness := (true, "74a1341203ddbc9419e52e7fbdd9b59d0711fbdf392116e55983e274f1318fbf"), looks := true }, kinds := [], alts := [], laidByText := true, laidKinds := [.data, .data, .data, .data, .pinned], laidTests := true, laidLooks := .later }
def BookLinesUptoCardSaid : Prop := Claim7.holds Tryz.pinned (.plain (OpenSpec.upto bookLinesSpec)) bookLinesUptoCard
end Rows
end Go.Proofs.YtambmifhidallaaGreatDoor
