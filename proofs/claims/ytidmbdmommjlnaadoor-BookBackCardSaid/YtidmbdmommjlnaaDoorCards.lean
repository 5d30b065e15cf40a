/-
  DERIVED. GIVEN WITH THE SEED: THE CARDS: each row of YtidmbdmommjlnaaDoorRows.lean that lists a variable, with what it lists TIED to the program's text (the seventh form; the later family's looks); each row that meets fmt, with fmt's text TOLD by the authors' own Lean function (tested against real Go, not proved from fmt's source: count such statements apart). THE CARD IS WHAT COUNTS. Prove the row's statement (the work); the ties are given (YtidmbdmommjlnaaDoorTie.lean); close each card by the builder's one call (the guide's Derived/Test/ToyasCard.lean, 'card_holds'). Laid BY PROGRAM, IN A SANDBOX (cutbox-door.mjs). By AI agents, Wed Nov 11 2026. No macro, syntax, notation, axiom, sorry.
-/
import Derived.Test.YtidmbdmommjlnaaDoorRows
import GoSem.ClaimSeven
namespace Go.Proofs.YtidmbdmommjlnaaDoor
namespace Rows

/-- THE TIED CARD OF 'pencilworkslaw14.BookBack'. -/
def bookBackCard : Claim7 := { stood := { row := bookBackRow, standIns := [], harness := (true, "c48d92395e9810c67c2dd518ad1195c48fb9972e7f21dc000bfc10db702395a4"), looks := true }, kinds := [], alts := [], laidByText := true, laidKinds := [.data, .data, .data], laidTests := true, laidLooks := .later }
def BookBackCardSaid : Prop := Claim7.holds Tryd.pinned (.plain (OpenSpec.ofChange bookBackSpec)) bookBackCard

/-- THE TIED CARD OF 'pencilworkslaw14.BookJust'. -/
def bookJustCard : Claim7 := { stood := { row := bookJustRow, standIns := [], harness := (true, "c48d92395e9810c67c2dd518ad1195c48fb9972e7f21dc000bfc10db702395a4"), looks := true }, kinds := [], alts := [], laidByText := true, laidKinds := [.data, .data, .data], laidTests := true, laidLooks := .later }
def BookJustCardSaid : Prop := Claim7.holds Tryd.pinned (.plain (OpenSpec.ofChange bookJustSpec)) bookJustCard

/-- THE TIED CARD OF 'pencilworkslaw14.BookByte'. -/
def bookByteCard : Claim7 := { stood := { row := bookByteRow, standIns := [], harness := (true, "c48d92395e9810c67c2dd518ad1195c48fb9972e7f21dc000bfc10db702395a4"), looks := true }, kinds := [], alts := [], laidByText := true, laidKinds := [.data, .data, .data], laidTests := true, laidLooks := .later }
def BookByteCardSaid : Prop := Claim7.holds Tryd.pinned (.plain (OpenSpec.ofChange bookByteSpec)) bookByteCard

/-- THE TIED CARD OF 'pencilworkslaw14.BookJoin'. -/
def bookJoinCard : Claim7 := { stood := { row := bookJoinRow, standIns := [], harness := (true, "c48d92395e9810c67c2dd518ad1195c48fb9972e7f21dc000bfc10db702395a4"), looks := true }, kinds := [], alts := [], laidByText := true, laidKinds := [.data, .data, .data], laidTests := true, laidLooks := .later }
def BookJoinCardSaid : Prop := Claim7.holds Tryd.pinned (.plain (OpenSpec.ofChange bookJoinSpec)) bookJoinCard

/-- THE TIED CARD OF 'pencilworkslaw14.BookOwns'. -/
def bookOwnsCard : Claim7 := { stood := { row := bookOwnsRow, standIns := [], harness := (true, "c48d92395e9810c67c2dd518ad1195c48fb9972e7f21dc000bfc10db702395a4"), looks := true }, kinds := [], alts := [], laidByText := true, laidKinds := [.data, .data, .data], laidTests := true, laidLooks := .later }
def BookOwnsCardSaid : Prop := Claim7.holds Tryd.pinned (.plain (OpenSpec.ofChange bookOwnsSpec)) bookOwnsCard

/-- THE SECOND FORM's CARD OF 'pencilworkslaw14.BookBack'. -/
def bookBackUptoCard : Claim7 := { stood := { row := bookBackUptoRow, standIns := [], harness := (true, "c48d92395e9810c67c2dd518ad1195c48fb9972e7f21dc000bfc10db702395a4"), looks := true }, kinds := [], alts := [], laidByText := true, laidKinds := [.data, .data, .data], laidTests := true, laidLooks := .later }
def BookBackUptoCardSaid : Prop := Claim7.holds Tryd.pinned (.plain (OpenSpec.upto bookBackSpec)) bookBackUptoCard

/-- THE SECOND FORM's CARD OF 'pencilworkslaw14.BookJust'. -/
def bookJustUptoCard : Claim7 := { stood := { row := bookJustUptoRow, standIns := [], harness := (true, "c48d92395e9810c67c2dd518ad1195c48fb9972e7f21dc000bfc10db702395a4"), looks := true }, kinds := [], alts := [], laidByText := true, laidKinds := [.data, .data, .data], laidTests := true, laidLooks := .later }
def BookJustUptoCardSaid : Prop := Claim7.holds Tryd.pinned (.plain (OpenSpec.upto bookJustSpec)) bookJustUptoCard

/-- THE SECOND FORM's CARD OF 'pencilworkslaw14.BookByte'. -/
def bookByteUptoCard : Claim7 := { stood := { row := bookByteUptoRow, standIns := [], harness := (true, "c48d92395e9810c67c2dd518ad1195c48fb9972e7f21dc000bfc10db702395a4"), looks := true }, kinds := [], alts := [], laidByText := true, laidKinds := [.data, .data, .data], laidTests := true, laidLooks := .later }
def BookByteUptoCardSaid : Prop := Claim7.holds Tryd.pinned (.plain (OpenSpec.upto bookByteSpec)) bookByteUptoCard

/-- THE SECOND FORM's CARD OF 'pencilworkslaw14.BookJoin'. -/
def bookJoinUptoCard : Claim7 := { stood := { row := bookJoinUptoRow, standIns := [], harness := (true, "c48d92395e9810c67c2dd518ad1195c48fb9972e7f21dc000bfc10db702395a4"), looks := true }, kinds := [], alts := [], laidByText := true, laidKinds := [.data, .data, .data], laidTests := true, laidLooks := .later }
def BookJoinUptoCardSaid : Prop := Claim7.holds Tryd.pinned (.plain (OpenSpec.upto bookJoinSpec)) bookJoinUptoCard

/-- THE SECOND FORM's CARD OF 'pencilworkslaw14.BookOwns'. -/
def bookOwnsUptoCard : Claim7 := { stood := { row := bookOwnsUptoRow, standIns := [], harness := (true, "c48d92395e9810c67c2dd518ad1195c48fb9972e7f21dc000bfc10db702395a4"), looks := true }, kinds := [], alts := [], laidByText := true, laidKinds := [.data, .data, .data], laidTests := true, laidLooks := .later }
def BookOwnsUptoCardSaid : Prop := Claim7.holds Tryd.pinned (.plain (OpenSpec.upto bookOwnsSpec)) bookOwnsUptoCard
end Rows
end Go.Proofs.YtidmbdmommjlnaaDoor
