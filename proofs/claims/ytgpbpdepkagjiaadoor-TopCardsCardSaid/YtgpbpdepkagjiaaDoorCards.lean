/-
  DERIVED. GIVEN WITH THE SEED: THE CARDS: each row of YtgpbpdepkagjiaaDoorRows.lean that lists a variable, with what it lists TIED to the program's text (the seventh form; the later family's looks); each row that meets fmt, with fmt's text TOLD by the authors' own Lean function (tested against real Go, not proved from fmt's source: count such statements apart). THE CARD IS WHAT COUNTS. Prove the row's statement (the work); the ties are given (YtgpbpdepkagjiaaDoorTie.lean); close each card by the builder's one call (the guide's Derived/Test/ToyasCard.lean, 'card_holds'). Laid BY PROGRAM, IN A SANDBOX (cutbox-door.mjs). By AI agents, Wed Nov 11 2026. No macro, syntax, notation, axiom, sorry.
-/
import Derived.Test.YtgpbpdepkagjiaaDoorRows
import GoSem.ClaimSeven
namespace Go.Proofs.YtgpbpdepkagjiaaDoor
namespace Rows

/-- THE TIED CARD OF 'pencilworkstop.TopCards'. -/
def topCardsCard : Claim7 := { stood := { row := topCardsRow, standIns := [], harness := (true, "bf38f537150180a38390e75926e4e6278210a8eecd01604df474bd6a811b1f85"), looks := true }, kinds := [], alts := [], laidByText := true, laidKinds := [.data, .data, .data], laidTests := true, laidLooks := .later }
def TopCardsCardSaid : Prop := Claim7.holds Tryd.pinned (.plain (OpenSpec.ofChange topCardsSpec)) topCardsCard

/-- THE SECOND FORM's CARD OF 'pencilworkstop.TopCards'. -/
def topCardsUptoCard : Claim7 := { stood := { row := topCardsUptoRow, standIns := [], harness := (true, "bf38f537150180a38390e75926e4e6278210a8eecd01604df474bd6a811b1f85"), looks := true }, kinds := [], alts := [], laidByText := true, laidKinds := [.data, .data, .data], laidTests := true, laidLooks := .later }
def TopCardsUptoCardSaid : Prop := Claim7.holds Tryd.pinned (.plain (OpenSpec.upto topCardsSpec)) topCardsUptoCard
end Rows
end Go.Proofs.YtgpbpdepkagjiaaDoor
