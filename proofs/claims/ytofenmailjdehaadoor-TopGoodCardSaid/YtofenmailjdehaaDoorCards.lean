/-
  DERIVED. GIVEN WITH THE SEED: THE CARDS: each row of YtofenmailjdehaaDoorRows.lean that lists a variable, with what it lists TIED to the program's text (the seventh form; the later family's looks); each row that meets fmt, with fmt's text TOLD by the authors' own Lean function (tested against real Go, not proved from fmt's source: count such statements apart). THE CARD IS WHAT COUNTS. Prove the row's statement (the work); the ties are given (YtofenmailjdehaaDoorTie.lean); close each card by the builder's one call (the guide's Derived/Test/ToyasCard.lean, 'card_holds'). Laid BY PROGRAM, IN A SANDBOX (cutbox-door.mjs). By AI agents, Wed Nov 11 2026. No macro, syntax, notation, axiom, sorry.
-/
import Derived.Test.YtofenmailjdehaaDoorRows
import GoSem.ClaimSeven
namespace Go.Proofs.YtofenmailjdehaaDoor
namespace Rows

/-- THE TIED CARD OF 'pencilworkstop.TopCause'. -/
def topCauseCard : Claim7 := { stood := { row := topCauseRow, standIns := [], harness := (true, "11978ba254a65f649abbba7e78f60f033a1880f4d615444cee0f4ede4645a4b7"), looks := false }, kinds := [], alts := [], laidByText := true, laidKinds := [.data], laidTests := true, laidLooks := .later }
def TopCauseCardSaid : Prop := Claim7.holds Tryd.pinned (.plain (OpenSpec.ofChange topCauseSpec)) topCauseCard

/-- THE TIED CARD OF 'pencilworkstop.TopGood'. -/
def topGoodCard : Claim7 := { stood := { row := topGoodRow, standIns := [], harness := (true, "11978ba254a65f649abbba7e78f60f033a1880f4d615444cee0f4ede4645a4b7"), looks := false }, kinds := [], alts := [], laidByText := true, laidKinds := [.data], laidTests := true, laidLooks := .later }
def TopGoodCardSaid : Prop := Claim7.holds Tryd.pinned (.plain (OpenSpec.ofChange topGoodSpec)) topGoodCard

/-- THE SECOND FORM's CARD OF 'pencilworkstop.TopCause'. -/
def topCauseUptoCard : Claim7 := { stood := { row := topCauseUptoRow, standIns := [], harness := (true, "11978ba254a65f649abbba7e78f60f033a1880f4d615444cee0f4ede4645a4b7"), looks := false }, kinds := [], alts := [], laidByText := true, laidKinds := [.data], laidTests := true, laidLooks := .later }
def TopCauseUptoCardSaid : Prop := Claim7.holds Tryd.pinned (.plain (OpenSpec.upto topCauseSpec)) topCauseUptoCard

/-- THE SECOND FORM's CARD OF 'pencilworkstop.TopGood'. -/
def topGoodUptoCard : Claim7 := { stood := { row := topGoodUptoRow, standIns := [], harness := (true, "11978ba254a65f649abbba7e78f60f033a1880f4d615444cee0f4ede4645a4b7"), looks := false }, kinds := [], alts := [], laidByText := true, laidKinds := [.data], laidTests := true, laidLooks := .later }
def TopGoodUptoCardSaid : Prop := Claim7.holds Tryd.pinned (.plain (OpenSpec.upto topGoodSpec)) topGoodUptoCard
end Rows
end Go.Proofs.YtofenmailjdehaaDoor
