/-
  DERIVED. GIVEN WITH THE SEED: THE CARDS: each row of YtlalikkkobpfgaaDoorRows.lean that lists a variable, with what it lists TIED to the program's text (the seventh form; the later family's looks); each row that meets fmt, with fmt's text TOLD by the authors' own Lean function (tested against real Go, not proved from fmt's source: count such statements apart). THE CARD IS WHAT COUNTS. Prove the row's statement (the work); the ties are given (YtlalikkkobpfgaaDoorTie.lean); close each card by the builder's one call (the guide's Derived/Test/ToyasCard.lean, 'card_holds'). Laid BY PROGRAM, IN A SANDBOX (cutbox-door.mjs). By AI agents, Wed Nov 11 2026. No macro, syntax, notation, axiom, sorry.
-/
import Derived.Test.YtlalikkkobpfgaaDoorRows
import GoSem.ClaimSeven
namespace Go.Proofs.YtlalikkkobpfgaaDoor
namespace Rows

/-- THE TIED CARD OF 'pencilworkslaw11.RecallWays'. -/
def recallWaysCard : Claim7 := { stood := { row := recallWaysRow, standIns := [], harness := (true, "3267accc08e859155a5bc2e4139c47fe375b86a7d58c8df6447b6f9e1a79ab53"), looks := false }, kinds := [], alts := [], laidByText := true, laidKinds := [.data], laidTests := true, laidLooks := .later }
def RecallWaysCardSaid : Prop := Claim7.holds Tryd.pinned (.plain (OpenSpec.ofChange recallWaysSpec)) recallWaysCard

/-- THE TIED CARD OF 'pencilworkslaw11.RecallBlames'. -/
def recallBlamesCard : Claim7 := { stood := { row := recallBlamesRow, standIns := [], harness := (true, "3267accc08e859155a5bc2e4139c47fe375b86a7d58c8df6447b6f9e1a79ab53"), looks := false }, kinds := [], alts := [], laidByText := true, laidKinds := [.data], laidTests := true, laidLooks := .later }
def RecallBlamesCardSaid : Prop := Claim7.holds Tryd.pinned (.plain (OpenSpec.ofChange recallBlamesSpec)) recallBlamesCard

/-- THE TIED CARD OF 'pencilworkslaw11.RecallTrue'. -/
def recallTrueCard : Claim7 := { stood := { row := recallTrueRow, standIns := [], harness := (true, "3267accc08e859155a5bc2e4139c47fe375b86a7d58c8df6447b6f9e1a79ab53"), looks := false }, kinds := [], alts := [], laidByText := true, laidKinds := [.data], laidTests := true, laidLooks := .later }
def RecallTrueCardSaid : Prop := Claim7.holds Tryd.pinned (.plain (OpenSpec.ofChange recallTrueSpec)) recallTrueCard

/-- THE TIED CARD OF 'pencilworkslaw11.RecallNoOther'. -/
def recallNoOtherCard : Claim7 := { stood := { row := recallNoOtherRow, standIns := [], harness := (true, "3267accc08e859155a5bc2e4139c47fe375b86a7d58c8df6447b6f9e1a79ab53"), looks := false }, kinds := [], alts := [], laidByText := true, laidKinds := [.data], laidTests := true, laidLooks := .later }
def RecallNoOtherCardSaid : Prop := Claim7.holds Tryd.pinned (.plain (OpenSpec.ofChange recallNoOtherSpec)) recallNoOtherCard

/-- THE TIED CARD OF 'pencilworkslaw11.RecallBoth'. -/
def recallBothCard : Claim7 := { stood := { row := recallBothRow, standIns := [], harness := (true, "3267accc08e859155a5bc2e4139c47fe375b86a7d58c8df6447b6f9e1a79ab53"), looks := false }, kinds := [], alts := [], laidByText := true, laidKinds := [.data], laidTests := true, laidLooks := .later }
def RecallBothCardSaid : Prop := Claim7.holds Tryd.pinned (.plain (OpenSpec.ofChange recallBothSpec)) recallBothCard

/-- THE TIED CARD OF 'pencilworkslaw11.RecallMore'. -/
def recallMoreCard : Claim7 := { stood := { row := recallMoreRow, standIns := [], harness := (true, "3267accc08e859155a5bc2e4139c47fe375b86a7d58c8df6447b6f9e1a79ab53"), looks := false }, kinds := [], alts := [], laidByText := true, laidKinds := [.data], laidTests := true, laidLooks := .later }
def RecallMoreCardSaid : Prop := Claim7.holds Tryd.pinned (.plain (OpenSpec.ofChange recallMoreSpec)) recallMoreCard

/-- THE TIED CARD OF 'pencilworkslaw11.RecallTurned'. -/
def recallTurnedCard : Claim7 := { stood := { row := recallTurnedRow, standIns := [], harness := (true, "3267accc08e859155a5bc2e4139c47fe375b86a7d58c8df6447b6f9e1a79ab53"), looks := false }, kinds := [], alts := [], laidByText := true, laidKinds := [.data], laidTests := true, laidLooks := .later }
def RecallTurnedCardSaid : Prop := Claim7.holds Tryd.pinned (.plain (OpenSpec.ofChange recallTurnedSpec)) recallTurnedCard

/-- THE SECOND FORM's CARD OF 'pencilworkslaw11.RecallWays'. -/
def recallWaysUptoCard : Claim7 := { stood := { row := recallWaysUptoRow, standIns := [], harness := (true, "3267accc08e859155a5bc2e4139c47fe375b86a7d58c8df6447b6f9e1a79ab53"), looks := false }, kinds := [], alts := [], laidByText := true, laidKinds := [.data], laidTests := true, laidLooks := .later }
def RecallWaysUptoCardSaid : Prop := Claim7.holds Tryd.pinned (.plain (OpenSpec.upto recallWaysSpec)) recallWaysUptoCard

/-- THE SECOND FORM's CARD OF 'pencilworkslaw11.RecallBlames'. -/
def recallBlamesUptoCard : Claim7 := { stood := { row := recallBlamesUptoRow, standIns := [], harness := (true, "3267accc08e859155a5bc2e4139c47fe375b86a7d58c8df6447b6f9e1a79ab53"), looks := false }, kinds := [], alts := [], laidByText := true, laidKinds := [.data], laidTests := true, laidLooks := .later }
def RecallBlamesUptoCardSaid : Prop := Claim7.holds Tryd.pinned (.plain (OpenSpec.upto recallBlamesSpec)) recallBlamesUptoCard

/-- THE SECOND FORM's CARD OF 'pencilworkslaw11.RecallTrue'. -/
def recallTrueUptoCard : Claim7 := { stood := { row := recallTrueUptoRow, standIns := [], harness := (true, "3267accc08e859155a5bc2e4139c47fe375b86a7d58c8df6447b6f9e1a79ab53"), looks := false }, kinds := [], alts := [], laidByText := true, laidKinds := [.data], laidTests := true, laidLooks := .later }
def RecallTrueUptoCardSaid : Prop := Claim7.holds Tryd.pinned (.plain (OpenSpec.upto recallTrueSpec)) recallTrueUptoCard

/-- THE SECOND FORM's CARD OF 'pencilworkslaw11.RecallNoOther'. -/
def recallNoOtherUptoCard : Claim7 := { stood := { row := recallNoOtherUptoRow, standIns := [], harness := (true, "3267accc08e859155a5bc2e4139c47fe375b86a7d58c8df6447b6f9e1a79ab53"), looks := false }, kinds := [], alts := [], laidByText := true, laidKinds := [.data], laidTests := true, laidLooks := .later }
def RecallNoOtherUptoCardSaid : Prop := Claim7.holds Tryd.pinned (.plain (OpenSpec.upto recallNoOtherSpec)) recallNoOtherUptoCard

/-- THE SECOND FORM's CARD OF 'pencilworkslaw11.RecallBoth'. -/
def recallBothUptoCard : Claim7 := { stood := { row := recallBothUptoRow, standIns := [], harness := (true, "3267accc08e859155a5bc2e4139c47fe375b86a7d58c8df6447b6f9e1a79ab53"), looks := false }, kinds := [], alts := [], laidByText := true, laidKinds := [.data], laidTests := true, laidLooks := .later }
def RecallBothUptoCardSaid : Prop := Claim7.holds Tryd.pinned (.plain (OpenSpec.upto recallBothSpec)) recallBothUptoCard

/-- THE SECOND FORM's CARD OF 'pencilworkslaw11.RecallMore'. -/
def recallMoreUptoCard : Claim7 := { stood := { row := recallMoreUptoRow, standIns := [], harness := (true, "3267accc08e859155a5bc2e4139c47fe375b86a7d58c8df6447b6f9e1a79ab53"), looks := false }, kinds := [], alts := [], laidByText := true, laidKinds := [.data], laidTests := true, laidLooks := .later }
def RecallMoreUptoCardSaid : Prop := Claim7.holds Tryd.pinned (.plain (OpenSpec.upto recallMoreSpec)) recallMoreUptoCard

/-- THE SECOND FORM's CARD OF 'pencilworkslaw11.RecallTurned'. -/
def recallTurnedUptoCard : Claim7 := { stood := { row := recallTurnedUptoRow, standIns := [], harness := (true, "3267accc08e859155a5bc2e4139c47fe375b86a7d58c8df6447b6f9e1a79ab53"), looks := false }, kinds := [], alts := [], laidByText := true, laidKinds := [.data], laidTests := true, laidLooks := .later }
def RecallTurnedUptoCardSaid : Prop := Claim7.holds Tryd.pinned (.plain (OpenSpec.upto recallTurnedSpec)) recallTurnedUptoCard
end Rows
end Go.Proofs.YtlalikkkobpfgaaDoor
