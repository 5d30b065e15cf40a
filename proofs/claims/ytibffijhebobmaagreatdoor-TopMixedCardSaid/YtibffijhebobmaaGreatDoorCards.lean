/-
  DERIVED. GIVEN WITH THE SEED: THE CARDS: each row of YtibffijhebobmaaGreatDoorRows.lean that lists a variable, with what it lists TIED to the program's text (the seventh form; the later family's looks); each row that meets fmt, with fmt's text TOLD by the authors' own Lean function (tested against real Go, not proved from fmt's source: count such statements apart). THE CARD IS WHAT COUNTS. Prove the row's statement (the work); the ties are given (YtibffijhebobmaaGreatDoorTie.lean); close each card by the builder's one call (the guide's Derived/Test/ToyasCard.lean, 'card_holds'). Laid BY PROGRAM, IN A SANDBOX (cutbox-door.mjs). By AI agents, Wed Nov 11 2026. No macro, syntax, notation, axiom, sorry.
-/
import Derived.Test.YtibffijhebobmaaGreatDoorRows
import GoSem.ClaimSeven
namespace Go.Proofs.YtibffijhebobmaaGreatDoor
namespace Rows

/-- THE TIED CARD OF 'pencilworkslaw15.MasterBack'. -/
def masterBackCard : Claim7 := { stood := { row := masterBackRow, standIns := [], harness := (true, "080aa0021fe5b4c5297f2c7142edd97e64a0b35f98c2743d9585875df2772d1e"), looks := true }, kinds := [], alts := [], laidByText := true, laidKinds := [.data, .data, .data, .data, .sentinel, .sentinel, .pinned], laidTests := true, laidLooks := .later }
def MasterBackCardSaid : Prop := Claim7.holds Tryz.pinned (.plain (OpenSpec.ofChange masterBackSpec)) masterBackCard

/-- THE TIED CARD OF 'pencilworkslaw15.MasterRefused'. -/
def masterRefusedCard : Claim7 := { stood := { row := masterRefusedRow, standIns := [], harness := (true, "080aa0021fe5b4c5297f2c7142edd97e64a0b35f98c2743d9585875df2772d1e"), looks := true }, kinds := [], alts := [], laidByText := true, laidKinds := [.data, .data, .data, .data, .sentinel, .sentinel, .pinned], laidTests := true, laidLooks := .later }
def MasterRefusedCardSaid : Prop := Claim7.holds Tryz.pinned (.plain (OpenSpec.ofChange masterRefusedSpec)) masterRefusedCard

/-- THE TIED CARD OF 'pencilworkstop.TopMixed'. -/
def topMixedCard : Claim7 := { stood := { row := topMixedRow, standIns := [], harness := (true, "080aa0021fe5b4c5297f2c7142edd97e64a0b35f98c2743d9585875df2772d1e"), looks := true }, kinds := [], alts := [], laidByText := true, laidKinds := [.data, .data, .data, .data, .sentinel, .sentinel, .listed, .data, .pinned], laidTests := true, laidLooks := .later }
def TopMixedCardSaid : Prop := Claim7.holds Tryz.pinned (.plain (OpenSpec.ofChange topMixedSpec)) topMixedCard

/-- THE TIED CARD OF 'pencilworkstop.TopPlan'. -/
def topPlanCard : Claim7 := { stood := { row := topPlanRow, standIns := [], harness := (true, "080aa0021fe5b4c5297f2c7142edd97e64a0b35f98c2743d9585875df2772d1e"), looks := true }, kinds := [], alts := [], laidByText := true, laidKinds := [.data, .data, .data, .data, .pinned], laidTests := true, laidLooks := .later }
def TopPlanCardSaid : Prop := Claim7.holds Tryz.pinned (.plain (OpenSpec.ofChange topPlanSpec)) topPlanCard

/-- THE SECOND FORM's CARD OF 'pencilworkslaw15.MasterBack'. -/
def masterBackUptoCard : Claim7 := { stood := { row := masterBackUptoRow, standIns := [], harness := (true, "080aa0021fe5b4c5297f2c7142edd97e64a0b35f98c2743d9585875df2772d1e"), looks := true }, kinds := [], alts := [], laidByText := true, laidKinds := [.data, .data, .data, .data, .sentinel, .sentinel, .pinned], laidTests := true, laidLooks := .later }
def MasterBackUptoCardSaid : Prop := Claim7.holds Tryz.pinned (.plain (OpenSpec.upto masterBackSpec)) masterBackUptoCard

/-- THE SECOND FORM's CARD OF 'pencilworkslaw15.MasterRefused'. -/
def masterRefusedUptoCard : Claim7 := { stood := { row := masterRefusedUptoRow, standIns := [], harness := (true, "080aa0021fe5b4c5297f2c7142edd97e64a0b35f98c2743d9585875df2772d1e"), looks := true }, kinds := [], alts := [], laidByText := true, laidKinds := [.data, .data, .data, .data, .sentinel, .sentinel, .pinned], laidTests := true, laidLooks := .later }
def MasterRefusedUptoCardSaid : Prop := Claim7.holds Tryz.pinned (.plain (OpenSpec.upto masterRefusedSpec)) masterRefusedUptoCard

/-- THE SECOND FORM's CARD OF 'pencilworkstop.TopMixed'. -/
def topMixedUptoCard : Claim7 := { stood := { row := topMixedUptoRow, standIns := [], harness := (true, "080aa0021fe5b4c5297f2c7142edd97e64a0b35f98c2743d9585875df2772d1e"), looks := true }, kinds := [], alts := [], laidByText := true, laidKinds := [.data, .data, .data, .data, .sentinel, .sentinel, .listed, .data, .pinned], laidTests := true, laidLooks := .later }
def TopMixedUptoCardSaid : Prop := Claim7.holds Tryz.pinned (.plain (OpenSpec.upto topMixedSpec)) topMixedUptoCard

/-- THE SECOND FORM's CARD OF 'pencilworkstop.TopPlan'. -/
def topPlanUptoCard : Claim7 := { stood := { row := topPlanUptoRow, standIns := [], harness := (true, "080aa0021fe5b4c5297f2c7142edd97e64a0b35f98c2743d9585875df2772d1e"), looks := true }, kinds := [], alts := [], laidByText := true, laidKinds := [.data, .data, .data, .data, .pinned], laidTests := true, laidLooks := .later }
def TopPlanUptoCardSaid : Prop := Claim7.holds Tryz.pinned (.plain (OpenSpec.upto topPlanSpec)) topPlanUptoCard
end Rows
end Go.Proofs.YtibffijhebobmaaGreatDoor
