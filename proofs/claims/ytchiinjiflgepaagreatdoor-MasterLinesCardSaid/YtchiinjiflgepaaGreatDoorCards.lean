/-
  DERIVED. GIVEN WITH THE SEED: THE CARDS: each row of YtchiinjiflgepaaGreatDoorRows.lean that lists a variable, with what it lists TIED to the program's text (the seventh form; the later family's looks); each row that meets fmt, with fmt's text TOLD by the authors' own Lean function (tested against real Go, not proved from fmt's source: count such statements apart). THE CARD IS WHAT COUNTS. Prove the row's statement (the work); the ties are given (YtchiinjiflgepaaGreatDoorTie.lean); close each card by the builder's one call (the guide's Derived/Test/ToyasCard.lean, 'card_holds'). Laid BY PROGRAM, IN A SANDBOX (cutbox-door.mjs). By AI agents, Wed Nov 11 2026. No macro, syntax, notation, axiom, sorry.
-/
import Derived.Test.YtchiinjiflgepaaGreatDoorRows
import GoSem.ClaimSeven
namespace Go.Proofs.YtchiinjiflgepaaGreatDoor
namespace Rows

/-- THE TIED CARD OF 'pencilworkslaw15.MasterRuns'. -/
def masterRunsCard : Claim7 := { stood := { row := masterRunsRow, standIns := [], harness := (true, "be9e9f5b7511630d397d060c839c45f2568aa63ca3c4490e06139ff07272388a"), looks := true }, kinds := [], alts := [], laidByText := true, laidKinds := [.data, .data, .data, .data, .pinned], laidTests := true, laidLooks := .later }
def MasterRunsCardSaid : Prop := Claim7.holds Tryz.pinned (.plain (OpenSpec.ofChange masterRunsSpec)) masterRunsCard

/-- THE TIED CARD OF 'pencilworkslaw15.MasterLines'. -/
def masterLinesCard : Claim7 := { stood := { row := masterLinesRow, standIns := [], harness := (true, "be9e9f5b7511630d397d060c839c45f2568aa63ca3c4490e06139ff07272388a"), looks := true }, kinds := [], alts := [], laidByText := true, laidKinds := [.data, .data, .data, .data, .pinned], laidTests := true, laidLooks := .later }
def MasterLinesCardSaid : Prop := Claim7.holds Tryz.pinned (.plain (OpenSpec.ofChange masterLinesSpec)) masterLinesCard

/-- THE TIED CARD OF 'pencilworkslaw15.MasterRight'. -/
def masterRightCard : Claim7 := { stood := { row := masterRightRow, standIns := [], harness := (true, "be9e9f5b7511630d397d060c839c45f2568aa63ca3c4490e06139ff07272388a"), looks := true }, kinds := [], alts := [], laidByText := true, laidKinds := [.data, .data, .data, .data, .pinned], laidTests := true, laidLooks := .later }
def MasterRightCardSaid : Prop := Claim7.holds Tryz.pinned (.plain (OpenSpec.ofChange masterRightSpec)) masterRightCard

/-- THE TIED CARD OF 'pencilworkslaw15.MasterNone'. -/
def masterNoneCard : Claim7 := { stood := { row := masterNoneRow, standIns := [], harness := (true, "be9e9f5b7511630d397d060c839c45f2568aa63ca3c4490e06139ff07272388a"), looks := true }, kinds := [], alts := [], laidByText := true, laidKinds := [.data, .data, .data, .data, .pinned], laidTests := true, laidLooks := .later }
def MasterNoneCardSaid : Prop := Claim7.holds Tryz.pinned (.plain (OpenSpec.ofChange masterNoneSpec)) masterNoneCard

/-- THE TIED CARD OF 'pencilworkslaw15.MasterAgain'. -/
def masterAgainCard : Claim7 := { stood := { row := masterAgainRow, standIns := [], harness := (true, "be9e9f5b7511630d397d060c839c45f2568aa63ca3c4490e06139ff07272388a"), looks := true }, kinds := [], alts := [], laidByText := true, laidKinds := [.data, .data, .data, .data, .pinned], laidTests := true, laidLooks := .later }
def MasterAgainCardSaid : Prop := Claim7.holds Tryz.pinned (.plain (OpenSpec.ofChange masterAgainSpec)) masterAgainCard

/-- THE TIED CARD OF 'pencilworkstop.TopFloor'. -/
def topFloorCard : Claim7 := { stood := { row := topFloorRow, standIns := [], harness := (true, "be9e9f5b7511630d397d060c839c45f2568aa63ca3c4490e06139ff07272388a"), looks := true }, kinds := [], alts := [], laidByText := true, laidKinds := [.data, .data, .data, .data, .pinned], laidTests := true, laidLooks := .later }
def TopFloorCardSaid : Prop := Claim7.holds Tryz.pinned (.plain (OpenSpec.ofChange topFloorSpec)) topFloorCard

/-- THE TIED CARD OF 'pencilworkstop.TopPlan'. -/
def topPlanCard : Claim7 := { stood := { row := topPlanRow, standIns := [], harness := (true, "be9e9f5b7511630d397d060c839c45f2568aa63ca3c4490e06139ff07272388a"), looks := true }, kinds := [], alts := [], laidByText := true, laidKinds := [.data, .data, .data, .data, .pinned], laidTests := true, laidLooks := .later }
def TopPlanCardSaid : Prop := Claim7.holds Tryz.pinned (.plain (OpenSpec.ofChange topPlanSpec)) topPlanCard

/-- THE SECOND FORM's CARD OF 'pencilworkslaw15.MasterRuns'. -/
def masterRunsUptoCard : Claim7 := { stood := { row := masterRunsUptoRow, standIns := [], harness := (true, "be9e9f5b7511630d397d060c839c45f2568aa63ca3c4490e06139ff07272388a"), looks := true }, kinds := [], alts := [], laidByText := true, laidKinds := [.data, .data, .data, .data, .pinned], laidTests := true, laidLooks := .later }
def MasterRunsUptoCardSaid : Prop := Claim7.holds Tryz.pinned (.plain (OpenSpec.upto masterRunsSpec)) masterRunsUptoCard

/-- THE SECOND FORM's CARD OF 'pencilworkslaw15.MasterLines'. -/
def masterLinesUptoCard : Claim7 := { stood := { row := masterLinesUptoRow, standIns := [], harness := (true, "be9e9f5b7511630d397d060c839c45f2568aa63ca3c4490e06139ff07272388a"), looks := true }, kinds := [], alts := [], laidByText := true, laidKinds := [.data, .data, .data, .data, .pinned], laidTests := true, laidLooks := .later }
def MasterLinesUptoCardSaid : Prop := Claim7.holds Tryz.pinned (.plain (OpenSpec.upto masterLinesSpec)) masterLinesUptoCard

/-- THE SECOND FORM's CARD OF 'pencilworkslaw15.MasterRight'. -/
def masterRightUptoCard : Claim7 := { stood := { row := masterRightUptoRow, standIns := [], harness := (true, "be9e9f5b7511630d397d060c839c45f2568aa63ca3c4490e06139ff07272388a"), looks := true }, kinds := [], alts := [], laidByText := true, laidKinds := [.data, .data, .data, .data, .pinned], laidTests := true, laidLooks := .later }
def MasterRightUptoCardSaid : Prop := Claim7.holds Tryz.pinned (.plain (OpenSpec.upto masterRightSpec)) masterRightUptoCard

/-- THE SECOND FORM's CARD OF 'pencilworkslaw15.MasterNone'. -/
def masterNoneUptoCard : Claim7 := { stood := { row := masterNoneUptoRow, standIns := [], harness := (true, "be9e9f5b7511630d397d060c839c45f2568aa63ca3c4490e06139ff07272388a"), looks := true }, kinds := [], alts := [], laidByText := true, laidKinds := [.data, .data, .data, .data, .pinned], laidTests := true, laidLooks := .later }
def MasterNoneUptoCardSaid : Prop := Claim7.holds Tryz.pinned (.plain (OpenSpec.upto masterNoneSpec)) masterNoneUptoCard

/-- THE SECOND FORM's CARD OF 'pencilworkslaw15.MasterAgain'. -/
def masterAgainUptoCard : Claim7 := { stood := { row := masterAgainUptoRow, standIns := [], harness := (true, "be9e9f5b7511630d397d060c839c45f2568aa63ca3c4490e06139ff07272388a"), looks := true }, kinds := [], alts := [], laidByText := true, laidKinds := [.data, .data, .data, .data, .pinned], laidTests := true, laidLooks := .later }
def MasterAgainUptoCardSaid : Prop := Claim7.holds Tryz.pinned (.plain (OpenSpec.upto masterAgainSpec)) masterAgainUptoCard

/-- THE SECOND FORM's CARD OF 'pencilworkstop.TopFloor'. -/
def topFloorUptoCard : Claim7 := { stood := { row := topFloorUptoRow, standIns := [], harness := (true, "be9e9f5b7511630d397d060c839c45f2568aa63ca3c4490e06139ff07272388a"), looks := true }, kinds := [], alts := [], laidByText := true, laidKinds := [.data, .data, .data, .data, .pinned], laidTests := true, laidLooks := .later }
def TopFloorUptoCardSaid : Prop := Claim7.holds Tryz.pinned (.plain (OpenSpec.upto topFloorSpec)) topFloorUptoCard

/-- THE SECOND FORM's CARD OF 'pencilworkstop.TopPlan'. -/
def topPlanUptoCard : Claim7 := { stood := { row := topPlanUptoRow, standIns := [], harness := (true, "be9e9f5b7511630d397d060c839c45f2568aa63ca3c4490e06139ff07272388a"), looks := true }, kinds := [], alts := [], laidByText := true, laidKinds := [.data, .data, .data, .data, .pinned], laidTests := true, laidLooks := .later }
def TopPlanUptoCardSaid : Prop := Claim7.holds Tryz.pinned (.plain (OpenSpec.upto topPlanSpec)) topPlanUptoCard
end Rows
end Go.Proofs.YtchiinjiflgepaaGreatDoor
