/-
  No cell of these rows narrows 'for every input' (looked for: loops, veiled, ifaces, maps, wideKeys, modest, calm, conditions, laid).
  DERIVED. THE GIVEN ROWS OF THIS SEAT. 7 by the template 'for every input the law returns true; each argument reads behind the call as it read before'; 0 by the template 'total and deterministic' (their statements: YtpamkihpffoflaaTotals.lean).
  GIVEN WITH THE SEED: the statements are not yours to turn. If you find one false, say at which input.
  Laid BY PROGRAM, IN A SANDBOX (cutbox-rows.mjs): the forced cells as the released guide's own fill.sh prints them over the translation 4b2f54c16f4264ce… (all of the seat's roots in one cut). By AI agents, Wed Nov 11 2026. No macro, syntax, notation, axiom, sorry.
-/
import Derived.Test.YtpamkihpffoflaaChecked
import GoSem.Claim
import GoSem.ClaimJoined
import GoSem.ClaimMapViews
import Derived.JoinedTies
import Derived.KernelRfl
namespace Go.Proofs.Ytpamkihpffoflaa
/- THE CELL 'sum', in the pinned program and in every row, IS THE sha256 OF THE DUMP (.gsa) THAT YtpamkihpffoflaaProg.lean LOADS. Nothing in Lean hashes anything: it is a label: what it is worth is what the hold of that sum in a sandbox is worth. -/
noncomputable def Try.pinned : Pinned := { name := "ytpamkihpffoflaa", sum := "4b2f54c16f4264ce1be559e140deba3ab7adaa0155b1808db607341a7248e0ed", checked := Try.checked }
namespace Rows
def none {H : Type} : Left H := { results := [], args := [] }

/-- 'pencilworkslaw09.BoxMosts': WHATEVER THE INPUT: true; the input reads as it did. -/
def boxMostsSpec : ChangeSpec := { name := "boxMosts", fn := fun _ => fun
  | [d1, d2, d3] => { results := [.lit (.bool true)], args := [d1, d2, d3] }
  | _ => none }
def boxMostsRow : OpenClaim := { program := "ytpamkihpffoflaa", sum := "4b2f54c16f4264ce1be559e140deba3ab7adaa0155b1808db607341a7248e0ed", func := "pencilworks/pencilworkslaw09.BoxMosts", spec := "boxMosts", unfollowed := true, recurses := true, apart := false }
def BoxMostsSaid : Prop := boxMostsRow.holds Try.pinned (OpenSpec.ofChange boxMostsSpec)

/-- ITS FALSE NEIGHBOUR: 'it returns false'. Refute it at one input. -/
def boxMostsWrong : ChangeSpec := { name := "boxMosts", fn := fun _ => fun
  | [d1, d2, d3] => { results := [.lit (.bool false)], args := [d1, d2, d3] }
  | _ => none }
def BoxMostsWrongFalsely : Prop := boxMostsRow.holds Try.pinned (OpenSpec.ofChange boxMostsWrong)

/-- 'pencilworkslaw09.BoxFills': WHATEVER THE INPUT: true; the input reads as it did. -/
def boxFillsSpec : ChangeSpec := { name := "boxFills", fn := fun _ => fun
  | [d1, d2, d3, d4] => { results := [.lit (.bool true)], args := [d1, d2, d3, d4] }
  | _ => none }
def boxFillsRow : OpenClaim := { program := "ytpamkihpffoflaa", sum := "4b2f54c16f4264ce1be559e140deba3ab7adaa0155b1808db607341a7248e0ed", func := "pencilworks/pencilworkslaw09.BoxFills", spec := "boxFills", unfollowed := true, recurses := true, apart := false }
def BoxFillsSaid : Prop := boxFillsRow.holds Try.pinned (OpenSpec.ofChange boxFillsSpec)

/-- ITS FALSE NEIGHBOUR: 'it returns false'. Refute it at one input. -/
def boxFillsWrong : ChangeSpec := { name := "boxFills", fn := fun _ => fun
  | [d1, d2, d3, d4] => { results := [.lit (.bool false)], args := [d1, d2, d3, d4] }
  | _ => none }
def BoxFillsWrongFalsely : Prop := boxFillsRow.holds Try.pinned (OpenSpec.ofChange boxFillsWrong)

/-- 'pencilworkslaw09.BoxFilled': WHATEVER THE INPUT: true; the input reads as it did. -/
def boxFilledSpec : ChangeSpec := { name := "boxFilled", fn := fun _ => fun
  | [d1, d2] => { results := [.lit (.bool true)], args := [d1, d2] }
  | _ => none }
def boxFilledRow : OpenClaim := { program := "ytpamkihpffoflaa", sum := "4b2f54c16f4264ce1be559e140deba3ab7adaa0155b1808db607341a7248e0ed", func := "pencilworks/pencilworkslaw09.BoxFilled", spec := "boxFilled", unfollowed := true, recurses := true, apart := false }
def BoxFilledSaid : Prop := boxFilledRow.holds Try.pinned (OpenSpec.ofChange boxFilledSpec)

/-- ITS FALSE NEIGHBOUR: 'it returns false'. Refute it at one input. -/
def boxFilledWrong : ChangeSpec := { name := "boxFilled", fn := fun _ => fun
  | [d1, d2] => { results := [.lit (.bool false)], args := [d1, d2] }
  | _ => none }
def BoxFilledWrongFalsely : Prop := boxFilledRow.holds Try.pinned (OpenSpec.ofChange boxFilledWrong)

/-- 'pencilworkslaw09.BoxGreedy': WHATEVER THE INPUT: true; the input reads as it did. -/
def boxGreedySpec : ChangeSpec := { name := "boxGreedy", fn := fun _ => fun
  | [d1, d2, d3, d4, d5] => { results := [.lit (.bool true)], args := [d1, d2, d3, d4, d5] }
  | _ => none }
def boxGreedyRow : OpenClaim := { program := "ytpamkihpffoflaa", sum := "4b2f54c16f4264ce1be559e140deba3ab7adaa0155b1808db607341a7248e0ed", func := "pencilworks/pencilworkslaw09.BoxGreedy", spec := "boxGreedy", unfollowed := true, recurses := true, apart := false }
def BoxGreedySaid : Prop := boxGreedyRow.holds Try.pinned (OpenSpec.ofChange boxGreedySpec)

/-- ITS FALSE NEIGHBOUR: 'it returns false'. Refute it at one input. -/
def boxGreedyWrong : ChangeSpec := { name := "boxGreedy", fn := fun _ => fun
  | [d1, d2, d3, d4, d5] => { results := [.lit (.bool false)], args := [d1, d2, d3, d4, d5] }
  | _ => none }
def BoxGreedyWrongFalsely : Prop := boxGreedyRow.holds Try.pinned (OpenSpec.ofChange boxGreedyWrong)

/-- 'pencilworkslaw09.BoxUsed': WHATEVER THE INPUT: true; the input reads as it did. -/
def boxUsedSpec : ChangeSpec := { name := "boxUsed", fn := fun _ => fun
  | [d1, d2, d3, d4] => { results := [.lit (.bool true)], args := [d1, d2, d3, d4] }
  | _ => none }
def boxUsedRow : OpenClaim := { program := "ytpamkihpffoflaa", sum := "4b2f54c16f4264ce1be559e140deba3ab7adaa0155b1808db607341a7248e0ed", func := "pencilworks/pencilworkslaw09.BoxUsed", spec := "boxUsed", unfollowed := true, recurses := true, apart := false }
def BoxUsedSaid : Prop := boxUsedRow.holds Try.pinned (OpenSpec.ofChange boxUsedSpec)

/-- ITS FALSE NEIGHBOUR: 'it returns false'. Refute it at one input. -/
def boxUsedWrong : ChangeSpec := { name := "boxUsed", fn := fun _ => fun
  | [d1, d2, d3, d4] => { results := [.lit (.bool false)], args := [d1, d2, d3, d4] }
  | _ => none }
def BoxUsedWrongFalsely : Prop := boxUsedRow.holds Try.pinned (OpenSpec.ofChange boxUsedWrong)

/-- 'pencilworkslaw09.BoxLack': WHATEVER THE INPUT: true; the input reads as it did. -/
def boxLackSpec : ChangeSpec := { name := "boxLack", fn := fun _ => fun
  | [d1, d2, d3, d4] => { results := [.lit (.bool true)], args := [d1, d2, d3, d4] }
  | _ => none }
def boxLackRow : OpenClaim := { program := "ytpamkihpffoflaa", sum := "4b2f54c16f4264ce1be559e140deba3ab7adaa0155b1808db607341a7248e0ed", func := "pencilworks/pencilworkslaw09.BoxLack", spec := "boxLack", unfollowed := true, recurses := true, apart := false }
def BoxLackSaid : Prop := boxLackRow.holds Try.pinned (OpenSpec.ofChange boxLackSpec)

/-- ITS FALSE NEIGHBOUR: 'it returns false'. Refute it at one input. -/
def boxLackWrong : ChangeSpec := { name := "boxLack", fn := fun _ => fun
  | [d1, d2, d3, d4] => { results := [.lit (.bool false)], args := [d1, d2, d3, d4] }
  | _ => none }
def BoxLackWrongFalsely : Prop := boxLackRow.holds Try.pinned (OpenSpec.ofChange boxLackWrong)

/-- 'pencilworkslaw09.BoxMore': WHATEVER THE INPUT: true; the input reads as it did. -/
def boxMoreSpec : ChangeSpec := { name := "boxMore", fn := fun _ => fun
  | [d1, d2, d3, d4] => { results := [.lit (.bool true)], args := [d1, d2, d3, d4] }
  | _ => none }
def boxMoreRow : OpenClaim := { program := "ytpamkihpffoflaa", sum := "4b2f54c16f4264ce1be559e140deba3ab7adaa0155b1808db607341a7248e0ed", func := "pencilworks/pencilworkslaw09.BoxMore", spec := "boxMore", unfollowed := true, recurses := true, apart := false }
def BoxMoreSaid : Prop := boxMoreRow.holds Try.pinned (OpenSpec.ofChange boxMoreSpec)

/-- ITS FALSE NEIGHBOUR: 'it returns false'. Refute it at one input. -/
def boxMoreWrong : ChangeSpec := { name := "boxMore", fn := fun _ => fun
  | [d1, d2, d3, d4] => { results := [.lit (.bool false)], args := [d1, d2, d3, d4] }
  | _ => none }
def BoxMoreWrongFalsely : Prop := boxMoreRow.holds Try.pinned (OpenSpec.ofChange boxMoreWrong)

/- THE SECOND FORM. 'bulk': how many values and letters a reading holds, each counted each time it is reached (what is shared counts as often as it is met; a slice's spare places count too). A statement '..UptoSaid' is the law's where the arguments, and the package variables that the reading takes, are together of bulk at most 1048576: NARROWER than '..Said'. Prove '..Said' where nothing that the law and all that it calls make is longer than what came in: it says more and counts as full. Else prove '..UptoSaid'. A law counts once. -/
mutual
def uptoBulk {H : Type} : DataW H → Nat
  | .lit (.string bytes) => bytes.length + 1
  | .lit _ => 1
  | .nil => 1
  | .ptr d => uptoBulk d + 1
  | .slice elems spare => uptoBulkAll elems + uptoBulkAll spare + 1
  | .agg parts => uptoBulkAll parts + 1
  | .iface _ d => uptoBulk d + 1
  | .map entries => uptoBulkEntries entries + 1
  | .held _ => 1
def uptoBulkAll {H : Type} : List (DataW H) → Nat
  | [] => 0
  | d :: r => uptoBulk d + uptoBulkAll r
def uptoBulkEntries {H : Type} : List (Lit × DataW H) → Nat
  | [] => 0
  | x :: r => uptoBulkEntry x + uptoBulkEntries r
def uptoBulkEntry {H : Type} : Lit × DataW H → Nat
  | (.string bytes, d) => bytes.length + uptoBulk d + 1
  | (_, d) => uptoBulk d + 1
 end
def uptoSmall : (H : Type) → List (DataW H) → Bool := fun _ ds => decide (uptoBulkAll ds ≤ 1048576)
def OpenSpec.upto (s : _root_.Go.ChangeSpec) : _root_.Go.OpenSpec := { _root_.Go.OpenSpec.ofChange s with cond := some uptoSmall }

/-- 'pencilworkslaw09.BoxMosts', WHERE WHAT IT READS IS OF BULK AT MOST 1048576: true; the input reads as it did. -/
def boxMostsUptoRow : OpenClaim := { program := "ytpamkihpffoflaa", sum := "4b2f54c16f4264ce1be559e140deba3ab7adaa0155b1808db607341a7248e0ed", func := "pencilworks/pencilworkslaw09.BoxMosts", spec := "boxMosts", unfollowed := true, recurses := true, apart := false, narrowed := true }
def BoxMostsUptoSaid : Prop := boxMostsUptoRow.holds Try.pinned (OpenSpec.upto boxMostsSpec)

/-- 'pencilworkslaw09.BoxFills', WHERE WHAT IT READS IS OF BULK AT MOST 1048576: true; the input reads as it did. -/
def boxFillsUptoRow : OpenClaim := { program := "ytpamkihpffoflaa", sum := "4b2f54c16f4264ce1be559e140deba3ab7adaa0155b1808db607341a7248e0ed", func := "pencilworks/pencilworkslaw09.BoxFills", spec := "boxFills", unfollowed := true, recurses := true, apart := false, narrowed := true }
def BoxFillsUptoSaid : Prop := boxFillsUptoRow.holds Try.pinned (OpenSpec.upto boxFillsSpec)

/-- 'pencilworkslaw09.BoxFilled', WHERE WHAT IT READS IS OF BULK AT MOST 1048576: true; the input reads as it did. -/
def boxFilledUptoRow : OpenClaim := { program := "ytpamkihpffoflaa", sum := "4b2f54c16f4264ce1be559e140deba3ab7adaa0155b1808db607341a7248e0ed", func := "pencilworks/pencilworkslaw09.BoxFilled", spec := "boxFilled", unfollowed := true, recurses := true, apart := false, narrowed := true }
def BoxFilledUptoSaid : Prop := boxFilledUptoRow.holds Try.pinned (OpenSpec.upto boxFilledSpec)

/-- 'pencilworkslaw09.BoxGreedy', WHERE WHAT IT READS IS OF BULK AT MOST 1048576: true; the input reads as it did. -/
def boxGreedyUptoRow : OpenClaim := { program := "ytpamkihpffoflaa", sum := "4b2f54c16f4264ce1be559e140deba3ab7adaa0155b1808db607341a7248e0ed", func := "pencilworks/pencilworkslaw09.BoxGreedy", spec := "boxGreedy", unfollowed := true, recurses := true, apart := false, narrowed := true }
def BoxGreedyUptoSaid : Prop := boxGreedyUptoRow.holds Try.pinned (OpenSpec.upto boxGreedySpec)

/-- 'pencilworkslaw09.BoxUsed', WHERE WHAT IT READS IS OF BULK AT MOST 1048576: true; the input reads as it did. -/
def boxUsedUptoRow : OpenClaim := { program := "ytpamkihpffoflaa", sum := "4b2f54c16f4264ce1be559e140deba3ab7adaa0155b1808db607341a7248e0ed", func := "pencilworks/pencilworkslaw09.BoxUsed", spec := "boxUsed", unfollowed := true, recurses := true, apart := false, narrowed := true }
def BoxUsedUptoSaid : Prop := boxUsedUptoRow.holds Try.pinned (OpenSpec.upto boxUsedSpec)

/-- 'pencilworkslaw09.BoxLack', WHERE WHAT IT READS IS OF BULK AT MOST 1048576: true; the input reads as it did. -/
def boxLackUptoRow : OpenClaim := { program := "ytpamkihpffoflaa", sum := "4b2f54c16f4264ce1be559e140deba3ab7adaa0155b1808db607341a7248e0ed", func := "pencilworks/pencilworkslaw09.BoxLack", spec := "boxLack", unfollowed := true, recurses := true, apart := false, narrowed := true }
def BoxLackUptoSaid : Prop := boxLackUptoRow.holds Try.pinned (OpenSpec.upto boxLackSpec)

/-- 'pencilworkslaw09.BoxMore', WHERE WHAT IT READS IS OF BULK AT MOST 1048576: true; the input reads as it did. -/
def boxMoreUptoRow : OpenClaim := { program := "ytpamkihpffoflaa", sum := "4b2f54c16f4264ce1be559e140deba3ab7adaa0155b1808db607341a7248e0ed", func := "pencilworks/pencilworkslaw09.BoxMore", spec := "boxMore", unfollowed := true, recurses := true, apart := false, narrowed := true }
def BoxMoreUptoSaid : Prop := boxMoreUptoRow.holds Try.pinned (OpenSpec.upto boxMoreSpec)

end Rows
end Go.Proofs.Ytpamkihpffoflaa
