/-
  No cell of these rows narrows 'for every input' (looked for: loops, veiled, ifaces, maps, wideKeys, modest, calm, conditions, laid).
  DERIVED. THE GIVEN ROWS OF THIS SEAT. 6 by the template 'for every input the law returns true; each argument reads behind the call as it read before'; 0 by the template 'total and deterministic' (their statements: YtmcejcidbekpkaaTotals.lean).
  GIVEN WITH THE SEED: the statements are not yours to turn. If you find one false, say at which input.
  Laid BY PROGRAM, IN A SANDBOX (cutbox-rows.mjs): the forced cells as the released guide's own fill.sh prints them over the translation 195081f16fab49fc… (all of the seat's roots in one cut). By AI agents, Wed Nov 11 2026. No macro, syntax, notation, axiom, sorry.
-/
import Derived.Test.YtmcejcidbekpkaaChecked
import GoSem.Claim
import GoSem.ClaimJoined
import GoSem.ClaimMapViews
import Derived.JoinedTies
import Derived.KernelRfl
namespace Go.Proofs.Ytmcejcidbekpkaa
/- THE CELL 'sum', in the pinned program and in every row, IS THE sha256 OF THE DUMP (.gsa) THAT YtmcejcidbekpkaaProg.lean LOADS. Nothing in Lean hashes anything: it is a label: what it is worth is what the hold of that sum in a sandbox is worth. -/
noncomputable def Try.pinned : Pinned := { name := "ytmcejcidbekpkaa", sum := "195081f16fab49fc8621fe7bac51f900f4e676b1b7e50aba9e79c56667e496f0", checked := Try.checked }
namespace Rows
def none {H : Type} : Left H := { results := [], args := [] }

/-- 'pencilworkslaw01.SackWeighs': WHATEVER THE INPUT: true; the input reads as it did. -/
def sackWeighsSpec : ChangeSpec := { name := "sackWeighs", fn := fun _ => fun
  | [d1, d2, d3] => { results := [.lit (.bool true)], args := [d1, d2, d3] }
  | _ => none }
def sackWeighsRow : OpenClaim := { program := "ytmcejcidbekpkaa", sum := "195081f16fab49fc8621fe7bac51f900f4e676b1b7e50aba9e79c56667e496f0", func := "pencilworks/pencilworkslaw01.SackWeighs", spec := "sackWeighs", unfollowed := true, recurses := true, apart := false }
def SackWeighsSaid : Prop := sackWeighsRow.holds Try.pinned (OpenSpec.ofChange sackWeighsSpec)

/-- ITS FALSE NEIGHBOUR: 'it returns false'. Refute it at one input. -/
def sackWeighsWrong : ChangeSpec := { name := "sackWeighs", fn := fun _ => fun
  | [d1, d2, d3] => { results := [.lit (.bool false)], args := [d1, d2, d3] }
  | _ => none }
def SackWeighsWrongFalsely : Prop := sackWeighsRow.holds Try.pinned (OpenSpec.ofChange sackWeighsWrong)

/-- 'pencilworkslaw01.SackMixes': WHATEVER THE INPUT: true; the input reads as it did. -/
def sackMixesSpec : ChangeSpec := { name := "sackMixes", fn := fun _ => fun
  | [d1, d2, d3, d4, d5] => { results := [.lit (.bool true)], args := [d1, d2, d3, d4, d5] }
  | _ => none }
def sackMixesRow : OpenClaim := { program := "ytmcejcidbekpkaa", sum := "195081f16fab49fc8621fe7bac51f900f4e676b1b7e50aba9e79c56667e496f0", func := "pencilworks/pencilworkslaw01.SackMixes", spec := "sackMixes", unfollowed := true, recurses := true, apart := false }
def SackMixesSaid : Prop := sackMixesRow.holds Try.pinned (OpenSpec.ofChange sackMixesSpec)

/-- ITS FALSE NEIGHBOUR: 'it returns false'. Refute it at one input. -/
def sackMixesWrong : ChangeSpec := { name := "sackMixes", fn := fun _ => fun
  | [d1, d2, d3, d4, d5] => { results := [.lit (.bool false)], args := [d1, d2, d3, d4, d5] }
  | _ => none }
def SackMixesWrongFalsely : Prop := sackMixesRow.holds Try.pinned (OpenSpec.ofChange sackMixesWrong)

/-- 'pencilworkslaw01.SackTrue': WHATEVER THE INPUT: true; the input reads as it did. -/
def sackTrueSpec : ChangeSpec := { name := "sackTrue", fn := fun _ => fun
  | [d1, d2, d3, d4] => { results := [.lit (.bool true)], args := [d1, d2, d3, d4] }
  | _ => none }
def sackTrueRow : OpenClaim := { program := "ytmcejcidbekpkaa", sum := "195081f16fab49fc8621fe7bac51f900f4e676b1b7e50aba9e79c56667e496f0", func := "pencilworks/pencilworkslaw01.SackTrue", spec := "sackTrue", unfollowed := true, recurses := true, apart := false }
def SackTrueSaid : Prop := sackTrueRow.holds Try.pinned (OpenSpec.ofChange sackTrueSpec)

/-- ITS FALSE NEIGHBOUR: 'it returns false'. Refute it at one input. -/
def sackTrueWrong : ChangeSpec := { name := "sackTrue", fn := fun _ => fun
  | [d1, d2, d3, d4] => { results := [.lit (.bool false)], args := [d1, d2, d3, d4] }
  | _ => none }
def SackTrueWrongFalsely : Prop := sackTrueRow.holds Try.pinned (OpenSpec.ofChange sackTrueWrong)

/-- 'pencilworkslaw01.SackEnds': WHATEVER THE INPUT: true; the input reads as it did. -/
def sackEndsSpec : ChangeSpec := { name := "sackEnds", fn := fun _ => fun
  | [d1, d2] => { results := [.lit (.bool true)], args := [d1, d2] }
  | _ => none }
def sackEndsRow : OpenClaim := { program := "ytmcejcidbekpkaa", sum := "195081f16fab49fc8621fe7bac51f900f4e676b1b7e50aba9e79c56667e496f0", func := "pencilworks/pencilworkslaw01.SackEnds", spec := "sackEnds", unfollowed := true, recurses := true, apart := false }
def SackEndsSaid : Prop := sackEndsRow.holds Try.pinned (OpenSpec.ofChange sackEndsSpec)

/-- ITS FALSE NEIGHBOUR: 'it returns false'. Refute it at one input. -/
def sackEndsWrong : ChangeSpec := { name := "sackEnds", fn := fun _ => fun
  | [d1, d2] => { results := [.lit (.bool false)], args := [d1, d2] }
  | _ => none }
def SackEndsWrongFalsely : Prop := sackEndsRow.holds Try.pinned (OpenSpec.ofChange sackEndsWrong)

/-- 'pencilworkslaw01.SackOrder': WHATEVER THE INPUT: true; the input reads as it did. -/
def sackOrderSpec : ChangeSpec := { name := "sackOrder", fn := fun _ => fun
  | [d1, d2, d3, d4, d5] => { results := [.lit (.bool true)], args := [d1, d2, d3, d4, d5] }
  | _ => none }
def sackOrderRow : OpenClaim := { program := "ytmcejcidbekpkaa", sum := "195081f16fab49fc8621fe7bac51f900f4e676b1b7e50aba9e79c56667e496f0", func := "pencilworks/pencilworkslaw01.SackOrder", spec := "sackOrder", unfollowed := true, recurses := true, apart := false }
def SackOrderSaid : Prop := sackOrderRow.holds Try.pinned (OpenSpec.ofChange sackOrderSpec)

/-- ITS FALSE NEIGHBOUR: 'it returns false'. Refute it at one input. -/
def sackOrderWrong : ChangeSpec := { name := "sackOrder", fn := fun _ => fun
  | [d1, d2, d3, d4, d5] => { results := [.lit (.bool false)], args := [d1, d2, d3, d4, d5] }
  | _ => none }
def SackOrderWrongFalsely : Prop := sackOrderRow.holds Try.pinned (OpenSpec.ofChange sackOrderWrong)

/-- 'pencilworkslaw01.SackMixed': WHATEVER THE INPUT: true; the input reads as it did. -/
def sackMixedSpec : ChangeSpec := { name := "sackMixed", fn := fun _ => fun
  | [d1, d2, d3, d4, d5, d6] => { results := [.lit (.bool true)], args := [d1, d2, d3, d4, d5, d6] }
  | _ => none }
def sackMixedRow : OpenClaim := { program := "ytmcejcidbekpkaa", sum := "195081f16fab49fc8621fe7bac51f900f4e676b1b7e50aba9e79c56667e496f0", func := "pencilworks/pencilworkslaw01.SackMixed", spec := "sackMixed", unfollowed := true, recurses := true, apart := false }
def SackMixedSaid : Prop := sackMixedRow.holds Try.pinned (OpenSpec.ofChange sackMixedSpec)

/-- ITS FALSE NEIGHBOUR: 'it returns false'. Refute it at one input. -/
def sackMixedWrong : ChangeSpec := { name := "sackMixed", fn := fun _ => fun
  | [d1, d2, d3, d4, d5, d6] => { results := [.lit (.bool false)], args := [d1, d2, d3, d4, d5, d6] }
  | _ => none }
def SackMixedWrongFalsely : Prop := sackMixedRow.holds Try.pinned (OpenSpec.ofChange sackMixedWrong)

/- THE SECOND FORM. 'bulk': how many values and letters a reading holds, each counted each time it is reached (what is shared counts as often as it is met; a slice's spare places count too). A statement '..UptoSaid' is the law's where the arguments, and the package variables that the reading takes, are together of bulk at most 1048576: NARROWER than '..Said'. Prove '..Said' where nothing that the law and all that it calls make is longer than what came in: it says more and counts as full. Else prove '..UptoSaid'. A law counts once. -/
mutual
def uptoBulk {H : Type} : DataW H → Nat
  | .lit (.string bytes) => bytes.length + 1
  | .lit _ => 1
  | .nil => 1
  | .ptr d => uptoBulk d + 1
  | .slice elems spare => uptoBulkAll elems + uptoBulkAll spare + 1
  | .agg parts => uptoBulkAll parts + 1
  | .iface _ d => uptoBulk d + 1
  | .map entries => uptoBulkEntries entries + 1
  | .held _ => 1
def uptoBulkAll {H : Type} : List (DataW H) → Nat
  | [] => 0
  | d :: r => uptoBulk d + uptoBulkAll r
def uptoBulkEntries {H : Type} : List (Lit × DataW H) → Nat
  | [] => 0
  | x :: r => uptoBulkEntry x + uptoBulkEntries r
def uptoBulkEntry {H : Type} : Lit × DataW H → Nat
  | (.string bytes, d) => bytes.length + uptoBulk d + 1
  | (_, d) => uptoBulk d + 1
 end
def uptoSmall : (H : Type) → List (DataW H) → Bool := fun _ ds => decide (uptoBulkAll ds ≤ 1048576)
def OpenSpec.upto (s : _root_.Go.ChangeSpec) : _root_.Go.OpenSpec := { _root_.Go.OpenSpec.ofChange s with cond := some uptoSmall }

/-- 'pencilworkslaw01.SackWeighs', WHERE WHAT IT READS IS OF BULK AT MOST 1048576: true; the input reads as it did. -/
def sackWeighsUptoRow : OpenClaim := { program := "ytmcejcidbekpkaa", sum := "195081f16fab49fc8621fe7bac51f900f4e676b1b7e50aba9e79c56667e496f0", func := "pencilworks/pencilworkslaw01.SackWeighs", spec := "sackWeighs", unfollowed := true, recurses := true, apart := false, narrowed := true }
def SackWeighsUptoSaid : Prop := sackWeighsUptoRow.holds Try.pinned (OpenSpec.upto sackWeighsSpec)

/-- 'pencilworkslaw01.SackMixes', WHERE WHAT IT READS IS OF BULK AT MOST 1048576: true; the input reads as it did. -/
def sackMixesUptoRow : OpenClaim := { program := "ytmcejcidbekpkaa", sum := "195081f16fab49fc8621fe7bac51f900f4e676b1b7e50aba9e79c56667e496f0", func := "pencilworks/pencilworkslaw01.SackMixes", spec := "sackMixes", unfollowed := true, recurses := true, apart := false, narrowed := true }
def SackMixesUptoSaid : Prop := sackMixesUptoRow.holds Try.pinned (OpenSpec.upto sackMixesSpec)

/-- 'pencilworkslaw01.SackTrue', WHERE WHAT IT READS IS OF BULK AT MOST 1048576: true; the input reads as it did. -/
def sackTrueUptoRow : OpenClaim := { program := "ytmcejcidbekpkaa", sum := "195081f16fab49fc8621fe7bac51f900f4e676b1b7e50aba9e79c56667e496f0", func := "pencilworks/pencilworkslaw01.SackTrue", spec := "sackTrue", unfollowed := true, recurses := true, apart := false, narrowed := true }
def SackTrueUptoSaid : Prop := sackTrueUptoRow.holds Try.pinned (OpenSpec.upto sackTrueSpec)

/-- 'pencilworkslaw01.SackEnds', WHERE WHAT IT READS IS OF BULK AT MOST 1048576: true; the input reads as it did. -/
def sackEndsUptoRow : OpenClaim := { program := "ytmcejcidbekpkaa", sum := "195081f16fab49fc8621fe7bac51f900f4e676b1b7e50aba9e79c56667e496f0", func := "pencilworks/pencilworkslaw01.SackEnds", spec := "sackEnds", unfollowed := true, recurses := true, apart := false, narrowed := true }
def SackEndsUptoSaid : Prop := sackEndsUptoRow.holds Try.pinned (OpenSpec.upto sackEndsSpec)

/-- 'pencilworkslaw01.SackOrder', WHERE WHAT IT READS IS OF BULK AT MOST 1048576: true; the input reads as it did. -/
def sackOrderUptoRow : OpenClaim := { program := "ytmcejcidbekpkaa", sum := "195081f16fab49fc8621fe7bac51f900f4e676b1b7e50aba9e79c56667e496f0", func := "pencilworks/pencilworkslaw01.SackOrder", spec := "sackOrder", unfollowed := true, recurses := true, apart := false, narrowed := true }
def SackOrderUptoSaid : Prop := sackOrderUptoRow.holds Try.pinned (OpenSpec.upto sackOrderSpec)

/-- 'pencilworkslaw01.SackMixed', WHERE WHAT IT READS IS OF BULK AT MOST 1048576: true; the input reads as it did. -/
def sackMixedUptoRow : OpenClaim := { program := "ytmcejcidbekpkaa", sum := "195081f16fab49fc8621fe7bac51f900f4e676b1b7e50aba9e79c56667e496f0", func := "pencilworks/pencilworkslaw01.SackMixed", spec := "sackMixed", unfollowed := true, recurses := true, apart := false, narrowed := true }
def SackMixedUptoSaid : Prop := sackMixedUptoRow.holds Try.pinned (OpenSpec.upto sackMixedSpec)

end Rows
end Go.Proofs.Ytmcejcidbekpkaa
