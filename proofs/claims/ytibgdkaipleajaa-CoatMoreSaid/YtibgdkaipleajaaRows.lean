/-
  No cell of these rows narrows 'for every input' (looked for: loops, veiled, ifaces, maps, wideKeys, modest, calm, conditions, laid).
  DERIVED. THE GIVEN ROWS OF THIS SEAT. 6 by the template 'for every input the law returns true; each argument reads behind the call as it read before'; 0 by the template 'total and deterministic' (their statements: YtibgdkaipleajaaTotals.lean).
  GIVEN WITH THE SEED: the statements are not yours to turn. If you find one false, say at which input.
  Laid BY PROGRAM, IN A SANDBOX (cutbox-rows.mjs): the forced cells as the released guide's own fill.sh prints them over the translation 0396d252ec3cd5e1… (all of the seat's roots in one cut). By AI agents, Wed Nov 11 2026. No macro, syntax, notation, axiom, sorry.
-/
import Derived.Test.YtibgdkaipleajaaChecked
import GoSem.Claim
import GoSem.ClaimJoined
import GoSem.ClaimMapViews
import Derived.JoinedTies
import Derived.KernelRfl
namespace Go.Proofs.Ytibgdkaipleajaa
/- THE CELL 'sum', in the pinned program and in every row, IS THE sha256 OF THE DUMP (.gsa) THAT YtibgdkaipleajaaProg.lean LOADS. Nothing in Lean hashes anything: it is a label: what it is worth is what the hold of that sum in a sandbox is worth. -/
noncomputable def Try.pinned : Pinned := { name := "ytibgdkaipleajaa", sum := "0396d252ec3cd5e1dd0208efe3bd3bbf99d1bd23557ce06631670ab45e3d3eb7", checked := Try.checked }
namespace Rows
def none {H : Type} : Left H := { results := [], args := [] }

/-- 'pencilworkslaw07.CoatTimes': WHATEVER THE INPUT: true; the input reads as it did. -/
def coatTimesSpec : ChangeSpec := { name := "coatTimes", fn := fun _ => fun
  | [d1, d2, d3, d4] => { results := [.lit (.bool true)], args := [d1, d2, d3, d4] }
  | _ => none }
def coatTimesRow : OpenClaim := { program := "ytibgdkaipleajaa", sum := "0396d252ec3cd5e1dd0208efe3bd3bbf99d1bd23557ce06631670ab45e3d3eb7", func := "pencilworks/pencilworkslaw07.CoatTimes", spec := "coatTimes", unfollowed := true, recurses := true, apart := false }
def CoatTimesSaid : Prop := coatTimesRow.holds Try.pinned (OpenSpec.ofChange coatTimesSpec)

/-- ITS FALSE NEIGHBOUR: 'it returns false'. Refute it at one input. -/
def coatTimesWrong : ChangeSpec := { name := "coatTimes", fn := fun _ => fun
  | [d1, d2, d3, d4] => { results := [.lit (.bool false)], args := [d1, d2, d3, d4] }
  | _ => none }
def CoatTimesWrongFalsely : Prop := coatTimesRow.holds Try.pinned (OpenSpec.ofChange coatTimesWrong)

/-- 'pencilworkslaw07.CoatBests': WHATEVER THE INPUT: true; the input reads as it did. -/
def coatBestsSpec : ChangeSpec := { name := "coatBests", fn := fun _ => fun
  | [d] => { results := [.lit (.bool true)], args := [d] }
  | _ => none }
def coatBestsRow : OpenClaim := { program := "ytibgdkaipleajaa", sum := "0396d252ec3cd5e1dd0208efe3bd3bbf99d1bd23557ce06631670ab45e3d3eb7", func := "pencilworks/pencilworkslaw07.CoatBests", spec := "coatBests", unfollowed := true, recurses := true, apart := false }
def CoatBestsSaid : Prop := coatBestsRow.holds Try.pinned (OpenSpec.ofChange coatBestsSpec)

/-- ITS FALSE NEIGHBOUR: 'it returns false'. Refute it at one input. -/
def coatBestsWrong : ChangeSpec := { name := "coatBests", fn := fun _ => fun
  | [d] => { results := [.lit (.bool false)], args := [d] }
  | _ => none }
def CoatBestsWrongFalsely : Prop := coatBestsRow.holds Try.pinned (OpenSpec.ofChange coatBestsWrong)

/-- 'pencilworkslaw07.CoatTrue': WHATEVER THE INPUT: true; the input reads as it did. -/
def coatTrueSpec : ChangeSpec := { name := "coatTrue", fn := fun _ => fun
  | [d1, d2, d3, d4] => { results := [.lit (.bool true)], args := [d1, d2, d3, d4] }
  | _ => none }
def coatTrueRow : OpenClaim := { program := "ytibgdkaipleajaa", sum := "0396d252ec3cd5e1dd0208efe3bd3bbf99d1bd23557ce06631670ab45e3d3eb7", func := "pencilworks/pencilworkslaw07.CoatTrue", spec := "coatTrue", unfollowed := true, recurses := true, apart := false }
def CoatTrueSaid : Prop := coatTrueRow.holds Try.pinned (OpenSpec.ofChange coatTrueSpec)

/-- ITS FALSE NEIGHBOUR: 'it returns false'. Refute it at one input. -/
def coatTrueWrong : ChangeSpec := { name := "coatTrue", fn := fun _ => fun
  | [d1, d2, d3, d4] => { results := [.lit (.bool false)], args := [d1, d2, d3, d4] }
  | _ => none }
def CoatTrueWrongFalsely : Prop := coatTrueRow.holds Try.pinned (OpenSpec.ofChange coatTrueWrong)

/-- 'pencilworkslaw07.CoatEarly': WHATEVER THE INPUT: true; the input reads as it did. -/
def coatEarlySpec : ChangeSpec := { name := "coatEarly", fn := fun _ => fun
  | [d1, d2, d3] => { results := [.lit (.bool true)], args := [d1, d2, d3] }
  | _ => none }
def coatEarlyRow : OpenClaim := { program := "ytibgdkaipleajaa", sum := "0396d252ec3cd5e1dd0208efe3bd3bbf99d1bd23557ce06631670ab45e3d3eb7", func := "pencilworks/pencilworkslaw07.CoatEarly", spec := "coatEarly", unfollowed := true, recurses := true, apart := false }
def CoatEarlySaid : Prop := coatEarlyRow.holds Try.pinned (OpenSpec.ofChange coatEarlySpec)

/-- ITS FALSE NEIGHBOUR: 'it returns false'. Refute it at one input. -/
def coatEarlyWrong : ChangeSpec := { name := "coatEarly", fn := fun _ => fun
  | [d1, d2, d3] => { results := [.lit (.bool false)], args := [d1, d2, d3] }
  | _ => none }
def CoatEarlyWrongFalsely : Prop := coatEarlyRow.holds Try.pinned (OpenSpec.ofChange coatEarlyWrong)

/-- 'pencilworkslaw07.CoatBest': WHATEVER THE INPUT: true; the input reads as it did. -/
def coatBestSpec : ChangeSpec := { name := "coatBest", fn := fun _ => fun
  | [d1, d2] => { results := [.lit (.bool true)], args := [d1, d2] }
  | _ => none }
def coatBestRow : OpenClaim := { program := "ytibgdkaipleajaa", sum := "0396d252ec3cd5e1dd0208efe3bd3bbf99d1bd23557ce06631670ab45e3d3eb7", func := "pencilworks/pencilworkslaw07.CoatBest", spec := "coatBest", unfollowed := true, recurses := true, apart := false }
def CoatBestSaid : Prop := coatBestRow.holds Try.pinned (OpenSpec.ofChange coatBestSpec)

/-- ITS FALSE NEIGHBOUR: 'it returns false'. Refute it at one input. -/
def coatBestWrong : ChangeSpec := { name := "coatBest", fn := fun _ => fun
  | [d1, d2] => { results := [.lit (.bool false)], args := [d1, d2] }
  | _ => none }
def CoatBestWrongFalsely : Prop := coatBestRow.holds Try.pinned (OpenSpec.ofChange coatBestWrong)

/-- 'pencilworkslaw07.CoatMore': WHATEVER THE INPUT: true; the input reads as it did. -/
def coatMoreSpec : ChangeSpec := { name := "coatMore", fn := fun _ => fun
  | [d1, d2, d3] => { results := [.lit (.bool true)], args := [d1, d2, d3] }
  | _ => none }
def coatMoreRow : OpenClaim := { program := "ytibgdkaipleajaa", sum := "0396d252ec3cd5e1dd0208efe3bd3bbf99d1bd23557ce06631670ab45e3d3eb7", func := "pencilworks/pencilworkslaw07.CoatMore", spec := "coatMore", unfollowed := true, recurses := true, apart := false }
def CoatMoreSaid : Prop := coatMoreRow.holds Try.pinned (OpenSpec.ofChange coatMoreSpec)

/-- ITS FALSE NEIGHBOUR: 'it returns false'. Refute it at one input. -/
def coatMoreWrong : ChangeSpec := { name := "coatMore", fn := fun _ => fun
  | [d1, d2, d3] => { results := [.lit (.bool false)], args := [d1, d2, d3] }
  | _ => none }
def CoatMoreWrongFalsely : Prop := coatMoreRow.holds Try.pinned (OpenSpec.ofChange coatMoreWrong)

/- THE SECOND FORM. 'bulk': how many values and letters a reading holds, each counted each time it is reached (what is shared counts as often as it is met; a slice's spare places count too). A statement '..UptoSaid' is the law's where the arguments, and the package variables that the reading takes, are together of bulk at most 1048576: NARROWER than '..Said'. Prove '..Said' where nothing that the law and all that it calls make is longer than what came in: it says more and counts as full. Else prove '..UptoSaid'. A law counts once. -/
mutual
def uptoBulk {H : Type} : DataW H → Nat
  | .lit (.string bytes) => bytes.length + 1
  | .lit _ => 1
  | .nil => 1
  | .ptr d => uptoBulk d + 1
  | .slice elems spare => uptoBulkAll elems + uptoBulkAll spare + 1
  | .agg parts => uptoBulkAll parts + 1
  | .iface _ d => uptoBulk d + 1
  | .map entries => uptoBulkEntries entries + 1
  | .held _ => 1
def uptoBulkAll {H : Type} : List (DataW H) → Nat
  | [] => 0
  | d :: r => uptoBulk d + uptoBulkAll r
def uptoBulkEntries {H : Type} : List (Lit × DataW H) → Nat
  | [] => 0
  | x :: r => uptoBulkEntry x + uptoBulkEntries r
def uptoBulkEntry {H : Type} : Lit × DataW H → Nat
  | (.string bytes, d) => bytes.length + uptoBulk d + 1
  | (_, d) => uptoBulk d + 1
 end
def uptoSmall : (H : Type) → List (DataW H) → Bool := fun _ ds => decide (uptoBulkAll ds ≤ 1048576)
def OpenSpec.upto (s : _root_.Go.ChangeSpec) : _root_.Go.OpenSpec := { _root_.Go.OpenSpec.ofChange s with cond := some uptoSmall }

/-- 'pencilworkslaw07.CoatTimes', WHERE WHAT IT READS IS OF BULK AT MOST 1048576: true; the input reads as it did. -/
def coatTimesUptoRow : OpenClaim := { program := "ytibgdkaipleajaa", sum := "0396d252ec3cd5e1dd0208efe3bd3bbf99d1bd23557ce06631670ab45e3d3eb7", func := "pencilworks/pencilworkslaw07.CoatTimes", spec := "coatTimes", unfollowed := true, recurses := true, apart := false, narrowed := true }
def CoatTimesUptoSaid : Prop := coatTimesUptoRow.holds Try.pinned (OpenSpec.upto coatTimesSpec)

/-- 'pencilworkslaw07.CoatBests', WHERE WHAT IT READS IS OF BULK AT MOST 1048576: true; the input reads as it did. -/
def coatBestsUptoRow : OpenClaim := { program := "ytibgdkaipleajaa", sum := "0396d252ec3cd5e1dd0208efe3bd3bbf99d1bd23557ce06631670ab45e3d3eb7", func := "pencilworks/pencilworkslaw07.CoatBests", spec := "coatBests", unfollowed := true, recurses := true, apart := false, narrowed := true }
def CoatBestsUptoSaid : Prop := coatBestsUptoRow.holds Try.pinned (OpenSpec.upto coatBestsSpec)

/-- 'pencilworkslaw07.CoatTrue', WHERE WHAT IT READS IS OF BULK AT MOST 1048576: true; the input reads as it did. -/
def coatTrueUptoRow : OpenClaim := { program := "ytibgdkaipleajaa", sum := "0396d252ec3cd5e1dd0208efe3bd3bbf99d1bd23557ce06631670ab45e3d3eb7", func := "pencilworks/pencilworkslaw07.CoatTrue", spec := "coatTrue", unfollowed := true, recurses := true, apart := false, narrowed := true }
def CoatTrueUptoSaid : Prop := coatTrueUptoRow.holds Try.pinned (OpenSpec.upto coatTrueSpec)

/-- 'pencilworkslaw07.CoatEarly', WHERE WHAT IT READS IS OF BULK AT MOST 1048576: true; the input reads as it did. -/
def coatEarlyUptoRow : OpenClaim := { program := "ytibgdkaipleajaa", sum := "0396d252ec3cd5e1dd0208efe3bd3bbf99d1bd23557ce06631670ab45e3d3eb7", func := "pencilworks/pencilworkslaw07.CoatEarly", spec := "coatEarly", unfollowed := true, recurses := true, apart := false, narrowed := true }
def CoatEarlyUptoSaid : Prop := coatEarlyUptoRow.holds Try.pinned (OpenSpec.upto coatEarlySpec)

/-- 'pencilworkslaw07.CoatBest', WHERE WHAT IT READS IS OF BULK AT MOST 1048576: true; the input reads as it did. -/
def coatBestUptoRow : OpenClaim := { program := "ytibgdkaipleajaa", sum := "0396d252ec3cd5e1dd0208efe3bd3bbf99d1bd23557ce06631670ab45e3d3eb7", func := "pencilworks/pencilworkslaw07.CoatBest", spec := "coatBest", unfollowed := true, recurses := true, apart := false, narrowed := true }
def CoatBestUptoSaid : Prop := coatBestUptoRow.holds Try.pinned (OpenSpec.upto coatBestSpec)

/-- 'pencilworkslaw07.CoatMore', WHERE WHAT IT READS IS OF BULK AT MOST 1048576: true; the input reads as it did. -/
def coatMoreUptoRow : OpenClaim := { program := "ytibgdkaipleajaa", sum := "0396d252ec3cd5e1dd0208efe3bd3bbf99d1bd23557ce06631670ab45e3d3eb7", func := "pencilworks/pencilworkslaw07.CoatMore", spec := "coatMore", unfollowed := true, recurses := true, apart := false, narrowed := true }
def CoatMoreUptoSaid : Prop := coatMoreUptoRow.holds Try.pinned (OpenSpec.upto coatMoreSpec)

end Rows
end Go.Proofs.Ytibgdkaipleajaa
