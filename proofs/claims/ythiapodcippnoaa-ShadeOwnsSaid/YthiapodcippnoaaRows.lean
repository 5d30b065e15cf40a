/-
  No cell of these rows narrows 'for every input' (looked for: loops, veiled, ifaces, maps, wideKeys, modest, calm, conditions, laid).
  DERIVED. THE GIVEN ROWS OF THIS SEAT. 10 by the template 'for every input the law returns true; each argument reads behind the call as it read before'; 0 by the template 'total and deterministic' (their statements: YthiapodcippnoaaTotals.lean).
  GIVEN WITH THE SEED: the statements are not yours to turn. If you find one false, say at which input.
  Laid BY PROGRAM, IN A SANDBOX (cutbox-rows.mjs): the forced cells as the released guide's own fill.sh prints them over the translation 9ece626dcca2a8df… (all of the seat's roots in one cut). By AI agents, Wed Nov 11 2026. No macro, syntax, notation, axiom, sorry.
-/
import Derived.Test.YthiapodcippnoaaChecked
import GoSem.Claim
import GoSem.ClaimJoined
import GoSem.ClaimMapViews
import Derived.JoinedTies
import Derived.KernelRfl
namespace Go.Proofs.Ythiapodcippnoaa
/- THE CELL 'sum', in the pinned program and in every row, IS THE sha256 OF THE DUMP (.gsa) THAT YthiapodcippnoaaProg.lean LOADS. Nothing in Lean hashes anything: it is a label: what it is worth is what the hold of that sum in a sandbox is worth. -/
noncomputable def Try.pinned : Pinned := { name := "ythiapodcippnoaa", sum := "9ece626dcca2a8df050ce69ce490b549c49678b6c9a0af4dbdfcc5a6c734a88f", checked := Try.checked }
namespace Rows
def none {H : Type} : Left H := { results := [], args := [] }

/-- 'pencilworkslaw02.ShadeBlacks': WHATEVER THE INPUT: true; the input reads as it did. -/
def shadeBlacksSpec : ChangeSpec := { name := "shadeBlacks", fn := fun _ => fun
  | [d1, d2, d3] => { results := [.lit (.bool true)], args := [d1, d2, d3] }
  | _ => none }
def shadeBlacksRow : OpenClaim := { program := "ythiapodcippnoaa", sum := "9ece626dcca2a8df050ce69ce490b549c49678b6c9a0af4dbdfcc5a6c734a88f", func := "pencilworks/pencilworkslaw02.ShadeBlacks", spec := "shadeBlacks", unfollowed := true, recurses := true, apart := false }
def ShadeBlacksSaid : Prop := shadeBlacksRow.holds Try.pinned (OpenSpec.ofChange shadeBlacksSpec)

/-- ITS FALSE NEIGHBOUR: 'it returns false'. Refute it at one input. -/
def shadeBlacksWrong : ChangeSpec := { name := "shadeBlacks", fn := fun _ => fun
  | [d1, d2, d3] => { results := [.lit (.bool false)], args := [d1, d2, d3] }
  | _ => none }
def ShadeBlacksWrongFalsely : Prop := shadeBlacksRow.holds Try.pinned (OpenSpec.ofChange shadeBlacksWrong)

/-- 'pencilworkslaw02.ShadeCuts': WHATEVER THE INPUT: true; the input reads as it did. -/
def shadeCutsSpec : ChangeSpec := { name := "shadeCuts", fn := fun _ => fun
  | [d1, d2, d3, d4, d5] => { results := [.lit (.bool true)], args := [d1, d2, d3, d4, d5] }
  | _ => none }
def shadeCutsRow : OpenClaim := { program := "ythiapodcippnoaa", sum := "9ece626dcca2a8df050ce69ce490b549c49678b6c9a0af4dbdfcc5a6c734a88f", func := "pencilworks/pencilworkslaw02.ShadeCuts", spec := "shadeCuts", unfollowed := true, recurses := true, apart := false }
def ShadeCutsSaid : Prop := shadeCutsRow.holds Try.pinned (OpenSpec.ofChange shadeCutsSpec)

/-- ITS FALSE NEIGHBOUR: 'it returns false'. Refute it at one input. -/
def shadeCutsWrong : ChangeSpec := { name := "shadeCuts", fn := fun _ => fun
  | [d1, d2, d3, d4, d5] => { results := [.lit (.bool false)], args := [d1, d2, d3, d4, d5] }
  | _ => none }
def ShadeCutsWrongFalsely : Prop := shadeCutsRow.holds Try.pinned (OpenSpec.ofChange shadeCutsWrong)

/-- 'pencilworkslaw02.ShadeNames': WHATEVER THE INPUT: true; the input reads as it did. -/
def shadeNamesSpec : ChangeSpec := { name := "shadeNames", fn := fun _ => fun
  | [] => { results := [.lit (.bool true)], args := [] }
  | _ => none }
def shadeNamesRow : OpenClaim := { program := "ythiapodcippnoaa", sum := "9ece626dcca2a8df050ce69ce490b549c49678b6c9a0af4dbdfcc5a6c734a88f", func := "pencilworks/pencilworkslaw02.ShadeNames", spec := "shadeNames", unfollowed := true, recurses := true, apart := false }
def ShadeNamesSaid : Prop := shadeNamesRow.holds Try.pinned (OpenSpec.ofChange shadeNamesSpec)

/-- ITS FALSE NEIGHBOUR: 'it returns false'. Refute it at one input. -/
def shadeNamesWrong : ChangeSpec := { name := "shadeNames", fn := fun _ => fun
  | [] => { results := [.lit (.bool false)], args := [] }
  | _ => none }
def ShadeNamesWrongFalsely : Prop := shadeNamesRow.holds Try.pinned (OpenSpec.ofChange shadeNamesWrong)

/-- 'pencilworkslaw02.ShadeTrue': WHATEVER THE INPUT: true; the input reads as it did. -/
def shadeTrueSpec : ChangeSpec := { name := "shadeTrue", fn := fun _ => fun
  | [d1, d2, d3, d4] => { results := [.lit (.bool true)], args := [d1, d2, d3, d4] }
  | _ => none }
def shadeTrueRow : OpenClaim := { program := "ythiapodcippnoaa", sum := "9ece626dcca2a8df050ce69ce490b549c49678b6c9a0af4dbdfcc5a6c734a88f", func := "pencilworks/pencilworkslaw02.ShadeTrue", spec := "shadeTrue", unfollowed := true, recurses := true, apart := false }
def ShadeTrueSaid : Prop := shadeTrueRow.holds Try.pinned (OpenSpec.ofChange shadeTrueSpec)

/-- ITS FALSE NEIGHBOUR: 'it returns false'. Refute it at one input. -/
def shadeTrueWrong : ChangeSpec := { name := "shadeTrue", fn := fun _ => fun
  | [d1, d2, d3, d4] => { results := [.lit (.bool false)], args := [d1, d2, d3, d4] }
  | _ => none }
def ShadeTrueWrongFalsely : Prop := shadeTrueRow.holds Try.pinned (OpenSpec.ofChange shadeTrueWrong)

/-- 'pencilworkslaw02.ShadeEnds': WHATEVER THE INPUT: true; the input reads as it did. -/
def shadeEndsSpec : ChangeSpec := { name := "shadeEnds", fn := fun _ => fun
  | [d1, d2, d3] => { results := [.lit (.bool true)], args := [d1, d2, d3] }
  | _ => none }
def shadeEndsRow : OpenClaim := { program := "ythiapodcippnoaa", sum := "9ece626dcca2a8df050ce69ce490b549c49678b6c9a0af4dbdfcc5a6c734a88f", func := "pencilworks/pencilworkslaw02.ShadeEnds", spec := "shadeEnds", unfollowed := true, recurses := true, apart := false }
def ShadeEndsSaid : Prop := shadeEndsRow.holds Try.pinned (OpenSpec.ofChange shadeEndsSpec)

/-- ITS FALSE NEIGHBOUR: 'it returns false'. Refute it at one input. -/
def shadeEndsWrong : ChangeSpec := { name := "shadeEnds", fn := fun _ => fun
  | [d1, d2, d3] => { results := [.lit (.bool false)], args := [d1, d2, d3] }
  | _ => none }
def ShadeEndsWrongFalsely : Prop := shadeEndsRow.holds Try.pinned (OpenSpec.ofChange shadeEndsWrong)

/-- 'pencilworkslaw02.ShadeBest': WHATEVER THE INPUT: true; the input reads as it did. -/
def shadeBestSpec : ChangeSpec := { name := "shadeBest", fn := fun _ => fun
  | [d1, d2, d3, d4] => { results := [.lit (.bool true)], args := [d1, d2, d3, d4] }
  | _ => none }
def shadeBestRow : OpenClaim := { program := "ythiapodcippnoaa", sum := "9ece626dcca2a8df050ce69ce490b549c49678b6c9a0af4dbdfcc5a6c734a88f", func := "pencilworks/pencilworkslaw02.ShadeBest", spec := "shadeBest", unfollowed := true, recurses := true, apart := false }
def ShadeBestSaid : Prop := shadeBestRow.holds Try.pinned (OpenSpec.ofChange shadeBestSpec)

/-- ITS FALSE NEIGHBOUR: 'it returns false'. Refute it at one input. -/
def shadeBestWrong : ChangeSpec := { name := "shadeBest", fn := fun _ => fun
  | [d1, d2, d3, d4] => { results := [.lit (.bool false)], args := [d1, d2, d3, d4] }
  | _ => none }
def ShadeBestWrongFalsely : Prop := shadeBestRow.holds Try.pinned (OpenSpec.ofChange shadeBestWrong)

/-- 'pencilworkslaw02.ShadeOrder': WHATEVER THE INPUT: true; the input reads as it did. -/
def shadeOrderSpec : ChangeSpec := { name := "shadeOrder", fn := fun _ => fun
  | [d1, d2, d3, d4, d5, d6, d7] => { results := [.lit (.bool true)], args := [d1, d2, d3, d4, d5, d6, d7] }
  | _ => none }
def shadeOrderRow : OpenClaim := { program := "ythiapodcippnoaa", sum := "9ece626dcca2a8df050ce69ce490b549c49678b6c9a0af4dbdfcc5a6c734a88f", func := "pencilworks/pencilworkslaw02.ShadeOrder", spec := "shadeOrder", unfollowed := true, recurses := true, apart := false }
def ShadeOrderSaid : Prop := shadeOrderRow.holds Try.pinned (OpenSpec.ofChange shadeOrderSpec)

/-- ITS FALSE NEIGHBOUR: 'it returns false'. Refute it at one input. -/
def shadeOrderWrong : ChangeSpec := { name := "shadeOrder", fn := fun _ => fun
  | [d1, d2, d3, d4, d5, d6, d7] => { results := [.lit (.bool false)], args := [d1, d2, d3, d4, d5, d6, d7] }
  | _ => none }
def ShadeOrderWrongFalsely : Prop := shadeOrderRow.holds Try.pinned (OpenSpec.ofChange shadeOrderWrong)

/-- 'pencilworkslaw02.ShadeMore': WHATEVER THE INPUT: true; the input reads as it did. -/
def shadeMoreSpec : ChangeSpec := { name := "shadeMore", fn := fun _ => fun
  | [d1, d2, d3, d4, d5] => { results := [.lit (.bool true)], args := [d1, d2, d3, d4, d5] }
  | _ => none }
def shadeMoreRow : OpenClaim := { program := "ythiapodcippnoaa", sum := "9ece626dcca2a8df050ce69ce490b549c49678b6c9a0af4dbdfcc5a6c734a88f", func := "pencilworks/pencilworkslaw02.ShadeMore", spec := "shadeMore", unfollowed := true, recurses := true, apart := false }
def ShadeMoreSaid : Prop := shadeMoreRow.holds Try.pinned (OpenSpec.ofChange shadeMoreSpec)

/-- ITS FALSE NEIGHBOUR: 'it returns false'. Refute it at one input. -/
def shadeMoreWrong : ChangeSpec := { name := "shadeMore", fn := fun _ => fun
  | [d1, d2, d3, d4, d5] => { results := [.lit (.bool false)], args := [d1, d2, d3, d4, d5] }
  | _ => none }
def ShadeMoreWrongFalsely : Prop := shadeMoreRow.holds Try.pinned (OpenSpec.ofChange shadeMoreWrong)

/-- 'pencilworkslaw02.ShadeSold': WHATEVER THE INPUT: true; the input reads as it did. -/
def shadeSoldSpec : ChangeSpec := { name := "shadeSold", fn := fun _ => fun
  | [d1, d2, d3, d4, d5] => { results := [.lit (.bool true)], args := [d1, d2, d3, d4, d5] }
  | _ => none }
def shadeSoldRow : OpenClaim := { program := "ythiapodcippnoaa", sum := "9ece626dcca2a8df050ce69ce490b549c49678b6c9a0af4dbdfcc5a6c734a88f", func := "pencilworks/pencilworkslaw02.ShadeSold", spec := "shadeSold", unfollowed := true, recurses := true, apart := false }
def ShadeSoldSaid : Prop := shadeSoldRow.holds Try.pinned (OpenSpec.ofChange shadeSoldSpec)

/-- ITS FALSE NEIGHBOUR: 'it returns false'. Refute it at one input. -/
def shadeSoldWrong : ChangeSpec := { name := "shadeSold", fn := fun _ => fun
  | [d1, d2, d3, d4, d5] => { results := [.lit (.bool false)], args := [d1, d2, d3, d4, d5] }
  | _ => none }
def ShadeSoldWrongFalsely : Prop := shadeSoldRow.holds Try.pinned (OpenSpec.ofChange shadeSoldWrong)

/-- 'pencilworkslaw02.ShadeOwns': WHATEVER THE INPUT: true; the input reads as it did. -/
def shadeOwnsSpec : ChangeSpec := { name := "shadeOwns", fn := fun _ => fun
  | [d1, d2, d3, d4] => { results := [.lit (.bool true)], args := [d1, d2, d3, d4] }
  | _ => none }
def shadeOwnsRow : OpenClaim := { program := "ythiapodcippnoaa", sum := "9ece626dcca2a8df050ce69ce490b549c49678b6c9a0af4dbdfcc5a6c734a88f", func := "pencilworks/pencilworkslaw02.ShadeOwns", spec := "shadeOwns", unfollowed := true, recurses := true, apart := false }
def ShadeOwnsSaid : Prop := shadeOwnsRow.holds Try.pinned (OpenSpec.ofChange shadeOwnsSpec)

/-- ITS FALSE NEIGHBOUR: 'it returns false'. Refute it at one input. -/
def shadeOwnsWrong : ChangeSpec := { name := "shadeOwns", fn := fun _ => fun
  | [d1, d2, d3, d4] => { results := [.lit (.bool false)], args := [d1, d2, d3, d4] }
  | _ => none }
def ShadeOwnsWrongFalsely : Prop := shadeOwnsRow.holds Try.pinned (OpenSpec.ofChange shadeOwnsWrong)

/- THE SECOND FORM. 'bulk': how many values and letters a reading holds, each counted each time it is reached (what is shared counts as often as it is met; a slice's spare places count too). A statement '..UptoSaid' is the law's where the arguments, and the package variables that the reading takes, are together of bulk at most 1048576: NARROWER than '..Said'. Prove '..Said' where nothing that the law and all that it calls make is longer than what came in: it says more and counts as full. Else prove '..UptoSaid'. A law counts once. -/
mutual
def uptoBulk {H : Type} : DataW H → Nat
  | .lit (.string bytes) => bytes.length + 1
  | .lit _ => 1
  | .nil => 1
  | .ptr d => uptoBulk d + 1
  | .slice elems spare => uptoBulkAll elems + uptoBulkAll spare + 1
  | .agg parts => uptoBulkAll parts + 1
  | .iface _ d => uptoBulk d + 1
  | .map entries => uptoBulkEntries entries + 1
  | .held _ => 1
def uptoBulkAll {H : Type} : List (DataW H) → Nat
  | [] => 0
  | d :: r => uptoBulk d + uptoBulkAll r
def uptoBulkEntries {H : Type} : List (Lit × DataW H) → Nat
  | [] => 0
  | x :: r => uptoBulkEntry x + uptoBulkEntries r
def uptoBulkEntry {H : Type} : Lit × DataW H → Nat
  | (.string bytes, d) => bytes.length + uptoBulk d + 1
  | (_, d) => uptoBulk d + 1
 end
def uptoSmall : (H : Type) → List (DataW H) → Bool := fun _ ds => decide (uptoBulkAll ds ≤ 1048576)
def OpenSpec.upto (s : _root_.Go.ChangeSpec) : _root_.Go.OpenSpec := { _root_.Go.OpenSpec.ofChange s with cond := some uptoSmall }

/-- 'pencilworkslaw02.ShadeBlacks', WHERE WHAT IT READS IS OF BULK AT MOST 1048576: true; the input reads as it did. -/
def shadeBlacksUptoRow : OpenClaim := { program := "ythiapodcippnoaa", sum := "9ece626dcca2a8df050ce69ce490b549c49678b6c9a0af4dbdfcc5a6c734a88f", func := "pencilworks/pencilworkslaw02.ShadeBlacks", spec := "shadeBlacks", unfollowed := true, recurses := true, apart := false, narrowed := true }
def ShadeBlacksUptoSaid : Prop := shadeBlacksUptoRow.holds Try.pinned (OpenSpec.upto shadeBlacksSpec)

/-- 'pencilworkslaw02.ShadeCuts', WHERE WHAT IT READS IS OF BULK AT MOST 1048576: true; the input reads as it did. -/
def shadeCutsUptoRow : OpenClaim := { program := "ythiapodcippnoaa", sum := "9ece626dcca2a8df050ce69ce490b549c49678b6c9a0af4dbdfcc5a6c734a88f", func := "pencilworks/pencilworkslaw02.ShadeCuts", spec := "shadeCuts", unfollowed := true, recurses := true, apart := false, narrowed := true }
def ShadeCutsUptoSaid : Prop := shadeCutsUptoRow.holds Try.pinned (OpenSpec.upto shadeCutsSpec)

/-- 'pencilworkslaw02.ShadeNames', WHERE WHAT IT READS IS OF BULK AT MOST 1048576: true; the input reads as it did. -/
def shadeNamesUptoRow : OpenClaim := { program := "ythiapodcippnoaa", sum := "9ece626dcca2a8df050ce69ce490b549c49678b6c9a0af4dbdfcc5a6c734a88f", func := "pencilworks/pencilworkslaw02.ShadeNames", spec := "shadeNames", unfollowed := true, recurses := true, apart := false, narrowed := true }
def ShadeNamesUptoSaid : Prop := shadeNamesUptoRow.holds Try.pinned (OpenSpec.upto shadeNamesSpec)

/-- 'pencilworkslaw02.ShadeTrue', WHERE WHAT IT READS IS OF BULK AT MOST 1048576: true; the input reads as it did. -/
def shadeTrueUptoRow : OpenClaim := { program := "ythiapodcippnoaa", sum := "9ece626dcca2a8df050ce69ce490b549c49678b6c9a0af4dbdfcc5a6c734a88f", func := "pencilworks/pencilworkslaw02.ShadeTrue", spec := "shadeTrue", unfollowed := true, recurses := true, apart := false, narrowed := true }
def ShadeTrueUptoSaid : Prop := shadeTrueUptoRow.holds Try.pinned (OpenSpec.upto shadeTrueSpec)

/-- 'pencilworkslaw02.ShadeEnds', WHERE WHAT IT READS IS OF BULK AT MOST 1048576: true; the input reads as it did. -/
def shadeEndsUptoRow : OpenClaim := { program := "ythiapodcippnoaa", sum := "9ece626dcca2a8df050ce69ce490b549c49678b6c9a0af4dbdfcc5a6c734a88f", func := "pencilworks/pencilworkslaw02.ShadeEnds", spec := "shadeEnds", unfollowed := true, recurses := true, apart := false, narrowed := true }
def ShadeEndsUptoSaid : Prop := shadeEndsUptoRow.holds Try.pinned (OpenSpec.upto shadeEndsSpec)

/-- 'pencilworkslaw02.ShadeBest', WHERE WHAT IT READS IS OF BULK AT MOST 1048576: true; the input reads as it did. -/
def shadeBestUptoRow : OpenClaim := { program := "ythiapodcippnoaa", sum := "9ece626dcca2a8df050ce69ce490b549c49678b6c9a0af4dbdfcc5a6c734a88f", func := "pencilworks/pencilworkslaw02.ShadeBest", spec := "shadeBest", unfollowed := true, recurses := true, apart := false, narrowed := true }
def ShadeBestUptoSaid : Prop := shadeBestUptoRow.holds Try.pinned (OpenSpec.upto shadeBestSpec)

/-- 'pencilworkslaw02.ShadeOrder', WHERE WHAT IT READS IS OF BULK AT MOST 1048576: true; the input reads as it did. -/
def shadeOrderUptoRow : OpenClaim := { program := "ythiapodcippnoaa", sum := "9ece626dcca2a8df050ce69ce490b549c49678b6c9a0af4dbdfcc5a6c734a88f", func := "pencilworks/pencilworkslaw02.ShadeOrder", spec := "shadeOrder", unfollowed := true, recurses := true, apart := false, narrowed := true }
def ShadeOrderUptoSaid : Prop := shadeOrderUptoRow.holds Try.pinned (OpenSpec.upto shadeOrderSpec)

/-- 'pencilworkslaw02.ShadeMore', WHERE WHAT IT READS IS OF BULK AT MOST 1048576: true; the input reads as it did. -/
def shadeMoreUptoRow : OpenClaim := { program := "ythiapodcippnoaa", sum := "9ece626dcca2a8df050ce69ce490b549c49678b6c9a0af4dbdfcc5a6c734a88f", func := "pencilworks/pencilworkslaw02.ShadeMore", spec := "shadeMore", unfollowed := true, recurses := true, apart := false, narrowed := true }
def ShadeMoreUptoSaid : Prop := shadeMoreUptoRow.holds Try.pinned (OpenSpec.upto shadeMoreSpec)

/-- 'pencilworkslaw02.ShadeSold', WHERE WHAT IT READS IS OF BULK AT MOST 1048576: true; the input reads as it did. -/
def shadeSoldUptoRow : OpenClaim := { program := "ythiapodcippnoaa", sum := "9ece626dcca2a8df050ce69ce490b549c49678b6c9a0af4dbdfcc5a6c734a88f", func := "pencilworks/pencilworkslaw02.ShadeSold", spec := "shadeSold", unfollowed := true, recurses := true, apart := false, narrowed := true }
def ShadeSoldUptoSaid : Prop := shadeSoldUptoRow.holds Try.pinned (OpenSpec.upto shadeSoldSpec)

/-- 'pencilworkslaw02.ShadeOwns', WHERE WHAT IT READS IS OF BULK AT MOST 1048576: true; the input reads as it did. -/
def shadeOwnsUptoRow : OpenClaim := { program := "ythiapodcippnoaa", sum := "9ece626dcca2a8df050ce69ce490b549c49678b6c9a0af4dbdfcc5a6c734a88f", func := "pencilworks/pencilworkslaw02.ShadeOwns", spec := "shadeOwns", unfollowed := true, recurses := true, apart := false, narrowed := true }
def ShadeOwnsUptoSaid : Prop := shadeOwnsUptoRow.holds Try.pinned (OpenSpec.upto shadeOwnsSpec)

end Rows
end Go.Proofs.Ythiapodcippnoaa
