/-
  NARROWER THAN 'FOR EVERY INPUT', by the rows' own cells (each row's printed sentence says how): RecallWays: laid · RecallBlames: laid · RecallTrue: laid · RecallNoOther: laid · RecallBoth: laid · RecallMore: laid · RecallTurned: laid.
  DERIVED. THE GIVEN ROWS OF THIS SEAT. 7 by the template 'for every input the law returns true; each argument reads behind the call as it read before'; 0 by the template 'total and deterministic' (their statements: YtlalikkkobpfgaaDoorTotals.lean).
  GIVEN WITH THE SEED: the statements are not yours to turn. If you find one false, say at which input.
  Laid BY PROGRAM, IN A SANDBOX (cutbox-rows.mjs): the forced cells as the released guide's own fill.sh prints them over the translation d8ee4407f3172e78… (all of the seat's roots in one cut). By AI agents, Wed Nov 11 2026. No macro, syntax, notation, axiom, sorry.
-/
import Derived.Test.YtlalikkkobpfgaaDoorChecked
import GoSem.Claim
import GoSem.ClaimJoined
import GoSem.ClaimMapViews
import Derived.JoinedTies
import Derived.KernelRfl
namespace Go.Proofs.YtlalikkkobpfgaaDoor
/- THE CELL 'sum', in the pinned program and in every row, IS THE sha256 OF THE DUMP (.gsa) THAT YtlalikkkobpfgaaDoorProg.lean LOADS. Nothing in Lean hashes anything: it is a label: what it is worth is what the hold of that sum in a sandbox is worth. -/
noncomputable def Tryd.pinned : Pinned := { name := "ytlalikkkobpfgaadoor", sum := "d8ee4407f3172e78154fbda761541d79b73e65e44e0ab358c95f54ac08e43737", checked := Tryd.checked }
namespace Rows
def none {H : Type} : Left H := { results := [], args := [] }

/- WHAT THE LISTED PACKAGE-LEVEL VARIABLES READ AS WHEN THE CALL BEGINS. Each datum BY PROGRAM (the guide's laid-datum.mjs) off the statement by which the dump's own 'gosem.cut.vars' lays the variable. In a bare row this is a premise. The card (YtlalikkkobpfgaaDoorCards.lean) ties it to the program's text. -/
def laid_math_bits_deBruijn32tab {H : Type} : DataW H := .agg [.lit (.int .u8 0), .lit (.int .u8 1), .lit (.int .u8 28), .lit (.int .u8 2), .lit (.int .u8 29), .lit (.int .u8 14), .lit (.int .u8 24), .lit (.int .u8 3), .lit (.int .u8 30), .lit (.int .u8 22), .lit (.int .u8 20), .lit (.int .u8 15), .lit (.int .u8 25), .lit (.int .u8 17), .lit (.int .u8 4), .lit (.int .u8 8), .lit (.int .u8 31), .lit (.int .u8 27), .lit (.int .u8 13), .lit (.int .u8 23), .lit (.int .u8 21), .lit (.int .u8 19), .lit (.int .u8 16), .lit (.int .u8 7), .lit (.int .u8 26), .lit (.int .u8 12), .lit (.int .u8 18), .lit (.int .u8 6), .lit (.int .u8 11), .lit (.int .u8 5), .lit (.int .u8 10), .lit (.int .u8 9)]

/-- 'pencilworkslaw11.RecallWays': WHATEVER THE INPUT: true; the input reads as it did. -/
def recallWaysSpec : ChangeSpec := { name := "recallWays", fn := fun _ => fun
  | [d1, d2, d3] => { results := [.lit (.bool true)], args := [d1, d2, d3] }
  | _ => none }
def recallWaysRow : OpenClaim := { program := "ytlalikkkobpfgaadoor", sum := "d8ee4407f3172e78154fbda761541d79b73e65e44e0ab358c95f54ac08e43737", func := "pencilworks/pencilworkslaw11.RecallWays", spec := "recallWays", unfollowed := true, recurses := true, named := ["math/bits.deBruijn32tab"], apart := false, laid := [("math/bits.deBruijn32tab", laid_math_bits_deBruijn32tab)] }
def RecallWaysSaid : Prop := recallWaysRow.holds Tryd.pinned (OpenSpec.ofChange recallWaysSpec)

/-- ITS FALSE NEIGHBOUR: 'it returns false'. Refute it at one input. -/
def recallWaysWrong : ChangeSpec := { name := "recallWays", fn := fun _ => fun
  | [d1, d2, d3] => { results := [.lit (.bool false)], args := [d1, d2, d3] }
  | _ => none }
def RecallWaysWrongFalsely : Prop := recallWaysRow.holds Tryd.pinned (OpenSpec.ofChange recallWaysWrong)

/-- 'pencilworkslaw11.RecallBlames': WHATEVER THE INPUT: true; the input reads as it did. -/
def recallBlamesSpec : ChangeSpec := { name := "recallBlames", fn := fun _ => fun
  | [d1, d2, d3] => { results := [.lit (.bool true)], args := [d1, d2, d3] }
  | _ => none }
def recallBlamesRow : OpenClaim := { program := "ytlalikkkobpfgaadoor", sum := "d8ee4407f3172e78154fbda761541d79b73e65e44e0ab358c95f54ac08e43737", func := "pencilworks/pencilworkslaw11.RecallBlames", spec := "recallBlames", unfollowed := true, recurses := true, named := ["math/bits.deBruijn32tab"], apart := false, laid := [("math/bits.deBruijn32tab", laid_math_bits_deBruijn32tab)] }
def RecallBlamesSaid : Prop := recallBlamesRow.holds Tryd.pinned (OpenSpec.ofChange recallBlamesSpec)

/-- ITS FALSE NEIGHBOUR: 'it returns false'. Refute it at one input. -/
def recallBlamesWrong : ChangeSpec := { name := "recallBlames", fn := fun _ => fun
  | [d1, d2, d3] => { results := [.lit (.bool false)], args := [d1, d2, d3] }
  | _ => none }
def RecallBlamesWrongFalsely : Prop := recallBlamesRow.holds Tryd.pinned (OpenSpec.ofChange recallBlamesWrong)

/-- 'pencilworkslaw11.RecallTrue': WHATEVER THE INPUT: true; the input reads as it did. -/
def recallTrueSpec : ChangeSpec := { name := "recallTrue", fn := fun _ => fun
  | [d1, d2, d3] => { results := [.lit (.bool true)], args := [d1, d2, d3] }
  | _ => none }
def recallTrueRow : OpenClaim := { program := "ytlalikkkobpfgaadoor", sum := "d8ee4407f3172e78154fbda761541d79b73e65e44e0ab358c95f54ac08e43737", func := "pencilworks/pencilworkslaw11.RecallTrue", spec := "recallTrue", unfollowed := true, recurses := true, named := ["math/bits.deBruijn32tab"], apart := false, laid := [("math/bits.deBruijn32tab", laid_math_bits_deBruijn32tab)] }
def RecallTrueSaid : Prop := recallTrueRow.holds Tryd.pinned (OpenSpec.ofChange recallTrueSpec)

/-- ITS FALSE NEIGHBOUR: 'it returns false'. Refute it at one input. -/
def recallTrueWrong : ChangeSpec := { name := "recallTrue", fn := fun _ => fun
  | [d1, d2, d3] => { results := [.lit (.bool false)], args := [d1, d2, d3] }
  | _ => none }
def RecallTrueWrongFalsely : Prop := recallTrueRow.holds Tryd.pinned (OpenSpec.ofChange recallTrueWrong)

/-- 'pencilworkslaw11.RecallNoOther': WHATEVER THE INPUT: true; the input reads as it did. -/
def recallNoOtherSpec : ChangeSpec := { name := "recallNoOther", fn := fun _ => fun
  | [d1, d2, d3] => { results := [.lit (.bool true)], args := [d1, d2, d3] }
  | _ => none }
def recallNoOtherRow : OpenClaim := { program := "ytlalikkkobpfgaadoor", sum := "d8ee4407f3172e78154fbda761541d79b73e65e44e0ab358c95f54ac08e43737", func := "pencilworks/pencilworkslaw11.RecallNoOther", spec := "recallNoOther", unfollowed := true, recurses := true, named := ["math/bits.deBruijn32tab"], apart := false, laid := [("math/bits.deBruijn32tab", laid_math_bits_deBruijn32tab)] }
def RecallNoOtherSaid : Prop := recallNoOtherRow.holds Tryd.pinned (OpenSpec.ofChange recallNoOtherSpec)

/-- ITS FALSE NEIGHBOUR: 'it returns false'. Refute it at one input. -/
def recallNoOtherWrong : ChangeSpec := { name := "recallNoOther", fn := fun _ => fun
  | [d1, d2, d3] => { results := [.lit (.bool false)], args := [d1, d2, d3] }
  | _ => none }
def RecallNoOtherWrongFalsely : Prop := recallNoOtherRow.holds Tryd.pinned (OpenSpec.ofChange recallNoOtherWrong)

/-- 'pencilworkslaw11.RecallBoth': WHATEVER THE INPUT: true; the input reads as it did. -/
def recallBothSpec : ChangeSpec := { name := "recallBoth", fn := fun _ => fun
  | [d1, d2, d3] => { results := [.lit (.bool true)], args := [d1, d2, d3] }
  | _ => none }
def recallBothRow : OpenClaim := { program := "ytlalikkkobpfgaadoor", sum := "d8ee4407f3172e78154fbda761541d79b73e65e44e0ab358c95f54ac08e43737", func := "pencilworks/pencilworkslaw11.RecallBoth", spec := "recallBoth", unfollowed := true, recurses := true, named := ["math/bits.deBruijn32tab"], apart := false, laid := [("math/bits.deBruijn32tab", laid_math_bits_deBruijn32tab)] }
def RecallBothSaid : Prop := recallBothRow.holds Tryd.pinned (OpenSpec.ofChange recallBothSpec)

/-- ITS FALSE NEIGHBOUR: 'it returns false'. Refute it at one input. -/
def recallBothWrong : ChangeSpec := { name := "recallBoth", fn := fun _ => fun
  | [d1, d2, d3] => { results := [.lit (.bool false)], args := [d1, d2, d3] }
  | _ => none }
def RecallBothWrongFalsely : Prop := recallBothRow.holds Tryd.pinned (OpenSpec.ofChange recallBothWrong)

/-- 'pencilworkslaw11.RecallMore': WHATEVER THE INPUT: true; the input reads as it did. -/
def recallMoreSpec : ChangeSpec := { name := "recallMore", fn := fun _ => fun
  | [d1, d2, d3, d4] => { results := [.lit (.bool true)], args := [d1, d2, d3, d4] }
  | _ => none }
def recallMoreRow : OpenClaim := { program := "ytlalikkkobpfgaadoor", sum := "d8ee4407f3172e78154fbda761541d79b73e65e44e0ab358c95f54ac08e43737", func := "pencilworks/pencilworkslaw11.RecallMore", spec := "recallMore", unfollowed := true, recurses := true, named := ["math/bits.deBruijn32tab"], apart := false, laid := [("math/bits.deBruijn32tab", laid_math_bits_deBruijn32tab)] }
def RecallMoreSaid : Prop := recallMoreRow.holds Tryd.pinned (OpenSpec.ofChange recallMoreSpec)

/-- ITS FALSE NEIGHBOUR: 'it returns false'. Refute it at one input. -/
def recallMoreWrong : ChangeSpec := { name := "recallMore", fn := fun _ => fun
  | [d1, d2, d3, d4] => { results := [.lit (.bool false)], args := [d1, d2, d3, d4] }
  | _ => none }
def RecallMoreWrongFalsely : Prop := recallMoreRow.holds Tryd.pinned (OpenSpec.ofChange recallMoreWrong)

/-- 'pencilworkslaw11.RecallTurned': WHATEVER THE INPUT: true; the input reads as it did. -/
def recallTurnedSpec : ChangeSpec := { name := "recallTurned", fn := fun _ => fun
  | [d1, d2, d3, d4] => { results := [.lit (.bool true)], args := [d1, d2, d3, d4] }
  | _ => none }
def recallTurnedRow : OpenClaim := { program := "ytlalikkkobpfgaadoor", sum := "d8ee4407f3172e78154fbda761541d79b73e65e44e0ab358c95f54ac08e43737", func := "pencilworks/pencilworkslaw11.RecallTurned", spec := "recallTurned", unfollowed := true, recurses := true, named := ["math/bits.deBruijn32tab"], apart := false, laid := [("math/bits.deBruijn32tab", laid_math_bits_deBruijn32tab)] }
def RecallTurnedSaid : Prop := recallTurnedRow.holds Tryd.pinned (OpenSpec.ofChange recallTurnedSpec)

/-- ITS FALSE NEIGHBOUR: 'it returns false'. Refute it at one input. -/
def recallTurnedWrong : ChangeSpec := { name := "recallTurned", fn := fun _ => fun
  | [d1, d2, d3, d4] => { results := [.lit (.bool false)], args := [d1, d2, d3, d4] }
  | _ => none }
def RecallTurnedWrongFalsely : Prop := recallTurnedRow.holds Tryd.pinned (OpenSpec.ofChange recallTurnedWrong)

/- THE SECOND FORM. 'bulk': how many values and letters a reading holds, each counted each time it is reached (what is shared counts as often as it is met; a slice's spare places count too). A statement '..UptoSaid' is the law's where the arguments, and the package variables that the reading takes, are together of bulk at most 1048576: NARROWER than '..Said'. Prove '..Said' where nothing that the law and all that it calls make is longer than what came in: it says more and counts as full. Else prove '..UptoSaid'. A law counts once. -/
mutual
def uptoBulk {H : Type} : DataW H → Nat
  | .lit (.string bytes) => bytes.length + 1
  | .lit _ => 1
  | .nil => 1
  | .ptr d => uptoBulk d + 1
  | .slice elems spare => uptoBulkAll elems + uptoBulkAll spare + 1
  | .agg parts => uptoBulkAll parts + 1
  | .iface _ d => uptoBulk d + 1
  | .map entries => uptoBulkEntries entries + 1
  | .held _ => 1
def uptoBulkAll {H : Type} : List (DataW H) → Nat
  | [] => 0
  | d :: r => uptoBulk d + uptoBulkAll r
def uptoBulkEntries {H : Type} : List (Lit × DataW H) → Nat
  | [] => 0
  | x :: r => uptoBulkEntry x + uptoBulkEntries r
def uptoBulkEntry {H : Type} : Lit × DataW H → Nat
  | (.string bytes, d) => bytes.length + uptoBulk d + 1
  | (_, d) => uptoBulk d + 1
 end
def uptoSmall : (H : Type) → List (DataW H) → Bool := fun _ ds => decide (uptoBulkAll ds ≤ 1048576)
def OpenSpec.upto (s : _root_.Go.ChangeSpec) : _root_.Go.OpenSpec := { _root_.Go.OpenSpec.ofChange s with cond := some uptoSmall }

/-- 'pencilworkslaw11.RecallWays', WHERE WHAT IT READS IS OF BULK AT MOST 1048576: true; the input reads as it did. -/
def recallWaysUptoRow : OpenClaim := { program := "ytlalikkkobpfgaadoor", sum := "d8ee4407f3172e78154fbda761541d79b73e65e44e0ab358c95f54ac08e43737", func := "pencilworks/pencilworkslaw11.RecallWays", spec := "recallWays", unfollowed := true, recurses := true, named := ["math/bits.deBruijn32tab"], apart := false, laid := [("math/bits.deBruijn32tab", laid_math_bits_deBruijn32tab)], narrowed := true }
def RecallWaysUptoSaid : Prop := recallWaysUptoRow.holds Tryd.pinned (OpenSpec.upto recallWaysSpec)

/-- 'pencilworkslaw11.RecallBlames', WHERE WHAT IT READS IS OF BULK AT MOST 1048576: true; the input reads as it did. -/
def recallBlamesUptoRow : OpenClaim := { program := "ytlalikkkobpfgaadoor", sum := "d8ee4407f3172e78154fbda761541d79b73e65e44e0ab358c95f54ac08e43737", func := "pencilworks/pencilworkslaw11.RecallBlames", spec := "recallBlames", unfollowed := true, recurses := true, named := ["math/bits.deBruijn32tab"], apart := false, laid := [("math/bits.deBruijn32tab", laid_math_bits_deBruijn32tab)], narrowed := true }
def RecallBlamesUptoSaid : Prop := recallBlamesUptoRow.holds Tryd.pinned (OpenSpec.upto recallBlamesSpec)

/-- 'pencilworkslaw11.RecallTrue', WHERE WHAT IT READS IS OF BULK AT MOST 1048576: true; the input reads as it did. -/
def recallTrueUptoRow : OpenClaim := { program := "ytlalikkkobpfgaadoor", sum := "d8ee4407f3172e78154fbda761541d79b73e65e44e0ab358c95f54ac08e43737", func := "pencilworks/pencilworkslaw11.RecallTrue", spec := "recallTrue", unfollowed := true, recurses := true, named := ["math/bits.deBruijn32tab"], apart := false, laid := [("math/bits.deBruijn32tab", laid_math_bits_deBruijn32tab)], narrowed := true }
def RecallTrueUptoSaid : Prop := recallTrueUptoRow.holds Tryd.pinned (OpenSpec.upto recallTrueSpec)

/-- 'pencilworkslaw11.RecallNoOther', WHERE WHAT IT READS IS OF BULK AT MOST 1048576: true; the input reads as it did. -/
def recallNoOtherUptoRow : OpenClaim := { program := "ytlalikkkobpfgaadoor", sum := "d8ee4407f3172e78154fbda761541d79b73e65e44e0ab358c95f54ac08e43737", func := "pencilworks/pencilworkslaw11.RecallNoOther", spec := "recallNoOther", unfollowed := true, recurses := true, named := ["math/bits.deBruijn32tab"], apart := false, laid := [("math/bits.deBruijn32tab", laid_math_bits_deBruijn32tab)], narrowed := true }
def RecallNoOtherUptoSaid : Prop := recallNoOtherUptoRow.holds Tryd.pinned (OpenSpec.upto recallNoOtherSpec)

/-- 'pencilworkslaw11.RecallBoth', WHERE WHAT IT READS IS OF BULK AT MOST 1048576: true; the input reads as it did. -/
def recallBothUptoRow : OpenClaim := { program := "ytlalikkkobpfgaadoor", sum := "d8ee4407f3172e78154fbda761541d79b73e65e44e0ab358c95f54ac08e43737", func := "pencilworks/pencilworkslaw11.RecallBoth", spec := "recallBoth", unfollowed := true, recurses := true, named := ["math/bits.deBruijn32tab"], apart := false, laid := [("math/bits.deBruijn32tab", laid_math_bits_deBruijn32tab)], narrowed := true }
def RecallBothUptoSaid : Prop := recallBothUptoRow.holds Tryd.pinned (OpenSpec.upto recallBothSpec)

/-- 'pencilworkslaw11.RecallMore', WHERE WHAT IT READS IS OF BULK AT MOST 1048576: true; the input reads as it did. -/
def recallMoreUptoRow : OpenClaim := { program := "ytlalikkkobpfgaadoor", sum := "d8ee4407f3172e78154fbda761541d79b73e65e44e0ab358c95f54ac08e43737", func := "pencilworks/pencilworkslaw11.RecallMore", spec := "recallMore", unfollowed := true, recurses := true, named := ["math/bits.deBruijn32tab"], apart := false, laid := [("math/bits.deBruijn32tab", laid_math_bits_deBruijn32tab)], narrowed := true }
def RecallMoreUptoSaid : Prop := recallMoreUptoRow.holds Tryd.pinned (OpenSpec.upto recallMoreSpec)

/-- 'pencilworkslaw11.RecallTurned', WHERE WHAT IT READS IS OF BULK AT MOST 1048576: true; the input reads as it did. -/
def recallTurnedUptoRow : OpenClaim := { program := "ytlalikkkobpfgaadoor", sum := "d8ee4407f3172e78154fbda761541d79b73e65e44e0ab358c95f54ac08e43737", func := "pencilworks/pencilworkslaw11.RecallTurned", spec := "recallTurned", unfollowed := true, recurses := true, named := ["math/bits.deBruijn32tab"], apart := false, laid := [("math/bits.deBruijn32tab", laid_math_bits_deBruijn32tab)], narrowed := true }
def RecallTurnedUptoSaid : Prop := recallTurnedUptoRow.holds Tryd.pinned (OpenSpec.upto recallTurnedSpec)

end Rows
end Go.Proofs.YtlalikkkobpfgaaDoor
