/-
 The program of chapter 15: a floor that there is not; the books of a floor.
 Chapter 15, the law: the document's example.
 The law of chapter 15: the example; MasterRuns.
 From what the statements' arguments of chapter 15 may hold to plain data. No condition.
-/
import Derived.Test.YtibffijhebobmaaGreatDoorMzUF
import Derived.Test.YtibffijhebobmaaGreatDoorMzUH
import Derived.Test.YtibffijhebobmaaGreatDoorFaUF
import Derived.Test.YtibffijhebobmaaGreatDoorMzUP
import Derived.Test.YtibffijhebobmaaGreatDoorMzUM
import Derived.Test.YtibffijhebobmaaGreatDoorPmU
set_option linter.unusedSimpArgs false
set_option linter.unusedVariables false
section
set_option maxRecDepth 100000
set_option maxHeartbeats 4000000
namespace Go.Proofs.YtibffijhebobmaaGreatDoor
open Go.AF
set_option maxRecDepth 1000000
open Go Go.AF
end Go.Proofs.YtibffijhebobmaaGreatDoor
end
section
set_option maxRecDepth 100000
set_option maxHeartbeats 4000000
namespace Go.Proofs.YtibffijhebobmaaGreatDoor
open Go.AF
theorem PG(p:Di.bO)(s:Bs)(hp:p.dies.length<=100):Pure Tryz.prog 33 [Di.ic p,.str (sB s)] (.tuple [.str (sB (wS p s).1),.int .i64 (wS p s).2]):=by
 by_cases h1:131072<s.length
 ·have e:wS p s=([],3):=by unfold wS;rw[if_pos h1]
  rw[e];exact Iz p s h1
 ·by_cases h2:s≠[]∧s.getLast?≠some 10
  ·have e:wS p s=([],8):=by unfold wS;rw[if_neg h1,if_pos h2]
   rw[e];exact JX p s h1 h2.1 h2.2
  ·have Vc:s=[]∨s.getLast?=some 10:=by
     by_cases h:s=[]
     ·exact .inl h
     ·exact .inr (Decidable.byContradiction fun h3=>h2 ⟨h,h3⟩)
   cases h3:Di.fQ p with
   | false=>
    have e:wS p s=([],1):=by unfold wS;rw[if_neg h1,if_neg h2,if_pos h3]
    rw[e];exact Lc p s hp h1 Vc h3
   | true=>
    have e:wS p s=(xJ (newF p) (dQ 10 [] s).dropLast,0):=by unfold wS;rw[if_neg h1,if_neg h2,if_neg (by rw[h3];decide)]
    rw[e];exact Pt p s hp h1 Vc h3
open Go Go.AF
end Go.Proofs.YtibffijhebobmaaGreatDoor
end
