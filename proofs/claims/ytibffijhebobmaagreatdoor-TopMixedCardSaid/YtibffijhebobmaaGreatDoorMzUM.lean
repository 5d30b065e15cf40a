/-
 The reference of chapter 15: numbers and words.
 The reference of chapter 15: sets, complaints, what a line says.
 The reference of chapter 15: what a line does.
-/
import Derived.Test.YtibffijhebobmaaGreatDoorMzUF
import Derived.Test.YtibffijhebobmaaGreatDoorMzUR
import Derived.Test.YtibffijhebobmaaGreatDoorMzUC
import Derived.Test.YtibffijhebobmaaGreatDoorMzUD
import Derived.Test.YtibffijhebobmaaGreatDoorMzUP
set_option linter.unusedSimpArgs false
set_option linter.unusedVariables false
section
set_option maxRecDepth 100000
set_option maxHeartbeats 4000000
namespace Go.Proofs.YtibffijhebobmaaGreatDoor
open Go.AF
theorem MS{α:Type}(f:α->List PV)(l:List α)(h:∀ x,((f x).map V.p).all jB=true):((l.flatMap f).map V.p).all jB=true:=by
 induction l with
 | nil=>rfl
 | cons x l ih=>rw[ZL,ZG,List.all_append,h x,ih];rfl
end Go.Proofs.YtibffijhebobmaaGreatDoor
end
