/-
 The reference of chapter 15: numbers and words.
 The reference of chapter 15: sets, complaints, what a line says.
 The reference of chapter 15: what a line does.
-/
import Derived.Test.YtchiinjiflgepaaGreatDoorMzQF
import Derived.Test.YtchiinjiflgepaaGreatDoorMzQR
import Derived.Test.YtchiinjiflgepaaGreatDoorMzQC
import Derived.Test.YtchiinjiflgepaaGreatDoorMzQD
import Derived.Test.YtchiinjiflgepaaGreatDoorMzQP
set_option linter.unusedSimpArgs false
set_option linter.unusedVariables false
section
set_option maxRecDepth 100000
set_option maxHeartbeats 4000000
namespace Go.Proofs.YtchiinjiflgepaaGreatDoor
open Go.AF
theorem Jb{α:Type}(f:α->List PV)(l:List α)(h:∀ x,((f x).map V.p).all jb=true):((l.flatMap f).map V.p).all jb=true:=by
 induction l with
 | nil=>rfl
 | cons x l ih=>rw[ZJ,ZH,List.all_append,h x,ih];rfl
end Go.Proofs.YtchiinjiflgepaaGreatDoor
end
