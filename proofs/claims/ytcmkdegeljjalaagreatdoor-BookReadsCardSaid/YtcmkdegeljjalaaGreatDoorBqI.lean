/-
  The law on what is written, compared with the reference.
-/
import Derived.Test.YtcmkdegeljjalaaGreatDoorBqH
section
set_option linter.unusedVariables false
set_option maxRecDepth 100000
set_option maxHeartbeats 4000000
set_option linter.unusedSimpArgs false
namespace Go.Proofs.YtcmkdegeljjalaaGreatDoor
open Go.AF
end Go.Proofs.YtcmkdegeljjalaaGreatDoor
end
