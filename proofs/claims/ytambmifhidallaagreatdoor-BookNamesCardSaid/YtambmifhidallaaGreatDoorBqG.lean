/-
  Chapter 14: more facts on types and functions, by the kernel.
  What the library's texts do: how many there are, where one is cut, whether there is one, all pieces.
  How many lines, and items, there are: the law.
-/
import Derived.Test.YtambmifhidallaaGreatDoorBqF
import Derived.Test.YtambmifhidallaaGreatDoorFaC
import Derived.Test.YtambmifhidallaaGreatDoorBqE
import Derived.Test.YtambmifhidallaaGreatDoorBqP
import Derived.Test.YtambmifhidallaaGreatDoorBqA
section
set_option maxRecDepth 100000
namespace Go.Proofs.YtambmifhidallaaGreatDoor
open Go.AF
theorem el22 : elI Tryz.prog 22 = some 1 := by kernel_rfl
theorem rf8 : realFn Tryz.prog 8 = true := by kernel_rfl
theorem sl22 : isSl Tryz.prog 22 = true := by kernel_rfl
end Go.Proofs.YtambmifhidallaaGreatDoor
end

section
set_option linter.unusedVariables false
set_option maxRecDepth 100000
set_option maxHeartbeats 4000000
set_option linter.unusedSimpArgs false
namespace Go.Proofs.YtambmifhidallaaGreatDoor
open Go.AF
open Go.Proofs
theorem mxl : Tryz.prog.globalNamed "internal/bytealg.MaxLen" = some 0 := by kernel_rfl
end Go.Proofs.YtambmifhidallaaGreatDoor
end

section
set_option linter.unusedVariables false
set_option maxRecDepth 100000
set_option maxHeartbeats 4000000
set_option linter.unusedSimpArgs false
namespace Go.Proofs.YtambmifhidallaaGreatDoor
open Go.AF
end Go.Proofs.YtambmifhidallaaGreatDoor
end
