/-
  Chapter 14: more facts on types and functions, by the kernel.
-/
import Derived.Test.YtambmifhidallaaGreatDoorBqG
import Derived.Test.YtambmifhidallaaGreatDoorFaC
set_option maxRecDepth 100000
namespace Go.Proofs.YtambmifhidallaaGreatDoor
open Go.AF
theorem rf7 : realFn Tryz.prog 7 = true := by kernel_rfl
theorem slz22 : slI Tryz.prog 22 = some (9, [.str ⟨#[]⟩]) := by kernel_rfl
end Go.Proofs.YtambmifhidallaaGreatDoor
