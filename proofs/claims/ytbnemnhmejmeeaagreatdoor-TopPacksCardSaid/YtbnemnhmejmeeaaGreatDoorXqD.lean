/-
  Chapters 2, 9, 11 and 14: more facts on types and functions, by the kernel.
-/
import Derived.Test.YtbnemnhmejmeeaaGreatDoorXqF
import Derived.Test.YtbnemnhmejmeeaaGreatDoorFaC
section
set_option maxRecDepth 100000
namespace Go.Proofs.YtbnemnhmejmeeaaGreatDoor
open Go.AF
theorem el61 : elI Tryz.prog 61 = some 1 := by kernel_rfl
theorem rf14 : realFn Tryz.prog 14 = true := by kernel_rfl
theorem rf15 : realFn Tryz.prog 15 = true := by kernel_rfl
theorem rf17 : realFn Tryz.prog 17 = true := by kernel_rfl
theorem rf18 : realFn Tryz.prog 18 = true := by kernel_rfl
theorem rf19 : realFn Tryz.prog 19 = true := by kernel_rfl
theorem rf20 : realFn Tryz.prog 20 = true := by kernel_rfl
theorem rf56 : realFn Tryz.prog 56 = true := by kernel_rfl
theorem rf57 : realFn Tryz.prog 57 = true := by kernel_rfl
theorem rf76 : realFn Tryz.prog 76 = true := by kernel_rfl
theorem sl61 : isSl Tryz.prog 61 = true := by kernel_rfl
end Go.Proofs.YtbnemnhmejmeeaaGreatDoor
end
