/-
  Chapter 11: more facts on types and functions, by the kernel.
-/
import Derived.Test.YtlalikkkobpfgaaDoorRcFacts
import Derived.Test.YtlalikkkobpfgaaDoorAfC
set_option maxRecDepth 100000
namespace Go.Proofs.YtlalikkkobpfgaaDoor
open Go.AF
theorem by3 : byI Tryd.prog 3 = some 8 := by kernel_rfl
theorem rf12 : realFn Tryd.prog 12 = true := by kernel_rfl
theorem rf14 : realFn Tryd.prog 14 = true := by kernel_rfl
theorem rf16 : realFn Tryd.prog 16 = true := by kernel_rfl
theorem rf18 : realFn Tryd.prog 18 = true := by kernel_rfl
theorem rf20 : realFn Tryd.prog 20 = true := by kernel_rfl
theorem rf27 : realFn Tryd.prog 27 = true := by kernel_rfl
theorem rf29 : realFn Tryd.prog 29 = true := by kernel_rfl
theorem rf32 : realFn Tryd.prog 32 = true := by kernel_rfl
theorem rf38 : realFn Tryd.prog 38 = true := by kernel_rfl
theorem rf41 : realFn Tryd.prog 41 = true := by kernel_rfl
end Go.Proofs.YtlalikkkobpfgaaDoor
