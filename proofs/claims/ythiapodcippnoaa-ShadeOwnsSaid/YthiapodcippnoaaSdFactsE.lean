/-
  Chapter 2: more facts on types and functions, by the kernel.
-/
import Derived.Test.YthiapodcippnoaaSdFactsD
import Derived.Test.YthiapodcippnoaaAfC
set_option maxRecDepth 100000
namespace Go.Proofs.Ythiapodcippnoaa
open Go.AF
theorem el57 : elI Try.prog 57 = some 2 := by kernel_rfl
theorem rf34 : realFn Try.prog 34 = true := by kernel_rfl
theorem rf37 : realFn Try.prog 37 = true := by kernel_rfl
theorem ty57 : tyI Try.prog 57 = some (false, 1) := by kernel_rfl
theorem un5 : Try.prog.underlying 5 = some (.int .u8) := by kernel_rfl
theorem zr57 : zeroI Try.prog 57 = some (.nilSlice) := by kernel_rfl
end Go.Proofs.Ythiapodcippnoaa
