/-
  Chapter 2: more facts on types and functions, by the kernel.
-/
import Derived.Test.YthiapodcippnoaaSdFactsG
import Derived.Test.YthiapodcippnoaaAfC
set_option maxRecDepth 100000
namespace Go.Proofs.Ythiapodcippnoaa
open Go.AF
theorem el71 : elI Try.prog 71 = some 1 := by kernel_rfl
theorem rf36 : realFn Try.prog 36 = true := by kernel_rfl
theorem sl71 : isSl Try.prog 71 = true := by kernel_rfl
theorem ty5 : tyI Try.prog 5 = some (false, 1) := by kernel_rfl
end Go.Proofs.Ythiapodcippnoaa
