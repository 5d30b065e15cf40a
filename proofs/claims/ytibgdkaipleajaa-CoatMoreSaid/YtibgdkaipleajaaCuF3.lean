/-
  Chapter 7: more facts on types and functions, by the kernel.
-/
import Derived.Test.YtibgdkaipleajaaCuF2
import Derived.Test.YtibgdkaipleajaaAfC
section
set_option maxRecDepth 100000
namespace Go.Proofs.Ytibgdkaipleajaa
open Go.AF
theorem el42 : elI Try.prog 42 = some 1 := by kernel_rfl
theorem rf21 : realFn Try.prog 21 = true := by kernel_rfl
theorem rf22 : realFn Try.prog 22 = true := by kernel_rfl
theorem sl42 : isSl Try.prog 42 = true := by kernel_rfl
theorem ty5 : tyI Try.prog 5 = some (false, 1) := by kernel_rfl
end Go.Proofs.Ytibgdkaipleajaa
end
