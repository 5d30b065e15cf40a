/-
  Chapter 7: more facts on types and functions, by the kernel.
  Chapter 7: more facts on types and functions, by the kernel.
-/
import Derived.Test.YtibgdkaipleajaaCuF
import Derived.Test.YtibgdkaipleajaaAfC
section
set_option maxRecDepth 100000
namespace Go.Proofs.Ytibgdkaipleajaa
open Go.AF
theorem by26 : byI Try.prog 26 = some 24 := by kernel_rfl
theorem rf43 : realFn Try.prog 43 = true := by kernel_rfl
theorem rf57 : realFn Try.prog 57 = true := by kernel_rfl
theorem sl87 : isSl Try.prog 87 = true := by kernel_rfl
theorem slz87 : slI Try.prog 87 = some (26, [.nilSlice]) := by kernel_rfl
end Go.Proofs.Ytibgdkaipleajaa
end

section
set_option maxRecDepth 100000
namespace Go.Proofs.Ytibgdkaipleajaa
open Go.AF
theorem el87 : elI Try.prog 87 = some 1 := by kernel_rfl
theorem rf19 : realFn Try.prog 19 = true := by kernel_rfl
theorem rf24 : realFn Try.prog 24 = true := by kernel_rfl
end Go.Proofs.Ytibgdkaipleajaa
end
