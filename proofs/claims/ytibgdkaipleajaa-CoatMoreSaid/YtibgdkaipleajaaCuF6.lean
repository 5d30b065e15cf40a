/-
  Chapter 7: more facts on types and functions, by the kernel.
-/
import Derived.Test.YtibgdkaipleajaaCuF5
import Derived.Test.YtibgdkaipleajaaAfC
section
set_option maxRecDepth 100000
namespace Go.Proofs.Ytibgdkaipleajaa
open Go.AF
theorem by35 : byI Try.prog 35 = some 16 := by kernel_rfl
theorem by52 : byI Try.prog 52 = some 32 := by kernel_rfl
theorem el58 : elI Try.prog 58 = some 3 := by kernel_rfl
theorem sl58 : isSl Try.prog 58 = true := by kernel_rfl
theorem slz58 : slI Try.prog 58 = some (24, [.int .i64 0, .int .i64 0, .nilSlice]) := by kernel_rfl
end Go.Proofs.Ytibgdkaipleajaa
end
