/-
  Chapter 7: more facts on types and functions, by the kernel.
-/
import Derived.Test.YtibgdkaipleajaaCuF4
import Derived.Test.YtibgdkaipleajaaAfC
section
set_option maxRecDepth 100000
namespace Go.Proofs.Ytibgdkaipleajaa
open Go.AF
theorem el43 : elI Try.prog 43 = some 1 := by kernel_rfl
theorem sl43 : isSl Try.prog 43 = true := by kernel_rfl
theorem ty44 : tyI Try.prog 44 = some (false, 1) := by kernel_rfl
theorem un44 : Try.prog.underlying 44 = some (.int .u16) := by kernel_rfl
end Go.Proofs.Ytibgdkaipleajaa
end
