/-
  Chapter 9: more facts on types and functions, by the kernel.
-/
import Derived.Test.YtpamkihpffoflaaBxFactsE
import Derived.Test.YtpamkihpffoflaaAfC
set_option maxRecDepth 100000
namespace Go.Proofs.Ytpamkihpffoflaa
open Go.AF
theorem fd35_0 : fldI Try.prog 35 0 = some 0 := by kernel_rfl
theorem fd35_1 : fldI Try.prog 35 1 = some 1 := by kernel_rfl
theorem un4 : Try.prog.underlying 4 = some .bool := by kernel_rfl
end Go.Proofs.Ytpamkihpffoflaa
