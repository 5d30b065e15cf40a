/-
  Chapter 9: more facts on types and functions, by the kernel.
-/
import Derived.Test.YtpamkihpffoflaaBxFactsC
import Derived.Test.YtpamkihpffoflaaAfC
set_option maxRecDepth 100000
namespace Go.Proofs.Ytpamkihpffoflaa
open Go.AF
theorem rf26 : realFn Try.prog 26 = true := by kernel_rfl
theorem un5 : Try.prog.underlying 5 = some (.int .u8) := by kernel_rfl
end Go.Proofs.Ytpamkihpffoflaa
