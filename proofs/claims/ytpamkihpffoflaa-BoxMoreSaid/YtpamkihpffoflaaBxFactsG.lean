/-
  Chapter 9: more facts on types and functions, by the kernel.
-/
import Derived.Test.YtpamkihpffoflaaBxFactsF
import Derived.Test.YtpamkihpffoflaaAfC
set_option maxRecDepth 100000
namespace Go.Proofs.Ytpamkihpffoflaa
open Go.AF
theorem un50 : Try.prog.underlying 50 = some (.int .u16) := by kernel_rfl
end Go.Proofs.Ytpamkihpffoflaa
