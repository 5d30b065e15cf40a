/-
  Chapter 9: more facts on types and functions, by the kernel.
-/
import Derived.Test.YtpamkihpffoflaaBxFactsB
import Derived.Test.YtpamkihpffoflaaAfC
set_option maxRecDepth 100000
namespace Go.Proofs.Ytpamkihpffoflaa
open Go.AF
theorem rf24 : realFn Try.prog 24 = true := by kernel_rfl
end Go.Proofs.Ytpamkihpffoflaa
