/-
  Chapter 9: more facts on types and functions, by the kernel.
-/
import Derived.Test.YtpamkihpffoflaaBxFactsD
import Derived.Test.YtpamkihpffoflaaAfC
set_option maxRecDepth 100000
namespace Go.Proofs.Ytpamkihpffoflaa
open Go.AF
end Go.Proofs.Ytpamkihpffoflaa
