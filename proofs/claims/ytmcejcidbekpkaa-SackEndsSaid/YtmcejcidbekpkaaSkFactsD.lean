/-
  Chapter 1: more facts on types and functions, by the kernel.
-/
import Derived.Test.YtmcejcidbekpkaaSkFactsC
import Derived.Test.YtmcejcidbekpkaaAfC
set_option maxRecDepth 100000
namespace Go.Proofs.Ytmcejcidbekpkaa
open Go.AF
theorem by51 : byI Try.prog 51 = some 24 := by kernel_rfl
theorem by57 : byI Try.prog 57 = some 48 := by kernel_rfl
theorem rf27 : realFn Try.prog 27 = true := by kernel_rfl
theorem un5 : Try.prog.underlying 5 = some (.int .u8) := by kernel_rfl
end Go.Proofs.Ytmcejcidbekpkaa
