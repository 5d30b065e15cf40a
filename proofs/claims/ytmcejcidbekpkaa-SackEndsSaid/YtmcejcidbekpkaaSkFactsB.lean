/-
  Chapter 1: more facts on types and functions, by the kernel.
-/
import Derived.Test.YtmcejcidbekpkaaSkFacts
import Derived.Test.YtmcejcidbekpkaaAfC
set_option maxRecDepth 100000
namespace Go.Proofs.Ytmcejcidbekpkaa
open Go.AF
theorem rf28 : realFn Try.prog 28 = true := by kernel_rfl
theorem un4 : Try.prog.underlying 4 = some .bool := by kernel_rfl
end Go.Proofs.Ytmcejcidbekpkaa
