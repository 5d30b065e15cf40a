/-
  Chapter 2: more facts on types and functions, by the kernel.
-/
import Derived.Test.YthiapodcippnoaaSdFactsK
import Derived.Test.YthiapodcippnoaaAfC
set_option maxRecDepth 100000
namespace Go.Proofs.Ythiapodcippnoaa
open Go.AF
theorem rf51 : realFn Try.prog 51 = true := by kernel_rfl
theorem rf53 : realFn Try.prog 53 = true := by kernel_rfl
end Go.Proofs.Ythiapodcippnoaa
