/-
  Chapter 2: more facts on types and functions, by the kernel.
-/
import Derived.Test.YthiapodcippnoaaSdFactsB
import Derived.Test.YthiapodcippnoaaAfC
set_option maxRecDepth 100000
namespace Go.Proofs.Ythiapodcippnoaa
open Go.AF
theorem rf32 : realFn Try.prog 32 = true := by kernel_rfl
theorem un4 : Try.prog.underlying 4 = some .bool := by kernel_rfl
end Go.Proofs.Ythiapodcippnoaa
