/-
  Chapter 2: more facts on types and functions, by the kernel.
-/
import Derived.Test.YthiapodcippnoaaSdFacts
import Derived.Test.YthiapodcippnoaaAfC
set_option maxRecDepth 100000
namespace Go.Proofs.Ythiapodcippnoaa
open Go.AF
theorem rf13 : realFn Try.prog 13 = true := by kernel_rfl
theorem rf14 : realFn Try.prog 14 = true := by kernel_rfl
theorem rf18 : realFn Try.prog 18 = true := by kernel_rfl
end Go.Proofs.Ythiapodcippnoaa
