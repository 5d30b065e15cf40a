/-
  Chapter 2: more facts on types and functions, by the kernel.
-/
import Derived.Test.YthiapodcippnoaaSdFactsC
import Derived.Test.YthiapodcippnoaaAfC
set_option maxRecDepth 100000
namespace Go.Proofs.Ythiapodcippnoaa
open Go.AF
theorem by25 : byI Try.prog 25 = some 16 := by kernel_rfl
theorem sl57 : isSl Try.prog 57 = true := by kernel_rfl
theorem slz57 : slI Try.prog 57 = some (25, [.int .i64 0, .int .i64 0]) := by kernel_rfl
end Go.Proofs.Ythiapodcippnoaa
