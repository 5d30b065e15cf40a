/-
  Chapter 2: more facts on types and functions, by the kernel.
-/
import Derived.Test.YthiapodcippnoaaSdFactsH
import Derived.Test.YthiapodcippnoaaAfC
set_option maxRecDepth 100000
namespace Go.Proofs.Ythiapodcippnoaa
open Go.AF
theorem by51 : byI Try.prog 51 = some 32 := by kernel_rfl
theorem el58 : elI Try.prog 58 = some 1 := by kernel_rfl
theorem rf30 : realFn Try.prog 30 = true := by kernel_rfl
theorem rf31 : realFn Try.prog 31 = true := by kernel_rfl
theorem rf64 : realFn Try.prog 64 = true := by kernel_rfl
theorem rf65 : realFn Try.prog 65 = true := by kernel_rfl
theorem sl58 : isSl Try.prog 58 = true := by kernel_rfl
theorem ty64 : tyI Try.prog 64 = some (false, 1) := by kernel_rfl
theorem un64 : Try.prog.underlying 64 = some (.int .u32) := by kernel_rfl
end Go.Proofs.Ythiapodcippnoaa
