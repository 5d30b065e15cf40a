/-
  Chapter 2: more facts on types and functions, by the kernel.
-/
import Derived.Test.YthiapodcippnoaaSdFactsE
import Derived.Test.YthiapodcippnoaaAfC
set_option maxRecDepth 100000
namespace Go.Proofs.Ythiapodcippnoaa
open Go.AF
theorem el81 : elI Try.prog 81 = some 4 := by kernel_rfl
theorem rf35 : realFn Try.prog 35 = true := by kernel_rfl
theorem sl81 : isSl Try.prog 81 = true := by kernel_rfl
theorem slz81 : slI Try.prog 81 = some (41, [.int .i64 0, .int .i64 0, .int .i64 0, .int .i64 0]) := by kernel_rfl
theorem zr41 : zeroI Try.prog 41 = some (.agg [.int .i64 0, .int .i64 0, .int .i64 0, .int .i64 0]) := by kernel_rfl
end Go.Proofs.Ythiapodcippnoaa
