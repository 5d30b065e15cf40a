/-
  Chapter 2: more facts on types and functions, by the kernel.
-/
import Derived.Test.YthiapodcippnoaaSdFactsJ
import Derived.Test.YthiapodcippnoaaAfC
set_option maxRecDepth 100000
namespace Go.Proofs.Ythiapodcippnoaa
open Go.AF
theorem bd52 : bldI Try.prog 52 = some ([.int .i64 0, .int .i64 0, .int .i64 0, .int .i64 0, .int .i64 0, .nilSlice, .int .i64 0, .int .i64 0, .int .i64 0, .int .i64 0, .int .i64 0, .int .i64 0, .int .i64 0, .int .i64 0], [(0, 11), (11, 2), (13, 1)]) := by kernel_rfl
theorem el53 : elI Try.prog 53 = some 14 := by kernel_rfl
theorem fd52_0 : fldI Try.prog 52 0 = some 0 := by kernel_rfl
theorem fd52_1 : fldI Try.prog 52 1 = some 11 := by kernel_rfl
theorem fd52_2 : fldI Try.prog 52 2 = some 13 := by kernel_rfl
theorem sl53 : isSl Try.prog 53 = true := by kernel_rfl
theorem slz53 : slI Try.prog 53 = some (52, [.int .i64 0, .int .i64 0, .int .i64 0, .int .i64 0, .int .i64 0, .nilSlice, .int .i64 0, .int .i64 0, .int .i64 0, .int .i64 0, .int .i64 0, .int .i64 0, .int .i64 0, .int .i64 0]) := by kernel_rfl
theorem ty52 : tyI Try.prog 52 = some (true, 14) := by kernel_rfl
theorem zr52 : zeroI Try.prog 52 = some (.agg [.int .i64 0, .int .i64 0, .int .i64 0, .int .i64 0, .int .i64 0, .nilSlice, .int .i64 0, .int .i64 0, .int .i64 0, .int .i64 0, .int .i64 0, .int .i64 0, .int .i64 0, .int .i64 0]) := by kernel_rfl
end Go.Proofs.Ythiapodcippnoaa
