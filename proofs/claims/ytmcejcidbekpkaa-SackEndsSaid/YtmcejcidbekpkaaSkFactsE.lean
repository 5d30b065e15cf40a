/-
  Chapter 1: more facts on types and functions, by the kernel.
-/
import Derived.Test.YtmcejcidbekpkaaSkFactsD
import Derived.Test.YtmcejcidbekpkaaAfC
set_option maxRecDepth 100000
namespace Go.Proofs.Ytmcejcidbekpkaa
open Go.AF
theorem ar49 : arrI Try.prog 49 = some 6 := by kernel_rfl
theorem bd49 : bldI Try.prog 49 = some ([.int .i64 0, .int .i64 0, .int .i64 0, .int .i64 0, .int .i64 0, .int .i64 0, .int .i64 0, .int .i64 0, .int .i64 0, .int .i64 0, .int .i64 0, .int .i64 0], [(0, 2), (2, 2), (4, 2), (6, 2), (8, 2), (10, 2)]) := by kernel_rfl
theorem eg49 : Try.prog.eqGuardType Try.prog.depth 49 = false := by kernel_rfl
theorem el49 : elI Try.prog 49 = some 2 := by kernel_rfl
theorem eq49 : eqTy Try.prog 8 49 = some [.int .i64, .int .i64, .int .i64, .int .i64, .int .i64, .int .i64, .int .i64, .int .i64, .int .i64, .int .i64, .int .i64, .int .i64] := by kernel_rfl
theorem rf25 : realFn Try.prog 25 = true := by kernel_rfl
theorem ty49 : tyI Try.prog 49 = some (true, 12) := by kernel_rfl
theorem zr49 : zeroI Try.prog 49 = some (.agg [.int .i64 0, .int .i64 0, .int .i64 0, .int .i64 0, .int .i64 0, .int .i64 0, .int .i64 0, .int .i64 0, .int .i64 0, .int .i64 0, .int .i64 0, .int .i64 0]) := by kernel_rfl
end Go.Proofs.Ytmcejcidbekpkaa
