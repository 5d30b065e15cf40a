/-
  Chapter 9: more facts on types and functions, by the kernel.
-/
import Derived.Test.YtpamkihpffoflaaBxFacts
import Derived.Test.YtpamkihpffoflaaAfC
set_option maxRecDepth 100000
namespace Go.Proofs.Ytpamkihpffoflaa
open Go.AF
theorem ar72 : arrI Try.prog 72 = some 8 := by kernel_rfl
theorem ar73 : arrI Try.prog 73 = some 8 := by kernel_rfl
theorem bd46 : bldI Try.prog 46 = some ([.int .i64 0, .int .i64 0], [(0, 1), (1, 1)]) := by kernel_rfl
theorem by22 : byI Try.prog 22 = some 24 := by kernel_rfl
theorem by46 : byI Try.prog 46 = some 16 := by kernel_rfl
theorem eg35 : Try.prog.eqGuardType Try.prog.depth 35 = false := by kernel_rfl
theorem el31 : elI Try.prog 31 = some 1 := by kernel_rfl
theorem el72 : elI Try.prog 72 = some 1 := by kernel_rfl
theorem el73 : elI Try.prog 73 = some 8 := by kernel_rfl
theorem eq35 : eqTy Try.prog 8 35 = some [.int .i64, .int .i64] := by kernel_rfl
theorem rf10 : realFn Try.prog 10 = true := by kernel_rfl
theorem rf11 : realFn Try.prog 11 = true := by kernel_rfl
theorem rf12 : realFn Try.prog 12 = true := by kernel_rfl
theorem rf13 : realFn Try.prog 13 = true := by kernel_rfl
theorem rf14 : realFn Try.prog 14 = true := by kernel_rfl
theorem rf15 : realFn Try.prog 15 = true := by kernel_rfl
theorem rf16 : realFn Try.prog 16 = true := by kernel_rfl
theorem rf17 : realFn Try.prog 17 = true := by kernel_rfl
theorem rf18 : realFn Try.prog 18 = true := by kernel_rfl
theorem rf19 : realFn Try.prog 19 = true := by kernel_rfl
theorem rf20 : realFn Try.prog 20 = true := by kernel_rfl
theorem rf27 : realFn Try.prog 27 = true := by kernel_rfl
theorem rf28 : realFn Try.prog 28 = true := by kernel_rfl
theorem rf43 : realFn Try.prog 43 = true := by kernel_rfl
theorem rf45 : realFn Try.prog 45 = true := by kernel_rfl
theorem rf50 : realFn Try.prog 50 = true := by kernel_rfl
theorem sl31 : isSl Try.prog 31 = true := by kernel_rfl
theorem slz23 : slI Try.prog 23 = some (46, [.int .i64 0, .int .i64 0]) := by kernel_rfl
theorem slz31 : slI Try.prog 31 = some (22, [.nilSlice]) := by kernel_rfl
theorem zr23 : zeroI Try.prog 23 = some (.nilSlice) := by kernel_rfl
theorem zr73 : zeroI Try.prog 73 = some (.agg [.int .i64 0, .int .i64 0, .int .i64 0, .int .i64 0, .int .i64 0, .int .i64 0, .int .i64 0, .int .i64 0, .int .i64 0, .int .i64 0, .int .i64 0, .int .i64 0, .int .i64 0, .int .i64 0, .int .i64 0, .int .i64 0, .int .i64 0, .int .i64 0, .int .i64 0, .int .i64 0, .int .i64 0, .int .i64 0, .int .i64 0, .int .i64 0, .int .i64 0, .int .i64 0, .int .i64 0, .int .i64 0, .int .i64 0, .int .i64 0, .int .i64 0, .int .i64 0, .int .i64 0, .int .i64 0, .int .i64 0, .int .i64 0, .int .i64 0, .int .i64 0, .int .i64 0, .int .i64 0, .int .i64 0, .int .i64 0, .int .i64 0, .int .i64 0, .int .i64 0, .int .i64 0, .int .i64 0, .int .i64 0, .int .i64 0, .int .i64 0, .int .i64 0, .int .i64 0, .int .i64 0, .int .i64 0, .int .i64 0, .int .i64 0, .int .i64 0, .int .i64 0, .int .i64 0, .int .i64 0, .int .i64 0, .int .i64 0, .int .i64 0, .int .i64 0]) := by kernel_rfl
end Go.Proofs.Ytpamkihpffoflaa
