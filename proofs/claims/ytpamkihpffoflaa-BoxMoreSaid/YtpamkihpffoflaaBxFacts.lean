/-
  Chapter 9: facts on types and functions, by the kernel.
-/
import Derived.Test.YtpamkihpffoflaaProg
import Derived.Test.YtpamkihpffoflaaAfC
import Derived.KernelRfl
set_option maxRecDepth 100000
namespace Go.Proofs.Ytpamkihpffoflaa
open Go.AF
theorem bd35 : bldI Try.prog 35 = some ([.int .i64 0, .int .i64 0], [(0, 1), (1, 1)]) := by kernel_rfl
theorem by3 : byI Try.prog 3 = some 8 := by kernel_rfl
theorem by64 : byI Try.prog 64 = some 8 := by kernel_rfl
theorem el22 : elI Try.prog 22 = some 1 := by kernel_rfl
theorem el23 : elI Try.prog 23 = some 2 := by kernel_rfl
theorem el83 : elI Try.prog 83 = some 1 := by kernel_rfl
theorem fd46_0 : fldI Try.prog 46 0 = some 0 := by kernel_rfl
theorem fd46_1 : fldI Try.prog 46 1 = some 1 := by kernel_rfl
theorem mp59 : mapI Try.prog 59 = some (.int .i64, .int .i64 0) := by kernel_rfl
theorem rf21 : realFn Try.prog 21 = true := by kernel_rfl
theorem rf22 : realFn Try.prog 22 = true := by kernel_rfl
theorem rf23 : realFn Try.prog 23 = true := by kernel_rfl
theorem rf25 : realFn Try.prog 25 = true := by kernel_rfl
theorem rf29 : realFn Try.prog 29 = true := by kernel_rfl
theorem rf30 : realFn Try.prog 30 = true := by kernel_rfl
theorem rf31 : realFn Try.prog 31 = true := by kernel_rfl
theorem rf32 : realFn Try.prog 32 = true := by kernel_rfl
theorem rf33 : realFn Try.prog 33 = true := by kernel_rfl
theorem rf34 : realFn Try.prog 34 = true := by kernel_rfl
theorem rf35 : realFn Try.prog 35 = true := by kernel_rfl
theorem rf36 : realFn Try.prog 36 = true := by kernel_rfl
theorem rf37 : realFn Try.prog 37 = true := by kernel_rfl
theorem rf38 : realFn Try.prog 38 = true := by kernel_rfl
theorem rf39 : realFn Try.prog 39 = true := by kernel_rfl
theorem rf40 : realFn Try.prog 40 = true := by kernel_rfl
theorem rf41 : realFn Try.prog 41 = true := by kernel_rfl
theorem rf42 : realFn Try.prog 42 = true := by kernel_rfl
theorem rf44 : realFn Try.prog 44 = true := by kernel_rfl
theorem rf46 : realFn Try.prog 46 = true := by kernel_rfl
theorem rf47 : realFn Try.prog 47 = true := by kernel_rfl
theorem rf48 : realFn Try.prog 48 = true := by kernel_rfl
theorem rf49 : realFn Try.prog 49 = true := by kernel_rfl
theorem rf51 : realFn Try.prog 51 = true := by kernel_rfl
theorem rf52 : realFn Try.prog 52 = true := by kernel_rfl
theorem rf53 : realFn Try.prog 53 = true := by kernel_rfl
theorem rf54 : realFn Try.prog 54 = true := by kernel_rfl
theorem rf55 : realFn Try.prog 55 = true := by kernel_rfl
theorem rf56 : realFn Try.prog 56 = true := by kernel_rfl
theorem rf57 : realFn Try.prog 57 = true := by kernel_rfl
theorem rf58 : realFn Try.prog 58 = true := by kernel_rfl
theorem rf59 : realFn Try.prog 59 = true := by kernel_rfl
theorem rf60 : realFn Try.prog 60 = true := by kernel_rfl
theorem rf61 : realFn Try.prog 61 = true := by kernel_rfl
theorem rf62 : realFn Try.prog 62 = true := by kernel_rfl
theorem rf63 : realFn Try.prog 63 = true := by kernel_rfl
theorem rf64 : realFn Try.prog 64 = true := by kernel_rfl
theorem rf65 : realFn Try.prog 65 = true := by kernel_rfl
theorem sl22 : isSl Try.prog 22 = true := by kernel_rfl
theorem sl23 : isSl Try.prog 23 = true := by kernel_rfl
theorem sl83 : isSl Try.prog 83 = true := by kernel_rfl
theorem slz22 : slI Try.prog 22 = some (3, [.int .i64 0]) := by kernel_rfl
theorem slz83 : slI Try.prog 83 = some (64, [.int .i64 0]) := by kernel_rfl
theorem ty22 : tyI Try.prog 22 = some (false, 1) := by kernel_rfl
theorem ty23 : tyI Try.prog 23 = some (false, 1) := by kernel_rfl
theorem ty26 : tyI Try.prog 26 = some (false, 1) := by kernel_rfl
theorem ty3 : tyI Try.prog 3 = some (false, 1) := by kernel_rfl
theorem ty35 : tyI Try.prog 35 = some (true, 2) := by kernel_rfl
theorem ty46 : tyI Try.prog 46 = some (true, 2) := by kernel_rfl
theorem ty57 : tyI Try.prog 57 = some (false, 1) := by kernel_rfl
theorem ty59 : tyI Try.prog 59 = some (false, 1) := by kernel_rfl
theorem ty64 : tyI Try.prog 64 = some (false, 1) := by kernel_rfl
theorem ty83 : tyI Try.prog 83 = some (false, 1) := by kernel_rfl
theorem un3 : Try.prog.underlying 3 = some (.int .i64) := by kernel_rfl
theorem un87 : Try.prog.underlying 87 = some (.int .u64) := by kernel_rfl
theorem zr22 : zeroI Try.prog 22 = some (.nilSlice) := by kernel_rfl
theorem zr26 : zeroI Try.prog 26 = some (.int .i64 0) := by kernel_rfl
theorem zr3 : zeroI Try.prog 3 = some (.int .i64 0) := by kernel_rfl
theorem zr35 : zeroI Try.prog 35 = some (.agg [.int .i64 0, .int .i64 0]) := by kernel_rfl
theorem zr46 : zeroI Try.prog 46 = some (.agg [.int .i64 0, .int .i64 0]) := by kernel_rfl
theorem zr59 : zeroI Try.prog 59 = some (.nilMap) := by kernel_rfl
theorem mixed : Try.prog.follows .mixedOrders = true := by kernel_rfl
end Go.Proofs.Ytpamkihpffoflaa
