/-
  Chapter 2: more facts on types and functions, by the kernel.
-/
import Derived.Test.YthiapodcippnoaaSdFactsL
import Derived.Test.YthiapodcippnoaaAfC
set_option maxRecDepth 100000
namespace Go.Proofs.Ythiapodcippnoaa
open Go.AF
theorem by34 : byI Try.prog 34 = some 24 := by kernel_rfl
theorem by66 : byI Try.prog 66 = some 48 := by kernel_rfl
theorem by84 : byI Try.prog 84 = some 16 := by kernel_rfl
theorem eg51 : Try.prog.eqGuardType Try.prog.depth 51 = false := by kernel_rfl
theorem eg84 : Try.prog.eqGuardType Try.prog.depth 84 = false := by kernel_rfl
theorem el114 : elI Try.prog 114 = some 1 := by kernel_rfl
theorem eq51 : eqTy Try.prog 8 51 = some [.int .i64, .int .i64, .int .i64, .int .i64] := by kernel_rfl
theorem eq84 : eqTy Try.prog 8 84 = some [.int .i64, .int .i64] := by kernel_rfl
theorem rf21 : realFn Try.prog 21 = true := by kernel_rfl
theorem rf23 : realFn Try.prog 23 = true := by kernel_rfl
theorem rf61 : realFn Try.prog 61 = true := by kernel_rfl
theorem sl114 : isSl Try.prog 114 = true := by kernel_rfl
theorem slz114 : slI Try.prog 114 = some (34, [.nilSlice]) := by kernel_rfl
end Go.Proofs.Ythiapodcippnoaa
