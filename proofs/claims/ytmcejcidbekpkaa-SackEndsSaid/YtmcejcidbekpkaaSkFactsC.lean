/-
  Chapter 1: more facts on types and functions, by the kernel.
-/
import Derived.Test.YtmcejcidbekpkaaSkFactsB
import Derived.Test.YtmcejcidbekpkaaAfC
set_option maxRecDepth 100000
namespace Go.Proofs.Ytmcejcidbekpkaa
open Go.AF
theorem ar45 : arrI Try.prog 45 = some 5 := by kernel_rfl
theorem by3 : byI Try.prog 3 = some 8 := by kernel_rfl
theorem el39 : elI Try.prog 39 = some 1 := by kernel_rfl
theorem el42 : elI Try.prog 42 = some 1 := by kernel_rfl
theorem el45 : elI Try.prog 45 = some 1 := by kernel_rfl
theorem fd29_0 : fldI Try.prog 29 0 = some 0 := by kernel_rfl
theorem fd29_1 : fldI Try.prog 29 1 = some 2 := by kernel_rfl
theorem fd29_2 : fldI Try.prog 29 2 = some 4 := by kernel_rfl
theorem fd29_3 : fldI Try.prog 29 3 = some 6 := by kernel_rfl
theorem fd29_4 : fldI Try.prog 29 4 = some 8 := by kernel_rfl
theorem rf21 : realFn Try.prog 21 = true := by kernel_rfl
theorem rf22 : realFn Try.prog 22 = true := by kernel_rfl
theorem rf23 : realFn Try.prog 23 = true := by kernel_rfl
theorem rf61 : realFn Try.prog 61 = true := by kernel_rfl
theorem sl39 : isSl Try.prog 39 = true := by kernel_rfl
theorem sl42 : isSl Try.prog 42 = true := by kernel_rfl
theorem slz42 : slI Try.prog 42 = some (3, [.int .i64 0]) := by kernel_rfl
theorem ty54 : tyI Try.prog 54 = some (false, 1) := by kernel_rfl
theorem zr45 : zeroI Try.prog 45 = some (.agg [.int .i64 0, .int .i64 0, .int .i64 0, .int .i64 0, .int .i64 0]) := by kernel_rfl
end Go.Proofs.Ytmcejcidbekpkaa
