/-
  Chapter 1: facts on types and functions, by the kernel.
-/
import Derived.Test.YtmcejcidbekpkaaProg
import Derived.Test.YtmcejcidbekpkaaAfC
import Derived.KernelRfl
set_option maxRecDepth 100000
namespace Go.Proofs.Ytmcejcidbekpkaa
open Go.AF
theorem ar67 : arrI Try.prog 67 = some 5 := by kernel_rfl
theorem av105 : arrV Try.prog 105 = some (2, false, 1) := by kernel_rfl
theorem av72 : arrV Try.prog 72 = some (5, false, 1) := by kernel_rfl
theorem bd105 : bldI Try.prog 105 = some ([.int .i64 0, .int .i64 0], [(0, 1), (1, 1)]) := by kernel_rfl
theorem bd25 : bldI Try.prog 25 = some ([.int .i64 0, .int .i64 0], [(0, 1), (1, 1)]) := by kernel_rfl
theorem bd29 : bldI Try.prog 29 = some ([.int .i64 0, .int .i64 0, .int .i64 0, .int .i64 0, .int .i64 0, .int .i64 0, .int .i64 0, .int .i64 0, .int .i64 0, .int .i64 0], [(0, 2), (2, 2), (4, 2), (6, 2), (8, 2)]) := by kernel_rfl
theorem bd51 : bldI Try.prog 51 = some ([.int .i64 0, .int .i64 0, .int .i64 0], [(0, 1), (1, 2)]) := by kernel_rfl
theorem bd57 : bldI Try.prog 57 = some ([.int .i64 0, .int .i64 0, .int .i64 0, .int .i64 0, .int .i64 0, .int .i64 0], [(0, 2), (2, 2), (4, 2)]) := by kernel_rfl
theorem bd71 : bldI Try.prog 71 = some ([.int .i64 0, .int .i64 0, .int .i64 0], [(0, 1), (1, 1), (2, 1)]) := by kernel_rfl
theorem bd72 : bldI Try.prog 72 = some ([.nilFunc, .nilFunc, .nilFunc, .nilFunc, .nilFunc], [(0, 1), (1, 1), (2, 1), (3, 1), (4, 1)]) := by kernel_rfl
theorem bd83 : bldI Try.prog 83 = some ([.int .i64 0, .int .i64 0, .int .i64 0, .int .i64 0, .int .i64 0, .int .i64 0, .int .i64 0, .int .i64 0, .int .i64 0, .int .i64 0, .int .i64 0, .int .i64 0, .int .i64 0, .int .i64 0, .int .i64 0], [(0, 6), (6, 6), (12, 1), (13, 2)]) := by kernel_rfl
theorem bd88 : bldI Try.prog 88 = some ([.int .i64 0, .int .i64 0, .int .i64 0], [(0, 1), (1, 1), (2, 1)]) := by kernel_rfl
theorem bd96 : bldI Try.prog 96 = some ([.int .i64 0, .int .i64 0, .int .i64 0, .int .i64 0, .int .i64 0, .int .i64 0, .int .i64 0, .int .i64 0], [(0, 6), (6, 2)]) := by kernel_rfl
theorem by88 : byI Try.prog 88 = some 24 := by kernel_rfl
theorem eg25 : Try.prog.eqGuardType Try.prog.depth 25 = false := by kernel_rfl
theorem eg29 : Try.prog.eqGuardType Try.prog.depth 29 = false := by kernel_rfl
theorem el22 : elI Try.prog 22 = some 6 := by kernel_rfl
theorem el23 : elI Try.prog 23 = some 3 := by kernel_rfl
theorem el41 : elI Try.prog 41 = some 3 := by kernel_rfl
theorem el67 : elI Try.prog 67 = some 2 := by kernel_rfl
theorem eq25 : eqTy Try.prog 8 25 = some [.int .i64, .int .i64] := by kernel_rfl
theorem eq29 : eqTy Try.prog 8 29 = some [.int .i64, .int .i64, .int .i64, .int .i64, .int .i64, .int .i64, .int .i64, .int .i64, .int .i64, .int .i64] := by kernel_rfl
theorem fd25_0 : fldI Try.prog 25 0 = some 0 := by kernel_rfl
theorem fd25_1 : fldI Try.prog 25 1 = some 1 := by kernel_rfl
theorem fd51_0 : fldI Try.prog 51 0 = some 0 := by kernel_rfl
theorem fd51_1 : fldI Try.prog 51 1 = some 1 := by kernel_rfl
theorem fd57_0 : fldI Try.prog 57 0 = some 0 := by kernel_rfl
theorem fd57_1 : fldI Try.prog 57 1 = some 2 := by kernel_rfl
theorem fd57_2 : fldI Try.prog 57 2 = some 4 := by kernel_rfl
theorem fd71_0 : fldI Try.prog 71 0 = some 0 := by kernel_rfl
theorem fd71_1 : fldI Try.prog 71 1 = some 1 := by kernel_rfl
theorem fd71_2 : fldI Try.prog 71 2 = some 2 := by kernel_rfl
theorem fd83_0 : fldI Try.prog 83 0 = some 0 := by kernel_rfl
theorem fd83_1 : fldI Try.prog 83 1 = some 6 := by kernel_rfl
theorem fd83_2 : fldI Try.prog 83 2 = some 12 := by kernel_rfl
theorem fd83_3 : fldI Try.prog 83 3 = some 13 := by kernel_rfl
theorem fd88_0 : fldI Try.prog 88 0 = some 0 := by kernel_rfl
theorem fd88_1 : fldI Try.prog 88 1 = some 1 := by kernel_rfl
theorem fd88_2 : fldI Try.prog 88 2 = some 2 := by kernel_rfl
theorem fd96_0 : fldI Try.prog 96 0 = some 0 := by kernel_rfl
theorem fd96_1 : fldI Try.prog 96 1 = some 6 := by kernel_rfl
theorem fv25_0 : fldV Try.prog 25 0 = some (false, 1, 0) := by kernel_rfl
theorem fv25_1 : fldV Try.prog 25 1 = some (false, 1, 1) := by kernel_rfl
theorem mp65 : mapI Try.prog 65 = some (.int .i64, .agg [.int .i64 0, .int .i64 0, .int .i64 0, .int .i64 0, .int .i64 0, .int .i64 0, .int .i64 0, .int .i64 0]) := by kernel_rfl
theorem rf10 : realFn Try.prog 10 = true := by kernel_rfl
theorem rf11 : realFn Try.prog 11 = true := by kernel_rfl
theorem rf12 : realFn Try.prog 12 = true := by kernel_rfl
theorem rf13 : realFn Try.prog 13 = true := by kernel_rfl
theorem rf14 : realFn Try.prog 14 = true := by kernel_rfl
theorem rf15 : realFn Try.prog 15 = true := by kernel_rfl
theorem rf16 : realFn Try.prog 16 = true := by kernel_rfl
theorem rf17 : realFn Try.prog 17 = true := by kernel_rfl
theorem rf18 : realFn Try.prog 18 = true := by kernel_rfl
theorem rf19 : realFn Try.prog 19 = true := by kernel_rfl
theorem rf20 : realFn Try.prog 20 = true := by kernel_rfl
theorem rf24 : realFn Try.prog 24 = true := by kernel_rfl
theorem rf26 : realFn Try.prog 26 = true := by kernel_rfl
theorem rf29 : realFn Try.prog 29 = true := by kernel_rfl
theorem rf30 : realFn Try.prog 30 = true := by kernel_rfl
theorem rf31 : realFn Try.prog 31 = true := by kernel_rfl
theorem rf32 : realFn Try.prog 32 = true := by kernel_rfl
theorem rf33 : realFn Try.prog 33 = true := by kernel_rfl
theorem rf34 : realFn Try.prog 34 = true := by kernel_rfl
theorem rf35 : realFn Try.prog 35 = true := by kernel_rfl
theorem rf36 : realFn Try.prog 36 = true := by kernel_rfl
theorem rf37 : realFn Try.prog 37 = true := by kernel_rfl
theorem rf38 : realFn Try.prog 38 = true := by kernel_rfl
theorem rf39 : realFn Try.prog 39 = true := by kernel_rfl
theorem rf40 : realFn Try.prog 40 = true := by kernel_rfl
theorem rf41 : realFn Try.prog 41 = true := by kernel_rfl
theorem rf42 : realFn Try.prog 42 = true := by kernel_rfl
theorem rf43 : realFn Try.prog 43 = true := by kernel_rfl
theorem rf44 : realFn Try.prog 44 = true := by kernel_rfl
theorem rf45 : realFn Try.prog 45 = true := by kernel_rfl
theorem rf46 : realFn Try.prog 46 = true := by kernel_rfl
theorem rf47 : realFn Try.prog 47 = true := by kernel_rfl
theorem rf48 : realFn Try.prog 48 = true := by kernel_rfl
theorem rf49 : realFn Try.prog 49 = true := by kernel_rfl
theorem rf50 : realFn Try.prog 50 = true := by kernel_rfl
theorem rf51 : realFn Try.prog 51 = true := by kernel_rfl
theorem rf52 : realFn Try.prog 52 = true := by kernel_rfl
theorem rf53 : realFn Try.prog 53 = true := by kernel_rfl
theorem rf54 : realFn Try.prog 54 = true := by kernel_rfl
theorem rf55 : realFn Try.prog 55 = true := by kernel_rfl
theorem rf56 : realFn Try.prog 56 = true := by kernel_rfl
theorem rf57 : realFn Try.prog 57 = true := by kernel_rfl
theorem rf58 : realFn Try.prog 58 = true := by kernel_rfl
theorem rf59 : realFn Try.prog 59 = true := by kernel_rfl
theorem rf60 : realFn Try.prog 60 = true := by kernel_rfl
theorem rf62 : realFn Try.prog 62 = true := by kernel_rfl
theorem rf63 : realFn Try.prog 63 = true := by kernel_rfl
theorem rf64 : realFn Try.prog 64 = true := by kernel_rfl
theorem rf65 : realFn Try.prog 65 = true := by kernel_rfl
theorem rf66 : realFn Try.prog 66 = true := by kernel_rfl
theorem rf67 : realFn Try.prog 67 = true := by kernel_rfl
theorem rf68 : realFn Try.prog 68 = true := by kernel_rfl
theorem rf69 : realFn Try.prog 69 = true := by kernel_rfl
theorem rf70 : realFn Try.prog 70 = true := by kernel_rfl
theorem rf71 : realFn Try.prog 71 = true := by kernel_rfl
theorem rf72 : realFn Try.prog 72 = true := by kernel_rfl
theorem rf73 : realFn Try.prog 73 = true := by kernel_rfl
theorem rf74 : realFn Try.prog 74 = true := by kernel_rfl
theorem rf75 : realFn Try.prog 75 = true := by kernel_rfl
theorem rf76 : realFn Try.prog 76 = true := by kernel_rfl
theorem rf77 : realFn Try.prog 77 = true := by kernel_rfl
theorem rf9 : realFn Try.prog 9 = true := by kernel_rfl
theorem sl22 : isSl Try.prog 22 = true := by kernel_rfl
theorem sl23 : isSl Try.prog 23 = true := by kernel_rfl
theorem sl41 : isSl Try.prog 41 = true := by kernel_rfl
theorem slz22 : slI Try.prog 22 = some (57, [.int .i64 0, .int .i64 0, .int .i64 0, .int .i64 0, .int .i64 0, .int .i64 0]) := by kernel_rfl
theorem slz23 : slI Try.prog 23 = some (51, [.int .i64 0, .int .i64 0, .int .i64 0]) := by kernel_rfl
theorem slz41 : slI Try.prog 41 = some (88, [.int .i64 0, .int .i64 0, .int .i64 0]) := by kernel_rfl
theorem ty22 : tyI Try.prog 22 = some (false, 1) := by kernel_rfl
theorem ty25 : tyI Try.prog 25 = some (true, 2) := by kernel_rfl
theorem ty29 : tyI Try.prog 29 = some (true, 10) := by kernel_rfl
theorem ty3 : tyI Try.prog 3 = some (false, 1) := by kernel_rfl
theorem ty4 : tyI Try.prog 4 = some (false, 1) := by kernel_rfl
theorem ty51 : tyI Try.prog 51 = some (true, 3) := by kernel_rfl
theorem ty57 : tyI Try.prog 57 = some (true, 6) := by kernel_rfl
theorem ty65 : tyI Try.prog 65 = some (false, 1) := by kernel_rfl
theorem ty68 : tyI Try.prog 68 = some (false, 1) := by kernel_rfl
theorem ty71 : tyI Try.prog 71 = some (true, 3) := by kernel_rfl
theorem ty83 : tyI Try.prog 83 = some (true, 15) := by kernel_rfl
theorem ty88 : tyI Try.prog 88 = some (true, 3) := by kernel_rfl
theorem ty96 : tyI Try.prog 96 = some (true, 8) := by kernel_rfl
theorem un3 : Try.prog.underlying 3 = some (.int .i64) := by kernel_rfl
theorem un54 : Try.prog.underlying 54 = some (.int .u32) := by kernel_rfl
theorem un97 : Try.prog.underlying 97 = some (.int .u64) := by kernel_rfl
theorem zr25 : zeroI Try.prog 25 = some (.agg [.int .i64 0, .int .i64 0]) := by kernel_rfl
theorem zr29 : zeroI Try.prog 29 = some (.agg [.int .i64 0, .int .i64 0, .int .i64 0, .int .i64 0, .int .i64 0, .int .i64 0, .int .i64 0, .int .i64 0, .int .i64 0, .int .i64 0]) := by kernel_rfl
theorem zr3 : zeroI Try.prog 3 = some (.int .i64 0) := by kernel_rfl
theorem zr4 : zeroI Try.prog 4 = some (.bool false) := by kernel_rfl
theorem zr51 : zeroI Try.prog 51 = some (.agg [.int .i64 0, .int .i64 0, .int .i64 0]) := by kernel_rfl
theorem zr65 : zeroI Try.prog 65 = some (.nilMap) := by kernel_rfl
theorem zr67 : zeroI Try.prog 67 = some (.agg [.int .i64 0, .int .i64 0, .int .i64 0, .int .i64 0, .int .i64 0, .int .i64 0, .int .i64 0, .int .i64 0, .int .i64 0, .int .i64 0]) := by kernel_rfl
theorem zr71 : zeroI Try.prog 71 = some (.agg [.int .i64 0, .int .i64 0, .int .i64 0]) := by kernel_rfl
theorem zr83 : zeroI Try.prog 83 = some (.agg [.int .i64 0, .int .i64 0, .int .i64 0, .int .i64 0, .int .i64 0, .int .i64 0, .int .i64 0, .int .i64 0, .int .i64 0, .int .i64 0, .int .i64 0, .int .i64 0, .int .i64 0, .int .i64 0, .int .i64 0]) := by kernel_rfl
theorem zr88 : zeroI Try.prog 88 = some (.agg [.int .i64 0, .int .i64 0, .int .i64 0]) := by kernel_rfl
theorem zr96 : zeroI Try.prog 96 = some (.agg [.int .i64 0, .int .i64 0, .int .i64 0, .int .i64 0, .int .i64 0, .int .i64 0, .int .i64 0, .int .i64 0]) := by kernel_rfl
theorem mixed : Try.prog.follows .mixedOrders = true := by kernel_rfl
end Go.Proofs.Ytmcejcidbekpkaa
