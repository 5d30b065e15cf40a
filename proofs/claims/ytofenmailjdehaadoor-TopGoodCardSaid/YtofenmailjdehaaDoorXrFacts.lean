/-
  Chapters 6 and 11: more facts on types and functions, by the kernel.
-/
import Derived.Test.YtofenmailjdehaaDoorTrFacts
import Derived.Test.YtofenmailjdehaaDoorAfC
set_option maxRecDepth 100000
namespace Go.Proofs.YtofenmailjdehaaDoor
open Go.AF
theorem ar72 : arrI Tryd.prog 72 = some 8 := by kernel_rfl
theorem ar73 : arrI Tryd.prog 73 = some 8 := by kernel_rfl
theorem av151 : arrV Tryd.prog 151 = some (3, false, 1) := by kernel_rfl
theorem bd120 : bldI Tryd.prog 120 = some ([.int .i64 0, .int .i64 0], [(0, 1), (1, 1)]) := by kernel_rfl
theorem bd151 : bldI Tryd.prog 151 = some ([.nilIface, .nilIface, .nilIface], [(0, 1), (1, 1), (2, 1)]) := by kernel_rfl
theorem bd24 : bldI Tryd.prog 24 = some ([.nilSlice, .int .i64 0, .int .i64 0, .int .i64 0], [(0, 1), (1, 1), (2, 1), (3, 1)]) := by kernel_rfl
theorem bd31 : bldI Tryd.prog 31 = some ([.int .i64 0, .int .i64 0], [(0, 1), (1, 1)]) := by kernel_rfl
theorem bd33 : bldI Tryd.prog 33 = some ([.int .i64 0, .int .i64 0, .int .i64 0], [(0, 1), (1, 1), (2, 1)]) := by kernel_rfl
theorem bd35 : bldI Tryd.prog 35 = some ([.int .i64 0, .int .i64 0, .int .i64 0, .int .i64 0], [(0, 1), (1, 1), (2, 1), (3, 1)]) := by kernel_rfl
theorem bd75 : bldI Tryd.prog 75 = some ([.int .i64 0, .int .i64 0, .int .i64 0, .int .i64 0, .int .i64 0, .int .i64 0, .int .i64 0, .int .i64 0, .int .i64 0, .int .i64 0, .int .i64 0, .int .i64 0, .int .i64 0, .int .i64 0, .int .i64 0, .int .i64 0, .int .i64 0, .int .i64 0, .int .i64 0, .int .i64 0, .int .i64 0, .int .i64 0, .int .i64 0, .int .i64 0, .int .i64 0, .int .i64 0, .int .i64 0, .int .i64 0, .int .i64 0, .int .i64 0, .int .i64 0, .int .i64 0, .int .i64 0, .int .i64 0, .int .i64 0, .int .i64 0, .int .i64 0, .int .i64 0, .int .i64 0, .int .i64 0, .int .i64 0, .int .i64 0, .int .i64 0, .int .i64 0, .int .i64 0, .int .i64 0, .int .i64 0, .int .i64 0, .int .i64 0, .int .i64 0, .int .i64 0, .int .i64 0, .int .i64 0, .int .i64 0, .int .i64 0, .int .i64 0, .int .i64 0, .int .i64 0, .int .i64 0, .int .i64 0, .int .i64 0, .int .i64 0, .int .i64 0, .int .i64 0, .int .i64 0, .int .i64 0, .int .i64 0, .int .i64 0, .int .i64 0, .int .i64 0, .int .i64 0], [(0, 4), (4, 2), (6, 64), (70, 1)]) := by kernel_rfl
theorem by113 : byI Tryd.prog 113 = some 16 := by kernel_rfl
theorem by31 : byI Tryd.prog 31 = some 16 := by kernel_rfl
theorem con148 : conI Tryd.prog 148 = true := by kernel_rfl
theorem con149 : conI Tryd.prog 149 = true := by kernel_rfl
theorem con150 : conI Tryd.prog 150 = true := by kernel_rfl
theorem eg35 : Tryd.prog.eqGuardType Tryd.prog.depth 35 = false := by kernel_rfl
theorem eg40 : Tryd.prog.eqGuardType Tryd.prog.depth 40 = false := by kernel_rfl
theorem el111 : elI Tryd.prog 111 = some 1 := by kernel_rfl
theorem el25 : elI Tryd.prog 25 = some 3 := by kernel_rfl
theorem el72 : elI Tryd.prog 72 = some 1 := by kernel_rfl
theorem el73 : elI Tryd.prog 73 = some 8 := by kernel_rfl
theorem eq35 : eqTy Tryd.prog 8 35 = some [.int .i64, .int .i64, .int .i64, .int .i64] := by kernel_rfl
theorem eq40 : eqTy Tryd.prog 8 40 = some [.int .i64, .int .i64] := by kernel_rfl
theorem fd120_0 : fldI Tryd.prog 120 0 = some 0 := by kernel_rfl
theorem fd120_1 : fldI Tryd.prog 120 1 = some 1 := by kernel_rfl
theorem fd148_0 : fldI Tryd.prog 148 0 = some 0 := by kernel_rfl
theorem fd148_1 : fldI Tryd.prog 148 1 = some 1 := by kernel_rfl
theorem fd149_0 : fldI Tryd.prog 149 0 = some 0 := by kernel_rfl
theorem fd149_1 : fldI Tryd.prog 149 1 = some 1 := by kernel_rfl
theorem fd24_0 : fldI Tryd.prog 24 0 = some 0 := by kernel_rfl
theorem fd24_1 : fldI Tryd.prog 24 1 = some 1 := by kernel_rfl
theorem fd24_2 : fldI Tryd.prog 24 2 = some 2 := by kernel_rfl
theorem fd24_3 : fldI Tryd.prog 24 3 = some 3 := by kernel_rfl
theorem fd33_0 : fldI Tryd.prog 33 0 = some 0 := by kernel_rfl
theorem fd33_1 : fldI Tryd.prog 33 1 = some 1 := by kernel_rfl
theorem fd33_2 : fldI Tryd.prog 33 2 = some 2 := by kernel_rfl
theorem fd35_0 : fldI Tryd.prog 35 0 = some 0 := by kernel_rfl
theorem fd35_1 : fldI Tryd.prog 35 1 = some 1 := by kernel_rfl
theorem fd35_2 : fldI Tryd.prog 35 2 = some 2 := by kernel_rfl
theorem fd35_3 : fldI Tryd.prog 35 3 = some 3 := by kernel_rfl
theorem fd75_0 : fldI Tryd.prog 75 0 = some 0 := by kernel_rfl
theorem fd75_1 : fldI Tryd.prog 75 1 = some 4 := by kernel_rfl
theorem fd75_2 : fldI Tryd.prog 75 2 = some 6 := by kernel_rfl
theorem fd75_3 : fldI Tryd.prog 75 3 = some 70 := by kernel_rfl
theorem rf104 : realFn Tryd.prog 104 = true := by kernel_rfl
theorem rf105 : realFn Tryd.prog 105 = true := by kernel_rfl
theorem rf106 : realFn Tryd.prog 106 = true := by kernel_rfl
theorem rf11 : realFn Tryd.prog 11 = true := by kernel_rfl
theorem rf18 : realFn Tryd.prog 18 = true := by kernel_rfl
theorem rf19 : realFn Tryd.prog 19 = true := by kernel_rfl
theorem rf20 : realFn Tryd.prog 20 = true := by kernel_rfl
theorem rf36 : realFn Tryd.prog 36 = true := by kernel_rfl
theorem rf37 : realFn Tryd.prog 37 = true := by kernel_rfl
theorem rf38 : realFn Tryd.prog 38 = true := by kernel_rfl
theorem rf39 : realFn Tryd.prog 39 = true := by kernel_rfl
theorem rf40 : realFn Tryd.prog 40 = true := by kernel_rfl
theorem rf41 : realFn Tryd.prog 41 = true := by kernel_rfl
theorem rf42 : realFn Tryd.prog 42 = true := by kernel_rfl
theorem rf43 : realFn Tryd.prog 43 = true := by kernel_rfl
theorem rf5 : realFn Tryd.prog 5 = true := by kernel_rfl
theorem rf6 : realFn Tryd.prog 6 = true := by kernel_rfl
theorem rf66 : realFn Tryd.prog 66 = true := by kernel_rfl
theorem rf67 : realFn Tryd.prog 67 = true := by kernel_rfl
theorem rf68 : realFn Tryd.prog 68 = true := by kernel_rfl
theorem rf69 : realFn Tryd.prog 69 = true := by kernel_rfl
theorem rf7 : realFn Tryd.prog 7 = true := by kernel_rfl
theorem rf70 : realFn Tryd.prog 70 = true := by kernel_rfl
theorem rf71 : realFn Tryd.prog 71 = true := by kernel_rfl
theorem rf72 : realFn Tryd.prog 72 = true := by kernel_rfl
theorem rf76 : realFn Tryd.prog 76 = true := by kernel_rfl
theorem rf77 : realFn Tryd.prog 77 = true := by kernel_rfl
theorem rf78 : realFn Tryd.prog 78 = true := by kernel_rfl
theorem rf79 : realFn Tryd.prog 79 = true := by kernel_rfl
theorem rf8 : realFn Tryd.prog 8 = true := by kernel_rfl
theorem rf81 : realFn Tryd.prog 81 = true := by kernel_rfl
theorem rf9 : realFn Tryd.prog 9 = true := by kernel_rfl
theorem sl111 : isSl Tryd.prog 111 = true := by kernel_rfl
theorem sl25 : isSl Tryd.prog 25 = true := by kernel_rfl
theorem slz111 : slI Tryd.prog 111 = some (113, [.nilIface]) := by kernel_rfl
theorem slz25 : slI Tryd.prog 25 = some (33, [.int .i64 0, .int .i64 0, .int .i64 0]) := by kernel_rfl
theorem slz29 : slI Tryd.prog 29 = some (31, [.int .i64 0, .int .i64 0]) := by kernel_rfl
theorem ty111 : tyI Tryd.prog 111 = some (false, 1) := by kernel_rfl
theorem ty113 : tyI Tryd.prog 113 = some (false, 1) := by kernel_rfl
theorem ty118 : tyI Tryd.prog 118 = some (false, 1) := by kernel_rfl
theorem ty120 : tyI Tryd.prog 120 = some (true, 2) := by kernel_rfl
theorem ty152 : tyI Tryd.prog 152 = some (false, 1) := by kernel_rfl
theorem ty22 : tyI Tryd.prog 22 = some (false, 1) := by kernel_rfl
theorem ty24 : tyI Tryd.prog 24 = some (true, 4) := by kernel_rfl
theorem ty33 : tyI Tryd.prog 33 = some (true, 3) := by kernel_rfl
theorem ty35 : tyI Tryd.prog 35 = some (true, 4) := by kernel_rfl
theorem ty69 : tyI Tryd.prog 69 = some (false, 1) := by kernel_rfl
theorem un118 : Tryd.prog.underlying 118 = some (.int .i64) := by kernel_rfl
theorem un166 : Tryd.prog.underlying 166 = some (.int .u64) := by kernel_rfl
theorem un52 : Tryd.prog.underlying 52 = some (.int .u64) := by kernel_rfl
theorem zr118 : zeroI Tryd.prog 118 = some (.int .i64 0) := by kernel_rfl
theorem zr120 : zeroI Tryd.prog 120 = some (.agg [.int .i64 0, .int .i64 0]) := by kernel_rfl
theorem zr33 : zeroI Tryd.prog 33 = some (.agg [.int .i64 0, .int .i64 0, .int .i64 0]) := by kernel_rfl
theorem zr35 : zeroI Tryd.prog 35 = some (.agg [.int .i64 0, .int .i64 0, .int .i64 0, .int .i64 0]) := by kernel_rfl
theorem zr69 : zeroI Tryd.prog 69 = some (.nilPtr) := by kernel_rfl
end Go.Proofs.YtofenmailjdehaaDoor
