/-
  Chapters 6 and 11: more facts on types and functions, by the kernel.
-/
import Derived.Test.YtofenmailjdehaaDoorXrFacts
import Derived.Test.YtofenmailjdehaaDoorAfC
set_option maxRecDepth 100000
namespace Go.Proofs.YtofenmailjdehaaDoor
open Go.AF
theorem bd103 : bldI Tryd.prog 103 = some ([.int .i64 0, .int .i64 0], [(0, 1), (1, 1)]) := by kernel_rfl
theorem bd142 : bldI Tryd.prog 142 = some ([.nilSlice, .nilSlice, .nilSlice], [(0, 1), (1, 1), (2, 1)]) := by kernel_rfl
theorem bd55 : bldI Tryd.prog 55 = some ([.int .i64 0, .int .i64 0, .int .i64 0, .int .i64 0, .int .i64 0], [(0, 1), (1, 2), (3, 2)]) := by kernel_rfl
theorem bd58 : bldI Tryd.prog 58 = some ([.int .i64 0, .int .i64 0, .int .i64 0, .int .i64 0], [(0, 1), (1, 1), (2, 1), (3, 1)]) := by kernel_rfl
theorem bd61 : bldI Tryd.prog 61 = some ([.nilSlice, .nilSlice], [(0, 1), (1, 1)]) := by kernel_rfl
theorem bd92 : bldI Tryd.prog 92 = some ([], []) := by kernel_rfl
theorem bd93 : bldI Tryd.prog 93 = some ([], []) := by kernel_rfl
theorem by100 : byI Tryd.prog 100 = some 8 := by kernel_rfl
theorem by3 : byI Tryd.prog 3 = some 8 := by kernel_rfl
theorem by33 : byI Tryd.prog 33 = some 24 := by kernel_rfl
theorem con92 : conI Tryd.prog 92 = true := by kernel_rfl
theorem con93 : conI Tryd.prog 93 = true := by kernel_rfl
theorem eg103 : Tryd.prog.eqGuardType Tryd.prog.depth 103 = false := by kernel_rfl
theorem el140 : elI Tryd.prog 140 = some 1 := by kernel_rfl
theorem el47 : elI Tryd.prog 47 = some 1 := by kernel_rfl
theorem el56 : elI Tryd.prog 56 = some 5 := by kernel_rfl
theorem el59 : elI Tryd.prog 59 = some 4 := by kernel_rfl
theorem el94 : elI Tryd.prog 94 = some 1 := by kernel_rfl
theorem eq103 : eqTy Tryd.prog 8 103 = some [.int .i64, .int .i64] := by kernel_rfl
theorem fd103_0 : fldI Tryd.prog 103 0 = some 0 := by kernel_rfl
theorem fd103_1 : fldI Tryd.prog 103 1 = some 1 := by kernel_rfl
theorem fd142_0 : fldI Tryd.prog 142 0 = some 0 := by kernel_rfl
theorem fd142_1 : fldI Tryd.prog 142 1 = some 1 := by kernel_rfl
theorem fd142_2 : fldI Tryd.prog 142 2 = some 2 := by kernel_rfl
theorem fd50_0 : fldI Tryd.prog 50 0 = some 0 := by kernel_rfl
theorem fd50_1 : fldI Tryd.prog 50 1 = some 1 := by kernel_rfl
theorem fd55_0 : fldI Tryd.prog 55 0 = some 0 := by kernel_rfl
theorem fd55_1 : fldI Tryd.prog 55 1 = some 1 := by kernel_rfl
theorem fd55_2 : fldI Tryd.prog 55 2 = some 3 := by kernel_rfl
theorem fd58_0 : fldI Tryd.prog 58 0 = some 0 := by kernel_rfl
theorem fd58_1 : fldI Tryd.prog 58 1 = some 1 := by kernel_rfl
theorem fd58_2 : fldI Tryd.prog 58 2 = some 2 := by kernel_rfl
theorem fd58_3 : fldI Tryd.prog 58 3 = some 3 := by kernel_rfl
theorem fd61_0 : fldI Tryd.prog 61 0 = some 0 := by kernel_rfl
theorem fd61_1 : fldI Tryd.prog 61 1 = some 1 := by kernel_rfl
theorem mp144 : mapI Tryd.prog 144 = some (.int .i64, .bool false) := by kernel_rfl
theorem rf100 : realFn Tryd.prog 100 = true := by kernel_rfl
theorem rf101 : realFn Tryd.prog 101 = true := by kernel_rfl
theorem rf102 : realFn Tryd.prog 102 = true := by kernel_rfl
theorem rf12 : realFn Tryd.prog 12 = true := by kernel_rfl
theorem rf13 : realFn Tryd.prog 13 = true := by kernel_rfl
theorem rf14 : realFn Tryd.prog 14 = true := by kernel_rfl
theorem rf15 : realFn Tryd.prog 15 = true := by kernel_rfl
theorem rf16 : realFn Tryd.prog 16 = true := by kernel_rfl
theorem rf17 : realFn Tryd.prog 17 = true := by kernel_rfl
theorem rf27 : realFn Tryd.prog 27 = true := by kernel_rfl
theorem rf28 : realFn Tryd.prog 28 = true := by kernel_rfl
theorem rf29 : realFn Tryd.prog 29 = true := by kernel_rfl
theorem rf30 : realFn Tryd.prog 30 = true := by kernel_rfl
theorem rf31 : realFn Tryd.prog 31 = true := by kernel_rfl
theorem rf32 : realFn Tryd.prog 32 = true := by kernel_rfl
theorem rf33 : realFn Tryd.prog 33 = true := by kernel_rfl
theorem rf34 : realFn Tryd.prog 34 = true := by kernel_rfl
theorem rf35 : realFn Tryd.prog 35 = true := by kernel_rfl
theorem rf53 : realFn Tryd.prog 53 = true := by kernel_rfl
theorem rf54 : realFn Tryd.prog 54 = true := by kernel_rfl
theorem rf55 : realFn Tryd.prog 55 = true := by kernel_rfl
theorem rf56 : realFn Tryd.prog 56 = true := by kernel_rfl
theorem rf57 : realFn Tryd.prog 57 = true := by kernel_rfl
theorem rf58 : realFn Tryd.prog 58 = true := by kernel_rfl
theorem rf59 : realFn Tryd.prog 59 = true := by kernel_rfl
theorem rf60 : realFn Tryd.prog 60 = true := by kernel_rfl
theorem rf61 : realFn Tryd.prog 61 = true := by kernel_rfl
theorem rf62 : realFn Tryd.prog 62 = true := by kernel_rfl
theorem rf63 : realFn Tryd.prog 63 = true := by kernel_rfl
theorem rf64 : realFn Tryd.prog 64 = true := by kernel_rfl
theorem rf65 : realFn Tryd.prog 65 = true := by kernel_rfl
theorem rf74 : realFn Tryd.prog 74 = true := by kernel_rfl
theorem rf75 : realFn Tryd.prog 75 = true := by kernel_rfl
theorem rf99 : realFn Tryd.prog 99 = true := by kernel_rfl
theorem sl140 : isSl Tryd.prog 140 = true := by kernel_rfl
theorem sl47 : isSl Tryd.prog 47 = true := by kernel_rfl
theorem sl56 : isSl Tryd.prog 56 = true := by kernel_rfl
theorem sl59 : isSl Tryd.prog 59 = true := by kernel_rfl
theorem sl94 : isSl Tryd.prog 94 = true := by kernel_rfl
theorem slz140 : slI Tryd.prog 140 = some (100, [.int .i64 0]) := by kernel_rfl
theorem slz56 : slI Tryd.prog 56 = some (55, [.int .i64 0, .int .i64 0, .int .i64 0, .int .i64 0, .int .i64 0]) := by kernel_rfl
theorem slz59 : slI Tryd.prog 59 = some (58, [.int .i64 0, .int .i64 0, .int .i64 0, .int .i64 0]) := by kernel_rfl
theorem slz94 : slI Tryd.prog 94 = some (96, [.nilIface]) := by kernel_rfl
theorem ty100 : tyI Tryd.prog 100 = some (false, 1) := by kernel_rfl
theorem ty103 : tyI Tryd.prog 103 = some (true, 2) := by kernel_rfl
theorem ty140 : tyI Tryd.prog 140 = some (false, 1) := by kernel_rfl
theorem ty144 : tyI Tryd.prog 144 = some (false, 1) := by kernel_rfl
theorem ty48 : tyI Tryd.prog 48 = some (false, 1) := by kernel_rfl
theorem ty50 : tyI Tryd.prog 50 = some (true, 2) := by kernel_rfl
theorem ty55 : tyI Tryd.prog 55 = some (true, 5) := by kernel_rfl
theorem ty56 : tyI Tryd.prog 56 = some (false, 1) := by kernel_rfl
theorem ty58 : tyI Tryd.prog 58 = some (true, 4) := by kernel_rfl
theorem ty59 : tyI Tryd.prog 59 = some (false, 1) := by kernel_rfl
theorem ty61 : tyI Tryd.prog 61 = some (true, 2) := by kernel_rfl
theorem ty96 : tyI Tryd.prog 96 = some (false, 1) := by kernel_rfl
theorem ty97 : tyI Tryd.prog 97 = some (false, 1) := by kernel_rfl
theorem un100 : Tryd.prog.underlying 100 = some (.int .i64) := by kernel_rfl
theorem un4 : Tryd.prog.underlying 4 = some .bool := by kernel_rfl
theorem un48 : Tryd.prog.underlying 48 = some (.int .u16) := by kernel_rfl
theorem zr103 : zeroI Tryd.prog 103 = some (.agg [.int .i64 0, .int .i64 0]) := by kernel_rfl
theorem zr144 : zeroI Tryd.prog 144 = some (.nilMap) := by kernel_rfl
theorem zr50 : zeroI Tryd.prog 50 = some (.agg [.int .i64 0, .int .i64 0]) := by kernel_rfl
theorem zr55 : zeroI Tryd.prog 55 = some (.agg [.int .i64 0, .int .i64 0, .int .i64 0, .int .i64 0, .int .i64 0]) := by kernel_rfl
theorem zr58 : zeroI Tryd.prog 58 = some (.agg [.int .i64 0, .int .i64 0, .int .i64 0, .int .i64 0]) := by kernel_rfl
theorem zr61 : zeroI Tryd.prog 61 = some (.agg [.nilSlice, .nilSlice]) := by kernel_rfl
theorem zr97 : zeroI Tryd.prog 97 = some (.nilPtr) := by kernel_rfl
end Go.Proofs.YtofenmailjdehaaDoor
