/-
  Chapter 2: facts on types and functions, by the kernel.
-/
import Derived.Test.YthiapodcippnoaaProg
import Derived.Test.YthiapodcippnoaaAfJ
import Derived.KernelRfl
set_option maxRecDepth 100000
namespace Go.Proofs.Ythiapodcippnoaa
open Go.AF
theorem ar107 : arrI Try.prog 107 = some 201 := by kernel_rfl
theorem ar108 : arrI Try.prog 108 = some 9 := by kernel_rfl
theorem ar116 : arrI Try.prog 116 = some 3 := by kernel_rfl
theorem bd106 : bldI Try.prog 106 = some ([.int .i64 0, .int .i64 0, .bool false], [(0, 1), (1, 1), (2, 1)]) := by kernel_rfl
theorem bd116 : bldI Try.prog 116 = some ([.int .i64 0, .int .i64 0, .int .i64 0], [(0, 1), (1, 1), (2, 1)]) := by kernel_rfl
theorem bd119 : bldI Try.prog 119 = some ([.int .i64 0, .int .i64 0], [(0, 1), (1, 1)]) := by kernel_rfl
theorem bd128 : bldI Try.prog 128 = some ([.nilSlice, .int .i64 0, .int .i64 0, .int .i64 0, .int .i64 0, .int .i64 0, .nilSlice, .int .i64 0, .int .i64 0, .int .i64 0, .int .i64 0, .int .i64 0], [(0, 1), (1, 11)]) := by kernel_rfl
theorem bd131 : bldI Try.prog 131 = some ([.int .i64 0, .int .i64 0, .int .i64 0, .int .i64 0], [(0, 4)]) := by kernel_rfl
theorem bd154 : bldI Try.prog 154 = some ([.int .i64 0, .int .i64 0], [(0, 1), (1, 1)]) := by kernel_rfl
theorem bd156 : bldI Try.prog 156 = some ([.nilSlice, .int .i64 0, .int .i64 0], [(0, 1), (1, 1), (2, 1)]) := by kernel_rfl
theorem bd25 : bldI Try.prog 25 = some ([.int .i64 0, .int .i64 0], [(0, 1), (1, 1)]) := by kernel_rfl
theorem bd28 : bldI Try.prog 28 = some ([.int .i64 0, .int .i64 0, .int .i64 0, .int .i64 0, .int .i64 0, .nilSlice, .int .i64 0, .int .i64 0, .int .i64 0, .int .i64 0, .int .i64 0], [(0, 2), (2, 2), (4, 1), (5, 1), (6, 2), (8, 2), (10, 1)]) := by kernel_rfl
theorem bd41 : bldI Try.prog 41 = some ([.int .i64 0, .int .i64 0, .int .i64 0, .int .i64 0], [(0, 1), (1, 1), (2, 1), (3, 1)]) := by kernel_rfl
theorem bd51 : bldI Try.prog 51 = some ([.int .i64 0, .int .i64 0, .int .i64 0, .int .i64 0], [(0, 2), (2, 2)]) := by kernel_rfl
theorem bd66 : bldI Try.prog 66 = some ([.int .i64 0, .int .i64 0, .int .i64 0, .int .i64 0, .int .i64 0, .int .i64 0], [(0, 2), (2, 2), (4, 2)]) := by kernel_rfl
theorem bd84 : bldI Try.prog 84 = some ([.int .i64 0, .int .i64 0], [(0, 1), (1, 1)]) := by kernel_rfl
theorem bd90 : bldI Try.prog 90 = some ([.int .i64 0, .int .i64 0, .int .i64 0, .int .i64 0, .int .i64 0, .nilSlice, .int .i64 0, .int .i64 0, .int .i64 0, .int .i64 0, .int .i64 0, .int .i64 0, .int .i64 0], [(0, 11), (11, 2)]) := by kernel_rfl
theorem by133 : byI Try.prog 133 = some 16 := by kernel_rfl
theorem by28 : byI Try.prog 28 = some 104 := by kernel_rfl
theorem by3 : byI Try.prog 3 = some 8 := by kernel_rfl
theorem by90 : byI Try.prog 90 = some 120 := by kernel_rfl
theorem con128 : conI Try.prog 128 = true := by kernel_rfl
theorem con131 : conI Try.prog 131 = true := by kernel_rfl
theorem eg25 : Try.prog.eqGuardType Try.prog.depth 25 = false := by kernel_rfl
theorem eg66 : Try.prog.eqGuardType Try.prog.depth 66 = false := by kernel_rfl
theorem el107 : elI Try.prog 107 = some 3 := by kernel_rfl
theorem el108 : elI Try.prog 108 = some 603 := by kernel_rfl
theorem el116 : elI Try.prog 116 = some 1 := by kernel_rfl
theorem el117 : elI Try.prog 117 = some 3 := by kernel_rfl
theorem el129 : elI Try.prog 129 = some 1 := by kernel_rfl
theorem el22 : elI Try.prog 22 = some 2 := by kernel_rfl
theorem el23 : elI Try.prog 23 = some 6 := by kernel_rfl
theorem el26 : elI Try.prog 26 = some 4 := by kernel_rfl
theorem el34 : elI Try.prog 34 = some 1 := by kernel_rfl
theorem el39 : elI Try.prog 39 = some 11 := by kernel_rfl
theorem el86 : elI Try.prog 86 = some 13 := by kernel_rfl
theorem eq25 : eqTy Try.prog 8 25 = some [.int .i64, .int .i64] := by kernel_rfl
theorem eq66 : eqTy Try.prog 8 66 = some [.int .i64, .int .i64, .int .i64, .int .i64, .int .i64, .int .i64] := by kernel_rfl
theorem fd106_0 : fldI Try.prog 106 0 = some 0 := by kernel_rfl
theorem fd106_1 : fldI Try.prog 106 1 = some 1 := by kernel_rfl
theorem fd106_2 : fldI Try.prog 106 2 = some 2 := by kernel_rfl
theorem fd119_0 : fldI Try.prog 119 0 = some 0 := by kernel_rfl
theorem fd119_1 : fldI Try.prog 119 1 = some 1 := by kernel_rfl
theorem fd128_0 : fldI Try.prog 128 0 = some 0 := by kernel_rfl
theorem fd128_1 : fldI Try.prog 128 1 = some 1 := by kernel_rfl
theorem fd131_0 : fldI Try.prog 131 0 = some 0 := by kernel_rfl
theorem fd154_0 : fldI Try.prog 154 0 = some 0 := by kernel_rfl
theorem fd154_1 : fldI Try.prog 154 1 = some 1 := by kernel_rfl
theorem fd156_0 : fldI Try.prog 156 0 = some 0 := by kernel_rfl
theorem fd156_1 : fldI Try.prog 156 1 = some 1 := by kernel_rfl
theorem fd156_2 : fldI Try.prog 156 2 = some 2 := by kernel_rfl
theorem fd25_0 : fldI Try.prog 25 0 = some 0 := by kernel_rfl
theorem fd25_1 : fldI Try.prog 25 1 = some 1 := by kernel_rfl
theorem fd28_0 : fldI Try.prog 28 0 = some 0 := by kernel_rfl
theorem fd28_1 : fldI Try.prog 28 1 = some 2 := by kernel_rfl
theorem fd28_2 : fldI Try.prog 28 2 = some 4 := by kernel_rfl
theorem fd28_3 : fldI Try.prog 28 3 = some 5 := by kernel_rfl
theorem fd28_4 : fldI Try.prog 28 4 = some 6 := by kernel_rfl
theorem fd28_5 : fldI Try.prog 28 5 = some 8 := by kernel_rfl
theorem fd28_6 : fldI Try.prog 28 6 = some 10 := by kernel_rfl
theorem fd41_0 : fldI Try.prog 41 0 = some 0 := by kernel_rfl
theorem fd41_1 : fldI Try.prog 41 1 = some 1 := by kernel_rfl
theorem fd41_2 : fldI Try.prog 41 2 = some 2 := by kernel_rfl
theorem fd41_3 : fldI Try.prog 41 3 = some 3 := by kernel_rfl
theorem fd51_0 : fldI Try.prog 51 0 = some 0 := by kernel_rfl
theorem fd51_1 : fldI Try.prog 51 1 = some 2 := by kernel_rfl
theorem fd66_0 : fldI Try.prog 66 0 = some 0 := by kernel_rfl
theorem fd66_1 : fldI Try.prog 66 1 = some 2 := by kernel_rfl
theorem fd66_2 : fldI Try.prog 66 2 = some 4 := by kernel_rfl
theorem fd84_0 : fldI Try.prog 84 0 = some 0 := by kernel_rfl
theorem fd84_1 : fldI Try.prog 84 1 = some 1 := by kernel_rfl
theorem fd90_0 : fldI Try.prog 90 0 = some 0 := by kernel_rfl
theorem fd90_1 : fldI Try.prog 90 1 = some 11 := by kernel_rfl
theorem rf15 : realFn Try.prog 15 = true := by kernel_rfl
theorem rf16 : realFn Try.prog 16 = true := by kernel_rfl
theorem rf17 : realFn Try.prog 17 = true := by kernel_rfl
theorem rf19 : realFn Try.prog 19 = true := by kernel_rfl
theorem rf20 : realFn Try.prog 20 = true := by kernel_rfl
theorem rf22 : realFn Try.prog 22 = true := by kernel_rfl
theorem rf24 : realFn Try.prog 24 = true := by kernel_rfl
theorem rf25 : realFn Try.prog 25 = true := by kernel_rfl
theorem rf26 : realFn Try.prog 26 = true := by kernel_rfl
theorem rf27 : realFn Try.prog 27 = true := by kernel_rfl
theorem rf28 : realFn Try.prog 28 = true := by kernel_rfl
theorem rf29 : realFn Try.prog 29 = true := by kernel_rfl
theorem rf33 : realFn Try.prog 33 = true := by kernel_rfl
theorem rf38 : realFn Try.prog 38 = true := by kernel_rfl
theorem rf39 : realFn Try.prog 39 = true := by kernel_rfl
theorem rf40 : realFn Try.prog 40 = true := by kernel_rfl
theorem rf41 : realFn Try.prog 41 = true := by kernel_rfl
theorem rf42 : realFn Try.prog 42 = true := by kernel_rfl
theorem rf43 : realFn Try.prog 43 = true := by kernel_rfl
theorem rf44 : realFn Try.prog 44 = true := by kernel_rfl
theorem rf45 : realFn Try.prog 45 = true := by kernel_rfl
theorem rf46 : realFn Try.prog 46 = true := by kernel_rfl
theorem rf47 : realFn Try.prog 47 = true := by kernel_rfl
theorem rf48 : realFn Try.prog 48 = true := by kernel_rfl
theorem rf49 : realFn Try.prog 49 = true := by kernel_rfl
theorem rf50 : realFn Try.prog 50 = true := by kernel_rfl
theorem rf52 : realFn Try.prog 52 = true := by kernel_rfl
theorem rf54 : realFn Try.prog 54 = true := by kernel_rfl
theorem rf55 : realFn Try.prog 55 = true := by kernel_rfl
theorem rf56 : realFn Try.prog 56 = true := by kernel_rfl
theorem rf57 : realFn Try.prog 57 = true := by kernel_rfl
theorem rf58 : realFn Try.prog 58 = true := by kernel_rfl
theorem rf59 : realFn Try.prog 59 = true := by kernel_rfl
theorem rf60 : realFn Try.prog 60 = true := by kernel_rfl
theorem rf62 : realFn Try.prog 62 = true := by kernel_rfl
theorem rf63 : realFn Try.prog 63 = true := by kernel_rfl
theorem rf66 : realFn Try.prog 66 = true := by kernel_rfl
theorem rf67 : realFn Try.prog 67 = true := by kernel_rfl
theorem rf68 : realFn Try.prog 68 = true := by kernel_rfl
theorem rf69 : realFn Try.prog 69 = true := by kernel_rfl
theorem rf70 : realFn Try.prog 70 = true := by kernel_rfl
theorem rf71 : realFn Try.prog 71 = true := by kernel_rfl
theorem rf72 : realFn Try.prog 72 = true := by kernel_rfl
theorem rf73 : realFn Try.prog 73 = true := by kernel_rfl
theorem rf74 : realFn Try.prog 74 = true := by kernel_rfl
theorem rf75 : realFn Try.prog 75 = true := by kernel_rfl
theorem rf76 : realFn Try.prog 76 = true := by kernel_rfl
theorem rf92 : realFn Try.prog 92 = true := by kernel_rfl
theorem rf93 : realFn Try.prog 93 = true := by kernel_rfl
theorem rf94 : realFn Try.prog 94 = true := by kernel_rfl
theorem rf95 : realFn Try.prog 95 = true := by kernel_rfl
theorem rf96 : realFn Try.prog 96 = true := by kernel_rfl
theorem rf97 : realFn Try.prog 97 = true := by kernel_rfl
theorem rf98 : realFn Try.prog 98 = true := by kernel_rfl
theorem sl117 : isSl Try.prog 117 = true := by kernel_rfl
theorem sl129 : isSl Try.prog 129 = true := by kernel_rfl
theorem sl22 : isSl Try.prog 22 = true := by kernel_rfl
theorem sl23 : isSl Try.prog 23 = true := by kernel_rfl
theorem sl26 : isSl Try.prog 26 = true := by kernel_rfl
theorem sl34 : isSl Try.prog 34 = true := by kernel_rfl
theorem sl39 : isSl Try.prog 39 = true := by kernel_rfl
theorem sl86 : isSl Try.prog 86 = true := by kernel_rfl
theorem slz117 : slI Try.prog 117 = some (116, [.int .i64 0, .int .i64 0, .int .i64 0]) := by kernel_rfl
theorem slz129 : slI Try.prog 129 = some (133, [.nilIface]) := by kernel_rfl
theorem slz22 : slI Try.prog 22 = some (84, [.int .i64 0, .int .i64 0]) := by kernel_rfl
theorem slz23 : slI Try.prog 23 = some (66, [.int .i64 0, .int .i64 0, .int .i64 0, .int .i64 0, .int .i64 0, .int .i64 0]) := by kernel_rfl
theorem slz26 : slI Try.prog 26 = some (51, [.int .i64 0, .int .i64 0, .int .i64 0, .int .i64 0]) := by kernel_rfl
theorem slz34 : slI Try.prog 34 = some (3, [.int .i64 0]) := by kernel_rfl
theorem slz39 : slI Try.prog 39 = some (28, [.int .i64 0, .int .i64 0, .int .i64 0, .int .i64 0, .int .i64 0, .nilSlice, .int .i64 0, .int .i64 0, .int .i64 0, .int .i64 0, .int .i64 0]) := by kernel_rfl
theorem slz86 : slI Try.prog 86 = some (90, [.int .i64 0, .int .i64 0, .int .i64 0, .int .i64 0, .int .i64 0, .nilSlice, .int .i64 0, .int .i64 0, .int .i64 0, .int .i64 0, .int .i64 0, .int .i64 0, .int .i64 0]) := by kernel_rfl
theorem ty104 : tyI Try.prog 104 = some (false, 1) := by kernel_rfl
theorem ty106 : tyI Try.prog 106 = some (true, 3) := by kernel_rfl
theorem ty109 : tyI Try.prog 109 = some (false, 1) := by kernel_rfl
theorem ty116 : tyI Try.prog 116 = some (true, 3) := by kernel_rfl
theorem ty119 : tyI Try.prog 119 = some (true, 2) := by kernel_rfl
theorem ty133 : tyI Try.prog 133 = some (false, 1) := by kernel_rfl
theorem ty154 : tyI Try.prog 154 = some (true, 2) := by kernel_rfl
theorem ty156 : tyI Try.prog 156 = some (true, 3) := by kernel_rfl
theorem ty22 : tyI Try.prog 22 = some (false, 1) := by kernel_rfl
theorem ty25 : tyI Try.prog 25 = some (true, 2) := by kernel_rfl
theorem ty26 : tyI Try.prog 26 = some (false, 1) := by kernel_rfl
theorem ty28 : tyI Try.prog 28 = some (true, 11) := by kernel_rfl
theorem ty3 : tyI Try.prog 3 = some (false, 1) := by kernel_rfl
theorem ty31 : tyI Try.prog 31 = some (false, 1) := by kernel_rfl
theorem ty34 : tyI Try.prog 34 = some (false, 1) := by kernel_rfl
theorem ty4 : tyI Try.prog 4 = some (false, 1) := by kernel_rfl
theorem ty41 : tyI Try.prog 41 = some (true, 4) := by kernel_rfl
theorem ty51 : tyI Try.prog 51 = some (true, 4) := by kernel_rfl
theorem ty66 : tyI Try.prog 66 = some (true, 6) := by kernel_rfl
theorem ty84 : tyI Try.prog 84 = some (true, 2) := by kernel_rfl
theorem ty86 : tyI Try.prog 86 = some (false, 1) := by kernel_rfl
theorem ty90 : tyI Try.prog 90 = some (true, 13) := by kernel_rfl
theorem un159 : Try.prog.underlying 159 = some (.int .u64) := by kernel_rfl
theorem un3 : Try.prog.underlying 3 = some (.int .i64) := by kernel_rfl
theorem zr104 : zeroI Try.prog 104 = some (.nilFunc) := by kernel_rfl
theorem zr109 : zeroI Try.prog 109 = some (.nilFunc) := by kernel_rfl
theorem zr116 : zeroI Try.prog 116 = some (.agg [.int .i64 0, .int .i64 0, .int .i64 0]) := by kernel_rfl
theorem zr119 : zeroI Try.prog 119 = some (.agg [.int .i64 0, .int .i64 0]) := by kernel_rfl
theorem zr154 : zeroI Try.prog 154 = some (.agg [.int .i64 0, .int .i64 0]) := by kernel_rfl
theorem zr25 : zeroI Try.prog 25 = some (.agg [.int .i64 0, .int .i64 0]) := by kernel_rfl
theorem zr28 : zeroI Try.prog 28 = some (.agg [.int .i64 0, .int .i64 0, .int .i64 0, .int .i64 0, .int .i64 0, .nilSlice, .int .i64 0, .int .i64 0, .int .i64 0, .int .i64 0, .int .i64 0]) := by kernel_rfl
theorem zr3 : zeroI Try.prog 3 = some (.int .i64 0) := by kernel_rfl
theorem zr31 : zeroI Try.prog 31 = some (.int .i64 0) := by kernel_rfl
theorem zr51 : zeroI Try.prog 51 = some (.agg [.int .i64 0, .int .i64 0, .int .i64 0, .int .i64 0]) := by kernel_rfl
theorem zr66 : zeroI Try.prog 66 = some (.agg [.int .i64 0, .int .i64 0, .int .i64 0, .int .i64 0, .int .i64 0, .int .i64 0]) := by kernel_rfl
theorem zr84 : zeroI Try.prog 84 = some (.agg [.int .i64 0, .int .i64 0]) := by kernel_rfl
theorem zr86 : zeroI Try.prog 86 = some (.nilSlice) := by kernel_rfl
theorem zr90 : zeroI Try.prog 90 = some (.agg [.int .i64 0, .int .i64 0, .int .i64 0, .int .i64 0, .int .i64 0, .nilSlice, .int .i64 0, .int .i64 0, .int .i64 0, .int .i64 0, .int .i64 0, .int .i64 0, .int .i64 0]) := by kernel_rfl
theorem mixed : Try.prog.follows .mixedOrders = true := by kernel_rfl
end Go.Proofs.Ythiapodcippnoaa
