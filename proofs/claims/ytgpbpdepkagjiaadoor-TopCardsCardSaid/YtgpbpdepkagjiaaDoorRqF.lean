/-
  Chapters 11 and 14: facts on types and functions, by the kernel.
-/
import Derived.Test.YtgpbpdepkagjiaaDoorProg
import Derived.Test.YtgpbpdepkagjiaaDoorFaE
import Derived.KernelRfl
section
set_option maxRecDepth 100000
namespace Go.Proofs.YtgpbpdepkagjiaaDoor
open Go.AF
theorem ar122 : arrI Tryd.prog 122 = some 24 := by kernel_rfl
theorem ar141 : arrI Tryd.prog 141 = some 32 := by kernel_rfl
theorem ar64 : arrI Tryd.prog 64 = some 3 := by kernel_rfl
theorem bd112 : bldI Tryd.prog 112 = some ([.int .i64 0], [(0, 1)]) := by kernel_rfl
theorem bd115 : bldI Tryd.prog 115 = some ([.str ⟨#[]⟩], [(0, 1)]) := by kernel_rfl
theorem bd28 : bldI Tryd.prog 28 = some ([.int .i64 0, .int .i64 0], [(0, 1), (1, 1)]) := by kernel_rfl
theorem bd30 : bldI Tryd.prog 30 = some ([.int .i64 0, .int .i64 0, .int .i64 0, .int .i64 0, .int .i64 0], [(0, 1), (1, 1), (2, 1), (3, 1), (4, 1)]) := by kernel_rfl
theorem bd39 : bldI Tryd.prog 39 = some ([.int .i64 0, .int .i64 0], [(0, 1), (1, 1)]) := by kernel_rfl
theorem bd49 : bldI Tryd.prog 49 = some ([.int .i64 0, .nilSlice], [(0, 1), (1, 1)]) := by kernel_rfl
theorem bd54 : bldI Tryd.prog 54 = some ([.int .i64 0, .nilSlice, .int .i64 0, .int .i64 0, .int .i64 0, .int .i64 0], [(0, 1), (1, 1), (2, 2), (4, 2)]) := by kernel_rfl
theorem bd64 : bldI Tryd.prog 64 = some ([.int .u8 0, .int .u8 0, .int .u8 0], [(0, 1), (1, 1), (2, 1)]) := by kernel_rfl
theorem bd96 : bldI Tryd.prog 96 = some ([.int .i64 0, .int .i64 0, .int .i64 0], [(0, 1), (1, 1), (2, 1)]) := by kernel_rfl
theorem bt42 : bytI Tryd.prog 42 = true := by kernel_rfl
theorem by28 : byI Tryd.prog 28 = some 16 := by kernel_rfl
theorem by30 : byI Tryd.prog 30 = some 40 := by kernel_rfl
theorem by5 : byI Tryd.prog 5 = some 1 := by kernel_rfl
theorem by96 : byI Tryd.prog 96 = some 24 := by kernel_rfl
theorem con103 : conI Tryd.prog 103 = true := by kernel_rfl
theorem con112 : conI Tryd.prog 112 = true := by kernel_rfl
theorem con3 : conI Tryd.prog 3 = true := by kernel_rfl
theorem con39 : conI Tryd.prog 39 = true := by kernel_rfl
theorem con84 : conI Tryd.prog 84 = true := by kernel_rfl
theorem con9 : conI Tryd.prog 9 = true := by kernel_rfl
theorem eg39 : Tryd.prog.eqGuardType Tryd.prog.depth 39 = false := by kernel_rfl
theorem eg64 : Tryd.prog.eqGuardType Tryd.prog.depth 64 = false := by kernel_rfl
theorem eg96 : Tryd.prog.eqGuardType Tryd.prog.depth 96 = false := by kernel_rfl
theorem el103 : elI Tryd.prog 103 = some 2 := by kernel_rfl
theorem el120 : elI Tryd.prog 120 = some 1 := by kernel_rfl
theorem el122 : elI Tryd.prog 122 = some 1 := by kernel_rfl
theorem el127 : elI Tryd.prog 127 = some 1 := by kernel_rfl
theorem el131 : elI Tryd.prog 131 = some 3 := by kernel_rfl
theorem el141 : elI Tryd.prog 141 = some 1 := by kernel_rfl
theorem el22 : elI Tryd.prog 22 = some 2 := by kernel_rfl
theorem el26 : elI Tryd.prog 26 = some 5 := by kernel_rfl
theorem el42 : elI Tryd.prog 42 = some 1 := by kernel_rfl
theorem el47 : elI Tryd.prog 47 = some 1 := by kernel_rfl
theorem el50 : elI Tryd.prog 50 = some 2 := by kernel_rfl
theorem el52 : elI Tryd.prog 52 = some 4 := by kernel_rfl
theorem el55 : elI Tryd.prog 55 = some 6 := by kernel_rfl
theorem el64 : elI Tryd.prog 64 = some 1 := by kernel_rfl
theorem eq39 : eqTy Tryd.prog 8 39 = some [.int .i64, .int .i64] := by kernel_rfl
theorem eq64 : eqTy Tryd.prog 8 64 = some [.int .u8, .int .u8, .int .u8] := by kernel_rfl
theorem eq96 : eqTy Tryd.prog 8 96 = some [.int .i64, .int .i64, .int .i64] := by kernel_rfl
theorem fd112_0 : fldI Tryd.prog 112 0 = some 0 := by kernel_rfl
theorem fd115_0 : fldI Tryd.prog 115 0 = some 0 := by kernel_rfl
theorem fd28_0 : fldI Tryd.prog 28 0 = some 0 := by kernel_rfl
theorem fd28_1 : fldI Tryd.prog 28 1 = some 1 := by kernel_rfl
theorem fd30_0 : fldI Tryd.prog 30 0 = some 0 := by kernel_rfl
theorem fd30_1 : fldI Tryd.prog 30 1 = some 1 := by kernel_rfl
theorem fd30_2 : fldI Tryd.prog 30 2 = some 2 := by kernel_rfl
theorem fd30_3 : fldI Tryd.prog 30 3 = some 3 := by kernel_rfl
theorem fd30_4 : fldI Tryd.prog 30 4 = some 4 := by kernel_rfl
theorem fd39_0 : fldI Tryd.prog 39 0 = some 0 := by kernel_rfl
theorem fd39_1 : fldI Tryd.prog 39 1 = some 1 := by kernel_rfl
theorem fd49_0 : fldI Tryd.prog 49 0 = some 0 := by kernel_rfl
theorem fd49_1 : fldI Tryd.prog 49 1 = some 1 := by kernel_rfl
theorem fd54_0 : fldI Tryd.prog 54 0 = some 0 := by kernel_rfl
theorem fd54_1 : fldI Tryd.prog 54 1 = some 1 := by kernel_rfl
theorem fd54_2 : fldI Tryd.prog 54 2 = some 2 := by kernel_rfl
theorem fd54_3 : fldI Tryd.prog 54 3 = some 4 := by kernel_rfl
theorem fd61_0 : fldI Tryd.prog 61 0 = some 0 := by kernel_rfl
theorem fd61_1 : fldI Tryd.prog 61 1 = some 1 := by kernel_rfl
theorem fd63_0 : fldI Tryd.prog 63 0 = some 0 := by kernel_rfl
theorem fd96_0 : fldI Tryd.prog 96 0 = some 0 := by kernel_rfl
theorem fd96_1 : fldI Tryd.prog 96 1 = some 1 := by kernel_rfl
theorem fd96_2 : fldI Tryd.prog 96 2 = some 2 := by kernel_rfl
theorem fd99_0 : fldI Tryd.prog 99 0 = some 0 := by kernel_rfl
theorem fd99_1 : fldI Tryd.prog 99 1 = some 2 := by kernel_rfl
theorem ifc20 : ifcI Tryd.prog 20 = true := by kernel_rfl
theorem mp84 : mapI Tryd.prog 84 = some (.int .i64, .int .u32 0) := by kernel_rfl
theorem pt59 : ptrI Tryd.prog 59 = some (61, 2) := by kernel_rfl
theorem rf10 : realFn Tryd.prog 10 = true := by kernel_rfl
theorem rf11 : realFn Tryd.prog 11 = true := by kernel_rfl
theorem rf12 : realFn Tryd.prog 12 = true := by kernel_rfl
theorem rf13 : realFn Tryd.prog 13 = true := by kernel_rfl
theorem rf14 : realFn Tryd.prog 14 = true := by kernel_rfl
theorem rf15 : realFn Tryd.prog 15 = true := by kernel_rfl
theorem rf16 : realFn Tryd.prog 16 = true := by kernel_rfl
theorem rf17 : realFn Tryd.prog 17 = true := by kernel_rfl
theorem rf18 : realFn Tryd.prog 18 = true := by kernel_rfl
theorem rf19 : realFn Tryd.prog 19 = true := by kernel_rfl
theorem rf20 : realFn Tryd.prog 20 = true := by kernel_rfl
theorem rf21 : realFn Tryd.prog 21 = true := by kernel_rfl
theorem rf22 : realFn Tryd.prog 22 = true := by kernel_rfl
theorem rf23 : realFn Tryd.prog 23 = true := by kernel_rfl
theorem rf24 : realFn Tryd.prog 24 = true := by kernel_rfl
theorem rf25 : realFn Tryd.prog 25 = true := by kernel_rfl
theorem rf26 : realFn Tryd.prog 26 = true := by kernel_rfl
theorem rf27 : realFn Tryd.prog 27 = true := by kernel_rfl
theorem rf28 : realFn Tryd.prog 28 = true := by kernel_rfl
theorem rf29 : realFn Tryd.prog 29 = true := by kernel_rfl
theorem rf30 : realFn Tryd.prog 30 = true := by kernel_rfl
theorem rf31 : realFn Tryd.prog 31 = true := by kernel_rfl
theorem rf32 : realFn Tryd.prog 32 = true := by kernel_rfl
theorem rf33 : realFn Tryd.prog 33 = true := by kernel_rfl
theorem rf34 : realFn Tryd.prog 34 = true := by kernel_rfl
theorem rf35 : realFn Tryd.prog 35 = true := by kernel_rfl
theorem rf36 : realFn Tryd.prog 36 = true := by kernel_rfl
theorem rf37 : realFn Tryd.prog 37 = true := by kernel_rfl
theorem rf38 : realFn Tryd.prog 38 = true := by kernel_rfl
theorem rf39 : realFn Tryd.prog 39 = true := by kernel_rfl
theorem rf4 : realFn Tryd.prog 4 = true := by kernel_rfl
theorem rf40 : realFn Tryd.prog 40 = true := by kernel_rfl
theorem rf41 : realFn Tryd.prog 41 = true := by kernel_rfl
theorem rf42 : realFn Tryd.prog 42 = true := by kernel_rfl
theorem rf43 : realFn Tryd.prog 43 = true := by kernel_rfl
theorem rf44 : realFn Tryd.prog 44 = true := by kernel_rfl
theorem rf45 : realFn Tryd.prog 45 = true := by kernel_rfl
theorem rf46 : realFn Tryd.prog 46 = true := by kernel_rfl
theorem rf47 : realFn Tryd.prog 47 = true := by kernel_rfl
theorem rf48 : realFn Tryd.prog 48 = true := by kernel_rfl
theorem rf49 : realFn Tryd.prog 49 = true := by kernel_rfl
theorem rf5 : realFn Tryd.prog 5 = true := by kernel_rfl
theorem rf50 : realFn Tryd.prog 50 = true := by kernel_rfl
theorem rf51 : realFn Tryd.prog 51 = true := by kernel_rfl
theorem rf52 : realFn Tryd.prog 52 = true := by kernel_rfl
theorem rf53 : realFn Tryd.prog 53 = true := by kernel_rfl
theorem rf54 : realFn Tryd.prog 54 = true := by kernel_rfl
theorem rf55 : realFn Tryd.prog 55 = true := by kernel_rfl
theorem rf56 : realFn Tryd.prog 56 = true := by kernel_rfl
theorem rf57 : realFn Tryd.prog 57 = true := by kernel_rfl
theorem rf58 : realFn Tryd.prog 58 = true := by kernel_rfl
theorem rf59 : realFn Tryd.prog 59 = true := by kernel_rfl
theorem rf6 : realFn Tryd.prog 6 = true := by kernel_rfl
theorem rf60 : realFn Tryd.prog 60 = true := by kernel_rfl
theorem rf61 : realFn Tryd.prog 61 = true := by kernel_rfl
theorem rf62 : realFn Tryd.prog 62 = true := by kernel_rfl
theorem rf63 : realFn Tryd.prog 63 = true := by kernel_rfl
theorem rf64 : realFn Tryd.prog 64 = true := by kernel_rfl
theorem rf66 : realFn Tryd.prog 66 = true := by kernel_rfl
theorem rf68 : realFn Tryd.prog 68 = true := by kernel_rfl
theorem rf7 : realFn Tryd.prog 7 = true := by kernel_rfl
theorem rf8 : realFn Tryd.prog 8 = true := by kernel_rfl
theorem rf9 : realFn Tryd.prog 9 = true := by kernel_rfl
theorem rf97 : realFn Tryd.prog 97 = true := by kernel_rfl
theorem rf98 : realFn Tryd.prog 98 = true := by kernel_rfl
theorem sl103 : isSl Tryd.prog 103 = true := by kernel_rfl
theorem sl120 : isSl Tryd.prog 120 = true := by kernel_rfl
theorem sl127 : isSl Tryd.prog 127 = true := by kernel_rfl
theorem sl131 : isSl Tryd.prog 131 = true := by kernel_rfl
theorem sl22 : isSl Tryd.prog 22 = true := by kernel_rfl
theorem sl26 : isSl Tryd.prog 26 = true := by kernel_rfl
theorem sl42 : isSl Tryd.prog 42 = true := by kernel_rfl
theorem sl47 : isSl Tryd.prog 47 = true := by kernel_rfl
theorem sl50 : isSl Tryd.prog 50 = true := by kernel_rfl
theorem sl52 : isSl Tryd.prog 52 = true := by kernel_rfl
theorem sl55 : isSl Tryd.prog 55 = true := by kernel_rfl
theorem slz120 : slI Tryd.prog 120 = some (80, [.int .u32 0]) := by kernel_rfl
theorem slz127 : slI Tryd.prog 127 = some (20, [.nilIface]) := by kernel_rfl
theorem slz131 : slI Tryd.prog 131 = some (96, [.int .i64 0, .int .i64 0, .int .i64 0]) := by kernel_rfl
theorem slz22 : slI Tryd.prog 22 = some (28, [.int .i64 0, .int .i64 0]) := by kernel_rfl
theorem slz26 : slI Tryd.prog 26 = some (30, [.int .i64 0, .int .i64 0, .int .i64 0, .int .i64 0, .int .i64 0]) := by kernel_rfl
theorem slz42 : slI Tryd.prog 42 = some (5, [.int .u8 0]) := by kernel_rfl
theorem slz47 : slI Tryd.prog 47 = some (3, [.int .i64 0]) := by kernel_rfl
theorem slz50 : slI Tryd.prog 50 = some (49, [.int .i64 0, .nilSlice]) := by kernel_rfl
theorem slz55 : slI Tryd.prog 55 = some (54, [.int .i64 0, .nilSlice, .int .i64 0, .int .i64 0, .int .i64 0, .int .i64 0]) := by kernel_rfl
theorem st9 : strI Tryd.prog 9 = true := by kernel_rfl
theorem ty102 : tyI Tryd.prog 102 = some (false, 1) := by kernel_rfl
theorem ty112 : tyI Tryd.prog 112 = some (true, 1) := by kernel_rfl
theorem ty133 : tyI Tryd.prog 133 = some (false, 1) := by kernel_rfl
theorem ty20 : tyI Tryd.prog 20 = some (false, 1) := by kernel_rfl
theorem ty22 : tyI Tryd.prog 22 = some (false, 1) := by kernel_rfl
theorem ty26 : tyI Tryd.prog 26 = some (false, 1) := by kernel_rfl
theorem ty28 : tyI Tryd.prog 28 = some (true, 2) := by kernel_rfl
theorem ty3 : tyI Tryd.prog 3 = some (false, 1) := by kernel_rfl
theorem ty30 : tyI Tryd.prog 30 = some (true, 5) := by kernel_rfl
theorem ty31 : tyI Tryd.prog 31 = some (false, 1) := by kernel_rfl
theorem ty39 : tyI Tryd.prog 39 = some (true, 2) := by kernel_rfl
theorem ty4 : tyI Tryd.prog 4 = some (false, 1) := by kernel_rfl
theorem ty42 : tyI Tryd.prog 42 = some (false, 1) := by kernel_rfl
theorem ty47 : tyI Tryd.prog 47 = some (false, 1) := by kernel_rfl
theorem ty49 : tyI Tryd.prog 49 = some (true, 2) := by kernel_rfl
theorem ty5 : tyI Tryd.prog 5 = some (false, 1) := by kernel_rfl
theorem ty52 : tyI Tryd.prog 52 = some (false, 1) := by kernel_rfl
theorem ty54 : tyI Tryd.prog 54 = some (true, 6) := by kernel_rfl
theorem ty59 : tyI Tryd.prog 59 = some (false, 1) := by kernel_rfl
theorem ty64 : tyI Tryd.prog 64 = some (true, 3) := by kernel_rfl
theorem ty71 : tyI Tryd.prog 71 = some (false, 1) := by kernel_rfl
theorem ty80 : tyI Tryd.prog 80 = some (false, 1) := by kernel_rfl
theorem ty84 : tyI Tryd.prog 84 = some (false, 1) := by kernel_rfl
theorem ty9 : tyI Tryd.prog 9 = some (false, 1) := by kernel_rfl
theorem ty96 : tyI Tryd.prog 96 = some (true, 3) := by kernel_rfl
theorem ty99 : tyI Tryd.prog 99 = some (true, 4) := by kernel_rfl
theorem ub110_5 : ubI Tryd.prog 110 5 = true := by kernel_rfl
theorem un23 : Tryd.prog.underlying 23 = some (.int .u16) := by kernel_rfl
theorem un3 : Tryd.prog.underlying 3 = some (.int .i64) := by kernel_rfl
theorem un5 : Tryd.prog.underlying 5 = some (.int .u8) := by kernel_rfl
theorem un80 : Tryd.prog.underlying 80 = some (.int .u32) := by kernel_rfl
theorem un9 : Tryd.prog.underlying 9 = some .string := by kernel_rfl
theorem us138 : uspI Tryd.prog 138 = true := by kernel_rfl
theorem zr112 : zeroI Tryd.prog 112 = some (.agg [.int .i64 0]) := by kernel_rfl
theorem zr122 : zeroI Tryd.prog 122 = some (.agg [.bool false, .bool false, .bool false, .bool false, .bool false, .bool false, .bool false, .bool false, .bool false, .bool false, .bool false, .bool false, .bool false, .bool false, .bool false, .bool false, .bool false, .bool false, .bool false, .bool false, .bool false, .bool false, .bool false, .bool false]) := by kernel_rfl
theorem zr133 : zeroI Tryd.prog 133 = some (.nilFunc) := by kernel_rfl
theorem zr26 : zeroI Tryd.prog 26 = some (.nilSlice) := by kernel_rfl
theorem zr28 : zeroI Tryd.prog 28 = some (.agg [.int .i64 0, .int .i64 0]) := by kernel_rfl
theorem zr3 : zeroI Tryd.prog 3 = some (.int .i64 0) := by kernel_rfl
theorem zr30 : zeroI Tryd.prog 30 = some (.agg [.int .i64 0, .int .i64 0, .int .i64 0, .int .i64 0, .int .i64 0]) := by kernel_rfl
theorem zr31 : zeroI Tryd.prog 31 = some (.int .i64 0) := by kernel_rfl
theorem zr39 : zeroI Tryd.prog 39 = some (.agg [.int .i64 0, .int .i64 0]) := by kernel_rfl
theorem zr4 : zeroI Tryd.prog 4 = some (.bool false) := by kernel_rfl
theorem zr49 : zeroI Tryd.prog 49 = some (.agg [.int .i64 0, .nilSlice]) := by kernel_rfl
theorem zr54 : zeroI Tryd.prog 54 = some (.agg [.int .i64 0, .nilSlice, .int .i64 0, .int .i64 0, .int .i64 0, .int .i64 0]) := by kernel_rfl
theorem zr63 : zeroI Tryd.prog 63 = some (.agg [.nilPtr, .nilSlice]) := by kernel_rfl
theorem zr64 : zeroI Tryd.prog 64 = some (.agg [.int .u8 0, .int .u8 0, .int .u8 0]) := by kernel_rfl
theorem zr71 : zeroI Tryd.prog 71 = some (.nilFunc) := by kernel_rfl
theorem zr80 : zeroI Tryd.prog 80 = some (.int .u32 0) := by kernel_rfl
theorem zr84 : zeroI Tryd.prog 84 = some (.nilMap) := by kernel_rfl
theorem zr9 : zeroI Tryd.prog 9 = some (.str ⟨#[]⟩) := by kernel_rfl
theorem zr96 : zeroI Tryd.prog 96 = some (.agg [.int .i64 0, .int .i64 0, .int .i64 0]) := by kernel_rfl
theorem zr99 : zeroI Tryd.prog 99 = some (.agg [.int .i64 0, .int .i64 0, .int .i64 0, .int .i64 0]) := by kernel_rfl
theorem mixed : Tryd.prog.follows .mixedOrders = true := by kernel_rfl
end Go.Proofs.YtgpbpdepkagjiaaDoor
end
