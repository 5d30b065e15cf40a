/-
  Chapter 14: facts on types and functions, by the kernel.
-/
import Derived.Test.YtplofbjppcbchaaDoorProg
import Derived.Test.YtplofbjppcbchaaDoorFaVE
import Derived.KernelRfl
section
set_option maxRecDepth 100000
namespace Go.Proofs.YtplofbjppcbchaaDoor
open Go.AF
theorem ar68 : arrI Tryd.prog 68 = some 3 := by kernel_rfl
theorem bd124 : bldI Tryd.prog 124 = some ([.int .i64 0], [(0, 1)]) := by kernel_rfl
theorem bd127 : bldI Tryd.prog 127 = some ([.str ⟨#[]⟩], [(0, 1)]) := by kernel_rfl
theorem bd31 : bldI Tryd.prog 31 = some ([.int .i64 0, .int .i64 0], [(0, 1), (1, 1)]) := by kernel_rfl
theorem bd33 : bldI Tryd.prog 33 = some ([.int .i64 0, .nilSlice, .int .i64 0, .int .i64 0, .int .i64 0, .int .i64 0], [(0, 1), (1, 1), (2, 2), (4, 2)]) := by kernel_rfl
theorem bd36 : bldI Tryd.prog 36 = some ([.int .i64 0, .nilSlice], [(0, 1), (1, 1)]) := by kernel_rfl
theorem bd65 : bldI Tryd.prog 65 = some ([.int .i64 0, .int .i64 0, .int .i64 0, .int .i64 0], [(0, 2), (2, 2)]) := by kernel_rfl
theorem bd68 : bldI Tryd.prog 68 = some ([.int .u8 0, .int .u8 0, .int .u8 0], [(0, 1), (1, 1), (2, 1)]) := by kernel_rfl
theorem bd76 : bldI Tryd.prog 76 = some ([.int .i64 0, .int .i64 0, .int .i64 0, .int .i64 0, .int .i64 0], [(0, 1), (1, 1), (2, 1), (3, 1), (4, 1)]) := by kernel_rfl
theorem bd84 : bldI Tryd.prog 84 = some ([.int .i64 0, .int .i64 0, .int .i64 0], [(0, 1), (1, 1), (2, 1)]) := by kernel_rfl
theorem bt58 : bytI Tryd.prog 58 = true := by kernel_rfl
theorem by3 : byI Tryd.prog 3 = some 8 := by kernel_rfl
theorem by33 : byI Tryd.prog 33 = some 64 := by kernel_rfl
theorem by36 : byI Tryd.prog 36 = some 32 := by kernel_rfl
theorem by5 : byI Tryd.prog 5 = some 1 := by kernel_rfl
theorem by65 : byI Tryd.prog 65 = some 32 := by kernel_rfl
theorem by76 : byI Tryd.prog 76 = some 40 := by kernel_rfl
theorem by84 : byI Tryd.prog 84 = some 24 := by kernel_rfl
theorem con124 : conI Tryd.prog 124 = true := by kernel_rfl
theorem con3 : conI Tryd.prog 3 = true := by kernel_rfl
theorem con31 : conI Tryd.prog 31 = true := by kernel_rfl
theorem con9 : conI Tryd.prog 9 = true := by kernel_rfl
theorem eg31 : Tryd.prog.eqGuardType Tryd.prog.depth 31 = false := by kernel_rfl
theorem eg65 : Tryd.prog.eqGuardType Tryd.prog.depth 65 = false := by kernel_rfl
theorem eg68 : Tryd.prog.eqGuardType Tryd.prog.depth 68 = false := by kernel_rfl
theorem eg76 : Tryd.prog.eqGuardType Tryd.prog.depth 76 = false := by kernel_rfl
theorem eg84 : Tryd.prog.eqGuardType Tryd.prog.depth 84 = false := by kernel_rfl
theorem el109 : elI Tryd.prog 109 = some 1 := by kernel_rfl
theorem el122 : elI Tryd.prog 122 = some 3 := by kernel_rfl
theorem el22 : elI Tryd.prog 22 = some 6 := by kernel_rfl
theorem el23 : elI Tryd.prog 23 = some 5 := by kernel_rfl
theorem el24 : elI Tryd.prog 24 = some 2 := by kernel_rfl
theorem el29 : elI Tryd.prog 29 = some 4 := by kernel_rfl
theorem el34 : elI Tryd.prog 34 = some 1 := by kernel_rfl
theorem el58 : elI Tryd.prog 58 = some 1 := by kernel_rfl
theorem el68 : elI Tryd.prog 68 = some 1 := by kernel_rfl
theorem eq31 : eqTy Tryd.prog 8 31 = some [.int .i64, .int .i64] := by kernel_rfl
theorem eq65 : eqTy Tryd.prog 8 65 = some [.int .i64, .int .i64, .int .i64, .int .i64] := by kernel_rfl
theorem eq68 : eqTy Tryd.prog 8 68 = some [.int .u8, .int .u8, .int .u8] := by kernel_rfl
theorem eq76 : eqTy Tryd.prog 8 76 = some [.int .i64, .int .i64, .int .i64, .int .i64, .int .i64] := by kernel_rfl
theorem eq84 : eqTy Tryd.prog 8 84 = some [.int .i64, .int .i64, .int .i64] := by kernel_rfl
theorem fd124_0 : fldI Tryd.prog 124 0 = some 0 := by kernel_rfl
theorem fd127_0 : fldI Tryd.prog 127 0 = some 0 := by kernel_rfl
theorem fd31_0 : fldI Tryd.prog 31 0 = some 0 := by kernel_rfl
theorem fd31_1 : fldI Tryd.prog 31 1 = some 1 := by kernel_rfl
theorem fd33_0 : fldI Tryd.prog 33 0 = some 0 := by kernel_rfl
theorem fd33_1 : fldI Tryd.prog 33 1 = some 1 := by kernel_rfl
theorem fd33_2 : fldI Tryd.prog 33 2 = some 2 := by kernel_rfl
theorem fd33_3 : fldI Tryd.prog 33 3 = some 4 := by kernel_rfl
theorem fd36_0 : fldI Tryd.prog 36 0 = some 0 := by kernel_rfl
theorem fd36_1 : fldI Tryd.prog 36 1 = some 1 := by kernel_rfl
theorem fd60_0 : fldI Tryd.prog 60 0 = some 0 := by kernel_rfl
theorem fd60_1 : fldI Tryd.prog 60 1 = some 1 := by kernel_rfl
theorem fd62_0 : fldI Tryd.prog 62 0 = some 0 := by kernel_rfl
theorem fd65_0 : fldI Tryd.prog 65 0 = some 0 := by kernel_rfl
theorem fd65_1 : fldI Tryd.prog 65 1 = some 2 := by kernel_rfl
theorem fd76_0 : fldI Tryd.prog 76 0 = some 0 := by kernel_rfl
theorem fd76_1 : fldI Tryd.prog 76 1 = some 1 := by kernel_rfl
theorem fd76_2 : fldI Tryd.prog 76 2 = some 2 := by kernel_rfl
theorem fd76_3 : fldI Tryd.prog 76 3 = some 3 := by kernel_rfl
theorem fd76_4 : fldI Tryd.prog 76 4 = some 4 := by kernel_rfl
theorem fd84_0 : fldI Tryd.prog 84 0 = some 0 := by kernel_rfl
theorem fd84_1 : fldI Tryd.prog 84 1 = some 1 := by kernel_rfl
theorem fd84_2 : fldI Tryd.prog 84 2 = some 2 := by kernel_rfl
theorem ifc20 : ifcI Tryd.prog 20 = true := by kernel_rfl
theorem pt57 : ptrI Tryd.prog 57 = some (60, 2) := by kernel_rfl
theorem rf11 : realFn Tryd.prog 11 = true := by kernel_rfl
theorem rf12 : realFn Tryd.prog 12 = true := by kernel_rfl
theorem rf13 : realFn Tryd.prog 13 = true := by kernel_rfl
theorem rf14 : realFn Tryd.prog 14 = true := by kernel_rfl
theorem rf15 : realFn Tryd.prog 15 = true := by kernel_rfl
theorem rf16 : realFn Tryd.prog 16 = true := by kernel_rfl
theorem rf17 : realFn Tryd.prog 17 = true := by kernel_rfl
theorem rf18 : realFn Tryd.prog 18 = true := by kernel_rfl
theorem rf19 : realFn Tryd.prog 19 = true := by kernel_rfl
theorem rf20 : realFn Tryd.prog 20 = true := by kernel_rfl
theorem rf21 : realFn Tryd.prog 21 = true := by kernel_rfl
theorem rf22 : realFn Tryd.prog 22 = true := by kernel_rfl
theorem rf23 : realFn Tryd.prog 23 = true := by kernel_rfl
theorem rf24 : realFn Tryd.prog 24 = true := by kernel_rfl
theorem rf25 : realFn Tryd.prog 25 = true := by kernel_rfl
theorem rf26 : realFn Tryd.prog 26 = true := by kernel_rfl
theorem rf27 : realFn Tryd.prog 27 = true := by kernel_rfl
theorem rf28 : realFn Tryd.prog 28 = true := by kernel_rfl
theorem rf29 : realFn Tryd.prog 29 = true := by kernel_rfl
theorem rf30 : realFn Tryd.prog 30 = true := by kernel_rfl
theorem rf31 : realFn Tryd.prog 31 = true := by kernel_rfl
theorem rf32 : realFn Tryd.prog 32 = true := by kernel_rfl
theorem rf33 : realFn Tryd.prog 33 = true := by kernel_rfl
theorem rf34 : realFn Tryd.prog 34 = true := by kernel_rfl
theorem rf38 : realFn Tryd.prog 38 = true := by kernel_rfl
theorem rf39 : realFn Tryd.prog 39 = true := by kernel_rfl
theorem rf40 : realFn Tryd.prog 40 = true := by kernel_rfl
theorem rf41 : realFn Tryd.prog 41 = true := by kernel_rfl
theorem rf42 : realFn Tryd.prog 42 = true := by kernel_rfl
theorem rf43 : realFn Tryd.prog 43 = true := by kernel_rfl
theorem rf44 : realFn Tryd.prog 44 = true := by kernel_rfl
theorem rf45 : realFn Tryd.prog 45 = true := by kernel_rfl
theorem rf46 : realFn Tryd.prog 46 = true := by kernel_rfl
theorem rf47 : realFn Tryd.prog 47 = true := by kernel_rfl
theorem rf48 : realFn Tryd.prog 48 = true := by kernel_rfl
theorem rf49 : realFn Tryd.prog 49 = true := by kernel_rfl
theorem rf50 : realFn Tryd.prog 50 = true := by kernel_rfl
theorem rf51 : realFn Tryd.prog 51 = true := by kernel_rfl
theorem rf52 : realFn Tryd.prog 52 = true := by kernel_rfl
theorem rf53 : realFn Tryd.prog 53 = true := by kernel_rfl
theorem rf54 : realFn Tryd.prog 54 = true := by kernel_rfl
theorem rf55 : realFn Tryd.prog 55 = true := by kernel_rfl
theorem rf56 : realFn Tryd.prog 56 = true := by kernel_rfl
theorem rf57 : realFn Tryd.prog 57 = true := by kernel_rfl
theorem rf58 : realFn Tryd.prog 58 = true := by kernel_rfl
theorem rf59 : realFn Tryd.prog 59 = true := by kernel_rfl
theorem rf6 : realFn Tryd.prog 6 = true := by kernel_rfl
theorem rf60 : realFn Tryd.prog 60 = true := by kernel_rfl
theorem rf61 : realFn Tryd.prog 61 = true := by kernel_rfl
theorem rf62 : realFn Tryd.prog 62 = true := by kernel_rfl
theorem rf63 : realFn Tryd.prog 63 = true := by kernel_rfl
theorem rf64 : realFn Tryd.prog 64 = true := by kernel_rfl
theorem rf65 : realFn Tryd.prog 65 = true := by kernel_rfl
theorem rf66 : realFn Tryd.prog 66 = true := by kernel_rfl
theorem rf67 : realFn Tryd.prog 67 = true := by kernel_rfl
theorem rf68 : realFn Tryd.prog 68 = true := by kernel_rfl
theorem rf7 : realFn Tryd.prog 7 = true := by kernel_rfl
theorem rf74 : realFn Tryd.prog 74 = true := by kernel_rfl
theorem rf75 : realFn Tryd.prog 75 = true := by kernel_rfl
theorem rf76 : realFn Tryd.prog 76 = true := by kernel_rfl
theorem rf77 : realFn Tryd.prog 77 = true := by kernel_rfl
theorem rf78 : realFn Tryd.prog 78 = true := by kernel_rfl
theorem rf79 : realFn Tryd.prog 79 = true := by kernel_rfl
theorem rf8 : realFn Tryd.prog 8 = true := by kernel_rfl
theorem rf82 : realFn Tryd.prog 82 = true := by kernel_rfl
theorem rf83 : realFn Tryd.prog 83 = true := by kernel_rfl
theorem rf86 : realFn Tryd.prog 86 = true := by kernel_rfl
theorem rf9 : realFn Tryd.prog 9 = true := by kernel_rfl
theorem rf93 : realFn Tryd.prog 93 = true := by kernel_rfl
theorem sl109 : isSl Tryd.prog 109 = true := by kernel_rfl
theorem sl122 : isSl Tryd.prog 122 = true := by kernel_rfl
theorem sl22 : isSl Tryd.prog 22 = true := by kernel_rfl
theorem sl23 : isSl Tryd.prog 23 = true := by kernel_rfl
theorem sl24 : isSl Tryd.prog 24 = true := by kernel_rfl
theorem sl29 : isSl Tryd.prog 29 = true := by kernel_rfl
theorem sl34 : isSl Tryd.prog 34 = true := by kernel_rfl
theorem sl58 : isSl Tryd.prog 58 = true := by kernel_rfl
theorem slz109 : slI Tryd.prog 109 = some (20, [.nilIface]) := by kernel_rfl
theorem slz122 : slI Tryd.prog 122 = some (84, [.int .i64 0, .int .i64 0, .int .i64 0]) := by kernel_rfl
theorem slz22 : slI Tryd.prog 22 = some (33, [.int .i64 0, .nilSlice, .int .i64 0, .int .i64 0, .int .i64 0, .int .i64 0]) := by kernel_rfl
theorem slz23 : slI Tryd.prog 23 = some (76, [.int .i64 0, .int .i64 0, .int .i64 0, .int .i64 0, .int .i64 0]) := by kernel_rfl
theorem slz24 : slI Tryd.prog 24 = some (36, [.int .i64 0, .nilSlice]) := by kernel_rfl
theorem slz29 : slI Tryd.prog 29 = some (65, [.int .i64 0, .int .i64 0, .int .i64 0, .int .i64 0]) := by kernel_rfl
theorem slz34 : slI Tryd.prog 34 = some (3, [.int .i64 0]) := by kernel_rfl
theorem slz58 : slI Tryd.prog 58 = some (5, [.int .u8 0]) := by kernel_rfl
theorem st9 : strI Tryd.prog 9 = true := by kernel_rfl
theorem ty103 : tyI Tryd.prog 103 = some (false, 1) := by kernel_rfl
theorem ty124 : tyI Tryd.prog 124 = some (true, 1) := by kernel_rfl
theorem ty20 : tyI Tryd.prog 20 = some (false, 1) := by kernel_rfl
theorem ty22 : tyI Tryd.prog 22 = some (false, 1) := by kernel_rfl
theorem ty23 : tyI Tryd.prog 23 = some (false, 1) := by kernel_rfl
theorem ty24 : tyI Tryd.prog 24 = some (false, 1) := by kernel_rfl
theorem ty29 : tyI Tryd.prog 29 = some (false, 1) := by kernel_rfl
theorem ty3 : tyI Tryd.prog 3 = some (false, 1) := by kernel_rfl
theorem ty31 : tyI Tryd.prog 31 = some (true, 2) := by kernel_rfl
theorem ty33 : tyI Tryd.prog 33 = some (true, 6) := by kernel_rfl
theorem ty34 : tyI Tryd.prog 34 = some (false, 1) := by kernel_rfl
theorem ty36 : tyI Tryd.prog 36 = some (true, 2) := by kernel_rfl
theorem ty37 : tyI Tryd.prog 37 = some (false, 1) := by kernel_rfl
theorem ty5 : tyI Tryd.prog 5 = some (false, 1) := by kernel_rfl
theorem ty57 : tyI Tryd.prog 57 = some (false, 1) := by kernel_rfl
theorem ty58 : tyI Tryd.prog 58 = some (false, 1) := by kernel_rfl
theorem ty65 : tyI Tryd.prog 65 = some (true, 4) := by kernel_rfl
theorem ty68 : tyI Tryd.prog 68 = some (true, 3) := by kernel_rfl
theorem ty76 : tyI Tryd.prog 76 = some (true, 5) := by kernel_rfl
theorem ty84 : tyI Tryd.prog 84 = some (true, 3) := by kernel_rfl
theorem ty9 : tyI Tryd.prog 9 = some (false, 1) := by kernel_rfl
theorem ub112_5 : ubI Tryd.prog 112 5 = true := by kernel_rfl
theorem un117 : Tryd.prog.underlying 117 = some (.int .u64) := by kernel_rfl
theorem un21 : Tryd.prog.underlying 21 = some (.int .i32) := by kernel_rfl
theorem un3 : Tryd.prog.underlying 3 = some (.int .i64) := by kernel_rfl
theorem un5 : Tryd.prog.underlying 5 = some (.int .u8) := by kernel_rfl
theorem un9 : Tryd.prog.underlying 9 = some .string := by kernel_rfl
theorem us140 : uspI Tryd.prog 140 = true := by kernel_rfl
theorem zr103 : zeroI Tryd.prog 103 = some (.nilFunc) := by kernel_rfl
theorem zr124 : zeroI Tryd.prog 124 = some (.agg [.int .i64 0]) := by kernel_rfl
theorem zr22 : zeroI Tryd.prog 22 = some (.nilSlice) := by kernel_rfl
theorem zr23 : zeroI Tryd.prog 23 = some (.nilSlice) := by kernel_rfl
theorem zr24 : zeroI Tryd.prog 24 = some (.nilSlice) := by kernel_rfl
theorem zr3 : zeroI Tryd.prog 3 = some (.int .i64 0) := by kernel_rfl
theorem zr31 : zeroI Tryd.prog 31 = some (.agg [.int .i64 0, .int .i64 0]) := by kernel_rfl
theorem zr33 : zeroI Tryd.prog 33 = some (.agg [.int .i64 0, .nilSlice, .int .i64 0, .int .i64 0, .int .i64 0, .int .i64 0]) := by kernel_rfl
theorem zr36 : zeroI Tryd.prog 36 = some (.agg [.int .i64 0, .nilSlice]) := by kernel_rfl
theorem zr37 : zeroI Tryd.prog 37 = some (.int .i64 0) := by kernel_rfl
theorem zr62 : zeroI Tryd.prog 62 = some (.agg [.nilPtr, .nilSlice]) := by kernel_rfl
theorem zr65 : zeroI Tryd.prog 65 = some (.agg [.int .i64 0, .int .i64 0, .int .i64 0, .int .i64 0]) := by kernel_rfl
theorem zr68 : zeroI Tryd.prog 68 = some (.agg [.int .u8 0, .int .u8 0, .int .u8 0]) := by kernel_rfl
theorem zr76 : zeroI Tryd.prog 76 = some (.agg [.int .i64 0, .int .i64 0, .int .i64 0, .int .i64 0, .int .i64 0]) := by kernel_rfl
theorem zr84 : zeroI Tryd.prog 84 = some (.agg [.int .i64 0, .int .i64 0, .int .i64 0]) := by kernel_rfl
theorem zr9 : zeroI Tryd.prog 9 = some (.str ⟨#[]⟩) := by kernel_rfl
theorem mixed : Tryd.prog.follows .mixedOrders = true := by kernel_rfl
end Go.Proofs.YtplofbjppcbchaaDoor
end
