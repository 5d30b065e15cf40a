/-
  Chapter 14: facts on types and functions, by the kernel.
-/
import Derived.Test.YtcmkdegeljjalaaGreatDoorProg
import Derived.Test.YtcmkdegeljjalaaGreatDoorFaE
import Derived.KernelRfl
section
set_option maxRecDepth 100000
namespace Go.Proofs.YtcmkdegeljjalaaGreatDoor
open Go.AF
theorem ar67 : arrI Tryz.prog 67 = some 3 := by kernel_rfl
theorem bd132 : bldI Tryz.prog 132 = some ([.int .i64 0], [(0, 1)]) := by kernel_rfl
theorem bd135 : bldI Tryz.prog 135 = some ([.str ⟨#[]⟩], [(0, 1)]) := by kernel_rfl
theorem bd44 : bldI Tryz.prog 44 = some ([.int .i64 0, .int .i64 0], [(0, 1), (1, 1)]) := by kernel_rfl
theorem bd46 : bldI Tryz.prog 46 = some ([.int .i64 0, .nilSlice, .int .i64 0, .int .i64 0, .int .i64 0, .int .i64 0], [(0, 1), (1, 1), (2, 2), (4, 2)]) := by kernel_rfl
theorem bd49 : bldI Tryz.prog 49 = some ([.int .i64 0, .nilSlice], [(0, 1), (1, 1)]) := by kernel_rfl
theorem bd63 : bldI Tryz.prog 63 = some ([.int .i64 0, .int .i64 0, .int .i64 0, .int .i64 0], [(0, 2), (2, 2)]) := by kernel_rfl
theorem bd67 : bldI Tryz.prog 67 = some ([.int .u8 0, .int .u8 0, .int .u8 0], [(0, 1), (1, 1), (2, 1)]) := by kernel_rfl
theorem bd75 : bldI Tryz.prog 75 = some ([.int .i64 0, .int .i64 0, .int .i64 0, .int .i64 0, .int .i64 0], [(0, 1), (1, 1), (2, 1), (3, 1), (4, 1)]) := by kernel_rfl
theorem bd84 : bldI Tryz.prog 84 = some ([.int .i64 0, .int .i64 0, .int .i64 0], [(0, 1), (1, 1), (2, 1)]) := by kernel_rfl
theorem bt56 : bytI Tryz.prog 56 = true := by kernel_rfl
theorem by3 : byI Tryz.prog 3 = some 8 := by kernel_rfl
theorem by46 : byI Tryz.prog 46 = some 64 := by kernel_rfl
theorem by49 : byI Tryz.prog 49 = some 32 := by kernel_rfl
theorem by5 : byI Tryz.prog 5 = some 1 := by kernel_rfl
theorem by63 : byI Tryz.prog 63 = some 32 := by kernel_rfl
theorem by75 : byI Tryz.prog 75 = some 40 := by kernel_rfl
theorem by84 : byI Tryz.prog 84 = some 24 := by kernel_rfl
theorem con132 : conI Tryz.prog 132 = true := by kernel_rfl
theorem con3 : conI Tryz.prog 3 = true := by kernel_rfl
theorem con44 : conI Tryz.prog 44 = true := by kernel_rfl
theorem con9 : conI Tryz.prog 9 = true := by kernel_rfl
theorem eg44 : Tryz.prog.eqGuardType Tryz.prog.depth 44 = false := by kernel_rfl
theorem eg63 : Tryz.prog.eqGuardType Tryz.prog.depth 63 = false := by kernel_rfl
theorem eg67 : Tryz.prog.eqGuardType Tryz.prog.depth 67 = false := by kernel_rfl
theorem eg75 : Tryz.prog.eqGuardType Tryz.prog.depth 75 = false := by kernel_rfl
theorem eg84 : Tryz.prog.eqGuardType Tryz.prog.depth 84 = false := by kernel_rfl
theorem el117 : elI Tryz.prog 117 = some 1 := by kernel_rfl
theorem el130 : elI Tryz.prog 130 = some 3 := by kernel_rfl
theorem el22 : elI Tryz.prog 22 = some 6 := by kernel_rfl
theorem el23 : elI Tryz.prog 23 = some 5 := by kernel_rfl
theorem el24 : elI Tryz.prog 24 = some 2 := by kernel_rfl
theorem el42 : elI Tryz.prog 42 = some 4 := by kernel_rfl
theorem el47 : elI Tryz.prog 47 = some 1 := by kernel_rfl
theorem el56 : elI Tryz.prog 56 = some 1 := by kernel_rfl
theorem el67 : elI Tryz.prog 67 = some 1 := by kernel_rfl
theorem eq44 : eqTy Tryz.prog 8 44 = some [.int .i64, .int .i64] := by kernel_rfl
theorem eq63 : eqTy Tryz.prog 8 63 = some [.int .i64, .int .i64, .int .i64, .int .i64] := by kernel_rfl
theorem eq67 : eqTy Tryz.prog 8 67 = some [.int .u8, .int .u8, .int .u8] := by kernel_rfl
theorem eq75 : eqTy Tryz.prog 8 75 = some [.int .i64, .int .i64, .int .i64, .int .i64, .int .i64] := by kernel_rfl
theorem eq84 : eqTy Tryz.prog 8 84 = some [.int .i64, .int .i64, .int .i64] := by kernel_rfl
theorem fd132_0 : fldI Tryz.prog 132 0 = some 0 := by kernel_rfl
theorem fd135_0 : fldI Tryz.prog 135 0 = some 0 := by kernel_rfl
theorem fd44_0 : fldI Tryz.prog 44 0 = some 0 := by kernel_rfl
theorem fd44_1 : fldI Tryz.prog 44 1 = some 1 := by kernel_rfl
theorem fd46_0 : fldI Tryz.prog 46 0 = some 0 := by kernel_rfl
theorem fd46_1 : fldI Tryz.prog 46 1 = some 1 := by kernel_rfl
theorem fd46_2 : fldI Tryz.prog 46 2 = some 2 := by kernel_rfl
theorem fd46_3 : fldI Tryz.prog 46 3 = some 4 := by kernel_rfl
theorem fd49_0 : fldI Tryz.prog 49 0 = some 0 := by kernel_rfl
theorem fd49_1 : fldI Tryz.prog 49 1 = some 1 := by kernel_rfl
theorem fd58_0 : fldI Tryz.prog 58 0 = some 0 := by kernel_rfl
theorem fd58_1 : fldI Tryz.prog 58 1 = some 1 := by kernel_rfl
theorem fd60_0 : fldI Tryz.prog 60 0 = some 0 := by kernel_rfl
theorem fd63_0 : fldI Tryz.prog 63 0 = some 0 := by kernel_rfl
theorem fd63_1 : fldI Tryz.prog 63 1 = some 2 := by kernel_rfl
theorem fd75_0 : fldI Tryz.prog 75 0 = some 0 := by kernel_rfl
theorem fd75_1 : fldI Tryz.prog 75 1 = some 1 := by kernel_rfl
theorem fd75_2 : fldI Tryz.prog 75 2 = some 2 := by kernel_rfl
theorem fd75_3 : fldI Tryz.prog 75 3 = some 3 := by kernel_rfl
theorem fd75_4 : fldI Tryz.prog 75 4 = some 4 := by kernel_rfl
theorem fd84_0 : fldI Tryz.prog 84 0 = some 0 := by kernel_rfl
theorem fd84_1 : fldI Tryz.prog 84 1 = some 1 := by kernel_rfl
theorem fd84_2 : fldI Tryz.prog 84 2 = some 2 := by kernel_rfl
theorem ifc20 : ifcI Tryz.prog 20 = true := by kernel_rfl
theorem pt55 : ptrI Tryz.prog 55 = some (58, 2) := by kernel_rfl
theorem rf100 : realFn Tryz.prog 100 = true := by kernel_rfl
theorem rf107 : realFn Tryz.prog 107 = true := by kernel_rfl
theorem rf11 : realFn Tryz.prog 11 = true := by kernel_rfl
theorem rf13 : realFn Tryz.prog 13 = true := by kernel_rfl
theorem rf15 : realFn Tryz.prog 15 = true := by kernel_rfl
theorem rf17 : realFn Tryz.prog 17 = true := by kernel_rfl
theorem rf19 : realFn Tryz.prog 19 = true := by kernel_rfl
theorem rf20 : realFn Tryz.prog 20 = true := by kernel_rfl
theorem rf21 : realFn Tryz.prog 21 = true := by kernel_rfl
theorem rf22 : realFn Tryz.prog 22 = true := by kernel_rfl
theorem rf23 : realFn Tryz.prog 23 = true := by kernel_rfl
theorem rf24 : realFn Tryz.prog 24 = true := by kernel_rfl
theorem rf25 : realFn Tryz.prog 25 = true := by kernel_rfl
theorem rf26 : realFn Tryz.prog 26 = true := by kernel_rfl
theorem rf27 : realFn Tryz.prog 27 = true := by kernel_rfl
theorem rf28 : realFn Tryz.prog 28 = true := by kernel_rfl
theorem rf31 : realFn Tryz.prog 31 = true := by kernel_rfl
theorem rf32 : realFn Tryz.prog 32 = true := by kernel_rfl
theorem rf33 : realFn Tryz.prog 33 = true := by kernel_rfl
theorem rf34 : realFn Tryz.prog 34 = true := by kernel_rfl
theorem rf35 : realFn Tryz.prog 35 = true := by kernel_rfl
theorem rf36 : realFn Tryz.prog 36 = true := by kernel_rfl
theorem rf40 : realFn Tryz.prog 40 = true := by kernel_rfl
theorem rf41 : realFn Tryz.prog 41 = true := by kernel_rfl
theorem rf45 : realFn Tryz.prog 45 = true := by kernel_rfl
theorem rf46 : realFn Tryz.prog 46 = true := by kernel_rfl
theorem rf47 : realFn Tryz.prog 47 = true := by kernel_rfl
theorem rf48 : realFn Tryz.prog 48 = true := by kernel_rfl
theorem rf53 : realFn Tryz.prog 53 = true := by kernel_rfl
theorem rf54 : realFn Tryz.prog 54 = true := by kernel_rfl
theorem rf56 : realFn Tryz.prog 56 = true := by kernel_rfl
theorem rf57 : realFn Tryz.prog 57 = true := by kernel_rfl
theorem rf58 : realFn Tryz.prog 58 = true := by kernel_rfl
theorem rf59 : realFn Tryz.prog 59 = true := by kernel_rfl
theorem rf61 : realFn Tryz.prog 61 = true := by kernel_rfl
theorem rf62 : realFn Tryz.prog 62 = true := by kernel_rfl
theorem rf63 : realFn Tryz.prog 63 = true := by kernel_rfl
theorem rf64 : realFn Tryz.prog 64 = true := by kernel_rfl
theorem rf65 : realFn Tryz.prog 65 = true := by kernel_rfl
theorem rf66 : realFn Tryz.prog 66 = true := by kernel_rfl
theorem rf67 : realFn Tryz.prog 67 = true := by kernel_rfl
theorem rf68 : realFn Tryz.prog 68 = true := by kernel_rfl
theorem rf69 : realFn Tryz.prog 69 = true := by kernel_rfl
theorem rf7 : realFn Tryz.prog 7 = true := by kernel_rfl
theorem rf70 : realFn Tryz.prog 70 = true := by kernel_rfl
theorem rf74 : realFn Tryz.prog 74 = true := by kernel_rfl
theorem rf75 : realFn Tryz.prog 75 = true := by kernel_rfl
theorem rf76 : realFn Tryz.prog 76 = true := by kernel_rfl
theorem rf77 : realFn Tryz.prog 77 = true := by kernel_rfl
theorem rf78 : realFn Tryz.prog 78 = true := by kernel_rfl
theorem rf79 : realFn Tryz.prog 79 = true := by kernel_rfl
theorem rf80 : realFn Tryz.prog 80 = true := by kernel_rfl
theorem rf81 : realFn Tryz.prog 81 = true := by kernel_rfl
theorem rf82 : realFn Tryz.prog 82 = true := by kernel_rfl
theorem rf83 : realFn Tryz.prog 83 = true := by kernel_rfl
theorem rf84 : realFn Tryz.prog 84 = true := by kernel_rfl
theorem rf85 : realFn Tryz.prog 85 = true := by kernel_rfl
theorem rf86 : realFn Tryz.prog 86 = true := by kernel_rfl
theorem rf87 : realFn Tryz.prog 87 = true := by kernel_rfl
theorem rf88 : realFn Tryz.prog 88 = true := by kernel_rfl
theorem rf89 : realFn Tryz.prog 89 = true := by kernel_rfl
theorem rf9 : realFn Tryz.prog 9 = true := by kernel_rfl
theorem rf90 : realFn Tryz.prog 90 = true := by kernel_rfl
theorem rf91 : realFn Tryz.prog 91 = true := by kernel_rfl
theorem rf92 : realFn Tryz.prog 92 = true := by kernel_rfl
theorem rf93 : realFn Tryz.prog 93 = true := by kernel_rfl
theorem rf94 : realFn Tryz.prog 94 = true := by kernel_rfl
theorem rf97 : realFn Tryz.prog 97 = true := by kernel_rfl
theorem rf98 : realFn Tryz.prog 98 = true := by kernel_rfl
theorem sl117 : isSl Tryz.prog 117 = true := by kernel_rfl
theorem sl130 : isSl Tryz.prog 130 = true := by kernel_rfl
theorem sl22 : isSl Tryz.prog 22 = true := by kernel_rfl
theorem sl23 : isSl Tryz.prog 23 = true := by kernel_rfl
theorem sl24 : isSl Tryz.prog 24 = true := by kernel_rfl
theorem sl42 : isSl Tryz.prog 42 = true := by kernel_rfl
theorem sl47 : isSl Tryz.prog 47 = true := by kernel_rfl
theorem sl56 : isSl Tryz.prog 56 = true := by kernel_rfl
theorem slz117 : slI Tryz.prog 117 = some (20, [.nilIface]) := by kernel_rfl
theorem slz130 : slI Tryz.prog 130 = some (84, [.int .i64 0, .int .i64 0, .int .i64 0]) := by kernel_rfl
theorem slz22 : slI Tryz.prog 22 = some (46, [.int .i64 0, .nilSlice, .int .i64 0, .int .i64 0, .int .i64 0, .int .i64 0]) := by kernel_rfl
theorem slz23 : slI Tryz.prog 23 = some (75, [.int .i64 0, .int .i64 0, .int .i64 0, .int .i64 0, .int .i64 0]) := by kernel_rfl
theorem slz24 : slI Tryz.prog 24 = some (49, [.int .i64 0, .nilSlice]) := by kernel_rfl
theorem slz42 : slI Tryz.prog 42 = some (63, [.int .i64 0, .int .i64 0, .int .i64 0, .int .i64 0]) := by kernel_rfl
theorem slz47 : slI Tryz.prog 47 = some (3, [.int .i64 0]) := by kernel_rfl
theorem slz56 : slI Tryz.prog 56 = some (5, [.int .u8 0]) := by kernel_rfl
theorem st9 : strI Tryz.prog 9 = true := by kernel_rfl
theorem ty111 : tyI Tryz.prog 111 = some (false, 1) := by kernel_rfl
theorem ty132 : tyI Tryz.prog 132 = some (true, 1) := by kernel_rfl
theorem ty20 : tyI Tryz.prog 20 = some (false, 1) := by kernel_rfl
theorem ty22 : tyI Tryz.prog 22 = some (false, 1) := by kernel_rfl
theorem ty23 : tyI Tryz.prog 23 = some (false, 1) := by kernel_rfl
theorem ty24 : tyI Tryz.prog 24 = some (false, 1) := by kernel_rfl
theorem ty27 : tyI Tryz.prog 27 = some (false, 1) := by kernel_rfl
theorem ty3 : tyI Tryz.prog 3 = some (false, 1) := by kernel_rfl
theorem ty42 : tyI Tryz.prog 42 = some (false, 1) := by kernel_rfl
theorem ty44 : tyI Tryz.prog 44 = some (true, 2) := by kernel_rfl
theorem ty46 : tyI Tryz.prog 46 = some (true, 6) := by kernel_rfl
theorem ty47 : tyI Tryz.prog 47 = some (false, 1) := by kernel_rfl
theorem ty49 : tyI Tryz.prog 49 = some (true, 2) := by kernel_rfl
theorem ty5 : tyI Tryz.prog 5 = some (false, 1) := by kernel_rfl
theorem ty55 : tyI Tryz.prog 55 = some (false, 1) := by kernel_rfl
theorem ty56 : tyI Tryz.prog 56 = some (false, 1) := by kernel_rfl
theorem ty63 : tyI Tryz.prog 63 = some (true, 4) := by kernel_rfl
theorem ty67 : tyI Tryz.prog 67 = some (true, 3) := by kernel_rfl
theorem ty75 : tyI Tryz.prog 75 = some (true, 5) := by kernel_rfl
theorem ty84 : tyI Tryz.prog 84 = some (true, 3) := by kernel_rfl
theorem ty9 : tyI Tryz.prog 9 = some (false, 1) := by kernel_rfl
theorem ub119_5 : ubI Tryz.prog 119 5 = true := by kernel_rfl
theorem un125 : Tryz.prog.underlying 125 = some (.int .u64) := by kernel_rfl
theorem un21 : Tryz.prog.underlying 21 = some (.int .i32) := by kernel_rfl
theorem un3 : Tryz.prog.underlying 3 = some (.int .i64) := by kernel_rfl
theorem un5 : Tryz.prog.underlying 5 = some (.int .u8) := by kernel_rfl
theorem un9 : Tryz.prog.underlying 9 = some .string := by kernel_rfl
theorem us142 : uspI Tryz.prog 142 = true := by kernel_rfl
theorem zr111 : zeroI Tryz.prog 111 = some (.nilFunc) := by kernel_rfl
theorem zr132 : zeroI Tryz.prog 132 = some (.agg [.int .i64 0]) := by kernel_rfl
theorem zr22 : zeroI Tryz.prog 22 = some (.nilSlice) := by kernel_rfl
theorem zr23 : zeroI Tryz.prog 23 = some (.nilSlice) := by kernel_rfl
theorem zr24 : zeroI Tryz.prog 24 = some (.nilSlice) := by kernel_rfl
theorem zr27 : zeroI Tryz.prog 27 = some (.int .i64 0) := by kernel_rfl
theorem zr3 : zeroI Tryz.prog 3 = some (.int .i64 0) := by kernel_rfl
theorem zr44 : zeroI Tryz.prog 44 = some (.agg [.int .i64 0, .int .i64 0]) := by kernel_rfl
theorem zr46 : zeroI Tryz.prog 46 = some (.agg [.int .i64 0, .nilSlice, .int .i64 0, .int .i64 0, .int .i64 0, .int .i64 0]) := by kernel_rfl
theorem zr49 : zeroI Tryz.prog 49 = some (.agg [.int .i64 0, .nilSlice]) := by kernel_rfl
theorem zr60 : zeroI Tryz.prog 60 = some (.agg [.nilPtr, .nilSlice]) := by kernel_rfl
theorem zr63 : zeroI Tryz.prog 63 = some (.agg [.int .i64 0, .int .i64 0, .int .i64 0, .int .i64 0]) := by kernel_rfl
theorem zr67 : zeroI Tryz.prog 67 = some (.agg [.int .u8 0, .int .u8 0, .int .u8 0]) := by kernel_rfl
theorem zr75 : zeroI Tryz.prog 75 = some (.agg [.int .i64 0, .int .i64 0, .int .i64 0, .int .i64 0, .int .i64 0]) := by kernel_rfl
theorem zr84 : zeroI Tryz.prog 84 = some (.agg [.int .i64 0, .int .i64 0, .int .i64 0]) := by kernel_rfl
theorem zr9 : zeroI Tryz.prog 9 = some (.str ⟨#[]⟩) := by kernel_rfl
theorem mixed : Tryz.prog.follows .mixedOrders = true := by kernel_rfl
end Go.Proofs.YtcmkdegeljjalaaGreatDoor
end
