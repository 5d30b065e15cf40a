/-
  Chapter 14: facts on types and functions, by the kernel.
-/
import Derived.Test.YtambmifhidallaaGreatDoorProg
import Derived.Test.YtambmifhidallaaGreatDoorFaE
import Derived.KernelRfl
section
set_option maxRecDepth 100000
namespace Go.Proofs.YtambmifhidallaaGreatDoor
open Go.AF
theorem ar113 : arrI Tryz.prog 113 = some 3 := by kernel_rfl
theorem bd100 : bldI Tryz.prog 100 = some ([.int .i64 0], [(0, 1)]) := by kernel_rfl
theorem bd103 : bldI Tryz.prog 103 = some ([.str ⟨#[]⟩], [(0, 1)]) := by kernel_rfl
theorem bd113 : bldI Tryz.prog 113 = some ([.int .u8 0, .int .u8 0, .int .u8 0], [(0, 1), (1, 1), (2, 1)]) := by kernel_rfl
theorem bd38 : bldI Tryz.prog 38 = some ([.int .i64 0, .int .i64 0], [(0, 1), (1, 1)]) := by kernel_rfl
theorem bd40 : bldI Tryz.prog 40 = some ([.int .i64 0, .nilSlice, .int .i64 0, .int .i64 0, .int .i64 0, .int .i64 0], [(0, 1), (1, 1), (2, 2), (4, 2)]) := by kernel_rfl
theorem bd46 : bldI Tryz.prog 46 = some ([.int .i64 0, .nilSlice], [(0, 1), (1, 1)]) := by kernel_rfl
theorem bd59 : bldI Tryz.prog 59 = some ([.int .i64 0, .int .i64 0, .int .i64 0, .int .i64 0, .int .i64 0], [(0, 1), (1, 1), (2, 1), (3, 1), (4, 1)]) := by kernel_rfl
theorem bd90 : bldI Tryz.prog 90 = some ([.int .i64 0, .int .i64 0, .int .i64 0, .int .i64 0], [(0, 2), (2, 2)]) := by kernel_rfl
theorem bd97 : bldI Tryz.prog 97 = some ([.int .i64 0, .int .i64 0, .int .i64 0], [(0, 1), (1, 1), (2, 1)]) := by kernel_rfl
theorem bt65 : bytI Tryz.prog 65 = true := by kernel_rfl
theorem by3 : byI Tryz.prog 3 = some 8 := by kernel_rfl
theorem by40 : byI Tryz.prog 40 = some 64 := by kernel_rfl
theorem by46 : byI Tryz.prog 46 = some 32 := by kernel_rfl
theorem by5 : byI Tryz.prog 5 = some 1 := by kernel_rfl
theorem by59 : byI Tryz.prog 59 = some 40 := by kernel_rfl
theorem by90 : byI Tryz.prog 90 = some 32 := by kernel_rfl
theorem by97 : byI Tryz.prog 97 = some 24 := by kernel_rfl
theorem con100 : conI Tryz.prog 100 = true := by kernel_rfl
theorem con3 : conI Tryz.prog 3 = true := by kernel_rfl
theorem con38 : conI Tryz.prog 38 = true := by kernel_rfl
theorem con9 : conI Tryz.prog 9 = true := by kernel_rfl
theorem eg113 : Tryz.prog.eqGuardType Tryz.prog.depth 113 = false := by kernel_rfl
theorem eg38 : Tryz.prog.eqGuardType Tryz.prog.depth 38 = false := by kernel_rfl
theorem eg59 : Tryz.prog.eqGuardType Tryz.prog.depth 59 = false := by kernel_rfl
theorem eg90 : Tryz.prog.eqGuardType Tryz.prog.depth 90 = false := by kernel_rfl
theorem eg97 : Tryz.prog.eqGuardType Tryz.prog.depth 97 = false := by kernel_rfl
theorem el113 : elI Tryz.prog 113 = some 1 := by kernel_rfl
theorem el134 : elI Tryz.prog 134 = some 1 := by kernel_rfl
theorem el137 : elI Tryz.prog 137 = some 3 := by kernel_rfl
theorem el23 : elI Tryz.prog 23 = some 2 := by kernel_rfl
theorem el27 : elI Tryz.prog 27 = some 5 := by kernel_rfl
theorem el32 : elI Tryz.prog 32 = some 6 := by kernel_rfl
theorem el36 : elI Tryz.prog 36 = some 4 := by kernel_rfl
theorem el44 : elI Tryz.prog 44 = some 1 := by kernel_rfl
theorem el65 : elI Tryz.prog 65 = some 1 := by kernel_rfl
theorem eq113 : eqTy Tryz.prog 8 113 = some [.int .u8, .int .u8, .int .u8] := by kernel_rfl
theorem eq38 : eqTy Tryz.prog 8 38 = some [.int .i64, .int .i64] := by kernel_rfl
theorem eq59 : eqTy Tryz.prog 8 59 = some [.int .i64, .int .i64, .int .i64, .int .i64, .int .i64] := by kernel_rfl
theorem eq90 : eqTy Tryz.prog 8 90 = some [.int .i64, .int .i64, .int .i64, .int .i64] := by kernel_rfl
theorem eq97 : eqTy Tryz.prog 8 97 = some [.int .i64, .int .i64, .int .i64] := by kernel_rfl
theorem fd100_0 : fldI Tryz.prog 100 0 = some 0 := by kernel_rfl
theorem fd103_0 : fldI Tryz.prog 103 0 = some 0 := by kernel_rfl
theorem fd38_0 : fldI Tryz.prog 38 0 = some 0 := by kernel_rfl
theorem fd38_1 : fldI Tryz.prog 38 1 = some 1 := by kernel_rfl
theorem fd40_0 : fldI Tryz.prog 40 0 = some 0 := by kernel_rfl
theorem fd40_1 : fldI Tryz.prog 40 1 = some 1 := by kernel_rfl
theorem fd40_2 : fldI Tryz.prog 40 2 = some 2 := by kernel_rfl
theorem fd40_3 : fldI Tryz.prog 40 3 = some 4 := by kernel_rfl
theorem fd46_0 : fldI Tryz.prog 46 0 = some 0 := by kernel_rfl
theorem fd46_1 : fldI Tryz.prog 46 1 = some 1 := by kernel_rfl
theorem fd59_0 : fldI Tryz.prog 59 0 = some 0 := by kernel_rfl
theorem fd59_1 : fldI Tryz.prog 59 1 = some 1 := by kernel_rfl
theorem fd59_2 : fldI Tryz.prog 59 2 = some 2 := by kernel_rfl
theorem fd59_3 : fldI Tryz.prog 59 3 = some 3 := by kernel_rfl
theorem fd59_4 : fldI Tryz.prog 59 4 = some 4 := by kernel_rfl
theorem fd67_0 : fldI Tryz.prog 67 0 = some 0 := by kernel_rfl
theorem fd67_1 : fldI Tryz.prog 67 1 = some 1 := by kernel_rfl
theorem fd87_0 : fldI Tryz.prog 87 0 = some 0 := by kernel_rfl
theorem fd90_0 : fldI Tryz.prog 90 0 = some 0 := by kernel_rfl
theorem fd90_1 : fldI Tryz.prog 90 1 = some 2 := by kernel_rfl
theorem fd97_0 : fldI Tryz.prog 97 0 = some 0 := by kernel_rfl
theorem fd97_1 : fldI Tryz.prog 97 1 = some 1 := by kernel_rfl
theorem fd97_2 : fldI Tryz.prog 97 2 = some 2 := by kernel_rfl
theorem ifc20 : ifcI Tryz.prog 20 = true := by kernel_rfl
theorem pt64 : ptrI Tryz.prog 64 = some (67, 2) := by kernel_rfl
theorem rf10 : realFn Tryz.prog 10 = true := by kernel_rfl
theorem rf103 : realFn Tryz.prog 103 = true := by kernel_rfl
theorem rf12 : realFn Tryz.prog 12 = true := by kernel_rfl
theorem rf16 : realFn Tryz.prog 16 = true := by kernel_rfl
theorem rf17 : realFn Tryz.prog 17 = true := by kernel_rfl
theorem rf18 : realFn Tryz.prog 18 = true := by kernel_rfl
theorem rf19 : realFn Tryz.prog 19 = true := by kernel_rfl
theorem rf20 : realFn Tryz.prog 20 = true := by kernel_rfl
theorem rf21 : realFn Tryz.prog 21 = true := by kernel_rfl
theorem rf22 : realFn Tryz.prog 22 = true := by kernel_rfl
theorem rf23 : realFn Tryz.prog 23 = true := by kernel_rfl
theorem rf24 : realFn Tryz.prog 24 = true := by kernel_rfl
theorem rf27 : realFn Tryz.prog 27 = true := by kernel_rfl
theorem rf29 : realFn Tryz.prog 29 = true := by kernel_rfl
theorem rf30 : realFn Tryz.prog 30 = true := by kernel_rfl
theorem rf31 : realFn Tryz.prog 31 = true := by kernel_rfl
theorem rf32 : realFn Tryz.prog 32 = true := by kernel_rfl
theorem rf33 : realFn Tryz.prog 33 = true := by kernel_rfl
theorem rf34 : realFn Tryz.prog 34 = true := by kernel_rfl
theorem rf35 : realFn Tryz.prog 35 = true := by kernel_rfl
theorem rf36 : realFn Tryz.prog 36 = true := by kernel_rfl
theorem rf37 : realFn Tryz.prog 37 = true := by kernel_rfl
theorem rf38 : realFn Tryz.prog 38 = true := by kernel_rfl
theorem rf39 : realFn Tryz.prog 39 = true := by kernel_rfl
theorem rf40 : realFn Tryz.prog 40 = true := by kernel_rfl
theorem rf43 : realFn Tryz.prog 43 = true := by kernel_rfl
theorem rf46 : realFn Tryz.prog 46 = true := by kernel_rfl
theorem rf47 : realFn Tryz.prog 47 = true := by kernel_rfl
theorem rf48 : realFn Tryz.prog 48 = true := by kernel_rfl
theorem rf49 : realFn Tryz.prog 49 = true := by kernel_rfl
theorem rf5 : realFn Tryz.prog 5 = true := by kernel_rfl
theorem rf50 : realFn Tryz.prog 50 = true := by kernel_rfl
theorem rf51 : realFn Tryz.prog 51 = true := by kernel_rfl
theorem rf52 : realFn Tryz.prog 52 = true := by kernel_rfl
theorem rf53 : realFn Tryz.prog 53 = true := by kernel_rfl
theorem rf54 : realFn Tryz.prog 54 = true := by kernel_rfl
theorem rf55 : realFn Tryz.prog 55 = true := by kernel_rfl
theorem rf56 : realFn Tryz.prog 56 = true := by kernel_rfl
theorem rf57 : realFn Tryz.prog 57 = true := by kernel_rfl
theorem rf58 : realFn Tryz.prog 58 = true := by kernel_rfl
theorem rf59 : realFn Tryz.prog 59 = true := by kernel_rfl
theorem rf6 : realFn Tryz.prog 6 = true := by kernel_rfl
theorem rf60 : realFn Tryz.prog 60 = true := by kernel_rfl
theorem rf61 : realFn Tryz.prog 61 = true := by kernel_rfl
theorem rf62 : realFn Tryz.prog 62 = true := by kernel_rfl
theorem rf63 : realFn Tryz.prog 63 = true := by kernel_rfl
theorem rf67 : realFn Tryz.prog 67 = true := by kernel_rfl
theorem rf68 : realFn Tryz.prog 68 = true := by kernel_rfl
theorem rf69 : realFn Tryz.prog 69 = true := by kernel_rfl
theorem rf70 : realFn Tryz.prog 70 = true := by kernel_rfl
theorem rf71 : realFn Tryz.prog 71 = true := by kernel_rfl
theorem rf72 : realFn Tryz.prog 72 = true := by kernel_rfl
theorem rf73 : realFn Tryz.prog 73 = true := by kernel_rfl
theorem rf74 : realFn Tryz.prog 74 = true := by kernel_rfl
theorem rf75 : realFn Tryz.prog 75 = true := by kernel_rfl
theorem rf76 : realFn Tryz.prog 76 = true := by kernel_rfl
theorem rf77 : realFn Tryz.prog 77 = true := by kernel_rfl
theorem rf78 : realFn Tryz.prog 78 = true := by kernel_rfl
theorem rf79 : realFn Tryz.prog 79 = true := by kernel_rfl
theorem rf80 : realFn Tryz.prog 80 = true := by kernel_rfl
theorem rf81 : realFn Tryz.prog 81 = true := by kernel_rfl
theorem rf82 : realFn Tryz.prog 82 = true := by kernel_rfl
theorem rf83 : realFn Tryz.prog 83 = true := by kernel_rfl
theorem rf85 : realFn Tryz.prog 85 = true := by kernel_rfl
theorem rf86 : realFn Tryz.prog 86 = true := by kernel_rfl
theorem rf93 : realFn Tryz.prog 93 = true := by kernel_rfl
theorem rf94 : realFn Tryz.prog 94 = true := by kernel_rfl
theorem rf95 : realFn Tryz.prog 95 = true := by kernel_rfl
theorem rf97 : realFn Tryz.prog 97 = true := by kernel_rfl
theorem sl134 : isSl Tryz.prog 134 = true := by kernel_rfl
theorem sl137 : isSl Tryz.prog 137 = true := by kernel_rfl
theorem sl23 : isSl Tryz.prog 23 = true := by kernel_rfl
theorem sl27 : isSl Tryz.prog 27 = true := by kernel_rfl
theorem sl32 : isSl Tryz.prog 32 = true := by kernel_rfl
theorem sl36 : isSl Tryz.prog 36 = true := by kernel_rfl
theorem sl44 : isSl Tryz.prog 44 = true := by kernel_rfl
theorem sl65 : isSl Tryz.prog 65 = true := by kernel_rfl
theorem slz134 : slI Tryz.prog 134 = some (20, [.nilIface]) := by kernel_rfl
theorem slz137 : slI Tryz.prog 137 = some (97, [.int .i64 0, .int .i64 0, .int .i64 0]) := by kernel_rfl
theorem slz23 : slI Tryz.prog 23 = some (46, [.int .i64 0, .nilSlice]) := by kernel_rfl
theorem slz27 : slI Tryz.prog 27 = some (59, [.int .i64 0, .int .i64 0, .int .i64 0, .int .i64 0, .int .i64 0]) := by kernel_rfl
theorem slz32 : slI Tryz.prog 32 = some (40, [.int .i64 0, .nilSlice, .int .i64 0, .int .i64 0, .int .i64 0, .int .i64 0]) := by kernel_rfl
theorem slz36 : slI Tryz.prog 36 = some (90, [.int .i64 0, .int .i64 0, .int .i64 0, .int .i64 0]) := by kernel_rfl
theorem slz44 : slI Tryz.prog 44 = some (3, [.int .i64 0]) := by kernel_rfl
theorem slz65 : slI Tryz.prog 65 = some (5, [.int .u8 0]) := by kernel_rfl
theorem st9 : strI Tryz.prog 9 = true := by kernel_rfl
theorem ty100 : tyI Tryz.prog 100 = some (true, 1) := by kernel_rfl
theorem ty113 : tyI Tryz.prog 113 = some (true, 3) := by kernel_rfl
theorem ty128 : tyI Tryz.prog 128 = some (false, 1) := by kernel_rfl
theorem ty20 : tyI Tryz.prog 20 = some (false, 1) := by kernel_rfl
theorem ty23 : tyI Tryz.prog 23 = some (false, 1) := by kernel_rfl
theorem ty24 : tyI Tryz.prog 24 = some (false, 1) := by kernel_rfl
theorem ty27 : tyI Tryz.prog 27 = some (false, 1) := by kernel_rfl
theorem ty3 : tyI Tryz.prog 3 = some (false, 1) := by kernel_rfl
theorem ty32 : tyI Tryz.prog 32 = some (false, 1) := by kernel_rfl
theorem ty36 : tyI Tryz.prog 36 = some (false, 1) := by kernel_rfl
theorem ty38 : tyI Tryz.prog 38 = some (true, 2) := by kernel_rfl
theorem ty40 : tyI Tryz.prog 40 = some (true, 6) := by kernel_rfl
theorem ty44 : tyI Tryz.prog 44 = some (false, 1) := by kernel_rfl
theorem ty46 : tyI Tryz.prog 46 = some (true, 2) := by kernel_rfl
theorem ty5 : tyI Tryz.prog 5 = some (false, 1) := by kernel_rfl
theorem ty59 : tyI Tryz.prog 59 = some (true, 5) := by kernel_rfl
theorem ty64 : tyI Tryz.prog 64 = some (false, 1) := by kernel_rfl
theorem ty65 : tyI Tryz.prog 65 = some (false, 1) := by kernel_rfl
theorem ty9 : tyI Tryz.prog 9 = some (false, 1) := by kernel_rfl
theorem ty90 : tyI Tryz.prog 90 = some (true, 4) := by kernel_rfl
theorem ty97 : tyI Tryz.prog 97 = some (true, 3) := by kernel_rfl
theorem ub118_5 : ubI Tryz.prog 118 5 = true := by kernel_rfl
theorem un141 : Tryz.prog.underlying 141 = some (.int .u64) := by kernel_rfl
theorem un21 : Tryz.prog.underlying 21 = some (.int .i32) := by kernel_rfl
theorem un3 : Tryz.prog.underlying 3 = some (.int .i64) := by kernel_rfl
theorem un5 : Tryz.prog.underlying 5 = some (.int .u8) := by kernel_rfl
theorem un9 : Tryz.prog.underlying 9 = some .string := by kernel_rfl
theorem us144 : uspI Tryz.prog 144 = true := by kernel_rfl
theorem zr100 : zeroI Tryz.prog 100 = some (.agg [.int .i64 0]) := by kernel_rfl
theorem zr113 : zeroI Tryz.prog 113 = some (.agg [.int .u8 0, .int .u8 0, .int .u8 0]) := by kernel_rfl
theorem zr128 : zeroI Tryz.prog 128 = some (.nilFunc) := by kernel_rfl
theorem zr23 : zeroI Tryz.prog 23 = some (.nilSlice) := by kernel_rfl
theorem zr24 : zeroI Tryz.prog 24 = some (.int .i64 0) := by kernel_rfl
theorem zr27 : zeroI Tryz.prog 27 = some (.nilSlice) := by kernel_rfl
theorem zr3 : zeroI Tryz.prog 3 = some (.int .i64 0) := by kernel_rfl
theorem zr32 : zeroI Tryz.prog 32 = some (.nilSlice) := by kernel_rfl
theorem zr38 : zeroI Tryz.prog 38 = some (.agg [.int .i64 0, .int .i64 0]) := by kernel_rfl
theorem zr40 : zeroI Tryz.prog 40 = some (.agg [.int .i64 0, .nilSlice, .int .i64 0, .int .i64 0, .int .i64 0, .int .i64 0]) := by kernel_rfl
theorem zr46 : zeroI Tryz.prog 46 = some (.agg [.int .i64 0, .nilSlice]) := by kernel_rfl
theorem zr59 : zeroI Tryz.prog 59 = some (.agg [.int .i64 0, .int .i64 0, .int .i64 0, .int .i64 0, .int .i64 0]) := by kernel_rfl
theorem zr87 : zeroI Tryz.prog 87 = some (.agg [.nilPtr, .nilSlice]) := by kernel_rfl
theorem zr9 : zeroI Tryz.prog 9 = some (.str ⟨#[]⟩) := by kernel_rfl
theorem zr90 : zeroI Tryz.prog 90 = some (.agg [.int .i64 0, .int .i64 0, .int .i64 0, .int .i64 0]) := by kernel_rfl
theorem zr97 : zeroI Tryz.prog 97 = some (.agg [.int .i64 0, .int .i64 0, .int .i64 0]) := by kernel_rfl
theorem mixed : Tryz.prog.follows .mixedOrders = true := by kernel_rfl
end Go.Proofs.YtambmifhidallaaGreatDoor
end
