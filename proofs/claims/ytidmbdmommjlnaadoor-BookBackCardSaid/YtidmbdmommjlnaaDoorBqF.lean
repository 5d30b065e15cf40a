/-
  Chapter 14: facts on types and functions, by the kernel.
-/
import Derived.Test.YtidmbdmommjlnaaDoorProg
import Derived.Test.YtidmbdmommjlnaaDoorFaE
import Derived.KernelRfl
section
set_option maxRecDepth 100000
namespace Go.Proofs.YtidmbdmommjlnaaDoor
open Go.AF
theorem ar76 : arrI Tryd.prog 76 = some 3 := by kernel_rfl
theorem bd129 : bldI Tryd.prog 129 = some ([.int .i64 0], [(0, 1)]) := by kernel_rfl
theorem bd132 : bldI Tryd.prog 132 = some ([.str ⟨#[]⟩], [(0, 1)]) := by kernel_rfl
theorem bd36 : bldI Tryd.prog 36 = some ([.int .i64 0, .int .i64 0], [(0, 1), (1, 1)]) := by kernel_rfl
theorem bd39 : bldI Tryd.prog 39 = some ([.int .i64 0, .nilSlice, .int .i64 0, .int .i64 0, .int .i64 0, .int .i64 0], [(0, 1), (1, 1), (2, 2), (4, 2)]) := by kernel_rfl
theorem bd44 : bldI Tryd.prog 44 = some ([.int .i64 0, .int .i64 0, .int .i64 0, .int .i64 0, .int .i64 0], [(0, 1), (1, 1), (2, 1), (3, 1), (4, 1)]) := by kernel_rfl
theorem bd50 : bldI Tryd.prog 50 = some ([.int .i64 0, .nilSlice], [(0, 1), (1, 1)]) := by kernel_rfl
theorem bd73 : bldI Tryd.prog 73 = some ([.int .i64 0, .int .i64 0, .int .i64 0, .int .i64 0], [(0, 2), (2, 2)]) := by kernel_rfl
theorem bd76 : bldI Tryd.prog 76 = some ([.int .u8 0, .int .u8 0, .int .u8 0], [(0, 1), (1, 1), (2, 1)]) := by kernel_rfl
theorem bd90 : bldI Tryd.prog 90 = some ([.int .i64 0, .int .i64 0, .int .i64 0], [(0, 1), (1, 1), (2, 1)]) := by kernel_rfl
theorem bt52 : bytI Tryd.prog 52 = true := by kernel_rfl
theorem by3 : byI Tryd.prog 3 = some 8 := by kernel_rfl
theorem by39 : byI Tryd.prog 39 = some 64 := by kernel_rfl
theorem by44 : byI Tryd.prog 44 = some 40 := by kernel_rfl
theorem by5 : byI Tryd.prog 5 = some 1 := by kernel_rfl
theorem by50 : byI Tryd.prog 50 = some 32 := by kernel_rfl
theorem by73 : byI Tryd.prog 73 = some 32 := by kernel_rfl
theorem by90 : byI Tryd.prog 90 = some 24 := by kernel_rfl
theorem con129 : conI Tryd.prog 129 = true := by kernel_rfl
theorem con3 : conI Tryd.prog 3 = true := by kernel_rfl
theorem con36 : conI Tryd.prog 36 = true := by kernel_rfl
theorem con9 : conI Tryd.prog 9 = true := by kernel_rfl
theorem eg36 : Tryd.prog.eqGuardType Tryd.prog.depth 36 = false := by kernel_rfl
theorem eg44 : Tryd.prog.eqGuardType Tryd.prog.depth 44 = false := by kernel_rfl
theorem eg73 : Tryd.prog.eqGuardType Tryd.prog.depth 73 = false := by kernel_rfl
theorem eg76 : Tryd.prog.eqGuardType Tryd.prog.depth 76 = false := by kernel_rfl
theorem eg90 : Tryd.prog.eqGuardType Tryd.prog.depth 90 = false := by kernel_rfl
theorem el114 : elI Tryd.prog 114 = some 1 := by kernel_rfl
theorem el127 : elI Tryd.prog 127 = some 3 := by kernel_rfl
theorem el22 : elI Tryd.prog 22 = some 6 := by kernel_rfl
theorem el23 : elI Tryd.prog 23 = some 5 := by kernel_rfl
theorem el24 : elI Tryd.prog 24 = some 2 := by kernel_rfl
theorem el37 : elI Tryd.prog 37 = some 4 := by kernel_rfl
theorem el48 : elI Tryd.prog 48 = some 1 := by kernel_rfl
theorem el52 : elI Tryd.prog 52 = some 1 := by kernel_rfl
theorem el76 : elI Tryd.prog 76 = some 1 := by kernel_rfl
theorem eq36 : eqTy Tryd.prog 8 36 = some [.int .i64, .int .i64] := by kernel_rfl
theorem eq44 : eqTy Tryd.prog 8 44 = some [.int .i64, .int .i64, .int .i64, .int .i64, .int .i64] := by kernel_rfl
theorem eq73 : eqTy Tryd.prog 8 73 = some [.int .i64, .int .i64, .int .i64, .int .i64] := by kernel_rfl
theorem eq76 : eqTy Tryd.prog 8 76 = some [.int .u8, .int .u8, .int .u8] := by kernel_rfl
theorem eq90 : eqTy Tryd.prog 8 90 = some [.int .i64, .int .i64, .int .i64] := by kernel_rfl
theorem fd129_0 : fldI Tryd.prog 129 0 = some 0 := by kernel_rfl
theorem fd132_0 : fldI Tryd.prog 132 0 = some 0 := by kernel_rfl
theorem fd36_0 : fldI Tryd.prog 36 0 = some 0 := by kernel_rfl
theorem fd36_1 : fldI Tryd.prog 36 1 = some 1 := by kernel_rfl
theorem fd39_0 : fldI Tryd.prog 39 0 = some 0 := by kernel_rfl
theorem fd39_1 : fldI Tryd.prog 39 1 = some 1 := by kernel_rfl
theorem fd39_2 : fldI Tryd.prog 39 2 = some 2 := by kernel_rfl
theorem fd39_3 : fldI Tryd.prog 39 3 = some 4 := by kernel_rfl
theorem fd44_0 : fldI Tryd.prog 44 0 = some 0 := by kernel_rfl
theorem fd44_1 : fldI Tryd.prog 44 1 = some 1 := by kernel_rfl
theorem fd44_2 : fldI Tryd.prog 44 2 = some 2 := by kernel_rfl
theorem fd44_3 : fldI Tryd.prog 44 3 = some 3 := by kernel_rfl
theorem fd44_4 : fldI Tryd.prog 44 4 = some 4 := by kernel_rfl
theorem fd50_0 : fldI Tryd.prog 50 0 = some 0 := by kernel_rfl
theorem fd50_1 : fldI Tryd.prog 50 1 = some 1 := by kernel_rfl
theorem fd68_0 : fldI Tryd.prog 68 0 = some 0 := by kernel_rfl
theorem fd68_1 : fldI Tryd.prog 68 1 = some 1 := by kernel_rfl
theorem fd70_0 : fldI Tryd.prog 70 0 = some 0 := by kernel_rfl
theorem fd73_0 : fldI Tryd.prog 73 0 = some 0 := by kernel_rfl
theorem fd73_1 : fldI Tryd.prog 73 1 = some 2 := by kernel_rfl
theorem fd90_0 : fldI Tryd.prog 90 0 = some 0 := by kernel_rfl
theorem fd90_1 : fldI Tryd.prog 90 1 = some 1 := by kernel_rfl
theorem fd90_2 : fldI Tryd.prog 90 2 = some 2 := by kernel_rfl
theorem ifc20 : ifcI Tryd.prog 20 = true := by kernel_rfl
theorem pt66 : ptrI Tryd.prog 66 = some (68, 2) := by kernel_rfl
theorem rf10 : realFn Tryd.prog 10 = true := by kernel_rfl
theorem rf11 : realFn Tryd.prog 11 = true := by kernel_rfl
theorem rf12 : realFn Tryd.prog 12 = true := by kernel_rfl
theorem rf13 : realFn Tryd.prog 13 = true := by kernel_rfl
theorem rf14 : realFn Tryd.prog 14 = true := by kernel_rfl
theorem rf15 : realFn Tryd.prog 15 = true := by kernel_rfl
theorem rf16 : realFn Tryd.prog 16 = true := by kernel_rfl
theorem rf17 : realFn Tryd.prog 17 = true := by kernel_rfl
theorem rf18 : realFn Tryd.prog 18 = true := by kernel_rfl
theorem rf20 : realFn Tryd.prog 20 = true := by kernel_rfl
theorem rf21 : realFn Tryd.prog 21 = true := by kernel_rfl
theorem rf22 : realFn Tryd.prog 22 = true := by kernel_rfl
theorem rf23 : realFn Tryd.prog 23 = true := by kernel_rfl
theorem rf24 : realFn Tryd.prog 24 = true := by kernel_rfl
theorem rf25 : realFn Tryd.prog 25 = true := by kernel_rfl
theorem rf26 : realFn Tryd.prog 26 = true := by kernel_rfl
theorem rf27 : realFn Tryd.prog 27 = true := by kernel_rfl
theorem rf28 : realFn Tryd.prog 28 = true := by kernel_rfl
theorem rf29 : realFn Tryd.prog 29 = true := by kernel_rfl
theorem rf30 : realFn Tryd.prog 30 = true := by kernel_rfl
theorem rf31 : realFn Tryd.prog 31 = true := by kernel_rfl
theorem rf32 : realFn Tryd.prog 32 = true := by kernel_rfl
theorem rf33 : realFn Tryd.prog 33 = true := by kernel_rfl
theorem rf34 : realFn Tryd.prog 34 = true := by kernel_rfl
theorem rf35 : realFn Tryd.prog 35 = true := by kernel_rfl
theorem rf36 : realFn Tryd.prog 36 = true := by kernel_rfl
theorem rf37 : realFn Tryd.prog 37 = true := by kernel_rfl
theorem rf38 : realFn Tryd.prog 38 = true := by kernel_rfl
theorem rf39 : realFn Tryd.prog 39 = true := by kernel_rfl
theorem rf40 : realFn Tryd.prog 40 = true := by kernel_rfl
theorem rf41 : realFn Tryd.prog 41 = true := by kernel_rfl
theorem rf42 : realFn Tryd.prog 42 = true := by kernel_rfl
theorem rf43 : realFn Tryd.prog 43 = true := by kernel_rfl
theorem rf44 : realFn Tryd.prog 44 = true := by kernel_rfl
theorem rf45 : realFn Tryd.prog 45 = true := by kernel_rfl
theorem rf49 : realFn Tryd.prog 49 = true := by kernel_rfl
theorem rf50 : realFn Tryd.prog 50 = true := by kernel_rfl
theorem rf51 : realFn Tryd.prog 51 = true := by kernel_rfl
theorem rf52 : realFn Tryd.prog 52 = true := by kernel_rfl
theorem rf53 : realFn Tryd.prog 53 = true := by kernel_rfl
theorem rf54 : realFn Tryd.prog 54 = true := by kernel_rfl
theorem rf55 : realFn Tryd.prog 55 = true := by kernel_rfl
theorem rf56 : realFn Tryd.prog 56 = true := by kernel_rfl
theorem rf57 : realFn Tryd.prog 57 = true := by kernel_rfl
theorem rf58 : realFn Tryd.prog 58 = true := by kernel_rfl
theorem rf59 : realFn Tryd.prog 59 = true := by kernel_rfl
theorem rf60 : realFn Tryd.prog 60 = true := by kernel_rfl
theorem rf61 : realFn Tryd.prog 61 = true := by kernel_rfl
theorem rf62 : realFn Tryd.prog 62 = true := by kernel_rfl
theorem rf63 : realFn Tryd.prog 63 = true := by kernel_rfl
theorem rf64 : realFn Tryd.prog 64 = true := by kernel_rfl
theorem rf65 : realFn Tryd.prog 65 = true := by kernel_rfl
theorem rf66 : realFn Tryd.prog 66 = true := by kernel_rfl
theorem rf67 : realFn Tryd.prog 67 = true := by kernel_rfl
theorem rf68 : realFn Tryd.prog 68 = true := by kernel_rfl
theorem rf69 : realFn Tryd.prog 69 = true := by kernel_rfl
theorem rf70 : realFn Tryd.prog 70 = true := by kernel_rfl
theorem rf71 : realFn Tryd.prog 71 = true := by kernel_rfl
theorem rf72 : realFn Tryd.prog 72 = true := by kernel_rfl
theorem rf73 : realFn Tryd.prog 73 = true := by kernel_rfl
theorem rf74 : realFn Tryd.prog 74 = true := by kernel_rfl
theorem rf75 : realFn Tryd.prog 75 = true := by kernel_rfl
theorem rf76 : realFn Tryd.prog 76 = true := by kernel_rfl
theorem rf77 : realFn Tryd.prog 77 = true := by kernel_rfl
theorem rf8 : realFn Tryd.prog 8 = true := by kernel_rfl
theorem rf83 : realFn Tryd.prog 83 = true := by kernel_rfl
theorem rf86 : realFn Tryd.prog 86 = true := by kernel_rfl
theorem rf87 : realFn Tryd.prog 87 = true := by kernel_rfl
theorem rf9 : realFn Tryd.prog 9 = true := by kernel_rfl
theorem rf90 : realFn Tryd.prog 90 = true := by kernel_rfl
theorem rf97 : realFn Tryd.prog 97 = true := by kernel_rfl
theorem sl114 : isSl Tryd.prog 114 = true := by kernel_rfl
theorem sl127 : isSl Tryd.prog 127 = true := by kernel_rfl
theorem sl22 : isSl Tryd.prog 22 = true := by kernel_rfl
theorem sl23 : isSl Tryd.prog 23 = true := by kernel_rfl
theorem sl24 : isSl Tryd.prog 24 = true := by kernel_rfl
theorem sl37 : isSl Tryd.prog 37 = true := by kernel_rfl
theorem sl48 : isSl Tryd.prog 48 = true := by kernel_rfl
theorem sl52 : isSl Tryd.prog 52 = true := by kernel_rfl
theorem slz114 : slI Tryd.prog 114 = some (20, [.nilIface]) := by kernel_rfl
theorem slz127 : slI Tryd.prog 127 = some (90, [.int .i64 0, .int .i64 0, .int .i64 0]) := by kernel_rfl
theorem slz22 : slI Tryd.prog 22 = some (39, [.int .i64 0, .nilSlice, .int .i64 0, .int .i64 0, .int .i64 0, .int .i64 0]) := by kernel_rfl
theorem slz23 : slI Tryd.prog 23 = some (44, [.int .i64 0, .int .i64 0, .int .i64 0, .int .i64 0, .int .i64 0]) := by kernel_rfl
theorem slz24 : slI Tryd.prog 24 = some (50, [.int .i64 0, .nilSlice]) := by kernel_rfl
theorem slz37 : slI Tryd.prog 37 = some (73, [.int .i64 0, .int .i64 0, .int .i64 0, .int .i64 0]) := by kernel_rfl
theorem slz48 : slI Tryd.prog 48 = some (3, [.int .i64 0]) := by kernel_rfl
theorem slz52 : slI Tryd.prog 52 = some (5, [.int .u8 0]) := by kernel_rfl
theorem st9 : strI Tryd.prog 9 = true := by kernel_rfl
theorem ty108 : tyI Tryd.prog 108 = some (false, 1) := by kernel_rfl
theorem ty129 : tyI Tryd.prog 129 = some (true, 1) := by kernel_rfl
theorem ty20 : tyI Tryd.prog 20 = some (false, 1) := by kernel_rfl
theorem ty22 : tyI Tryd.prog 22 = some (false, 1) := by kernel_rfl
theorem ty23 : tyI Tryd.prog 23 = some (false, 1) := by kernel_rfl
theorem ty24 : tyI Tryd.prog 24 = some (false, 1) := by kernel_rfl
theorem ty27 : tyI Tryd.prog 27 = some (false, 1) := by kernel_rfl
theorem ty3 : tyI Tryd.prog 3 = some (false, 1) := by kernel_rfl
theorem ty36 : tyI Tryd.prog 36 = some (true, 2) := by kernel_rfl
theorem ty37 : tyI Tryd.prog 37 = some (false, 1) := by kernel_rfl
theorem ty39 : tyI Tryd.prog 39 = some (true, 6) := by kernel_rfl
theorem ty44 : tyI Tryd.prog 44 = some (true, 5) := by kernel_rfl
theorem ty48 : tyI Tryd.prog 48 = some (false, 1) := by kernel_rfl
theorem ty5 : tyI Tryd.prog 5 = some (false, 1) := by kernel_rfl
theorem ty50 : tyI Tryd.prog 50 = some (true, 2) := by kernel_rfl
theorem ty52 : tyI Tryd.prog 52 = some (false, 1) := by kernel_rfl
theorem ty66 : tyI Tryd.prog 66 = some (false, 1) := by kernel_rfl
theorem ty73 : tyI Tryd.prog 73 = some (true, 4) := by kernel_rfl
theorem ty76 : tyI Tryd.prog 76 = some (true, 3) := by kernel_rfl
theorem ty9 : tyI Tryd.prog 9 = some (false, 1) := by kernel_rfl
theorem ty90 : tyI Tryd.prog 90 = some (true, 3) := by kernel_rfl
theorem ub117_5 : ubI Tryd.prog 117 5 = true := by kernel_rfl
theorem un122 : Tryd.prog.underlying 122 = some (.int .u64) := by kernel_rfl
theorem un21 : Tryd.prog.underlying 21 = some (.int .i32) := by kernel_rfl
theorem un3 : Tryd.prog.underlying 3 = some (.int .i64) := by kernel_rfl
theorem un5 : Tryd.prog.underlying 5 = some (.int .u8) := by kernel_rfl
theorem un55 : Tryd.prog.underlying 55 = some (.int .u16) := by kernel_rfl
theorem un9 : Tryd.prog.underlying 9 = some .string := by kernel_rfl
theorem us145 : uspI Tryd.prog 145 = true := by kernel_rfl
theorem zr108 : zeroI Tryd.prog 108 = some (.nilFunc) := by kernel_rfl
theorem zr129 : zeroI Tryd.prog 129 = some (.agg [.int .i64 0]) := by kernel_rfl
theorem zr22 : zeroI Tryd.prog 22 = some (.nilSlice) := by kernel_rfl
theorem zr23 : zeroI Tryd.prog 23 = some (.nilSlice) := by kernel_rfl
theorem zr24 : zeroI Tryd.prog 24 = some (.nilSlice) := by kernel_rfl
theorem zr27 : zeroI Tryd.prog 27 = some (.int .i64 0) := by kernel_rfl
theorem zr3 : zeroI Tryd.prog 3 = some (.int .i64 0) := by kernel_rfl
theorem zr36 : zeroI Tryd.prog 36 = some (.agg [.int .i64 0, .int .i64 0]) := by kernel_rfl
theorem zr39 : zeroI Tryd.prog 39 = some (.agg [.int .i64 0, .nilSlice, .int .i64 0, .int .i64 0, .int .i64 0, .int .i64 0]) := by kernel_rfl
theorem zr44 : zeroI Tryd.prog 44 = some (.agg [.int .i64 0, .int .i64 0, .int .i64 0, .int .i64 0, .int .i64 0]) := by kernel_rfl
theorem zr50 : zeroI Tryd.prog 50 = some (.agg [.int .i64 0, .nilSlice]) := by kernel_rfl
theorem zr70 : zeroI Tryd.prog 70 = some (.agg [.nilPtr, .nilSlice]) := by kernel_rfl
theorem zr73 : zeroI Tryd.prog 73 = some (.agg [.int .i64 0, .int .i64 0, .int .i64 0, .int .i64 0]) := by kernel_rfl
theorem zr76 : zeroI Tryd.prog 76 = some (.agg [.int .u8 0, .int .u8 0, .int .u8 0]) := by kernel_rfl
theorem zr9 : zeroI Tryd.prog 9 = some (.str ⟨#[]⟩) := by kernel_rfl
theorem zr90 : zeroI Tryd.prog 90 = some (.agg [.int .i64 0, .int .i64 0, .int .i64 0]) := by kernel_rfl
theorem mixed : Tryd.prog.follows .mixedOrders = true := by kernel_rfl
end Go.Proofs.YtidmbdmommjlnaaDoor
end
