/-
  Chapters 2, 9, 11 and 14: facts on types and functions, by the kernel.
-/
import Derived.Test.YtbnemnhmejmeeaaGreatDoorProg
import Derived.Test.YtbnemnhmejmeeaaGreatDoorFaE
import Derived.KernelRfl
section
set_option maxRecDepth 100000
namespace Go.Proofs.YtbnemnhmejmeeaaGreatDoor
open Go.AF
theorem ar203 : arrI Tryz.prog 203 = some 24 := by kernel_rfl
theorem ar236 : arrI Tryz.prog 236 = some 32 := by kernel_rfl
theorem bd122 : bldI Tryz.prog 122 = some ([.int .i64 0, .int .i64 0, .int .i64 0], [(0, 1), (1, 1), (2, 1)]) := by kernel_rfl
theorem bd147 : bldI Tryz.prog 147 = some ([.int .i64 0], [(0, 1)]) := by kernel_rfl
theorem bd150 : bldI Tryz.prog 150 = some ([.str ⟨#[]⟩], [(0, 1)]) := by kernel_rfl
theorem bd179 : bldI Tryz.prog 179 = some ([.nilSlice, .int .i64 0, .int .i64 0, .int .i64 0, .int .i64 0, .int .i64 0, .nilSlice, .int .i64 0, .int .i64 0, .int .i64 0, .int .i64 0, .int .i64 0], [(0, 1), (1, 11)]) := by kernel_rfl
theorem bd182 : bldI Tryz.prog 182 = some ([.int .i64 0, .int .i64 0, .int .i64 0, .int .i64 0], [(0, 4)]) := by kernel_rfl
theorem bd255 : bldI Tryz.prog 255 = some ([.int .i64 0, .int .i64 0], [(0, 1), (1, 1)]) := by kernel_rfl
theorem bd257 : bldI Tryz.prog 257 = some ([.nilSlice, .int .i64 0, .int .i64 0], [(0, 1), (1, 1), (2, 1)]) := by kernel_rfl
theorem bd30 : bldI Tryz.prog 30 = some ([.int .i64 0, .int .i64 0], [(0, 1), (1, 1)]) := by kernel_rfl
theorem bd33 : bldI Tryz.prog 33 = some ([.int .i64 0, .int .i64 0, .int .i64 0, .int .i64 0, .int .i64 0, .nilSlice, .int .i64 0, .int .i64 0, .int .i64 0, .int .i64 0, .int .i64 0], [(0, 2), (2, 2), (4, 1), (5, 1), (6, 2), (8, 2), (10, 1)]) := by kernel_rfl
theorem bd35 : bldI Tryz.prog 35 = some ([.int .i64 0, .nilSlice, .int .i64 0, .int .i64 0, .int .i64 0, .int .i64 0], [(0, 1), (1, 1), (2, 2), (4, 2)]) := by kernel_rfl
theorem bd57 : bldI Tryz.prog 57 = some ([.int .i64 0, .nilSlice], [(0, 1), (1, 1)]) := by kernel_rfl
theorem bd70 : bldI Tryz.prog 70 = some ([.int .i64 0, .int .i64 0], [(0, 1), (1, 1)]) := by kernel_rfl
theorem bd95 : bldI Tryz.prog 95 = some ([.int .i64 0, .int .i64 0, .int .i64 0, .int .i64 0, .int .i64 0, .nilSlice, .int .i64 0, .int .i64 0, .int .i64 0, .int .i64 0, .int .i64 0, .int .i64 0, .int .i64 0], [(0, 11), (11, 2)]) := by kernel_rfl
theorem bd97 : bldI Tryz.prog 97 = some ([.int .i64 0, .int .i64 0, .int .i64 0, .int .i64 0, .int .i64 0, .int .i64 0], [(0, 2), (2, 2), (4, 2)]) := by kernel_rfl
theorem by122 : byI Tryz.prog 122 = some 24 := by kernel_rfl
theorem by184 : byI Tryz.prog 184 = some 16 := by kernel_rfl
theorem by3 : byI Tryz.prog 3 = some 8 := by kernel_rfl
theorem by35 : byI Tryz.prog 35 = some 64 := by kernel_rfl
theorem by5 : byI Tryz.prog 5 = some 1 := by kernel_rfl
theorem by82 : byI Tryz.prog 82 = some 32 := by kernel_rfl
theorem by95 : byI Tryz.prog 95 = some 120 := by kernel_rfl
theorem con131 : conI Tryz.prog 131 = true := by kernel_rfl
theorem con147 : conI Tryz.prog 147 = true := by kernel_rfl
theorem con179 : conI Tryz.prog 179 = true := by kernel_rfl
theorem con182 : conI Tryz.prog 182 = true := by kernel_rfl
theorem con3 : conI Tryz.prog 3 = true := by kernel_rfl
theorem con30 : conI Tryz.prog 30 = true := by kernel_rfl
theorem con9 : conI Tryz.prog 9 = true := by kernel_rfl
theorem eg122 : Tryz.prog.eqGuardType Tryz.prog.depth 122 = false := by kernel_rfl
theorem eg30 : Tryz.prog.eqGuardType Tryz.prog.depth 30 = false := by kernel_rfl
theorem eg82 : Tryz.prog.eqGuardType Tryz.prog.depth 82 = false := by kernel_rfl
theorem eg97 : Tryz.prog.eqGuardType Tryz.prog.depth 97 = false := by kernel_rfl
theorem el131 : elI Tryz.prog 131 = some 2 := by kernel_rfl
theorem el139 : elI Tryz.prog 139 = some 1 := by kernel_rfl
theorem el167 : elI Tryz.prog 167 = some 3 := by kernel_rfl
theorem el180 : elI Tryz.prog 180 = some 1 := by kernel_rfl
theorem el203 : elI Tryz.prog 203 = some 1 := by kernel_rfl
theorem el22 : elI Tryz.prog 22 = some 2 := by kernel_rfl
theorem el224 : elI Tryz.prog 224 = some 1 := by kernel_rfl
theorem el23 : elI Tryz.prog 23 = some 11 := by kernel_rfl
theorem el236 : elI Tryz.prog 236 = some 1 := by kernel_rfl
theorem el24 : elI Tryz.prog 24 = some 6 := by kernel_rfl
theorem el28 : elI Tryz.prog 28 = some 6 := by kernel_rfl
theorem el31 : elI Tryz.prog 31 = some 4 := by kernel_rfl
theorem el45 : elI Tryz.prog 45 = some 1 := by kernel_rfl
theorem el55 : elI Tryz.prog 55 = some 2 := by kernel_rfl
theorem el71 : elI Tryz.prog 71 = some 2 := by kernel_rfl
theorem el91 : elI Tryz.prog 91 = some 13 := by kernel_rfl
theorem eq122 : eqTy Tryz.prog 8 122 = some [.int .i64, .int .i64, .int .i64] := by kernel_rfl
theorem eq30 : eqTy Tryz.prog 8 30 = some [.int .i64, .int .i64] := by kernel_rfl
theorem eq82 : eqTy Tryz.prog 8 82 = some [.int .i64, .int .i64, .int .i64, .int .i64] := by kernel_rfl
theorem eq97 : eqTy Tryz.prog 8 97 = some [.int .i64, .int .i64, .int .i64, .int .i64, .int .i64, .int .i64] := by kernel_rfl
theorem fd122_0 : fldI Tryz.prog 122 0 = some 0 := by kernel_rfl
theorem fd122_1 : fldI Tryz.prog 122 1 = some 1 := by kernel_rfl
theorem fd122_2 : fldI Tryz.prog 122 2 = some 2 := by kernel_rfl
theorem fd147_0 : fldI Tryz.prog 147 0 = some 0 := by kernel_rfl
theorem fd150_0 : fldI Tryz.prog 150 0 = some 0 := by kernel_rfl
theorem fd159_0 : fldI Tryz.prog 159 0 = some 0 := by kernel_rfl
theorem fd159_1 : fldI Tryz.prog 159 1 = some 1 := by kernel_rfl
theorem fd179_0 : fldI Tryz.prog 179 0 = some 0 := by kernel_rfl
theorem fd179_1 : fldI Tryz.prog 179 1 = some 1 := by kernel_rfl
theorem fd182_0 : fldI Tryz.prog 182 0 = some 0 := by kernel_rfl
theorem fd255_0 : fldI Tryz.prog 255 0 = some 0 := by kernel_rfl
theorem fd255_1 : fldI Tryz.prog 255 1 = some 1 := by kernel_rfl
theorem fd257_0 : fldI Tryz.prog 257 0 = some 0 := by kernel_rfl
theorem fd257_1 : fldI Tryz.prog 257 1 = some 1 := by kernel_rfl
theorem fd257_2 : fldI Tryz.prog 257 2 = some 2 := by kernel_rfl
theorem fd30_0 : fldI Tryz.prog 30 0 = some 0 := by kernel_rfl
theorem fd30_1 : fldI Tryz.prog 30 1 = some 1 := by kernel_rfl
theorem fd33_0 : fldI Tryz.prog 33 0 = some 0 := by kernel_rfl
theorem fd33_1 : fldI Tryz.prog 33 1 = some 2 := by kernel_rfl
theorem fd33_2 : fldI Tryz.prog 33 2 = some 4 := by kernel_rfl
theorem fd33_3 : fldI Tryz.prog 33 3 = some 5 := by kernel_rfl
theorem fd33_4 : fldI Tryz.prog 33 4 = some 6 := by kernel_rfl
theorem fd33_5 : fldI Tryz.prog 33 5 = some 8 := by kernel_rfl
theorem fd33_6 : fldI Tryz.prog 33 6 = some 10 := by kernel_rfl
theorem fd35_0 : fldI Tryz.prog 35 0 = some 0 := by kernel_rfl
theorem fd35_1 : fldI Tryz.prog 35 1 = some 1 := by kernel_rfl
theorem fd35_2 : fldI Tryz.prog 35 2 = some 2 := by kernel_rfl
theorem fd35_3 : fldI Tryz.prog 35 3 = some 4 := by kernel_rfl
theorem fd57_0 : fldI Tryz.prog 57 0 = some 0 := by kernel_rfl
theorem fd57_1 : fldI Tryz.prog 57 1 = some 1 := by kernel_rfl
theorem fd70_0 : fldI Tryz.prog 70 0 = some 0 := by kernel_rfl
theorem fd70_1 : fldI Tryz.prog 70 1 = some 1 := by kernel_rfl
theorem fd77_0 : fldI Tryz.prog 77 0 = some 0 := by kernel_rfl
theorem fd77_1 : fldI Tryz.prog 77 1 = some 1 := by kernel_rfl
theorem fd79_0 : fldI Tryz.prog 79 0 = some 0 := by kernel_rfl
theorem fd82_0 : fldI Tryz.prog 82 0 = some 0 := by kernel_rfl
theorem fd82_1 : fldI Tryz.prog 82 1 = some 2 := by kernel_rfl
theorem fd95_1 : fldI Tryz.prog 95 1 = some 11 := by kernel_rfl
theorem fd97_0 : fldI Tryz.prog 97 0 = some 0 := by kernel_rfl
theorem fd97_1 : fldI Tryz.prog 97 1 = some 2 := by kernel_rfl
theorem fd97_2 : fldI Tryz.prog 97 2 = some 4 := by kernel_rfl
theorem ifc20 : ifcI Tryz.prog 20 = true := by kernel_rfl
theorem pt74 : ptrI Tryz.prog 74 = some (77, 2) := by kernel_rfl
theorem rf10 : realFn Tryz.prog 10 = true := by kernel_rfl
theorem rf101 : realFn Tryz.prog 101 = true := by kernel_rfl
theorem rf106 : realFn Tryz.prog 106 = true := by kernel_rfl
theorem rf107 : realFn Tryz.prog 107 = true := by kernel_rfl
theorem rf11 : realFn Tryz.prog 11 = true := by kernel_rfl
theorem rf110 : realFn Tryz.prog 110 = true := by kernel_rfl
theorem rf119 : realFn Tryz.prog 119 = true := by kernel_rfl
theorem rf12 : realFn Tryz.prog 12 = true := by kernel_rfl
theorem rf120 : realFn Tryz.prog 120 = true := by kernel_rfl
theorem rf121 : realFn Tryz.prog 121 = true := by kernel_rfl
theorem rf122 : realFn Tryz.prog 122 = true := by kernel_rfl
theorem rf123 : realFn Tryz.prog 123 = true := by kernel_rfl
theorem rf126 : realFn Tryz.prog 126 = true := by kernel_rfl
theorem rf129 : realFn Tryz.prog 129 = true := by kernel_rfl
theorem rf13 : realFn Tryz.prog 13 = true := by kernel_rfl
theorem rf130 : realFn Tryz.prog 130 = true := by kernel_rfl
theorem rf139 : realFn Tryz.prog 139 = true := by kernel_rfl
theorem rf140 : realFn Tryz.prog 140 = true := by kernel_rfl
theorem rf145 : realFn Tryz.prog 145 = true := by kernel_rfl
theorem rf16 : realFn Tryz.prog 16 = true := by kernel_rfl
theorem rf170 : realFn Tryz.prog 170 = true := by kernel_rfl
theorem rf172 : realFn Tryz.prog 172 = true := by kernel_rfl
theorem rf173 : realFn Tryz.prog 173 = true := by kernel_rfl
theorem rf174 : realFn Tryz.prog 174 = true := by kernel_rfl
theorem rf175 : realFn Tryz.prog 175 = true := by kernel_rfl
theorem rf176 : realFn Tryz.prog 176 = true := by kernel_rfl
theorem rf177 : realFn Tryz.prog 177 = true := by kernel_rfl
theorem rf21 : realFn Tryz.prog 21 = true := by kernel_rfl
theorem rf22 : realFn Tryz.prog 22 = true := by kernel_rfl
theorem rf23 : realFn Tryz.prog 23 = true := by kernel_rfl
theorem rf24 : realFn Tryz.prog 24 = true := by kernel_rfl
theorem rf25 : realFn Tryz.prog 25 = true := by kernel_rfl
theorem rf26 : realFn Tryz.prog 26 = true := by kernel_rfl
theorem rf27 : realFn Tryz.prog 27 = true := by kernel_rfl
theorem rf28 : realFn Tryz.prog 28 = true := by kernel_rfl
theorem rf29 : realFn Tryz.prog 29 = true := by kernel_rfl
theorem rf30 : realFn Tryz.prog 30 = true := by kernel_rfl
theorem rf34 : realFn Tryz.prog 34 = true := by kernel_rfl
theorem rf35 : realFn Tryz.prog 35 = true := by kernel_rfl
theorem rf36 : realFn Tryz.prog 36 = true := by kernel_rfl
theorem rf37 : realFn Tryz.prog 37 = true := by kernel_rfl
theorem rf38 : realFn Tryz.prog 38 = true := by kernel_rfl
theorem rf39 : realFn Tryz.prog 39 = true := by kernel_rfl
theorem rf5 : realFn Tryz.prog 5 = true := by kernel_rfl
theorem rf50 : realFn Tryz.prog 50 = true := by kernel_rfl
theorem rf51 : realFn Tryz.prog 51 = true := by kernel_rfl
theorem rf58 : realFn Tryz.prog 58 = true := by kernel_rfl
theorem rf59 : realFn Tryz.prog 59 = true := by kernel_rfl
theorem rf6 : realFn Tryz.prog 6 = true := by kernel_rfl
theorem rf60 : realFn Tryz.prog 60 = true := by kernel_rfl
theorem rf61 : realFn Tryz.prog 61 = true := by kernel_rfl
theorem rf62 : realFn Tryz.prog 62 = true := by kernel_rfl
theorem rf63 : realFn Tryz.prog 63 = true := by kernel_rfl
theorem rf64 : realFn Tryz.prog 64 = true := by kernel_rfl
theorem rf65 : realFn Tryz.prog 65 = true := by kernel_rfl
theorem rf66 : realFn Tryz.prog 66 = true := by kernel_rfl
theorem rf67 : realFn Tryz.prog 67 = true := by kernel_rfl
theorem rf68 : realFn Tryz.prog 68 = true := by kernel_rfl
theorem rf69 : realFn Tryz.prog 69 = true := by kernel_rfl
theorem rf7 : realFn Tryz.prog 7 = true := by kernel_rfl
theorem rf70 : realFn Tryz.prog 70 = true := by kernel_rfl
theorem rf71 : realFn Tryz.prog 71 = true := by kernel_rfl
theorem rf72 : realFn Tryz.prog 72 = true := by kernel_rfl
theorem rf73 : realFn Tryz.prog 73 = true := by kernel_rfl
theorem rf74 : realFn Tryz.prog 74 = true := by kernel_rfl
theorem rf75 : realFn Tryz.prog 75 = true := by kernel_rfl
theorem rf77 : realFn Tryz.prog 77 = true := by kernel_rfl
theorem rf78 : realFn Tryz.prog 78 = true := by kernel_rfl
theorem rf79 : realFn Tryz.prog 79 = true := by kernel_rfl
theorem rf8 : realFn Tryz.prog 8 = true := by kernel_rfl
theorem rf80 : realFn Tryz.prog 80 = true := by kernel_rfl
theorem rf81 : realFn Tryz.prog 81 = true := by kernel_rfl
theorem rf85 : realFn Tryz.prog 85 = true := by kernel_rfl
theorem rf87 : realFn Tryz.prog 87 = true := by kernel_rfl
theorem rf88 : realFn Tryz.prog 88 = true := by kernel_rfl
theorem rf89 : realFn Tryz.prog 89 = true := by kernel_rfl
theorem rf9 : realFn Tryz.prog 9 = true := by kernel_rfl
theorem rf90 : realFn Tryz.prog 90 = true := by kernel_rfl
theorem rf91 : realFn Tryz.prog 91 = true := by kernel_rfl
theorem rf95 : realFn Tryz.prog 95 = true := by kernel_rfl
theorem rf96 : realFn Tryz.prog 96 = true := by kernel_rfl
theorem rf97 : realFn Tryz.prog 97 = true := by kernel_rfl
theorem rf98 : realFn Tryz.prog 98 = true := by kernel_rfl
theorem rf99 : realFn Tryz.prog 99 = true := by kernel_rfl
theorem sl131 : isSl Tryz.prog 131 = true := by kernel_rfl
theorem sl139 : isSl Tryz.prog 139 = true := by kernel_rfl
theorem sl167 : isSl Tryz.prog 167 = true := by kernel_rfl
theorem sl180 : isSl Tryz.prog 180 = true := by kernel_rfl
theorem sl22 : isSl Tryz.prog 22 = true := by kernel_rfl
theorem sl224 : isSl Tryz.prog 224 = true := by kernel_rfl
theorem sl23 : isSl Tryz.prog 23 = true := by kernel_rfl
theorem sl24 : isSl Tryz.prog 24 = true := by kernel_rfl
theorem sl28 : isSl Tryz.prog 28 = true := by kernel_rfl
theorem sl31 : isSl Tryz.prog 31 = true := by kernel_rfl
theorem sl45 : isSl Tryz.prog 45 = true := by kernel_rfl
theorem sl55 : isSl Tryz.prog 55 = true := by kernel_rfl
theorem sl71 : isSl Tryz.prog 71 = true := by kernel_rfl
theorem sl75 : isSl Tryz.prog 75 = true := by kernel_rfl
theorem sl91 : isSl Tryz.prog 91 = true := by kernel_rfl
theorem slz139 : slI Tryz.prog 139 = some (20, [.nilIface]) := by kernel_rfl
theorem slz167 : slI Tryz.prog 167 = some (122, [.int .i64 0, .int .i64 0, .int .i64 0]) := by kernel_rfl
theorem slz180 : slI Tryz.prog 180 = some (184, [.nilIface]) := by kernel_rfl
theorem slz224 : slI Tryz.prog 224 = some (171, [.int .u32 0]) := by kernel_rfl
theorem slz23 : slI Tryz.prog 23 = some (33, [.int .i64 0, .int .i64 0, .int .i64 0, .int .i64 0, .int .i64 0, .nilSlice, .int .i64 0, .int .i64 0, .int .i64 0, .int .i64 0, .int .i64 0]) := by kernel_rfl
theorem slz28 : slI Tryz.prog 28 = some (35, [.int .i64 0, .nilSlice, .int .i64 0, .int .i64 0, .int .i64 0, .int .i64 0]) := by kernel_rfl
theorem slz31 : slI Tryz.prog 31 = some (82, [.int .i64 0, .int .i64 0, .int .i64 0, .int .i64 0]) := by kernel_rfl
theorem slz45 : slI Tryz.prog 45 = some (3, [.int .i64 0]) := by kernel_rfl
theorem slz55 : slI Tryz.prog 55 = some (57, [.int .i64 0, .nilSlice]) := by kernel_rfl
theorem slz71 : slI Tryz.prog 71 = some (70, [.int .i64 0, .int .i64 0]) := by kernel_rfl
theorem slz75 : slI Tryz.prog 75 = some (5, [.int .u8 0]) := by kernel_rfl
theorem slz91 : slI Tryz.prog 91 = some (95, [.int .i64 0, .int .i64 0, .int .i64 0, .int .i64 0, .int .i64 0, .nilSlice, .int .i64 0, .int .i64 0, .int .i64 0, .int .i64 0, .int .i64 0, .int .i64 0, .int .i64 0]) := by kernel_rfl
theorem st9 : strI Tryz.prog 9 = true := by kernel_rfl
theorem ty122 : tyI Tryz.prog 122 = some (true, 3) := by kernel_rfl
theorem ty130 : tyI Tryz.prog 130 = some (false, 1) := by kernel_rfl
theorem ty133 : tyI Tryz.prog 133 = some (false, 1) := by kernel_rfl
theorem ty147 : tyI Tryz.prog 147 = some (true, 1) := by kernel_rfl
theorem ty159 : tyI Tryz.prog 159 = some (true, 2) := by kernel_rfl
theorem ty171 : tyI Tryz.prog 171 = some (false, 1) := by kernel_rfl
theorem ty184 : tyI Tryz.prog 184 = some (false, 1) := by kernel_rfl
theorem ty20 : tyI Tryz.prog 20 = some (false, 1) := by kernel_rfl
theorem ty204 : tyI Tryz.prog 204 = some (false, 1) := by kernel_rfl
theorem ty22 : tyI Tryz.prog 22 = some (false, 1) := by kernel_rfl
theorem ty255 : tyI Tryz.prog 255 = some (true, 2) := by kernel_rfl
theorem ty257 : tyI Tryz.prog 257 = some (true, 3) := by kernel_rfl
theorem ty28 : tyI Tryz.prog 28 = some (false, 1) := by kernel_rfl
theorem ty3 : tyI Tryz.prog 3 = some (false, 1) := by kernel_rfl
theorem ty30 : tyI Tryz.prog 30 = some (true, 2) := by kernel_rfl
theorem ty31 : tyI Tryz.prog 31 = some (false, 1) := by kernel_rfl
theorem ty33 : tyI Tryz.prog 33 = some (true, 11) := by kernel_rfl
theorem ty35 : tyI Tryz.prog 35 = some (true, 6) := by kernel_rfl
theorem ty36 : tyI Tryz.prog 36 = some (false, 1) := by kernel_rfl
theorem ty4 : tyI Tryz.prog 4 = some (false, 1) := by kernel_rfl
theorem ty45 : tyI Tryz.prog 45 = some (false, 1) := by kernel_rfl
theorem ty5 : tyI Tryz.prog 5 = some (false, 1) := by kernel_rfl
theorem ty57 : tyI Tryz.prog 57 = some (true, 2) := by kernel_rfl
theorem ty70 : tyI Tryz.prog 70 = some (true, 2) := by kernel_rfl
theorem ty71 : tyI Tryz.prog 71 = some (false, 1) := by kernel_rfl
theorem ty74 : tyI Tryz.prog 74 = some (false, 1) := by kernel_rfl
theorem ty75 : tyI Tryz.prog 75 = some (false, 1) := by kernel_rfl
theorem ty82 : tyI Tryz.prog 82 = some (true, 4) := by kernel_rfl
theorem ty9 : tyI Tryz.prog 9 = some (false, 1) := by kernel_rfl
theorem ty95 : tyI Tryz.prog 95 = some (true, 13) := by kernel_rfl
theorem ty97 : tyI Tryz.prog 97 = some (true, 6) := by kernel_rfl
theorem ub145_5 : ubI Tryz.prog 145 5 = true := by kernel_rfl
theorem un171 : Tryz.prog.underlying 171 = some (.int .u32) := by kernel_rfl
theorem un176 : Tryz.prog.underlying 176 = some (.int .u64) := by kernel_rfl
theorem un21 : Tryz.prog.underlying 21 = some (.int .i32) := by kernel_rfl
theorem un25 : Tryz.prog.underlying 25 = some (.int .u16) := by kernel_rfl
theorem un3 : Tryz.prog.underlying 3 = some (.int .i64) := by kernel_rfl
theorem un5 : Tryz.prog.underlying 5 = some (.int .u8) := by kernel_rfl
theorem un9 : Tryz.prog.underlying 9 = some .string := by kernel_rfl
theorem us210 : uspI Tryz.prog 210 = true := by kernel_rfl
theorem zr122 : zeroI Tryz.prog 122 = some (.agg [.int .i64 0, .int .i64 0, .int .i64 0]) := by kernel_rfl
theorem zr133 : zeroI Tryz.prog 133 = some (.nilFunc) := by kernel_rfl
theorem zr147 : zeroI Tryz.prog 147 = some (.agg [.int .i64 0]) := by kernel_rfl
theorem zr159 : zeroI Tryz.prog 159 = some (.agg [.int .i64 0, .int .i64 0]) := by kernel_rfl
theorem zr171 : zeroI Tryz.prog 171 = some (.int .u32 0) := by kernel_rfl
theorem zr203 : zeroI Tryz.prog 203 = some (.agg [.bool false, .bool false, .bool false, .bool false, .bool false, .bool false, .bool false, .bool false, .bool false, .bool false, .bool false, .bool false, .bool false, .bool false, .bool false, .bool false, .bool false, .bool false, .bool false, .bool false, .bool false, .bool false, .bool false, .bool false]) := by kernel_rfl
theorem zr204 : zeroI Tryz.prog 204 = some (.nilFunc) := by kernel_rfl
theorem zr255 : zeroI Tryz.prog 255 = some (.agg [.int .i64 0, .int .i64 0]) := by kernel_rfl
theorem zr28 : zeroI Tryz.prog 28 = some (.nilSlice) := by kernel_rfl
theorem zr3 : zeroI Tryz.prog 3 = some (.int .i64 0) := by kernel_rfl
theorem zr30 : zeroI Tryz.prog 30 = some (.agg [.int .i64 0, .int .i64 0]) := by kernel_rfl
theorem zr33 : zeroI Tryz.prog 33 = some (.agg [.int .i64 0, .int .i64 0, .int .i64 0, .int .i64 0, .int .i64 0, .nilSlice, .int .i64 0, .int .i64 0, .int .i64 0, .int .i64 0, .int .i64 0]) := by kernel_rfl
theorem zr35 : zeroI Tryz.prog 35 = some (.agg [.int .i64 0, .nilSlice, .int .i64 0, .int .i64 0, .int .i64 0, .int .i64 0]) := by kernel_rfl
theorem zr36 : zeroI Tryz.prog 36 = some (.int .i64 0) := by kernel_rfl
theorem zr57 : zeroI Tryz.prog 57 = some (.agg [.int .i64 0, .nilSlice]) := by kernel_rfl
theorem zr70 : zeroI Tryz.prog 70 = some (.agg [.int .i64 0, .int .i64 0]) := by kernel_rfl
theorem zr79 : zeroI Tryz.prog 79 = some (.agg [.nilPtr, .nilSlice]) := by kernel_rfl
theorem zr82 : zeroI Tryz.prog 82 = some (.agg [.int .i64 0, .int .i64 0, .int .i64 0, .int .i64 0]) := by kernel_rfl
theorem zr9 : zeroI Tryz.prog 9 = some (.str ⟨#[]⟩) := by kernel_rfl
theorem zr95 : zeroI Tryz.prog 95 = some (.agg [.int .i64 0, .int .i64 0, .int .i64 0, .int .i64 0, .int .i64 0, .nilSlice, .int .i64 0, .int .i64 0, .int .i64 0, .int .i64 0, .int .i64 0, .int .i64 0, .int .i64 0]) := by kernel_rfl
theorem zr97 : zeroI Tryz.prog 97 = some (.agg [.int .i64 0, .int .i64 0, .int .i64 0, .int .i64 0, .int .i64 0, .int .i64 0]) := by kernel_rfl
theorem mixed : Tryz.prog.follows .mixedOrders = true := by kernel_rfl
end Go.Proofs.YtbnemnhmejmeeaaGreatDoor
end
