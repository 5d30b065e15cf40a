/-
  Chapters 2, 9, 11 and 14: facts on types and functions, by the kernel.
-/
import Derived.Test.YtbnemnhmejmeeaaGreatDoorProg
import Derived.Test.YtbnemnhmejmeeaaGreatDoorFaE
import Derived.KernelRfl
section
set_option maxRecDepth 100000
namespace Go.Proofs.YtbnemnhmejmeeaaGreatDoor
open Go.AF
theorem ar203 : arrI Tryz.prog 203 = some 24 := by kernel_rfl
theorem ar236 : arrI Tryz.prog 236 = some 32 := by kernel_rfl
theorem bd122 : bldI Tryz.prog 122 = some ([.int .i64 0, .int .i64 0, .int .i64 0], [(0, 1), (1, 1), (2, 1)]) := by kernel_rfl
theorem bd147 : bldI Tryz.prog 147 = some ([.int .i64 0], [(0, 1)]) := by kernel_rfl
theorem bd150 : bldI Tryz.prog 150 = some ([.str ⟨#[]⟩], [(0, 1)]) := by kernel_rfl
theorem bd30 : bldI Tryz.prog 30 = some ([.int .i64 0, .int .i64 0], [(0, 1), (1, 1)]) := by kernel_rfl
theorem bd35 : bldI Tryz.prog 35 = some ([.int .i64 0, .nilSlice, .int .i64 0, .int .i64 0, .int .i64 0, .int .i64 0], [(0, 1), (1, 1), (2, 2), (4, 2)]) := by kernel_rfl
theorem bd57 : bldI Tryz.prog 57 = some ([.int .i64 0, .nilSlice], [(0, 1), (1, 1)]) := by kernel_rfl
theorem bd70 : bldI Tryz.prog 70 = some ([.int .i64 0, .int .i64 0], [(0, 1), (1, 1)]) := by kernel_rfl
theorem by122 : byI Tryz.prog 122 = some 24 := by kernel_rfl
theorem by3 : byI Tryz.prog 3 = some 8 := by kernel_rfl
theorem by5 : byI Tryz.prog 5 = some 1 := by kernel_rfl
theorem by57 : byI Tryz.prog 57 = some 32 := by kernel_rfl
theorem con131 : conI Tryz.prog 131 = true := by kernel_rfl
theorem con147 : conI Tryz.prog 147 = true := by kernel_rfl
theorem con3 : conI Tryz.prog 3 = true := by kernel_rfl
theorem con30 : conI Tryz.prog 30 = true := by kernel_rfl
theorem con9 : conI Tryz.prog 9 = true := by kernel_rfl
theorem eg122 : Tryz.prog.eqGuardType Tryz.prog.depth 122 = false := by kernel_rfl
theorem el131 : elI Tryz.prog 131 = some 2 := by kernel_rfl
theorem el139 : elI Tryz.prog 139 = some 1 := by kernel_rfl
theorem el167 : elI Tryz.prog 167 = some 3 := by kernel_rfl
theorem el203 : elI Tryz.prog 203 = some 1 := by kernel_rfl
theorem el224 : elI Tryz.prog 224 = some 1 := by kernel_rfl
theorem el236 : elI Tryz.prog 236 = some 1 := by kernel_rfl
theorem el28 : elI Tryz.prog 28 = some 6 := by kernel_rfl
theorem el31 : elI Tryz.prog 31 = some 4 := by kernel_rfl
theorem el45 : elI Tryz.prog 45 = some 1 := by kernel_rfl
theorem el55 : elI Tryz.prog 55 = some 2 := by kernel_rfl
theorem el71 : elI Tryz.prog 71 = some 2 := by kernel_rfl
theorem eq122 : eqTy Tryz.prog 8 122 = some [.int .i64, .int .i64, .int .i64] := by kernel_rfl
theorem fd122_0 : fldI Tryz.prog 122 0 = some 0 := by kernel_rfl
theorem fd122_1 : fldI Tryz.prog 122 1 = some 1 := by kernel_rfl
theorem fd122_2 : fldI Tryz.prog 122 2 = some 2 := by kernel_rfl
theorem fd147_0 : fldI Tryz.prog 147 0 = some 0 := by kernel_rfl
theorem fd150_0 : fldI Tryz.prog 150 0 = some 0 := by kernel_rfl
theorem fd30_0 : fldI Tryz.prog 30 0 = some 0 := by kernel_rfl
theorem fd30_1 : fldI Tryz.prog 30 1 = some 1 := by kernel_rfl
theorem fd35_0 : fldI Tryz.prog 35 0 = some 0 := by kernel_rfl
theorem fd35_1 : fldI Tryz.prog 35 1 = some 1 := by kernel_rfl
theorem fd35_2 : fldI Tryz.prog 35 2 = some 2 := by kernel_rfl
theorem fd35_3 : fldI Tryz.prog 35 3 = some 4 := by kernel_rfl
theorem fd57_0 : fldI Tryz.prog 57 0 = some 0 := by kernel_rfl
theorem fd57_1 : fldI Tryz.prog 57 1 = some 1 := by kernel_rfl
theorem fd70_0 : fldI Tryz.prog 70 0 = some 0 := by kernel_rfl
theorem fd70_1 : fldI Tryz.prog 70 1 = some 1 := by kernel_rfl
theorem fd77_0 : fldI Tryz.prog 77 0 = some 0 := by kernel_rfl
theorem fd77_1 : fldI Tryz.prog 77 1 = some 1 := by kernel_rfl
theorem fd79_0 : fldI Tryz.prog 79 0 = some 0 := by kernel_rfl
theorem fd82_0 : fldI Tryz.prog 82 0 = some 0 := by kernel_rfl
theorem fd82_1 : fldI Tryz.prog 82 1 = some 2 := by kernel_rfl
theorem ifc20 : ifcI Tryz.prog 20 = true := by kernel_rfl
theorem pt74 : ptrI Tryz.prog 74 = some (77, 2) := by kernel_rfl
theorem rf101 : realFn Tryz.prog 101 = true := by kernel_rfl
theorem rf110 : realFn Tryz.prog 110 = true := by kernel_rfl
theorem rf117 : realFn Tryz.prog 117 = true := by kernel_rfl
theorem rf119 : realFn Tryz.prog 119 = true := by kernel_rfl
theorem rf120 : realFn Tryz.prog 120 = true := by kernel_rfl
theorem rf121 : realFn Tryz.prog 121 = true := by kernel_rfl
theorem rf122 : realFn Tryz.prog 122 = true := by kernel_rfl
theorem rf123 : realFn Tryz.prog 123 = true := by kernel_rfl
theorem rf126 : realFn Tryz.prog 126 = true := by kernel_rfl
theorem rf130 : realFn Tryz.prog 130 = true := by kernel_rfl
theorem rf139 : realFn Tryz.prog 139 = true := by kernel_rfl
theorem rf140 : realFn Tryz.prog 140 = true := by kernel_rfl
theorem rf145 : realFn Tryz.prog 145 = true := by kernel_rfl
theorem rf16 : realFn Tryz.prog 16 = true := by kernel_rfl
theorem rf170 : realFn Tryz.prog 170 = true := by kernel_rfl
theorem rf22 : realFn Tryz.prog 22 = true := by kernel_rfl
theorem rf23 : realFn Tryz.prog 23 = true := by kernel_rfl
theorem rf24 : realFn Tryz.prog 24 = true := by kernel_rfl
theorem rf25 : realFn Tryz.prog 25 = true := by kernel_rfl
theorem rf26 : realFn Tryz.prog 26 = true := by kernel_rfl
theorem rf50 : realFn Tryz.prog 50 = true := by kernel_rfl
theorem rf51 : realFn Tryz.prog 51 = true := by kernel_rfl
theorem rf52 : realFn Tryz.prog 52 = true := by kernel_rfl
theorem rf53 : realFn Tryz.prog 53 = true := by kernel_rfl
theorem rf54 : realFn Tryz.prog 54 = true := by kernel_rfl
theorem rf55 : realFn Tryz.prog 55 = true := by kernel_rfl
theorem rf6 : realFn Tryz.prog 6 = true := by kernel_rfl
theorem rf60 : realFn Tryz.prog 60 = true := by kernel_rfl
theorem rf61 : realFn Tryz.prog 61 = true := by kernel_rfl
theorem rf62 : realFn Tryz.prog 62 = true := by kernel_rfl
theorem rf63 : realFn Tryz.prog 63 = true := by kernel_rfl
theorem rf64 : realFn Tryz.prog 64 = true := by kernel_rfl
theorem rf65 : realFn Tryz.prog 65 = true := by kernel_rfl
theorem rf66 : realFn Tryz.prog 66 = true := by kernel_rfl
theorem rf67 : realFn Tryz.prog 67 = true := by kernel_rfl
theorem rf68 : realFn Tryz.prog 68 = true := by kernel_rfl
theorem rf69 : realFn Tryz.prog 69 = true := by kernel_rfl
theorem rf7 : realFn Tryz.prog 7 = true := by kernel_rfl
theorem rf71 : realFn Tryz.prog 71 = true := by kernel_rfl
theorem rf72 : realFn Tryz.prog 72 = true := by kernel_rfl
theorem rf74 : realFn Tryz.prog 74 = true := by kernel_rfl
theorem rf75 : realFn Tryz.prog 75 = true := by kernel_rfl
theorem rf85 : realFn Tryz.prog 85 = true := by kernel_rfl
theorem rf87 : realFn Tryz.prog 87 = true := by kernel_rfl
theorem rf88 : realFn Tryz.prog 88 = true := by kernel_rfl
theorem rf89 : realFn Tryz.prog 89 = true := by kernel_rfl
theorem rf90 : realFn Tryz.prog 90 = true := by kernel_rfl
theorem rf91 : realFn Tryz.prog 91 = true := by kernel_rfl
theorem rf92 : realFn Tryz.prog 92 = true := by kernel_rfl
theorem rf93 : realFn Tryz.prog 93 = true := by kernel_rfl
theorem rf95 : realFn Tryz.prog 95 = true := by kernel_rfl
theorem rf96 : realFn Tryz.prog 96 = true := by kernel_rfl
theorem rf97 : realFn Tryz.prog 97 = true := by kernel_rfl
theorem rf98 : realFn Tryz.prog 98 = true := by kernel_rfl
theorem rf99 : realFn Tryz.prog 99 = true := by kernel_rfl
theorem sl131 : isSl Tryz.prog 131 = true := by kernel_rfl
theorem sl139 : isSl Tryz.prog 139 = true := by kernel_rfl
theorem sl167 : isSl Tryz.prog 167 = true := by kernel_rfl
theorem sl224 : isSl Tryz.prog 224 = true := by kernel_rfl
theorem sl28 : isSl Tryz.prog 28 = true := by kernel_rfl
theorem sl31 : isSl Tryz.prog 31 = true := by kernel_rfl
theorem sl45 : isSl Tryz.prog 45 = true := by kernel_rfl
theorem sl55 : isSl Tryz.prog 55 = true := by kernel_rfl
theorem sl71 : isSl Tryz.prog 71 = true := by kernel_rfl
theorem sl75 : isSl Tryz.prog 75 = true := by kernel_rfl
theorem slz139 : slI Tryz.prog 139 = some (20, [.nilIface]) := by kernel_rfl
theorem slz167 : slI Tryz.prog 167 = some (122, [.int .i64 0, .int .i64 0, .int .i64 0]) := by kernel_rfl
theorem slz224 : slI Tryz.prog 224 = some (171, [.int .u32 0]) := by kernel_rfl
theorem slz28 : slI Tryz.prog 28 = some (35, [.int .i64 0, .nilSlice, .int .i64 0, .int .i64 0, .int .i64 0, .int .i64 0]) := by kernel_rfl
theorem slz45 : slI Tryz.prog 45 = some (3, [.int .i64 0]) := by kernel_rfl
theorem slz55 : slI Tryz.prog 55 = some (57, [.int .i64 0, .nilSlice]) := by kernel_rfl
theorem slz71 : slI Tryz.prog 71 = some (70, [.int .i64 0, .int .i64 0]) := by kernel_rfl
theorem slz75 : slI Tryz.prog 75 = some (5, [.int .u8 0]) := by kernel_rfl
theorem st9 : strI Tryz.prog 9 = true := by kernel_rfl
theorem ty122 : tyI Tryz.prog 122 = some (true, 3) := by kernel_rfl
theorem ty130 : tyI Tryz.prog 130 = some (false, 1) := by kernel_rfl
theorem ty133 : tyI Tryz.prog 133 = some (false, 1) := by kernel_rfl
theorem ty147 : tyI Tryz.prog 147 = some (true, 1) := by kernel_rfl
theorem ty171 : tyI Tryz.prog 171 = some (false, 1) := by kernel_rfl
theorem ty20 : tyI Tryz.prog 20 = some (false, 1) := by kernel_rfl
theorem ty204 : tyI Tryz.prog 204 = some (false, 1) := by kernel_rfl
theorem ty3 : tyI Tryz.prog 3 = some (false, 1) := by kernel_rfl
theorem ty30 : tyI Tryz.prog 30 = some (true, 2) := by kernel_rfl
theorem ty31 : tyI Tryz.prog 31 = some (false, 1) := by kernel_rfl
theorem ty35 : tyI Tryz.prog 35 = some (true, 6) := by kernel_rfl
theorem ty36 : tyI Tryz.prog 36 = some (false, 1) := by kernel_rfl
theorem ty4 : tyI Tryz.prog 4 = some (false, 1) := by kernel_rfl
theorem ty45 : tyI Tryz.prog 45 = some (false, 1) := by kernel_rfl
theorem ty5 : tyI Tryz.prog 5 = some (false, 1) := by kernel_rfl
theorem ty55 : tyI Tryz.prog 55 = some (false, 1) := by kernel_rfl
theorem ty57 : tyI Tryz.prog 57 = some (true, 2) := by kernel_rfl
theorem ty70 : tyI Tryz.prog 70 = some (true, 2) := by kernel_rfl
theorem ty71 : tyI Tryz.prog 71 = some (false, 1) := by kernel_rfl
theorem ty74 : tyI Tryz.prog 74 = some (false, 1) := by kernel_rfl
theorem ty75 : tyI Tryz.prog 75 = some (false, 1) := by kernel_rfl
theorem ty82 : tyI Tryz.prog 82 = some (true, 4) := by kernel_rfl
theorem ty9 : tyI Tryz.prog 9 = some (false, 1) := by kernel_rfl
theorem ub145_5 : ubI Tryz.prog 145 5 = true := by kernel_rfl
theorem un171 : Tryz.prog.underlying 171 = some (.int .u32) := by kernel_rfl
theorem un176 : Tryz.prog.underlying 176 = some (.int .u64) := by kernel_rfl
theorem un21 : Tryz.prog.underlying 21 = some (.int .i32) := by kernel_rfl
theorem un25 : Tryz.prog.underlying 25 = some (.int .u16) := by kernel_rfl
theorem un3 : Tryz.prog.underlying 3 = some (.int .i64) := by kernel_rfl
theorem un5 : Tryz.prog.underlying 5 = some (.int .u8) := by kernel_rfl
theorem un9 : Tryz.prog.underlying 9 = some .string := by kernel_rfl
theorem us210 : uspI Tryz.prog 210 = true := by kernel_rfl
theorem zr122 : zeroI Tryz.prog 122 = some (.agg [.int .i64 0, .int .i64 0, .int .i64 0]) := by kernel_rfl
theorem zr133 : zeroI Tryz.prog 133 = some (.nilFunc) := by kernel_rfl
theorem zr147 : zeroI Tryz.prog 147 = some (.agg [.int .i64 0]) := by kernel_rfl
theorem zr171 : zeroI Tryz.prog 171 = some (.int .u32 0) := by kernel_rfl
theorem zr203 : zeroI Tryz.prog 203 = some (.agg [.bool false, .bool false, .bool false, .bool false, .bool false, .bool false, .bool false, .bool false, .bool false, .bool false, .bool false, .bool false, .bool false, .bool false, .bool false, .bool false, .bool false, .bool false, .bool false, .bool false, .bool false, .bool false, .bool false, .bool false]) := by kernel_rfl
theorem zr204 : zeroI Tryz.prog 204 = some (.nilFunc) := by kernel_rfl
theorem zr3 : zeroI Tryz.prog 3 = some (.int .i64 0) := by kernel_rfl
theorem zr30 : zeroI Tryz.prog 30 = some (.agg [.int .i64 0, .int .i64 0]) := by kernel_rfl
theorem zr35 : zeroI Tryz.prog 35 = some (.agg [.int .i64 0, .nilSlice, .int .i64 0, .int .i64 0, .int .i64 0, .int .i64 0]) := by kernel_rfl
theorem zr36 : zeroI Tryz.prog 36 = some (.int .i64 0) := by kernel_rfl
theorem zr55 : zeroI Tryz.prog 55 = some (.nilSlice) := by kernel_rfl
theorem zr57 : zeroI Tryz.prog 57 = some (.agg [.int .i64 0, .nilSlice]) := by kernel_rfl
theorem zr70 : zeroI Tryz.prog 70 = some (.agg [.int .i64 0, .int .i64 0]) := by kernel_rfl
theorem zr79 : zeroI Tryz.prog 79 = some (.agg [.nilPtr, .nilSlice]) := by kernel_rfl
theorem zr82 : zeroI Tryz.prog 82 = some (.agg [.int .i64 0, .int .i64 0, .int .i64 0, .int .i64 0]) := by kernel_rfl
theorem zr9 : zeroI Tryz.prog 9 = some (.str ⟨#[]⟩) := by kernel_rfl
theorem mixed : Tryz.prog.follows .mixedOrders = true := by kernel_rfl
end Go.Proofs.YtbnemnhmejmeeaaGreatDoor
end
