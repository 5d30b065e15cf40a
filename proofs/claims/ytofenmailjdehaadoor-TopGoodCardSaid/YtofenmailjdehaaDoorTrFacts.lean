/-
  Chapters 6 and 11: facts on types and functions, by the kernel.
-/
import Derived.Test.YtofenmailjdehaaDoorProg
import Derived.Test.YtofenmailjdehaaDoorAfR
import Derived.KernelRfl
set_option maxRecDepth 100000
namespace Go.Proofs.YtofenmailjdehaaDoor
open Go.AF
theorem ar130 : arrI Tryd.prog 130 = some 24 := by kernel_rfl
theorem ar160 : arrI Tryd.prog 160 = some 32 := by kernel_rfl
theorem bd40 : bldI Tryd.prog 40 = some ([.int .i64 0, .int .i64 0], [(0, 1), (1, 1)]) := by kernel_rfl
theorem con125 : conI Tryd.prog 125 = true := by kernel_rfl
theorem con82 : conI Tryd.prog 82 = true := by kernel_rfl
theorem el125 : elI Tryd.prog 125 = some 2 := by kernel_rfl
theorem el126 : elI Tryd.prog 126 = some 1 := by kernel_rfl
theorem el130 : elI Tryd.prog 130 = some 1 := by kernel_rfl
theorem el160 : elI Tryd.prog 160 = some 1 := by kernel_rfl
theorem el22 : elI Tryd.prog 22 = some 1 := by kernel_rfl
theorem el29 : elI Tryd.prog 29 = some 2 := by kernel_rfl
theorem fd31_0 : fldI Tryd.prog 31 0 = some 0 := by kernel_rfl
theorem fd31_1 : fldI Tryd.prog 31 1 = some 1 := by kernel_rfl
theorem fd40_0 : fldI Tryd.prog 40 0 = some 0 := by kernel_rfl
theorem fd40_1 : fldI Tryd.prog 40 1 = some 1 := by kernel_rfl
theorem mp82 : mapI Tryd.prog 82 = some (.int .i64, .int .u32 0) := by kernel_rfl
theorem rf10 : realFn Tryd.prog 10 = true := by kernel_rfl
theorem rf103 : realFn Tryd.prog 103 = true := by kernel_rfl
theorem rf21 : realFn Tryd.prog 21 = true := by kernel_rfl
theorem rf22 : realFn Tryd.prog 22 = true := by kernel_rfl
theorem rf23 : realFn Tryd.prog 23 = true := by kernel_rfl
theorem rf24 : realFn Tryd.prog 24 = true := by kernel_rfl
theorem rf25 : realFn Tryd.prog 25 = true := by kernel_rfl
theorem rf26 : realFn Tryd.prog 26 = true := by kernel_rfl
theorem rf44 : realFn Tryd.prog 44 = true := by kernel_rfl
theorem rf45 : realFn Tryd.prog 45 = true := by kernel_rfl
theorem rf46 : realFn Tryd.prog 46 = true := by kernel_rfl
theorem rf47 : realFn Tryd.prog 47 = true := by kernel_rfl
theorem rf48 : realFn Tryd.prog 48 = true := by kernel_rfl
theorem rf49 : realFn Tryd.prog 49 = true := by kernel_rfl
theorem rf50 : realFn Tryd.prog 50 = true := by kernel_rfl
theorem rf51 : realFn Tryd.prog 51 = true := by kernel_rfl
theorem rf52 : realFn Tryd.prog 52 = true := by kernel_rfl
theorem rf73 : realFn Tryd.prog 73 = true := by kernel_rfl
theorem rf98 : realFn Tryd.prog 98 = true := by kernel_rfl
theorem sl125 : isSl Tryd.prog 125 = true := by kernel_rfl
theorem sl126 : isSl Tryd.prog 126 = true := by kernel_rfl
theorem sl22 : isSl Tryd.prog 22 = true := by kernel_rfl
theorem sl29 : isSl Tryd.prog 29 = true := by kernel_rfl
theorem slz126 : slI Tryd.prog 126 = some (78, [.int .u32 0]) := by kernel_rfl
theorem slz22 : slI Tryd.prog 22 = some (3, [.int .i64 0]) := by kernel_rfl
theorem ty129 : tyI Tryd.prog 129 = some (false, 1) := by kernel_rfl
theorem ty131 : tyI Tryd.prog 131 = some (false, 1) := by kernel_rfl
theorem ty29 : tyI Tryd.prog 29 = some (false, 1) := by kernel_rfl
theorem ty3 : tyI Tryd.prog 3 = some (false, 1) := by kernel_rfl
theorem ty31 : tyI Tryd.prog 31 = some (true, 2) := by kernel_rfl
theorem ty4 : tyI Tryd.prog 4 = some (false, 1) := by kernel_rfl
theorem ty40 : tyI Tryd.prog 40 = some (true, 2) := by kernel_rfl
theorem ty5 : tyI Tryd.prog 5 = some (false, 1) := by kernel_rfl
theorem ty78 : tyI Tryd.prog 78 = some (false, 1) := by kernel_rfl
theorem ty82 : tyI Tryd.prog 82 = some (false, 1) := by kernel_rfl
theorem un3 : Tryd.prog.underlying 3 = some (.int .i64) := by kernel_rfl
theorem un5 : Tryd.prog.underlying 5 = some (.int .u8) := by kernel_rfl
theorem un78 : Tryd.prog.underlying 78 = some (.int .u32) := by kernel_rfl
theorem zr130 : zeroI Tryd.prog 130 = some (.agg [.bool false, .bool false, .bool false, .bool false, .bool false, .bool false, .bool false, .bool false, .bool false, .bool false, .bool false, .bool false, .bool false, .bool false, .bool false, .bool false, .bool false, .bool false, .bool false, .bool false, .bool false, .bool false, .bool false, .bool false]) := by kernel_rfl
theorem zr131 : zeroI Tryd.prog 131 = some (.nilFunc) := by kernel_rfl
theorem zr3 : zeroI Tryd.prog 3 = some (.int .i64 0) := by kernel_rfl
theorem zr31 : zeroI Tryd.prog 31 = some (.agg [.int .i64 0, .int .i64 0]) := by kernel_rfl
theorem zr4 : zeroI Tryd.prog 4 = some (.bool false) := by kernel_rfl
theorem zr40 : zeroI Tryd.prog 40 = some (.agg [.int .i64 0, .int .i64 0]) := by kernel_rfl
theorem zr78 : zeroI Tryd.prog 78 = some (.int .u32 0) := by kernel_rfl
theorem zr82 : zeroI Tryd.prog 82 = some (.nilMap) := by kernel_rfl
theorem mixed : Tryd.prog.follows .mixedOrders = true := by kernel_rfl
end Go.Proofs.YtofenmailjdehaaDoor
