/-
  Chapter 11: facts on types and functions, by the kernel.
-/
import Derived.Test.YtlalikkkobpfgaaDoorProg
import Derived.Test.YtlalikkkobpfgaaDoorAfR
import Derived.KernelRfl
set_option maxRecDepth 100000
namespace Go.Proofs.YtlalikkkobpfgaaDoor
open Go.AF
theorem ar72 : arrI Tryd.prog 72 = some 24 := by kernel_rfl
theorem ar77 : arrI Tryd.prog 77 = some 32 := by kernel_rfl
theorem bd32 : bldI Tryd.prog 32 = some ([.int .i64 0, .int .i64 0], [(0, 1), (1, 1)]) := by kernel_rfl
theorem bd39 : bldI Tryd.prog 39 = some ([.int .i64 0, .int .i64 0], [(0, 1), (1, 1)]) := by kernel_rfl
theorem by39 : byI Tryd.prog 39 = some 16 := by kernel_rfl
theorem con49 : conI Tryd.prog 49 = true := by kernel_rfl
theorem con56 : conI Tryd.prog 56 = true := by kernel_rfl
theorem eg32 : Tryd.prog.eqGuardType Tryd.prog.depth 32 = false := by kernel_rfl
theorem el22 : elI Tryd.prog 22 = some 2 := by kernel_rfl
theorem el49 : elI Tryd.prog 49 = some 2 := by kernel_rfl
theorem el53 : elI Tryd.prog 53 = some 1 := by kernel_rfl
theorem el72 : elI Tryd.prog 72 = some 1 := by kernel_rfl
theorem el75 : elI Tryd.prog 75 = some 1 := by kernel_rfl
theorem el77 : elI Tryd.prog 77 = some 1 := by kernel_rfl
theorem eq32 : eqTy Tryd.prog 8 32 = some [.int .i64, .int .i64] := by kernel_rfl
theorem fd32_0 : fldI Tryd.prog 32 0 = some 0 := by kernel_rfl
theorem fd32_1 : fldI Tryd.prog 32 1 = some 1 := by kernel_rfl
theorem fd39_0 : fldI Tryd.prog 39 0 = some 0 := by kernel_rfl
theorem fd39_1 : fldI Tryd.prog 39 1 = some 1 := by kernel_rfl
theorem mp56 : mapI Tryd.prog 56 = some (.int .i64, .int .u32 0) := by kernel_rfl
theorem rf10 : realFn Tryd.prog 10 = true := by kernel_rfl
theorem rf11 : realFn Tryd.prog 11 = true := by kernel_rfl
theorem rf13 : realFn Tryd.prog 13 = true := by kernel_rfl
theorem rf15 : realFn Tryd.prog 15 = true := by kernel_rfl
theorem rf17 : realFn Tryd.prog 17 = true := by kernel_rfl
theorem rf19 : realFn Tryd.prog 19 = true := by kernel_rfl
theorem rf21 : realFn Tryd.prog 21 = true := by kernel_rfl
theorem rf22 : realFn Tryd.prog 22 = true := by kernel_rfl
theorem rf23 : realFn Tryd.prog 23 = true := by kernel_rfl
theorem rf24 : realFn Tryd.prog 24 = true := by kernel_rfl
theorem rf25 : realFn Tryd.prog 25 = true := by kernel_rfl
theorem rf26 : realFn Tryd.prog 26 = true := by kernel_rfl
theorem rf28 : realFn Tryd.prog 28 = true := by kernel_rfl
theorem rf30 : realFn Tryd.prog 30 = true := by kernel_rfl
theorem rf31 : realFn Tryd.prog 31 = true := by kernel_rfl
theorem rf33 : realFn Tryd.prog 33 = true := by kernel_rfl
theorem rf34 : realFn Tryd.prog 34 = true := by kernel_rfl
theorem rf35 : realFn Tryd.prog 35 = true := by kernel_rfl
theorem rf36 : realFn Tryd.prog 36 = true := by kernel_rfl
theorem rf37 : realFn Tryd.prog 37 = true := by kernel_rfl
theorem rf39 : realFn Tryd.prog 39 = true := by kernel_rfl
theorem rf40 : realFn Tryd.prog 40 = true := by kernel_rfl
theorem rf42 : realFn Tryd.prog 42 = true := by kernel_rfl
theorem rf43 : realFn Tryd.prog 43 = true := by kernel_rfl
theorem rf44 : realFn Tryd.prog 44 = true := by kernel_rfl
theorem rf45 : realFn Tryd.prog 45 = true := by kernel_rfl
theorem rf46 : realFn Tryd.prog 46 = true := by kernel_rfl
theorem rf47 : realFn Tryd.prog 47 = true := by kernel_rfl
theorem rf48 : realFn Tryd.prog 48 = true := by kernel_rfl
theorem rf49 : realFn Tryd.prog 49 = true := by kernel_rfl
theorem rf65 : realFn Tryd.prog 65 = true := by kernel_rfl
theorem rf66 : realFn Tryd.prog 66 = true := by kernel_rfl
theorem sl22 : isSl Tryd.prog 22 = true := by kernel_rfl
theorem sl49 : isSl Tryd.prog 49 = true := by kernel_rfl
theorem sl53 : isSl Tryd.prog 53 = true := by kernel_rfl
theorem sl75 : isSl Tryd.prog 75 = true := by kernel_rfl
theorem slz22 : slI Tryd.prog 22 = some (39, [.int .i64 0, .int .i64 0]) := by kernel_rfl
theorem slz53 : slI Tryd.prog 53 = some (3, [.int .i64 0]) := by kernel_rfl
theorem slz75 : slI Tryd.prog 75 = some (60, [.int .u32 0]) := by kernel_rfl
theorem ty22 : tyI Tryd.prog 22 = some (false, 1) := by kernel_rfl
theorem ty3 : tyI Tryd.prog 3 = some (false, 1) := by kernel_rfl
theorem ty32 : tyI Tryd.prog 32 = some (true, 2) := by kernel_rfl
theorem ty39 : tyI Tryd.prog 39 = some (true, 2) := by kernel_rfl
theorem ty4 : tyI Tryd.prog 4 = some (false, 1) := by kernel_rfl
theorem ty48 : tyI Tryd.prog 48 = some (false, 1) := by kernel_rfl
theorem ty5 : tyI Tryd.prog 5 = some (false, 1) := by kernel_rfl
theorem ty56 : tyI Tryd.prog 56 = some (false, 1) := by kernel_rfl
theorem ty60 : tyI Tryd.prog 60 = some (false, 1) := by kernel_rfl
theorem ty62 : tyI Tryd.prog 62 = some (false, 1) := by kernel_rfl
theorem ty73 : tyI Tryd.prog 73 = some (false, 1) := by kernel_rfl
theorem un3 : Tryd.prog.underlying 3 = some (.int .i64) := by kernel_rfl
theorem un35 : Tryd.prog.underlying 35 = some (.int .u32) := by kernel_rfl
theorem un4 : Tryd.prog.underlying 4 = some .bool := by kernel_rfl
theorem un5 : Tryd.prog.underlying 5 = some (.int .u8) := by kernel_rfl
theorem un60 : Tryd.prog.underlying 60 = some (.int .u32) := by kernel_rfl
theorem zr3 : zeroI Tryd.prog 3 = some (.int .i64 0) := by kernel_rfl
theorem zr32 : zeroI Tryd.prog 32 = some (.agg [.int .i64 0, .int .i64 0]) := by kernel_rfl
theorem zr39 : zeroI Tryd.prog 39 = some (.agg [.int .i64 0, .int .i64 0]) := by kernel_rfl
theorem zr4 : zeroI Tryd.prog 4 = some (.bool false) := by kernel_rfl
theorem zr56 : zeroI Tryd.prog 56 = some (.nilMap) := by kernel_rfl
theorem zr60 : zeroI Tryd.prog 60 = some (.int .u32 0) := by kernel_rfl
theorem zr62 : zeroI Tryd.prog 62 = some (.nilFunc) := by kernel_rfl
theorem zr72 : zeroI Tryd.prog 72 = some (.agg [.bool false, .bool false, .bool false, .bool false, .bool false, .bool false, .bool false, .bool false, .bool false, .bool false, .bool false, .bool false, .bool false, .bool false, .bool false, .bool false, .bool false, .bool false, .bool false, .bool false, .bool false, .bool false, .bool false, .bool false]) := by kernel_rfl
theorem zr73 : zeroI Tryd.prog 73 = some (.nilFunc) := by kernel_rfl
theorem mixed : Tryd.prog.follows .mixedOrders = true := by kernel_rfl
end Go.Proofs.YtlalikkkobpfgaaDoor
