/-
  Chapters 2, 9, 11 and 14: more facts on types and functions, by the kernel.
-/
import Derived.Test.YtbnemnhmejmeeaaGreatDoorRqF
import Derived.Test.YtbnemnhmejmeeaaGreatDoorFaC
section
set_option maxRecDepth 100000
namespace Go.Proofs.YtbnemnhmejmeeaaGreatDoor
open Go.AF
theorem ar109 : arrI Tryz.prog 109 = some 8 := by kernel_rfl
theorem ar110 : arrI Tryz.prog 110 = some 8 := by kernel_rfl
theorem by105 : byI Tryz.prog 105 = some 16 := by kernel_rfl
theorem by113 : byI Tryz.prog 113 = some 8 := by kernel_rfl
theorem by45 : byI Tryz.prog 45 = some 24 := by kernel_rfl
theorem el109 : elI Tryz.prog 109 = some 1 := by kernel_rfl
theorem el110 : elI Tryz.prog 110 = some 8 := by kernel_rfl
theorem el193 : elI Tryz.prog 193 = some 1 := by kernel_rfl
theorem el50 : elI Tryz.prog 50 = some 2 := by kernel_rfl
theorem el52 : elI Tryz.prog 52 = some 1 := by kernel_rfl
theorem fd105_0 : fldI Tryz.prog 105 0 = some 0 := by kernel_rfl
theorem fd105_1 : fldI Tryz.prog 105 1 = some 1 := by kernel_rfl
theorem mp190 : mapI Tryz.prog 190 = some (.int .i64, .int .i64 0) := by kernel_rfl
theorem rf108 : realFn Tryz.prog 108 = true := by kernel_rfl
theorem rf109 : realFn Tryz.prog 109 = true := by kernel_rfl
theorem rf111 : realFn Tryz.prog 111 = true := by kernel_rfl
theorem rf112 : realFn Tryz.prog 112 = true := by kernel_rfl
theorem rf113 : realFn Tryz.prog 113 = true := by kernel_rfl
theorem rf114 : realFn Tryz.prog 114 = true := by kernel_rfl
theorem rf115 : realFn Tryz.prog 115 = true := by kernel_rfl
theorem rf116 : realFn Tryz.prog 116 = true := by kernel_rfl
theorem rf131 : realFn Tryz.prog 131 = true := by kernel_rfl
theorem rf132 : realFn Tryz.prog 132 = true := by kernel_rfl
theorem rf133 : realFn Tryz.prog 133 = true := by kernel_rfl
theorem rf134 : realFn Tryz.prog 134 = true := by kernel_rfl
theorem rf135 : realFn Tryz.prog 135 = true := by kernel_rfl
theorem rf146 : realFn Tryz.prog 146 = true := by kernel_rfl
theorem rf40 : realFn Tryz.prog 40 = true := by kernel_rfl
theorem rf41 : realFn Tryz.prog 41 = true := by kernel_rfl
theorem rf42 : realFn Tryz.prog 42 = true := by kernel_rfl
theorem rf43 : realFn Tryz.prog 43 = true := by kernel_rfl
theorem rf44 : realFn Tryz.prog 44 = true := by kernel_rfl
theorem rf45 : realFn Tryz.prog 45 = true := by kernel_rfl
theorem rf46 : realFn Tryz.prog 46 = true := by kernel_rfl
theorem rf47 : realFn Tryz.prog 47 = true := by kernel_rfl
theorem rf48 : realFn Tryz.prog 48 = true := by kernel_rfl
theorem rf49 : realFn Tryz.prog 49 = true := by kernel_rfl
theorem rf82 : realFn Tryz.prog 82 = true := by kernel_rfl
theorem rf83 : realFn Tryz.prog 83 = true := by kernel_rfl
theorem rf84 : realFn Tryz.prog 84 = true := by kernel_rfl
theorem rf86 : realFn Tryz.prog 86 = true := by kernel_rfl
theorem sl193 : isSl Tryz.prog 193 = true := by kernel_rfl
theorem sl50 : isSl Tryz.prog 50 = true := by kernel_rfl
theorem sl52 : isSl Tryz.prog 52 = true := by kernel_rfl
theorem slz193 : slI Tryz.prog 193 = some (113, [.int .i64 0]) := by kernel_rfl
theorem slz50 : slI Tryz.prog 50 = some (105, [.int .i64 0, .int .i64 0]) := by kernel_rfl
theorem slz52 : slI Tryz.prog 52 = some (45, [.nilSlice]) := by kernel_rfl
theorem ty105 : tyI Tryz.prog 105 = some (true, 2) := by kernel_rfl
theorem ty113 : tyI Tryz.prog 113 = some (false, 1) := by kernel_rfl
theorem ty114 : tyI Tryz.prog 114 = some (false, 1) := by kernel_rfl
theorem ty193 : tyI Tryz.prog 193 = some (false, 1) := by kernel_rfl
theorem ty50 : tyI Tryz.prog 50 = some (false, 1) := by kernel_rfl
theorem zr105 : zeroI Tryz.prog 105 = some (.agg [.int .i64 0, .int .i64 0]) := by kernel_rfl
theorem zr110 : zeroI Tryz.prog 110 = some (.agg [.int .i64 0, .int .i64 0, .int .i64 0, .int .i64 0, .int .i64 0, .int .i64 0, .int .i64 0, .int .i64 0, .int .i64 0, .int .i64 0, .int .i64 0, .int .i64 0, .int .i64 0, .int .i64 0, .int .i64 0, .int .i64 0, .int .i64 0, .int .i64 0, .int .i64 0, .int .i64 0, .int .i64 0, .int .i64 0, .int .i64 0, .int .i64 0, .int .i64 0, .int .i64 0, .int .i64 0, .int .i64 0, .int .i64 0, .int .i64 0, .int .i64 0, .int .i64 0, .int .i64 0, .int .i64 0, .int .i64 0, .int .i64 0, .int .i64 0, .int .i64 0, .int .i64 0, .int .i64 0, .int .i64 0, .int .i64 0, .int .i64 0, .int .i64 0, .int .i64 0, .int .i64 0, .int .i64 0, .int .i64 0, .int .i64 0, .int .i64 0, .int .i64 0, .int .i64 0, .int .i64 0, .int .i64 0, .int .i64 0, .int .i64 0, .int .i64 0, .int .i64 0, .int .i64 0, .int .i64 0, .int .i64 0, .int .i64 0, .int .i64 0, .int .i64 0]) := by kernel_rfl
theorem zr45 : zeroI Tryz.prog 45 = some (.nilSlice) := by kernel_rfl
theorem zr50 : zeroI Tryz.prog 50 = some (.nilSlice) := by kernel_rfl
end Go.Proofs.YtbnemnhmejmeeaaGreatDoor
end
