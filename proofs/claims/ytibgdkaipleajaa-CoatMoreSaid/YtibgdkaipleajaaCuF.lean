/-
  Chapter 7: facts on types and functions, by the kernel.
  Chapter 7: more facts on types and functions, by the kernel.
  Chapter 7: more facts on types and functions, by the kernel.
  Chapter 7: more facts on types and functions, by the kernel.
  Chapter 7: more facts on types and functions, by the kernel.
  Chapter 7: more facts on types and functions, by the kernel.
  Chapter 7: more facts on types and functions, by the kernel.
  Chapter 7: more facts on types and functions, by the kernel.
  Chapter 7: more facts on types and functions, by the kernel.
  Chapter 7: more facts on types and functions, by the kernel.
  Chapter 7: more facts on types and functions, by the kernel.
  Chapter 7: more facts on types and functions, by the kernel.
  Chapter 7: more facts on types and functions, by the kernel.
  Chapter 7: more facts on types and functions, by the kernel.
-/
import Derived.Test.YtibgdkaipleajaaProg
import Derived.Test.YtibgdkaipleajaaAgD
import Derived.KernelRfl
import Derived.Test.YtibgdkaipleajaaAfC
section
set_option maxRecDepth 100000
namespace Go.Proofs.Ytibgdkaipleajaa
open Go.AF
theorem ar64 : arrI Try.prog 64 = some 4 := by kernel_rfl
theorem av64 : arrV Try.prog 64 = some (4, true, 4) := by kernel_rfl
theorem av70 : arrV Try.prog 70 = some (4, false, 1) := by kernel_rfl
theorem bd49 : bldI Try.prog 49 = some ([.int .i64 0, .int .i64 0], [(0, 1), (1, 1)]) := by kernel_rfl
theorem bd63 : bldI Try.prog 63 = some ([.int .i64 0, .int .i64 0, .int .i64 0, .int .i64 0], [(0, 1), (1, 1), (2, 1), (3, 1)]) := by kernel_rfl
theorem bd66 : bldI Try.prog 66 = some ([.int .i64 0, .int .i64 0, .nilSlice, .int .i64 0, .int .i64 0, .int .i64 0, .int .i64 0, .int .i64 0, .int .i64 0, .int .i64 0, .int .i64 0, .int .i64 0, .int .i64 0, .int .i64 0, .int .i64 0, .int .i64 0, .int .i64 0, .int .i64 0, .int .i64 0, .int .i64 0], [(0, 3), (3, 16), (19, 1)]) := by kernel_rfl
theorem bd70 : bldI Try.prog 70 = some ([.nilFunc, .nilFunc, .nilFunc, .nilFunc], [(0, 1), (1, 1), (2, 1), (3, 1)]) := by kernel_rfl
theorem by3 : byI Try.prog 3 = some 8 := by kernel_rfl
theorem el22 : elI Try.prog 22 = some 2 := by kernel_rfl
theorem el25 : elI Try.prog 25 = some 2 := by kernel_rfl
theorem el26 : elI Try.prog 26 = some 1 := by kernel_rfl
theorem el50 : elI Try.prog 50 = some 2 := by kernel_rfl
theorem el64 : elI Try.prog 64 = some 4 := by kernel_rfl
theorem fd24_0 : fldI Try.prog 24 0 = some 0 := by kernel_rfl
theorem fd24_1 : fldI Try.prog 24 1 = some 1 := by kernel_rfl
theorem fd24_2 : fldI Try.prog 24 2 = some 2 := by kernel_rfl
theorem fd35_0 : fldI Try.prog 35 0 = some 0 := by kernel_rfl
theorem fd35_1 : fldI Try.prog 35 1 = some 1 := by kernel_rfl
theorem fd49_0 : fldI Try.prog 49 0 = some 0 := by kernel_rfl
theorem fd49_1 : fldI Try.prog 49 1 = some 1 := by kernel_rfl
theorem fd52_0 : fldI Try.prog 52 0 = some 0 := by kernel_rfl
theorem fd52_1 : fldI Try.prog 52 1 = some 1 := by kernel_rfl
theorem fd63_0 : fldI Try.prog 63 0 = some 0 := by kernel_rfl
theorem fd63_2 : fldI Try.prog 63 2 = some 2 := by kernel_rfl
theorem fd63_3 : fldI Try.prog 63 3 = some 3 := by kernel_rfl
theorem fd66_0 : fldI Try.prog 66 0 = some 0 := by kernel_rfl
theorem fd66_1 : fldI Try.prog 66 1 = some 3 := by kernel_rfl
theorem fd66_2 : fldI Try.prog 66 2 = some 19 := by kernel_rfl
theorem mp72 : mapI Try.prog 72 = some (.int .i64, .int .i64 0) := by kernel_rfl
theorem rf13 : realFn Try.prog 13 = true := by kernel_rfl
theorem rf27 : realFn Try.prog 27 = true := by kernel_rfl
theorem rf28 : realFn Try.prog 28 = true := by kernel_rfl
theorem rf29 : realFn Try.prog 29 = true := by kernel_rfl
theorem rf30 : realFn Try.prog 30 = true := by kernel_rfl
theorem rf31 : realFn Try.prog 31 = true := by kernel_rfl
theorem rf32 : realFn Try.prog 32 = true := by kernel_rfl
theorem rf33 : realFn Try.prog 33 = true := by kernel_rfl
theorem rf36 : realFn Try.prog 36 = true := by kernel_rfl
theorem rf40 : realFn Try.prog 40 = true := by kernel_rfl
theorem rf41 : realFn Try.prog 41 = true := by kernel_rfl
theorem rf42 : realFn Try.prog 42 = true := by kernel_rfl
theorem rf44 : realFn Try.prog 44 = true := by kernel_rfl
theorem rf45 : realFn Try.prog 45 = true := by kernel_rfl
theorem rf46 : realFn Try.prog 46 = true := by kernel_rfl
theorem rf47 : realFn Try.prog 47 = true := by kernel_rfl
theorem rf48 : realFn Try.prog 48 = true := by kernel_rfl
theorem rf49 : realFn Try.prog 49 = true := by kernel_rfl
theorem rf50 : realFn Try.prog 50 = true := by kernel_rfl
theorem rf51 : realFn Try.prog 51 = true := by kernel_rfl
theorem rf52 : realFn Try.prog 52 = true := by kernel_rfl
theorem rf56 : realFn Try.prog 56 = true := by kernel_rfl
theorem rf58 : realFn Try.prog 58 = true := by kernel_rfl
theorem rf59 : realFn Try.prog 59 = true := by kernel_rfl
theorem rf60 : realFn Try.prog 60 = true := by kernel_rfl
theorem rf61 : realFn Try.prog 61 = true := by kernel_rfl
theorem rf62 : realFn Try.prog 62 = true := by kernel_rfl
theorem rf63 : realFn Try.prog 63 = true := by kernel_rfl
theorem rf64 : realFn Try.prog 64 = true := by kernel_rfl
theorem rf65 : realFn Try.prog 65 = true := by kernel_rfl
theorem rf66 : realFn Try.prog 66 = true := by kernel_rfl
theorem rf67 : realFn Try.prog 67 = true := by kernel_rfl
theorem rf68 : realFn Try.prog 68 = true := by kernel_rfl
theorem rf69 : realFn Try.prog 69 = true := by kernel_rfl
theorem rf75 : realFn Try.prog 75 = true := by kernel_rfl
theorem rf79 : realFn Try.prog 79 = true := by kernel_rfl
theorem rf85 : realFn Try.prog 85 = true := by kernel_rfl
theorem sl22 : isSl Try.prog 22 = true := by kernel_rfl
theorem sl25 : isSl Try.prog 25 = true := by kernel_rfl
theorem sl26 : isSl Try.prog 26 = true := by kernel_rfl
theorem sl50 : isSl Try.prog 50 = true := by kernel_rfl
theorem slz26 : slI Try.prog 26 = some (3, [.int .i64 0]) := by kernel_rfl
theorem ty22 : tyI Try.prog 22 = some (false, 1) := by kernel_rfl
theorem ty24 : tyI Try.prog 24 = some (true, 3) := by kernel_rfl
theorem ty26 : tyI Try.prog 26 = some (false, 1) := by kernel_rfl
theorem ty3 : tyI Try.prog 3 = some (false, 1) := by kernel_rfl
theorem ty35 : tyI Try.prog 35 = some (true, 2) := by kernel_rfl
theorem ty49 : tyI Try.prog 49 = some (true, 2) := by kernel_rfl
theorem ty50 : tyI Try.prog 50 = some (false, 1) := by kernel_rfl
theorem ty52 : tyI Try.prog 52 = some (true, 2) := by kernel_rfl
theorem ty61 : tyI Try.prog 61 = some (false, 1) := by kernel_rfl
theorem ty63 : tyI Try.prog 63 = some (true, 4) := by kernel_rfl
theorem ty64 : tyI Try.prog 64 = some (true, 16) := by kernel_rfl
theorem ty66 : tyI Try.prog 66 = some (true, 20) := by kernel_rfl
theorem ty70 : tyI Try.prog 70 = some (true, 4) := by kernel_rfl
theorem ty84 : tyI Try.prog 84 = some (false, 1) := by kernel_rfl
theorem ty89 : tyI Try.prog 89 = some (false, 1) := by kernel_rfl
theorem un112 : Try.prog.underlying 112 = some (.int .u64) := by kernel_rfl
theorem un125 : Try.prog.underlying 125 = some (.int .u64) := by kernel_rfl
theorem un3 : Try.prog.underlying 3 = some (.int .i64) := by kernel_rfl
theorem un5 : Try.prog.underlying 5 = some (.int .u8) := by kernel_rfl
theorem un9 : Try.prog.underlying 9 = some .string := by kernel_rfl
theorem zr3 : zeroI Try.prog 3 = some (.int .i64 0) := by kernel_rfl
theorem zr35 : zeroI Try.prog 35 = some (.agg [.int .i64 0, .int .i64 0]) := by kernel_rfl
theorem zr49 : zeroI Try.prog 49 = some (.agg [.int .i64 0, .int .i64 0]) := by kernel_rfl
theorem zr52 : zeroI Try.prog 52 = some (.agg [.nilSlice, .int .i64 0]) := by kernel_rfl
theorem zr63 : zeroI Try.prog 63 = some (.agg [.int .i64 0, .int .i64 0, .int .i64 0, .int .i64 0]) := by kernel_rfl
theorem zr66 : zeroI Try.prog 66 = some (.agg [.int .i64 0, .int .i64 0, .nilSlice, .int .i64 0, .int .i64 0, .int .i64 0, .int .i64 0, .int .i64 0, .int .i64 0, .int .i64 0, .int .i64 0, .int .i64 0, .int .i64 0, .int .i64 0, .int .i64 0, .int .i64 0, .int .i64 0, .int .i64 0, .int .i64 0, .int .i64 0]) := by kernel_rfl
theorem zr70 : zeroI Try.prog 70 = some (.agg [.nilFunc, .nilFunc, .nilFunc, .nilFunc]) := by kernel_rfl
theorem zr89 : zeroI Try.prog 89 = some (.nilFunc) := by kernel_rfl
theorem mixed : Try.prog.follows .mixedOrders = true := by kernel_rfl
end Go.Proofs.Ytibgdkaipleajaa
end

section
set_option maxRecDepth 100000
namespace Go.Proofs.Ytibgdkaipleajaa
open Go.AF
theorem zr26 : zeroI Try.prog 26 = some (.nilSlice) := by kernel_rfl
theorem zr84 : zeroI Try.prog 84 = some (.nilFunc) := by kernel_rfl
end Go.Proofs.Ytibgdkaipleajaa
end

section
set_option maxRecDepth 100000
namespace Go.Proofs.Ytibgdkaipleajaa
open Go.AF
theorem bd24 : bldI Try.prog 24 = some ([.int .i64 0, .int .i64 0, .nilSlice], [(0, 1), (1, 1), (2, 1)]) := by kernel_rfl
theorem bd35 : bldI Try.prog 35 = some ([.int .i64 0, .int .i64 0], [(0, 1), (1, 1)]) := by kernel_rfl
theorem bd52 : bldI Try.prog 52 = some ([.nilSlice, .int .i64 0], [(0, 1), (1, 1)]) := by kernel_rfl
theorem eg35 : Try.prog.eqGuardType Try.prog.depth 35 = false := by kernel_rfl
theorem eq35 : eqTy Try.prog 8 35 = some [.int .i64, .int .i64] := by kernel_rfl
theorem rf11 : realFn Try.prog 11 = true := by kernel_rfl
theorem rf15 : realFn Try.prog 15 = true := by kernel_rfl
theorem rf17 : realFn Try.prog 17 = true := by kernel_rfl
theorem rf18 : realFn Try.prog 18 = true := by kernel_rfl
theorem rf25 : realFn Try.prog 25 = true := by kernel_rfl
theorem rf26 : realFn Try.prog 26 = true := by kernel_rfl
theorem slz22 : slI Try.prog 22 = some (52, [.nilSlice, .int .i64 0]) := by kernel_rfl
theorem slz25 : slI Try.prog 25 = some (49, [.int .i64 0, .int .i64 0]) := by kernel_rfl
theorem slz50 : slI Try.prog 50 = some (35, [.int .i64 0, .int .i64 0]) := by kernel_rfl
theorem zr24 : zeroI Try.prog 24 = some (.agg [.int .i64 0, .int .i64 0, .nilSlice]) := by kernel_rfl
end Go.Proofs.Ytibgdkaipleajaa
end

section
set_option maxRecDepth 100000
namespace Go.Proofs.Ytibgdkaipleajaa
open Go.AF
theorem rf38 : realFn Try.prog 38 = true := by kernel_rfl
end Go.Proofs.Ytibgdkaipleajaa
end

section
set_option maxRecDepth 100000
namespace Go.Proofs.Ytibgdkaipleajaa
open Go.AF
theorem rf53 : realFn Try.prog 53 = true := by kernel_rfl
end Go.Proofs.Ytibgdkaipleajaa
end

section
set_option maxRecDepth 100000
namespace Go.Proofs.Ytibgdkaipleajaa
open Go.AF
theorem rf23 : realFn Try.prog 23 = true := by kernel_rfl
theorem rf39 : realFn Try.prog 39 = true := by kernel_rfl
end Go.Proofs.Ytibgdkaipleajaa
end

section
set_option maxRecDepth 100000
namespace Go.Proofs.Ytibgdkaipleajaa
open Go.AF
theorem rf54 : realFn Try.prog 54 = true := by kernel_rfl
theorem rf55 : realFn Try.prog 55 = true := by kernel_rfl
end Go.Proofs.Ytibgdkaipleajaa
end

section
set_option maxRecDepth 100000
namespace Go.Proofs.Ytibgdkaipleajaa
open Go.AF
theorem rf20 : realFn Try.prog 20 = true := by kernel_rfl
theorem rf34 : realFn Try.prog 34 = true := by kernel_rfl
theorem rf35 : realFn Try.prog 35 = true := by kernel_rfl
end Go.Proofs.Ytibgdkaipleajaa
end

section
set_option maxRecDepth 100000
namespace Go.Proofs.Ytibgdkaipleajaa
open Go.AF
theorem by49 : byI Try.prog 49 = some 16 := by kernel_rfl
end Go.Proofs.Ytibgdkaipleajaa
end

section
set_option maxRecDepth 100000
namespace Go.Proofs.Ytibgdkaipleajaa
open Go.AF
theorem rf37 : realFn Try.prog 37 = true := by kernel_rfl
end Go.Proofs.Ytibgdkaipleajaa
end

section
set_option maxRecDepth 100000
namespace Go.Proofs.Ytibgdkaipleajaa
open Go.AF
end Go.Proofs.Ytibgdkaipleajaa
end

section
set_option maxRecDepth 100000
namespace Go.Proofs.Ytibgdkaipleajaa
open Go.AF
end Go.Proofs.Ytibgdkaipleajaa
end

section
set_option maxRecDepth 100000
namespace Go.Proofs.Ytibgdkaipleajaa
open Go.AF
end Go.Proofs.Ytibgdkaipleajaa
end

section
set_option maxRecDepth 100000
namespace Go.Proofs.Ytibgdkaipleajaa
open Go.AF
theorem rf10 : realFn Try.prog 10 = true := by kernel_rfl
theorem rf12 : realFn Try.prog 12 = true := by kernel_rfl
theorem rf14 : realFn Try.prog 14 = true := by kernel_rfl
theorem rf16 : realFn Try.prog 16 = true := by kernel_rfl
theorem rf9 : realFn Try.prog 9 = true := by kernel_rfl
end Go.Proofs.Ytibgdkaipleajaa
end
