/-
 Chapter 15: facts on types and functions, by the kernel.
 Chapter 15: more facts on types and functions, by the kernel.
 Chapter 15: more facts on types and functions, by the kernel.
 Chapter 15: more facts on types and functions, by the kernel.
 Chapter 15: more facts on types and functions, by the kernel.
 Chapter 15: more facts on types and functions, by the kernel.
 Chapter 15: more facts on types and functions, by the kernel.
 Chapter 15: more facts on types and functions, by the kernel.
 Chapter 15: more facts on types and functions, by the kernel.
 Chapter 15: more facts on types and functions, by the kernel.
 Chapter 15: more facts on types and functions, by the kernel.
 Chapter 15: more facts on types and functions, by the kernel.
 Chapter 15: more facts on types and functions, by the kernel.
 Chapter 15: more facts on types and functions, by the kernel.
 Chapter 15: more facts on types and functions, by the kernel.
 Chapter 15: more facts on types and functions, by the kernel.
 Chapter 15: more facts on types and functions, by the kernel.
 Chapter 15: more facts on types and functions, by the kernel.
 Chapter 15: more facts on types and functions, by the kernel.
 Chapter 15: more facts on types and functions, by the kernel.
 Chapter 15: more facts on types and functions, by the kernel.
 Chapter 15: more facts on types and functions, by the kernel.
 Chapter 15: more facts on types and functions, by the kernel.
 Chapter 15: more facts on types and functions, by the kernel.
 Chapter 15: more facts on types and functions, by the kernel.
 Chapter 15: more facts on types and functions, by the kernel.
 Chapter 15: more facts on types and functions, by the kernel.
 Chapter 15: more facts on types and functions, by the kernel.
 Chapter 15: more facts on types and functions, by the kernel.
 Chapter 15: more facts on types and functions, by the kernel.
 Chapter 15: more facts on types and functions, by the kernel.
 Chapter 15: more facts on types and functions, by the kernel.
 Chapter 15: more facts on types and functions, by the kernel.
 Chapter 15: more facts on types and functions, by the kernel.
 Chapter 15: more facts on types and functions, by the kernel.
 Chapter 15: more facts on types and functions, by the kernel.
 Chapter 15: more facts on types and functions, by the kernel.
 Chapter 15: more facts on types and functions, by the kernel.
 Chapter 15: more facts on types and functions, by the kernel.
 Chapter 15: more facts on types and functions, by the kernel.
-/
import Derived.Test.YtchiinjiflgepaaGreatDoorProg
import Derived.Test.YtchiinjiflgepaaGreatDoorFaQF
import Derived.KernelRfl
import Derived.Test.YtchiinjiflgepaaGreatDoorFaQC
section
set_option maxRecDepth 100000
namespace Go.Proofs.YtchiinjiflgepaaGreatDoor
open Go.AF
theorem Dv:zm Tryz.prog 141=some 2:=by kernel_rfl
theorem QT:zm Tryz.prog 206=some 24:=by kernel_rfl
theorem Xu:zm Tryz.prog 236=some 32:=by kernel_rfl
theorem JV:NO Tryz.prog 277=some (2,false,1):=by kernel_rfl
instance:aI (mw Tryz.prog 132) (some ([.int .i64 0,.int .i64 0,.int .i64 0,.int .i64 0,.int .i64 0],[(0,3),(3,2)])):=⟨by kernel_rfl⟩
instance:aI (mw Tryz.prog 141) (some ([.nilFunc,.nilFunc],[(0,1),(1,1)])):=⟨by kernel_rfl⟩
instance:aI (mw Tryz.prog 24) (some ([.int .i64 0,.int .i64 0],[(0,1),(1,1)])):=⟨by kernel_rfl⟩
instance:aI (mw Tryz.prog 263) (some ([.int .i64 0,.int .i64 0,.int .i64 0],[(0,1),(1,1),(2,1)])):=⟨by kernel_rfl⟩
instance:aI (mw Tryz.prog 277) (some ([.int .i64 0,.int .i64 0],[(0,1),(1,1)])):=⟨by kernel_rfl⟩
instance:aI (uj Tryz.prog 3) (some 8):=⟨by kernel_rfl⟩
theorem Hv:rz Tryz.prog 145=true:=by kernel_rfl
theorem CG:rz Tryz.prog 152=true:=by kernel_rfl
theorem En:nY Tryz.prog 141=some 1:=by kernel_rfl
theorem X5:nY Tryz.prog 152=some 2:=by kernel_rfl
theorem QF:nY Tryz.prog 193=some 3:=by kernel_rfl
theorem WE:nY Tryz.prog 204=some 1:=by kernel_rfl
theorem Pv:nY Tryz.prog 206=some 1:=by kernel_rfl
theorem VX:nY Tryz.prog 22=some 3:=by kernel_rfl
theorem V7:nY Tryz.prog 236=some 1:=by kernel_rfl
theorem Ms:nY Tryz.prog 36=some 6:=by kernel_rfl
theorem FO:nY Tryz.prog 37=some 2:=by kernel_rfl
theorem Iv:nY Tryz.prog 38=some 3:=by kernel_rfl
theorem dA:nY Tryz.prog 39=some 1:=by kernel_rfl
instance:aI (ec Tryz.prog 103 0) (some 0):=⟨by kernel_rfl⟩
instance:aI (ec Tryz.prog 103 1) (some 1):=⟨by kernel_rfl⟩
instance:aI (ec Tryz.prog 126 0) (some 0):=⟨by kernel_rfl⟩
instance:aI (ec Tryz.prog 126 1) (some 2):=⟨by kernel_rfl⟩
instance:aI (ec Tryz.prog 126 2) (some 4):=⟨by kernel_rfl⟩
instance:aI (ec Tryz.prog 128 0) (some 0):=⟨by kernel_rfl⟩
instance:aI (ec Tryz.prog 128 1) (some 1):=⟨by kernel_rfl⟩
instance:aI (ec Tryz.prog 132 0) (some 0):=⟨by kernel_rfl⟩
instance:aI (ec Tryz.prog 132 1) (some 3):=⟨by kernel_rfl⟩
instance:aI (ec Tryz.prog 192 0) (some 0):=⟨by kernel_rfl⟩
instance:aI (ec Tryz.prog 192 1) (some 1):=⟨by kernel_rfl⟩
instance:aI (ec Tryz.prog 24 0) (some 0):=⟨by kernel_rfl⟩
instance:aI (ec Tryz.prog 24 1) (some 1):=⟨by kernel_rfl⟩
instance:aI (ec Tryz.prog 260 0) (some 0):=⟨by kernel_rfl⟩
instance:aI (ec Tryz.prog 260 1) (some 6):=⟨by kernel_rfl⟩
instance:aI (ec Tryz.prog 263 0) (some 0):=⟨by kernel_rfl⟩
instance:aI (ec Tryz.prog 263 1) (some 1):=⟨by kernel_rfl⟩
instance:aI (ec Tryz.prog 263 2) (some 2):=⟨by kernel_rfl⟩
instance:aI (ec Tryz.prog 26 0) (some 0):=⟨by kernel_rfl⟩
instance:aI (ec Tryz.prog 26 1) (some 1):=⟨by kernel_rfl⟩
instance:aI (ec Tryz.prog 26 2) (some 3):=⟨by kernel_rfl⟩
instance:aI (ec Tryz.prog 81 0) (some 0):=⟨by kernel_rfl⟩
instance:aI (ec Tryz.prog 81 1) (some 1):=⟨by kernel_rfl⟩
theorem SJ:IF Tryz.prog 24 0=some (false,1,0):=by kernel_rfl
theorem TM:IF Tryz.prog 24 1=some (false,1,1):=by kernel_rfl
theorem HI:oc Tryz.prog 145=some (.int .i64,.int .u32 0):=by kernel_rfl
theorem II:oc Tryz.prog 240=some (.int .i64,.agg [.int .i64 0,.int .i64 0,.int .i64 0,.int .i64 0,.int .i64 0,.int .i64 0,.int .i64 0,.int .i64 0]):=by kernel_rfl
instance:aI (ak Tryz.prog 131) (true):=⟨by kernel_rfl⟩
instance:aI (ak Tryz.prog 132) (true):=⟨by kernel_rfl⟩
instance:aI (ak Tryz.prog 133) (true):=⟨by kernel_rfl⟩
instance:aI (ak Tryz.prog 134) (true):=⟨by kernel_rfl⟩
instance:aI (ak Tryz.prog 135) (true):=⟨by kernel_rfl⟩
instance:aI (ak Tryz.prog 136) (true):=⟨by kernel_rfl⟩
instance:aI (ak Tryz.prog 137) (true):=⟨by kernel_rfl⟩
instance:aI (ak Tryz.prog 138) (true):=⟨by kernel_rfl⟩
instance:aI (ak Tryz.prog 139) (true):=⟨by kernel_rfl⟩
instance:aI (ak Tryz.prog 142) (true):=⟨by kernel_rfl⟩
instance:aI (ak Tryz.prog 143) (true):=⟨by kernel_rfl⟩
instance:aI (ak Tryz.prog 144) (true):=⟨by kernel_rfl⟩
instance:aI (ak Tryz.prog 145) (true):=⟨by kernel_rfl⟩
instance:aI (ak Tryz.prog 146) (true):=⟨by kernel_rfl⟩
instance:aI (ak Tryz.prog 173) (true):=⟨by kernel_rfl⟩
instance:aI (ak Tryz.prog 174) (true):=⟨by kernel_rfl⟩
instance:aI (ak Tryz.prog 175) (true):=⟨by kernel_rfl⟩
instance:aI (ak Tryz.prog 188) (true):=⟨by kernel_rfl⟩
instance:aI (ak Tryz.prog 189) (true):=⟨by kernel_rfl⟩
instance:aI (ak Tryz.prog 190) (true):=⟨by kernel_rfl⟩
instance:aI (ak Tryz.prog 191) (true):=⟨by kernel_rfl⟩
instance:aI (ak Tryz.prog 192) (true):=⟨by kernel_rfl⟩
instance:aI (ak Tryz.prog 193) (true):=⟨by kernel_rfl⟩
instance:aI (ak Tryz.prog 194) (true):=⟨by kernel_rfl⟩
instance:aI (ak Tryz.prog 210) (true):=⟨by kernel_rfl⟩
instance:aI (ak Tryz.prog 211) (true):=⟨by kernel_rfl⟩
instance:aI (ak Tryz.prog 212) (true):=⟨by kernel_rfl⟩
instance:aI (ak Tryz.prog 213) (true):=⟨by kernel_rfl⟩
instance:aI (ak Tryz.prog 214) (true):=⟨by kernel_rfl⟩
instance:aI (ak Tryz.prog 215) (true):=⟨by kernel_rfl⟩
instance:aI (ak Tryz.prog 216) (true):=⟨by kernel_rfl⟩
instance:aI (ak Tryz.prog 217) (true):=⟨by kernel_rfl⟩
instance:aI (ak Tryz.prog 218) (true):=⟨by kernel_rfl⟩
instance:aI (ak Tryz.prog 219) (true):=⟨by kernel_rfl⟩
instance:aI (ak Tryz.prog 22) (true):=⟨by kernel_rfl⟩
instance:aI (ak Tryz.prog 220) (true):=⟨by kernel_rfl⟩
instance:aI (ak Tryz.prog 221) (true):=⟨by kernel_rfl⟩
instance:aI (ak Tryz.prog 222) (true):=⟨by kernel_rfl⟩
instance:aI (ak Tryz.prog 223) (true):=⟨by kernel_rfl⟩
instance:aI (ak Tryz.prog 224) (true):=⟨by kernel_rfl⟩
instance:aI (ak Tryz.prog 225) (true):=⟨by kernel_rfl⟩
instance:aI (ak Tryz.prog 226) (true):=⟨by kernel_rfl⟩
instance:aI (ak Tryz.prog 227) (true):=⟨by kernel_rfl⟩
instance:aI (ak Tryz.prog 245) (true):=⟨by kernel_rfl⟩
instance:aI (ak Tryz.prog 246) (true):=⟨by kernel_rfl⟩
instance:aI (ak Tryz.prog 58) (true):=⟨by kernel_rfl⟩
instance:aI (ak Tryz.prog 59) (true):=⟨by kernel_rfl⟩
instance:aI (ak Tryz.prog 60) (true):=⟨by kernel_rfl⟩
instance:aI (ak Tryz.prog 61) (true):=⟨by kernel_rfl⟩
instance:aI (ak Tryz.prog 62) (true):=⟨by kernel_rfl⟩
instance:aI (ak Tryz.prog 63) (true):=⟨by kernel_rfl⟩
instance:aI (ak Tryz.prog 64) (true):=⟨by kernel_rfl⟩
instance:aI (ak Tryz.prog 68) (true):=⟨by kernel_rfl⟩
instance:aI (ak Tryz.prog 69) (true):=⟨by kernel_rfl⟩
instance:aI (ak Tryz.prog 70) (true):=⟨by kernel_rfl⟩
instance:aI (ak Tryz.prog 71) (true):=⟨by kernel_rfl⟩
instance:aI (ak Tryz.prog 72) (true):=⟨by kernel_rfl⟩
instance:aI (ak Tryz.prog 73) (true):=⟨by kernel_rfl⟩
instance:aI (ak Tryz.prog 74) (true):=⟨by kernel_rfl⟩
instance:aI (ef Tryz.prog 152) (true):=⟨by kernel_rfl⟩
instance:aI (ef Tryz.prog 193) (true):=⟨by kernel_rfl⟩
instance:aI (ef Tryz.prog 204) (true):=⟨by kernel_rfl⟩
instance:aI (ef Tryz.prog 22) (true):=⟨by kernel_rfl⟩
instance:aI (ef Tryz.prog 36) (true):=⟨by kernel_rfl⟩
instance:aI (ef Tryz.prog 37) (true):=⟨by kernel_rfl⟩
instance:aI (ef Tryz.prog 38) (true):=⟨by kernel_rfl⟩
instance:aI (ef Tryz.prog 39) (true):=⟨by kernel_rfl⟩
instance:aI (og Tryz.prog 204) (some (137,[.int .u32 0])):=⟨by kernel_rfl⟩
instance:aI (og Tryz.prog 39) (some (3,[.int .i64 0])):=⟨by kernel_rfl⟩
instance:aI (fA Tryz.prog 103) (some (true,3)):=⟨by kernel_rfl⟩
instance:aI (fA Tryz.prog 126) (some (true,6)):=⟨by kernel_rfl⟩
instance:aI (fA Tryz.prog 128) (some (true,2)):=⟨by kernel_rfl⟩
instance:aI (fA Tryz.prog 132) (some (true,5)):=⟨by kernel_rfl⟩
instance:aI (fA Tryz.prog 137) (some (false,1)):=⟨by kernel_rfl⟩
instance:aI (fA Tryz.prog 140) (some (false,1)):=⟨by kernel_rfl⟩
instance:aI (fA Tryz.prog 141) (some (true,2)):=⟨by kernel_rfl⟩
instance:aI (fA Tryz.prog 145) (some (false,1)):=⟨by kernel_rfl⟩
instance:aI (fA Tryz.prog 151) (some (false,1)):=⟨by kernel_rfl⟩
instance:aI (fA Tryz.prog 192) (some (true,3)):=⟨by kernel_rfl⟩
instance:aI (fA Tryz.prog 207) (some (false,1)):=⟨by kernel_rfl⟩
instance:aI (fA Tryz.prog 22) (some (false,1)):=⟨by kernel_rfl⟩
instance:aI (fA Tryz.prog 24) (some (true,2)):=⟨by kernel_rfl⟩
instance:aI (fA Tryz.prog 240) (some (false,1)):=⟨by kernel_rfl⟩
instance:aI (fA Tryz.prog 26) (some (true,4)):=⟨by kernel_rfl⟩
instance:aI (fA Tryz.prog 260) (some (true,8)):=⟨by kernel_rfl⟩
instance:aI (fA Tryz.prog 263) (some (true,3)):=⟨by kernel_rfl⟩
instance:aI (fA Tryz.prog 264) (some (false,1)):=⟨by kernel_rfl⟩
instance:aI (fA Tryz.prog 3) (some (false,1)):=⟨by kernel_rfl⟩
instance:aI (fA Tryz.prog 36) (some (false,1)):=⟨by kernel_rfl⟩
instance:aI (fA Tryz.prog 37) (some (false,1)):=⟨by kernel_rfl⟩
instance:aI (fA Tryz.prog 4) (some (false,1)):=⟨by kernel_rfl⟩
instance:aI (fA Tryz.prog 5) (some (false,1)):=⟨by kernel_rfl⟩
instance:aI (fA Tryz.prog 81) (some (true,3)):=⟨by kernel_rfl⟩
theorem rY: Tryz.prog.underlying 137=some (.int .u32):=by kernel_rfl
theorem zY: Tryz.prog.underlying 215=some (.int .u64):=by kernel_rfl
theorem yj: Tryz.prog.underlying 3=some (.int .i64):=by kernel_rfl
theorem WA: Tryz.prog.underlying 5=some (.int .u8):=by kernel_rfl
instance:aI (cN Tryz.prog 128) (some (.agg [.int .i64 0,.int .i64 0])):=⟨by kernel_rfl⟩
instance:aI (cN Tryz.prog 132) (some (.agg [.int .i64 0,.int .i64 0,.int .i64 0,.int .i64 0,.int .i64 0])):=⟨by kernel_rfl⟩
instance:aI (cN Tryz.prog 137) (some (.int .u32 0)):=⟨by kernel_rfl⟩
instance:aI (cN Tryz.prog 141) (some (.agg [.nilFunc,.nilFunc])):=⟨by kernel_rfl⟩
instance:aI (cN Tryz.prog 145) (some (.nilMap)):=⟨by kernel_rfl⟩
instance:aI (cN Tryz.prog 192) (some (.agg [.int .i64 0,.int .i64 0,.int .i64 0])):=⟨by kernel_rfl⟩
instance:aI (cN Tryz.prog 206) (some (.agg [.bool false,.bool false,.bool false,.bool false,.bool false,.bool false,.bool false,.bool false,.bool false,.bool false,.bool false,.bool false,.bool false,.bool false,.bool false,.bool false,.bool false,.bool false,.bool false,.bool false,.bool false,.bool false,.bool false,.bool false])):=⟨by kernel_rfl⟩
instance:aI (cN Tryz.prog 207) (some (.nilFunc)):=⟨by kernel_rfl⟩
instance:aI (cN Tryz.prog 24) (some (.agg [.int .i64 0,.int .i64 0])):=⟨by kernel_rfl⟩
instance:aI (cN Tryz.prog 240) (some (.nilMap)):=⟨by kernel_rfl⟩
instance:aI (cN Tryz.prog 260) (some (.agg [.int .i64 0,.int .i64 0,.int .i64 0,.int .i64 0,.int .i64 0,.int .i64 0,.int .i64 0,.int .i64 0])):=⟨by kernel_rfl⟩
instance:aI (cN Tryz.prog 263) (some (.agg [.int .i64 0,.int .i64 0,.int .i64 0])):=⟨by kernel_rfl⟩
instance:aI (cN Tryz.prog 3) (some (.int .i64 0)):=⟨by kernel_rfl⟩
instance:aI (cN Tryz.prog 4) (some (.bool false)):=⟨by kernel_rfl⟩
instance:aI (cN Tryz.prog 81) (some (.agg [.int .i64 0,.int .i64 0,.int .i64 0])):=⟨by kernel_rfl⟩
theorem mixed: Tryz.prog.follows .mixedOrders=true:=by kernel_rfl
instance:aI (uj Tryz.prog 9) (some 16):=⟨by kernel_rfl⟩
instance:aI (ef Tryz.prog 32) (true):=⟨by kernel_rfl⟩
instance:aI (og Tryz.prog 32) (some (9,[.str ⟨#[]⟩])):=⟨by kernel_rfl⟩
instance:aI (An Tryz.prog 9) (true):=⟨by kernel_rfl⟩
theorem Gz: Tryz.prog.underlying 9=some .string:=by kernel_rfl
theorem kr:nY Tryz.prog 32=some 1:=by kernel_rfl
instance:aI (ec Tryz.prog 41 1) (some 1):=⟨by kernel_rfl⟩
instance:aI (fA Tryz.prog 39) (some (false,1)):=⟨by kernel_rfl⟩
instance:aI (fA Tryz.prog 41) (some (true,6)):=⟨by kernel_rfl⟩
instance:aI (fA Tryz.prog 9) (some (false,1)):=⟨by kernel_rfl⟩
instance:aI (mw Tryz.prog 128) (some ([.int .i64 0,.int .i64 0],[(0,1),(1,1)])):=⟨by kernel_rfl⟩
instance:aI (uj Tryz.prog 128) (some 16):=⟨by kernel_rfl⟩
instance:aI (ec Tryz.prog 41 4) (some 4):=⟨by kernel_rfl⟩
instance:aI (ec Tryz.prog 41 5) (some 5):=⟨by kernel_rfl⟩
instance:aI (og Tryz.prog 37) (some (128,[.int .i64 0,.int .i64 0])):=⟨by kernel_rfl⟩
instance:aI (cN Tryz.prog 41) (some (.agg [.nilSlice,.nilSlice,.nilSlice,.nilSlice,.int .i64 0,.int .i64 0])):=⟨by kernel_rfl⟩
instance:aI (ec Tryz.prog 41 2) (some 2):=⟨by kernel_rfl⟩
instance:aI (ec Tryz.prog 41 3) (some 3):=⟨by kernel_rfl⟩
instance:aI (fA Tryz.prog 38) (some (false,1)):=⟨by kernel_rfl⟩
instance:aI (mw Tryz.prog 126) (some ([.int .i64 0,.int .i64 0,.int .i64 0,.int .i64 0,.int .i64 0,.int .i64 0],[(0,2),(2,2),(4,2)])):=⟨by kernel_rfl⟩
instance:aI (uj Tryz.prog 126) (some 48):=⟨by kernel_rfl⟩
instance:aI (ec Tryz.prog 41 0) (some 0):=⟨by kernel_rfl⟩
instance:aI (og Tryz.prog 36) (some (126,[.int .i64 0,.int .i64 0,.int .i64 0,.int .i64 0,.int .i64 0,.int .i64 0])):=⟨by kernel_rfl⟩
instance:aI (cN Tryz.prog 126) (some (.agg [.int .i64 0,.int .i64 0,.int .i64 0,.int .i64 0,.int .i64 0,.int .i64 0])):=⟨by kernel_rfl⟩
instance:aI (mw Tryz.prog 192) (some ([.int .i64 0,.int .i64 0,.int .i64 0],[(0,1),(1,2)])):=⟨by kernel_rfl⟩
instance:aI (mw Tryz.prog 81) (some ([.int .i64 0,.int .i64 0,.int .i64 0],[(0,1),(1,2)])):=⟨by kernel_rfl⟩
instance:aI (uj Tryz.prog 81) (some 24):=⟨by kernel_rfl⟩
instance:aI (og Tryz.prog 193) (some (192,[.int .i64 0,.int .i64 0,.int .i64 0])):=⟨by kernel_rfl⟩
instance:aI (og Tryz.prog 38) (some (81,[.int .i64 0,.int .i64 0,.int .i64 0])):=⟨by kernel_rfl⟩
theorem Wq: Tryz.prog.eqGuardType Tryz.prog.depth 126=false:=by kernel_rfl
theorem Yd: Tryz.prog.eqGuardType Tryz.prog.depth 128=false:=by kernel_rfl
theorem aaz: Tryz.prog.eqGuardType Tryz.prog.depth 81=false:=by kernel_rfl
theorem Xw:eqTy Tryz.prog 8 126=some [.int .i64,.int .i64,.int .i64,.int .i64,.int .i64,.int .i64]:=by kernel_rfl
theorem Yr:eqTy Tryz.prog 8 128=some [.int .i64,.int .i64]:=by kernel_rfl
theorem aam:eqTy Tryz.prog 8 81=some [.int .i64,.int .i64,.int .i64]:=by kernel_rfl
instance:aI (ak Tryz.prog 37) (true):=⟨by kernel_rfl⟩
theorem Vf:zm Tryz.prog 265=some 64:=by kernel_rfl
instance:aI (mw Tryz.prog 106) (some ([.int .i64 0],[(0,1)])):=⟨by kernel_rfl⟩
theorem Il:rz Tryz.prog 106=true:=by kernel_rfl
theorem Xl:nY Tryz.prog 265=some 1:=by kernel_rfl
instance:aI (ak Tryz.prog 158) (true):=⟨by kernel_rfl⟩
instance:aI (ak Tryz.prog 197) (true):=⟨by kernel_rfl⟩
instance:aI (ak Tryz.prog 53) (true):=⟨by kernel_rfl⟩
theorem Xx: Tryz.prog.underlying 231=some (.int .u64):=by kernel_rfl
instance:aI (Md Tryz.prog 75) (true):=⟨by kernel_rfl⟩
theorem jV:rz Tryz.prog 3=true:=by kernel_rfl
theorem Ec:rz Tryz.prog 39=true:=by kernel_rfl
theorem lA:rz Tryz.prog 9=true:=by kernel_rfl
theorem XJ:nY Tryz.prog 168=some 1:=by kernel_rfl
theorem aaK:nY Tryz.prog 75=some 1:=by kernel_rfl
instance:aI (ak Tryz.prog 25) (true):=⟨by kernel_rfl⟩
instance:aI (ak Tryz.prog 85) (true):=⟨by kernel_rfl⟩
instance:aI (ak Tryz.prog 89) (true):=⟨by kernel_rfl⟩
instance:aI (ef Tryz.prog 168) (true):=⟨by kernel_rfl⟩
instance:aI (ef Tryz.prog 75) (true):=⟨by kernel_rfl⟩
instance:aI (fA Tryz.prog 20) (some (false,1)):=⟨by kernel_rfl⟩
instance:aI (cN Tryz.prog 39) (some (.nilSlice)):=⟨by kernel_rfl⟩
instance:aI (cN Tryz.prog 9) (some (.str ⟨#[]⟩)):=⟨by kernel_rfl⟩
instance:aI (ak Tryz.prog 110) (true):=⟨by kernel_rfl⟩
instance:aI (ak Tryz.prog 111) (true):=⟨by kernel_rfl⟩
instance:aI (ak Tryz.prog 112) (true):=⟨by kernel_rfl⟩
instance:aI (fA Tryz.prog 32) (some (false,1)):=⟨by kernel_rfl⟩
instance:aI (ec Tryz.prog 59 0) (some 0):=⟨by kernel_rfl⟩
instance:aI (ec Tryz.prog 59 1) (some 6):=⟨by kernel_rfl⟩
instance:aI (ak Tryz.prog 80) (true):=⟨by kernel_rfl⟩
instance:aI (ak Tryz.prog 87) (true):=⟨by kernel_rfl⟩
instance:aI (ak Tryz.prog 88) (true):=⟨by kernel_rfl⟩
instance:aI (fA Tryz.prog 59) (some (true,7)):=⟨by kernel_rfl⟩
instance:aI (cN Tryz.prog 59) (some (.agg [.nilSlice,.nilSlice,.nilSlice,.nilSlice,.int .i64 0,.int .i64 0,.nilSlice])):=⟨by kernel_rfl⟩
instance:aI (ec Tryz.prog 63 0) (some 0):=⟨by kernel_rfl⟩
instance:aI (ak Tryz.prog 152) (true):=⟨by kernel_rfl⟩
instance:aI (ak Tryz.prog 100) (true):=⟨by kernel_rfl⟩
instance:aI (ak Tryz.prog 156) (true):=⟨by kernel_rfl⟩
instance:aI (ak Tryz.prog 31) (true):=⟨by kernel_rfl⟩
instance:aI (ak Tryz.prog 43) (true):=⟨by kernel_rfl⟩
instance:aI (ak Tryz.prog 92) (true):=⟨by kernel_rfl⟩
instance:aI (ak Tryz.prog 99) (true):=⟨by kernel_rfl⟩
instance:aI (og Tryz.prog 168) (some (20,[.nilIface])):=⟨by kernel_rfl⟩
instance:aI (ak Tryz.prog 153) (true):=⟨by kernel_rfl⟩
instance:aI (ak Tryz.prog 154) (true):=⟨by kernel_rfl⟩
instance:aI (ak Tryz.prog 30) (true):=⟨by kernel_rfl⟩
instance:aI (ak Tryz.prog 157) (true):=⟨by kernel_rfl⟩
instance:aI (ak Tryz.prog 196) (true):=⟨by kernel_rfl⟩
instance:aI (ak Tryz.prog 96) (true):=⟨by kernel_rfl⟩
instance:aI (ec Tryz.prog 63 1) (some 7):=⟨by kernel_rfl⟩
instance:aI (ak Tryz.prog 155) (true):=⟨by kernel_rfl⟩
instance:aI (ak Tryz.prog 21) (true):=⟨by kernel_rfl⟩
instance:aI (ak Tryz.prog 104) (true):=⟨by kernel_rfl⟩
instance:aI (ak Tryz.prog 28) (true):=⟨by kernel_rfl⟩
instance:aI (uj Tryz.prog 59) (some 136):=⟨by kernel_rfl⟩
theorem Yb:nY Tryz.prog 61=some 7:=by kernel_rfl
instance:aI (ef Tryz.prog 61) (true):=⟨by kernel_rfl⟩
instance:aI (og Tryz.prog 61) (some (59,[.nilSlice,.nilSlice,.nilSlice,.nilSlice,.int .i64 0,.int .i64 0,.nilSlice])):=⟨by kernel_rfl⟩
instance:aI (fA Tryz.prog 61) (some (false,1)):=⟨by kernel_rfl⟩
instance:aI (ec Tryz.prog 63 2) (some 11):=⟨by kernel_rfl⟩
instance:aI (ak Tryz.prog 106) (true):=⟨by kernel_rfl⟩
instance:aI (ak Tryz.prog 108) (true):=⟨by kernel_rfl⟩
instance:aI (ak Tryz.prog 49) (true):=⟨by kernel_rfl⟩
instance:aI (mw Tryz.prog 111) (some ([.int .i64 0,.nilFunc],[(0,1),(1,1)])):=⟨by kernel_rfl⟩
theorem iA:oc Tryz.prog 113=some (.string,.agg [.int .i64 0,.nilFunc]):=by kernel_rfl
instance:aI (ec Tryz.prog 106 0) (some 0):=⟨by kernel_rfl⟩
theorem PK:N3 Tryz.prog 20=true:=by kernel_rfl
instance:aI (fA Tryz.prog 106) (some (true,1)):=⟨by kernel_rfl⟩
instance:aI (fA Tryz.prog 28) (some (false,1)):=⟨by kernel_rfl⟩
instance:aI (fA Tryz.prog 33) (some (false,1)):=⟨by kernel_rfl⟩
instance:aI (cN Tryz.prog 106) (some (.agg [.int .i64 0])):=⟨by kernel_rfl⟩
instance:aI (ec Tryz.prog 111 0) (some 0):=⟨by kernel_rfl⟩
instance:aI (ec Tryz.prog 111 1) (some 1):=⟨by kernel_rfl⟩
instance:aI (ec Tryz.prog 63 3) (some 12):=⟨by kernel_rfl⟩
instance:aI (tZ Tryz.prog 33) (some (63,13)):=⟨by kernel_rfl⟩
instance:aI (ak Tryz.prog 101) (true):=⟨by kernel_rfl⟩
instance:aI (ak Tryz.prog 102) (true):=⟨by kernel_rfl⟩
instance:aI (ak Tryz.prog 103) (true):=⟨by kernel_rfl⟩
instance:aI (ak Tryz.prog 105) (true):=⟨by kernel_rfl⟩
instance:aI (ak Tryz.prog 107) (true):=⟨by kernel_rfl⟩
instance:aI (ak Tryz.prog 109) (true):=⟨by kernel_rfl⟩
instance:aI (ak Tryz.prog 50) (true):=⟨by kernel_rfl⟩
instance:aI (ak Tryz.prog 51) (true):=⟨by kernel_rfl⟩
instance:aI (ak Tryz.prog 52) (true):=⟨by kernel_rfl⟩
instance:aI (ak Tryz.prog 54) (true):=⟨by kernel_rfl⟩
instance:aI (ak Tryz.prog 55) (true):=⟨by kernel_rfl⟩
instance:aI (ak Tryz.prog 90) (true):=⟨by kernel_rfl⟩
instance:aI (ak Tryz.prog 91) (true):=⟨by kernel_rfl⟩
instance:aI (ak Tryz.prog 93) (true):=⟨by kernel_rfl⟩
instance:aI (ak Tryz.prog 94) (true):=⟨by kernel_rfl⟩
instance:aI (ak Tryz.prog 95) (true):=⟨by kernel_rfl⟩
instance:aI (ak Tryz.prog 97) (true):=⟨by kernel_rfl⟩
instance:aI (ak Tryz.prog 98) (true):=⟨by kernel_rfl⟩
instance:aI (fA Tryz.prog 109) (some (false,1)):=⟨by kernel_rfl⟩
instance:aI (fA Tryz.prog 111) (some (true,2)):=⟨by kernel_rfl⟩
instance:aI (cN Tryz.prog 111) (some (.agg [.int .i64 0,.nilFunc])):=⟨by kernel_rfl⟩
instance:aI (cN Tryz.prog 28) (some (.int .i64 0)):=⟨by kernel_rfl⟩
instance:aI (mw Tryz.prog 63) (some ([.nilSlice,.nilSlice,.nilSlice,.nilSlice,.int .i64 0,.int .i64 0,.nilSlice,.nilSlice,.int .i64 0,.int .i64 0,.int .i64 0,.nilSlice,.bool false],[(0,7),(7,4),(11,1),(12,1)])):=⟨by kernel_rfl⟩
instance:aI (uj Tryz.prog 103) (some 24):=⟨by kernel_rfl⟩
instance:aI (ak Tryz.prog 48) (true):=⟨by kernel_rfl⟩
instance:aI (og Tryz.prog 22) (some (103,[.int .i64 0,.int .i64 0,.int .i64 0])):=⟨by kernel_rfl⟩
instance:aI (uj Tryz.prog 5) (some 1):=⟨by kernel_rfl⟩
instance:aI (ec Tryz.prog 89 0) (some 0):=⟨by kernel_rfl⟩
instance:aI (ec Tryz.prog 89 1) (some 1):=⟨by kernel_rfl⟩
instance:aI (tZ Tryz.prog 87) (some (89,2)):=⟨by kernel_rfl⟩
instance:aI (ak Tryz.prog 86) (true):=⟨by kernel_rfl⟩
instance:aI (og Tryz.prog 75) (some (5,[.int .u8 0])):=⟨by kernel_rfl⟩
instance:aI (fA Tryz.prog 75) (some (false,1)):=⟨by kernel_rfl⟩
instance:aI (fA Tryz.prog 87) (some (false,1)):=⟨by kernel_rfl⟩
instance:aI (ubI Tryz.prog 170 5) (true):=⟨by kernel_rfl⟩
instance:aI (HS Tryz.prog 209) (true):=⟨by kernel_rfl⟩
instance:aI (ak Tryz.prog 83) (true):=⟨by kernel_rfl⟩
instance:aI (ak Tryz.prog 13) (true):=⟨by kernel_rfl⟩
instance:aI (ak Tryz.prog 15) (true):=⟨by kernel_rfl⟩
instance:aI (ak Tryz.prog 40) (true):=⟨by kernel_rfl⟩
instance:aI (ak Tryz.prog 41) (true):=⟨by kernel_rfl⟩
instance:aI (ak Tryz.prog 42) (true):=⟨by kernel_rfl⟩
instance:aI (ak Tryz.prog 44) (true):=⟨by kernel_rfl⟩
instance:aI (ak Tryz.prog 45) (true):=⟨by kernel_rfl⟩
instance:aI (ak Tryz.prog 82) (true):=⟨by kernel_rfl⟩
instance:aI (cN Tryz.prog 33) (some (.nilPtr)):=⟨by kernel_rfl⟩
instance:aI (cN Tryz.prog 89) (some (.agg [.nilPtr,.nilSlice])):=⟨by kernel_rfl⟩
instance:aI (mw Tryz.prog 103) (some ([.int .i64 0,.int .i64 0,.int .i64 0],[(0,1),(1,2)])):=⟨by kernel_rfl⟩
instance:aI (mw Tryz.prog 26) (some ([.nilSlice,.int .i64 0,.int .i64 0,.int .i64 0],[(0,1),(1,2),(3,1)])):=⟨by kernel_rfl⟩
instance:aI (ak Tryz.prog 10) (true):=⟨by kernel_rfl⟩
instance:aI (ak Tryz.prog 11) (true):=⟨by kernel_rfl⟩
instance:aI (ak Tryz.prog 38) (true):=⟨by kernel_rfl⟩
instance:aI (ak Tryz.prog 39) (true):=⟨by kernel_rfl⟩
instance:aI (cN Tryz.prog 26) (some (.agg [.nilSlice,.int .i64 0,.int .i64 0,.int .i64 0])):=⟨by kernel_rfl⟩
instance:aI (ak Tryz.prog 18) (true):=⟨by kernel_rfl⟩
instance:aI (cN Tryz.prog 63) (some (.agg [.nilSlice,.nilSlice,.nilSlice,.nilSlice,.int .i64 0,.int .i64 0,.nilSlice,.nilSlice,.int .i64 0,.int .i64 0,.int .i64 0,.nilSlice,.bool false])):=⟨by kernel_rfl⟩
instance:aI (ak Tryz.prog 19) (true):=⟨by kernel_rfl⟩
instance:aI (ak Tryz.prog 20) (true):=⟨by kernel_rfl⟩
instance:aI (ak Tryz.prog 17) (true):=⟨by kernel_rfl⟩
instance:aI (ak Tryz.prog 23) (true):=⟨by kernel_rfl⟩
instance:aI (ak Tryz.prog 24) (true):=⟨by kernel_rfl⟩
instance:aI (ak Tryz.prog 26) (true):=⟨by kernel_rfl⟩
instance:aI (ak Tryz.prog 27) (true):=⟨by kernel_rfl⟩
instance:aI (ak Tryz.prog 29) (true):=⟨by kernel_rfl⟩
end Go.Proofs.YtchiinjiflgepaaGreatDoor
end
