/-
 Chapter 15: facts on types and functions, by the kernel.
 Chapter 15: more facts on types and functions, by the kernel.
 Chapter 15: more facts on types and functions, by the kernel.
 Chapter 15: more facts on types and functions, by the kernel.
 Chapter 15: more facts on types and functions, by the kernel.
 Chapter 15: more facts on types and functions, by the kernel.
 Chapter 15: more facts on types and functions, by the kernel.
 Chapter 15: more facts on types and functions, by the kernel.
 Chapter 15: more facts on types and functions, by the kernel.
 Chapter 15: more facts on types and functions, by the kernel.
 Chapter 15: more facts on types and functions, by the kernel.
 Chapter 15: more facts on types and functions, by the kernel.
 Chapter 15: more facts on types and functions, by the kernel.
 Chapter 15: more facts on types and functions, by the kernel.
 Chapter 15: more facts on types and functions, by the kernel.
 Chapter 15: more facts on types and functions, by the kernel.
 Chapter 15: more facts on types and functions, by the kernel.
 Chapter 15: more facts on types and functions, by the kernel.
 Chapter 15: more facts on types and functions, by the kernel.
 Chapter 15: more facts on types and functions, by the kernel.
 Chapter 15: more facts on types and functions, by the kernel.
 Chapter 15: more facts on types and functions, by the kernel.
 Chapter 15: more facts on types and functions, by the kernel.
 Chapter 15: more facts on types and functions, by the kernel.
 Chapter 15: more facts on types and functions, by the kernel.
 Chapter 15: more facts on types and functions, by the kernel.
 Chapter 15: more facts on types and functions, by the kernel.
 Chapter 15: more facts on types and functions, by the kernel.
 Chapter 15: more facts on types and functions, by the kernel.
 Chapter 15: more facts on types and functions, by the kernel.
 Chapter 15: more facts on types and functions, by the kernel.
 Chapter 15: more facts on types and functions, by the kernel.
 Chapter 15: more facts on types and functions, by the kernel.
 Chapter 15: more facts on types and functions, by the kernel.
 Chapter 15: more facts on types and functions, by the kernel.
 Chapter 15: more facts on types and functions, by the kernel.
 Chapter 15: more facts on types and functions, by the kernel.
 Chapter 15: more facts on types and functions, by the kernel.
-/
import Derived.Test.YtchiinjiflgepaaGreatDoorProg
import Derived.Test.YtchiinjiflgepaaGreatDoorFaRF
import Derived.KernelRfl
import Derived.Test.YtchiinjiflgepaaGreatDoorFaRC
section
set_option maxRecDepth 100000
namespace Go.Proofs.YtchiinjiflgepaaGreatDoor
open Go.AF
theorem Fw:zz Tryz.prog 141=some 2:=by kernel_rfl
theorem SL:zz Tryz.prog 206=some 24:=by kernel_rfl
theorem YX:zz Tryz.prog 236=some 32:=by kernel_rfl
theorem Mu:OK Tryz.prog 277=some (2,false,1):=by kernel_rfl
instance:aH (lW Tryz.prog 132) (some ([.int .i64 0,.int .i64 0,.int .i64 0,.int .i64 0,.int .i64 0],[(0,3),(3,2)])):=⟨by kernel_rfl⟩
instance:aH (lW Tryz.prog 141) (some ([.nilFunc,.nilFunc],[(0,1),(1,1)])):=⟨by kernel_rfl⟩
instance:aH (lW Tryz.prog 24) (some ([.int .i64 0,.int .i64 0],[(0,1),(1,1)])):=⟨by kernel_rfl⟩
instance:aH (lW Tryz.prog 248) (some ([.int .i64 0,.int .i64 0,.int .i64 0],[(0,1),(1,1),(2,1)])):=⟨by kernel_rfl⟩
instance:aH (lW Tryz.prog 263) (some ([.int .i64 0,.int .i64 0,.int .i64 0],[(0,1),(1,1),(2,1)])):=⟨by kernel_rfl⟩
instance:aH (lW Tryz.prog 277) (some ([.int .i64 0,.int .i64 0],[(0,1),(1,1)])):=⟨by kernel_rfl⟩
instance:aH (tU Tryz.prog 248) (some 24):=⟨by kernel_rfl⟩
instance:aH (tU Tryz.prog 3) (some 8):=⟨by kernel_rfl⟩
theorem MT:sP Tryz.prog 145=true:=by kernel_rfl
theorem Dw:sP Tryz.prog 152=true:=by kernel_rfl
theorem Ew:nq Tryz.prog 141=some 1:=by kernel_rfl
theorem Yn:nq Tryz.prog 152=some 2:=by kernel_rfl
theorem vp:nq Tryz.prog 193=some 3:=by kernel_rfl
theorem abz:nq Tryz.prog 204=some 1:=by kernel_rfl
theorem Rg:nq Tryz.prog 206=some 1:=by kernel_rfl
theorem LV:nq Tryz.prog 22=some 3:=by kernel_rfl
theorem abm:nq Tryz.prog 236=some 1:=by kernel_rfl
theorem yC:nq Tryz.prog 244=some 3:=by kernel_rfl
theorem CA:nq Tryz.prog 36=some 6:=by kernel_rfl
theorem we:nq Tryz.prog 37=some 2:=by kernel_rfl
theorem xg:nq Tryz.prog 38=some 3:=by kernel_rfl
theorem bB:nq Tryz.prog 39=some 1:=by kernel_rfl
instance:aH (dH Tryz.prog 103 0) (some 0):=⟨by kernel_rfl⟩
instance:aH (dH Tryz.prog 103 1) (some 1):=⟨by kernel_rfl⟩
instance:aH (dH Tryz.prog 126 0) (some 0):=⟨by kernel_rfl⟩
instance:aH (dH Tryz.prog 126 1) (some 2):=⟨by kernel_rfl⟩
instance:aH (dH Tryz.prog 126 2) (some 4):=⟨by kernel_rfl⟩
instance:aH (dH Tryz.prog 128 0) (some 0):=⟨by kernel_rfl⟩
instance:aH (dH Tryz.prog 128 1) (some 1):=⟨by kernel_rfl⟩
instance:aH (dH Tryz.prog 132 0) (some 0):=⟨by kernel_rfl⟩
instance:aH (dH Tryz.prog 132 1) (some 3):=⟨by kernel_rfl⟩
instance:aH (dH Tryz.prog 192 0) (some 0):=⟨by kernel_rfl⟩
instance:aH (dH Tryz.prog 192 1) (some 1):=⟨by kernel_rfl⟩
instance:aH (dH Tryz.prog 248 0) (some 0):=⟨by kernel_rfl⟩
instance:aH (dH Tryz.prog 248 1) (some 1):=⟨by kernel_rfl⟩
instance:aH (dH Tryz.prog 248 2) (some 2):=⟨by kernel_rfl⟩
instance:aH (dH Tryz.prog 24 0) (some 0):=⟨by kernel_rfl⟩
instance:aH (dH Tryz.prog 24 1) (some 1):=⟨by kernel_rfl⟩
instance:aH (dH Tryz.prog 260 0) (some 0):=⟨by kernel_rfl⟩
instance:aH (dH Tryz.prog 260 1) (some 6):=⟨by kernel_rfl⟩
instance:aH (dH Tryz.prog 263 0) (some 0):=⟨by kernel_rfl⟩
instance:aH (dH Tryz.prog 263 1) (some 1):=⟨by kernel_rfl⟩
instance:aH (dH Tryz.prog 263 2) (some 2):=⟨by kernel_rfl⟩
instance:aH (dH Tryz.prog 26 0) (some 0):=⟨by kernel_rfl⟩
instance:aH (dH Tryz.prog 26 1) (some 1):=⟨by kernel_rfl⟩
instance:aH (dH Tryz.prog 26 2) (some 3):=⟨by kernel_rfl⟩
instance:aH (dH Tryz.prog 81 0) (some 0):=⟨by kernel_rfl⟩
instance:aH (dH Tryz.prog 81 1) (some 1):=⟨by kernel_rfl⟩
theorem WJ:J2 Tryz.prog 24 0=some (false,1,0):=by kernel_rfl
theorem UI:J2 Tryz.prog 24 1=some (false,1,1):=by kernel_rfl
theorem Ky:pg Tryz.prog 145=some (.int .i64,.int .u32 0):=by kernel_rfl
theorem K9:pg Tryz.prog 240=some (.int .i64,.agg [.int .i64 0,.int .i64 0,.int .i64 0,.int .i64 0,.int .i64 0,.int .i64 0,.int .i64 0,.int .i64 0]):=by kernel_rfl
instance:aH (an Tryz.prog 115) (true):=⟨by kernel_rfl⟩
instance:aH (an Tryz.prog 125) (true):=⟨by kernel_rfl⟩
instance:aH (an Tryz.prog 131) (true):=⟨by kernel_rfl⟩
instance:aH (an Tryz.prog 132) (true):=⟨by kernel_rfl⟩
instance:aH (an Tryz.prog 133) (true):=⟨by kernel_rfl⟩
instance:aH (an Tryz.prog 134) (true):=⟨by kernel_rfl⟩
instance:aH (an Tryz.prog 135) (true):=⟨by kernel_rfl⟩
instance:aH (an Tryz.prog 136) (true):=⟨by kernel_rfl⟩
instance:aH (an Tryz.prog 137) (true):=⟨by kernel_rfl⟩
instance:aH (an Tryz.prog 138) (true):=⟨by kernel_rfl⟩
instance:aH (an Tryz.prog 139) (true):=⟨by kernel_rfl⟩
instance:aH (an Tryz.prog 142) (true):=⟨by kernel_rfl⟩
instance:aH (an Tryz.prog 143) (true):=⟨by kernel_rfl⟩
instance:aH (an Tryz.prog 144) (true):=⟨by kernel_rfl⟩
instance:aH (an Tryz.prog 145) (true):=⟨by kernel_rfl⟩
instance:aH (an Tryz.prog 146) (true):=⟨by kernel_rfl⟩
instance:aH (an Tryz.prog 159) (true):=⟨by kernel_rfl⟩
instance:aH (an Tryz.prog 160) (true):=⟨by kernel_rfl⟩
instance:aH (an Tryz.prog 161) (true):=⟨by kernel_rfl⟩
instance:aH (an Tryz.prog 162) (true):=⟨by kernel_rfl⟩
instance:aH (an Tryz.prog 163) (true):=⟨by kernel_rfl⟩
instance:aH (an Tryz.prog 164) (true):=⟨by kernel_rfl⟩
instance:aH (an Tryz.prog 165) (true):=⟨by kernel_rfl⟩
instance:aH (an Tryz.prog 166) (true):=⟨by kernel_rfl⟩
instance:aH (an Tryz.prog 167) (true):=⟨by kernel_rfl⟩
instance:aH (an Tryz.prog 168) (true):=⟨by kernel_rfl⟩
instance:aH (an Tryz.prog 169) (true):=⟨by kernel_rfl⟩
instance:aH (an Tryz.prog 170) (true):=⟨by kernel_rfl⟩
instance:aH (an Tryz.prog 171) (true):=⟨by kernel_rfl⟩
instance:aH (an Tryz.prog 172) (true):=⟨by kernel_rfl⟩
instance:aH (an Tryz.prog 173) (true):=⟨by kernel_rfl⟩
instance:aH (an Tryz.prog 174) (true):=⟨by kernel_rfl⟩
instance:aH (an Tryz.prog 175) (true):=⟨by kernel_rfl⟩
instance:aH (an Tryz.prog 188) (true):=⟨by kernel_rfl⟩
instance:aH (an Tryz.prog 189) (true):=⟨by kernel_rfl⟩
instance:aH (an Tryz.prog 190) (true):=⟨by kernel_rfl⟩
instance:aH (an Tryz.prog 191) (true):=⟨by kernel_rfl⟩
instance:aH (an Tryz.prog 192) (true):=⟨by kernel_rfl⟩
instance:aH (an Tryz.prog 193) (true):=⟨by kernel_rfl⟩
instance:aH (an Tryz.prog 194) (true):=⟨by kernel_rfl⟩
instance:aH (an Tryz.prog 198) (true):=⟨by kernel_rfl⟩
instance:aH (an Tryz.prog 199) (true):=⟨by kernel_rfl⟩
instance:aH (an Tryz.prog 200) (true):=⟨by kernel_rfl⟩
instance:aH (an Tryz.prog 201) (true):=⟨by kernel_rfl⟩
instance:aH (an Tryz.prog 202) (true):=⟨by kernel_rfl⟩
instance:aH (an Tryz.prog 210) (true):=⟨by kernel_rfl⟩
instance:aH (an Tryz.prog 211) (true):=⟨by kernel_rfl⟩
instance:aH (an Tryz.prog 212) (true):=⟨by kernel_rfl⟩
instance:aH (an Tryz.prog 213) (true):=⟨by kernel_rfl⟩
instance:aH (an Tryz.prog 214) (true):=⟨by kernel_rfl⟩
instance:aH (an Tryz.prog 215) (true):=⟨by kernel_rfl⟩
instance:aH (an Tryz.prog 216) (true):=⟨by kernel_rfl⟩
instance:aH (an Tryz.prog 217) (true):=⟨by kernel_rfl⟩
instance:aH (an Tryz.prog 218) (true):=⟨by kernel_rfl⟩
instance:aH (an Tryz.prog 219) (true):=⟨by kernel_rfl⟩
instance:aH (an Tryz.prog 22) (true):=⟨by kernel_rfl⟩
instance:aH (an Tryz.prog 220) (true):=⟨by kernel_rfl⟩
instance:aH (an Tryz.prog 221) (true):=⟨by kernel_rfl⟩
instance:aH (an Tryz.prog 222) (true):=⟨by kernel_rfl⟩
instance:aH (an Tryz.prog 223) (true):=⟨by kernel_rfl⟩
instance:aH (an Tryz.prog 224) (true):=⟨by kernel_rfl⟩
instance:aH (an Tryz.prog 225) (true):=⟨by kernel_rfl⟩
instance:aH (an Tryz.prog 226) (true):=⟨by kernel_rfl⟩
instance:aH (an Tryz.prog 227) (true):=⟨by kernel_rfl⟩
instance:aH (an Tryz.prog 245) (true):=⟨by kernel_rfl⟩
instance:aH (an Tryz.prog 246) (true):=⟨by kernel_rfl⟩
instance:aH (an Tryz.prog 32) (true):=⟨by kernel_rfl⟩
instance:aH (an Tryz.prog 33) (true):=⟨by kernel_rfl⟩
instance:aH (an Tryz.prog 58) (true):=⟨by kernel_rfl⟩
instance:aH (an Tryz.prog 59) (true):=⟨by kernel_rfl⟩
instance:aH (an Tryz.prog 60) (true):=⟨by kernel_rfl⟩
instance:aH (an Tryz.prog 61) (true):=⟨by kernel_rfl⟩
instance:aH (an Tryz.prog 62) (true):=⟨by kernel_rfl⟩
instance:aH (an Tryz.prog 63) (true):=⟨by kernel_rfl⟩
instance:aH (an Tryz.prog 64) (true):=⟨by kernel_rfl⟩
instance:aH (an Tryz.prog 68) (true):=⟨by kernel_rfl⟩
instance:aH (an Tryz.prog 69) (true):=⟨by kernel_rfl⟩
instance:aH (an Tryz.prog 70) (true):=⟨by kernel_rfl⟩
instance:aH (an Tryz.prog 71) (true):=⟨by kernel_rfl⟩
instance:aH (an Tryz.prog 72) (true):=⟨by kernel_rfl⟩
instance:aH (an Tryz.prog 73) (true):=⟨by kernel_rfl⟩
instance:aH (an Tryz.prog 74) (true):=⟨by kernel_rfl⟩
instance:aH (an Tryz.prog 75) (true):=⟨by kernel_rfl⟩
instance:aH (an Tryz.prog 76) (true):=⟨by kernel_rfl⟩
instance:aH (eB Tryz.prog 152) (true):=⟨by kernel_rfl⟩
instance:aH (eB Tryz.prog 193) (true):=⟨by kernel_rfl⟩
instance:aH (eB Tryz.prog 204) (true):=⟨by kernel_rfl⟩
instance:aH (eB Tryz.prog 22) (true):=⟨by kernel_rfl⟩
instance:aH (eB Tryz.prog 244) (true):=⟨by kernel_rfl⟩
instance:aH (eB Tryz.prog 36) (true):=⟨by kernel_rfl⟩
instance:aH (eB Tryz.prog 37) (true):=⟨by kernel_rfl⟩
instance:aH (eB Tryz.prog 38) (true):=⟨by kernel_rfl⟩
instance:aH (eB Tryz.prog 39) (true):=⟨by kernel_rfl⟩
instance:aH (nL Tryz.prog 204) (some (137,[.int .u32 0])):=⟨by kernel_rfl⟩
instance:aH (nL Tryz.prog 244) (some (248,[.int .i64 0,.int .i64 0,.int .i64 0])):=⟨by kernel_rfl⟩
instance:aH (nL Tryz.prog 39) (some (3,[.int .i64 0])):=⟨by kernel_rfl⟩
instance:aH (fN Tryz.prog 103) (some (true,3)):=⟨by kernel_rfl⟩
instance:aH (fN Tryz.prog 126) (some (true,6)):=⟨by kernel_rfl⟩
instance:aH (fN Tryz.prog 128) (some (true,2)):=⟨by kernel_rfl⟩
instance:aH (fN Tryz.prog 132) (some (true,5)):=⟨by kernel_rfl⟩
instance:aH (fN Tryz.prog 137) (some (false,1)):=⟨by kernel_rfl⟩
instance:aH (fN Tryz.prog 140) (some (false,1)):=⟨by kernel_rfl⟩
instance:aH (fN Tryz.prog 141) (some (true,2)):=⟨by kernel_rfl⟩
instance:aH (fN Tryz.prog 145) (some (false,1)):=⟨by kernel_rfl⟩
instance:aH (fN Tryz.prog 151) (some (false,1)):=⟨by kernel_rfl⟩
instance:aH (fN Tryz.prog 192) (some (true,3)):=⟨by kernel_rfl⟩
instance:aH (fN Tryz.prog 207) (some (false,1)):=⟨by kernel_rfl⟩
instance:aH (fN Tryz.prog 22) (some (false,1)):=⟨by kernel_rfl⟩
instance:aH (fN Tryz.prog 24) (some (true,2)):=⟨by kernel_rfl⟩
instance:aH (fN Tryz.prog 240) (some (false,1)):=⟨by kernel_rfl⟩
instance:aH (fN Tryz.prog 248) (some (true,3)):=⟨by kernel_rfl⟩
instance:aH (fN Tryz.prog 26) (some (true,4)):=⟨by kernel_rfl⟩
instance:aH (fN Tryz.prog 260) (some (true,8)):=⟨by kernel_rfl⟩
instance:aH (fN Tryz.prog 263) (some (true,3)):=⟨by kernel_rfl⟩
instance:aH (fN Tryz.prog 264) (some (false,1)):=⟨by kernel_rfl⟩
instance:aH (fN Tryz.prog 3) (some (false,1)):=⟨by kernel_rfl⟩
instance:aH (fN Tryz.prog 36) (some (false,1)):=⟨by kernel_rfl⟩
instance:aH (fN Tryz.prog 37) (some (false,1)):=⟨by kernel_rfl⟩
instance:aH (fN Tryz.prog 4) (some (false,1)):=⟨by kernel_rfl⟩
instance:aH (fN Tryz.prog 5) (some (false,1)):=⟨by kernel_rfl⟩
instance:aH (fN Tryz.prog 81) (some (true,3)):=⟨by kernel_rfl⟩
theorem tS: Tryz.prog.underlying 137=some (.int .u32):=by kernel_rfl
theorem BL: Tryz.prog.underlying 215=some (.int .u64):=by kernel_rfl
theorem y4: Tryz.prog.underlying 3=some (.int .i64):=by kernel_rfl
theorem un5: Tryz.prog.underlying 5=some (.int .u8):=by kernel_rfl
instance:aH (cO Tryz.prog 103) (some (.agg [.int .i64 0,.int .i64 0,.int .i64 0])):=⟨by kernel_rfl⟩
instance:aH (cO Tryz.prog 128) (some (.agg [.int .i64 0,.int .i64 0])):=⟨by kernel_rfl⟩
instance:aH (cO Tryz.prog 132) (some (.agg [.int .i64 0,.int .i64 0,.int .i64 0,.int .i64 0,.int .i64 0])):=⟨by kernel_rfl⟩
instance:aH (cO Tryz.prog 137) (some (.int .u32 0)):=⟨by kernel_rfl⟩
instance:aH (cO Tryz.prog 141) (some (.agg [.nilFunc,.nilFunc])):=⟨by kernel_rfl⟩
instance:aH (cO Tryz.prog 145) (some (.nilMap)):=⟨by kernel_rfl⟩
instance:aH (cO Tryz.prog 192) (some (.agg [.int .i64 0,.int .i64 0,.int .i64 0])):=⟨by kernel_rfl⟩
instance:aH (cO Tryz.prog 206) (some (.agg [.bool false,.bool false,.bool false,.bool false,.bool false,.bool false,.bool false,.bool false,.bool false,.bool false,.bool false,.bool false,.bool false,.bool false,.bool false,.bool false,.bool false,.bool false,.bool false,.bool false,.bool false,.bool false,.bool false,.bool false])):=⟨by kernel_rfl⟩
instance:aH (cO Tryz.prog 207) (some (.nilFunc)):=⟨by kernel_rfl⟩
instance:aH (cO Tryz.prog 24) (some (.agg [.int .i64 0,.int .i64 0])):=⟨by kernel_rfl⟩
instance:aH (cO Tryz.prog 240) (some (.nilMap)):=⟨by kernel_rfl⟩
instance:aH (cO Tryz.prog 248) (some (.agg [.int .i64 0,.int .i64 0,.int .i64 0])):=⟨by kernel_rfl⟩
instance:aH (cO Tryz.prog 260) (some (.agg [.int .i64 0,.int .i64 0,.int .i64 0,.int .i64 0,.int .i64 0,.int .i64 0,.int .i64 0,.int .i64 0])):=⟨by kernel_rfl⟩
instance:aH (cO Tryz.prog 263) (some (.agg [.int .i64 0,.int .i64 0,.int .i64 0])):=⟨by kernel_rfl⟩
instance:aH (cO Tryz.prog 3) (some (.int .i64 0)):=⟨by kernel_rfl⟩
instance:aH (cO Tryz.prog 4) (some (.bool false)):=⟨by kernel_rfl⟩
instance:aH (cO Tryz.prog 81) (some (.agg [.int .i64 0,.int .i64 0,.int .i64 0])):=⟨by kernel_rfl⟩
theorem mixed: Tryz.prog.follows .mixedOrders=true:=by kernel_rfl
instance:aH (tU Tryz.prog 9) (some 16):=⟨by kernel_rfl⟩
instance:aH (an Tryz.prog 47) (true):=⟨by kernel_rfl⟩
instance:aH (eB Tryz.prog 32) (true):=⟨by kernel_rfl⟩
instance:aH (nL Tryz.prog 32) (some (9,[.str ⟨#[]⟩])):=⟨by kernel_rfl⟩
instance:aH (Ap Tryz.prog 9) (true):=⟨by kernel_rfl⟩
theorem N8: Tryz.prog.underlying 21=some (.int .i32):=by kernel_rfl
theorem w9: Tryz.prog.underlying 9=some .string:=by kernel_rfl
instance:aH (lW Tryz.prog 121) (some ([.str ⟨#[]⟩,.nilSlice],[(0,1),(1,1)])):=⟨by kernel_rfl⟩
theorem nY:nq Tryz.prog 32=some 1:=by kernel_rfl
instance:aH (dH Tryz.prog 121 1) (some 1):=⟨by kernel_rfl⟩
instance:aH (dH Tryz.prog 41 1) (some 1):=⟨by kernel_rfl⟩
instance:aH (an Tryz.prog 113) (true):=⟨by kernel_rfl⟩
instance:aH (an Tryz.prog 114) (true):=⟨by kernel_rfl⟩
instance:aH (an Tryz.prog 122) (true):=⟨by kernel_rfl⟩
instance:aH (an Tryz.prog 124) (true):=⟨by kernel_rfl⟩
instance:aH (an Tryz.prog 46) (true):=⟨by kernel_rfl⟩
instance:aH (fN Tryz.prog 121) (some (true,2)):=⟨by kernel_rfl⟩
instance:aH (fN Tryz.prog 39) (some (false,1)):=⟨by kernel_rfl⟩
instance:aH (fN Tryz.prog 41) (some (true,6)):=⟨by kernel_rfl⟩
instance:aH (fN Tryz.prog 9) (some (false,1)):=⟨by kernel_rfl⟩
instance:aH (cO Tryz.prog 121) (some (.agg [.str ⟨#[]⟩,.nilSlice])):=⟨by kernel_rfl⟩
instance:aH (lW Tryz.prog 128) (some ([.int .i64 0,.int .i64 0],[(0,1),(1,1)])):=⟨by kernel_rfl⟩
instance:aH (tU Tryz.prog 128) (some 16):=⟨by kernel_rfl⟩
instance:aH (dH Tryz.prog 121 0) (some 0):=⟨by kernel_rfl⟩
instance:aH (dH Tryz.prog 41 4) (some 4):=⟨by kernel_rfl⟩
instance:aH (dH Tryz.prog 41 5) (some 5):=⟨by kernel_rfl⟩
instance:aH (dH Tryz.prog 44 1) (some 4):=⟨by kernel_rfl⟩
instance:aH (an Tryz.prog 116) (true):=⟨by kernel_rfl⟩
instance:aH (an Tryz.prog 117) (true):=⟨by kernel_rfl⟩
instance:aH (an Tryz.prog 121) (true):=⟨by kernel_rfl⟩
instance:aH (an Tryz.prog 126) (true):=⟨by kernel_rfl⟩
instance:aH (an Tryz.prog 127) (true):=⟨by kernel_rfl⟩
instance:aH (an Tryz.prog 128) (true):=⟨by kernel_rfl⟩
instance:aH (nL Tryz.prog 37) (some (128,[.int .i64 0,.int .i64 0])):=⟨by kernel_rfl⟩
instance:aH (fN Tryz.prog 44) (some (true,12)):=⟨by kernel_rfl⟩
instance:aH (cO Tryz.prog 41) (some (.agg [.nilSlice,.nilSlice,.nilSlice,.nilSlice,.int .i64 0,.int .i64 0])):=⟨by kernel_rfl⟩
instance:aH (cO Tryz.prog 44) (some (.agg [.nilSlice,.int .i64 0,.int .i64 0,.int .i64 0,.nilSlice,.nilSlice,.nilSlice,.nilSlice,.int .i64 0,.int .i64 0,.nilSlice,.nilSlice])):=⟨by kernel_rfl⟩
instance:aH (dH Tryz.prog 41 2) (some 2):=⟨by kernel_rfl⟩
instance:aH (dH Tryz.prog 41 3) (some 3):=⟨by kernel_rfl⟩
instance:aH (dH Tryz.prog 44 0) (some 0):=⟨by kernel_rfl⟩
instance:aH (an Tryz.prog 123) (true):=⟨by kernel_rfl⟩
instance:aH (an Tryz.prog 129) (true):=⟨by kernel_rfl⟩
instance:aH (an Tryz.prog 130) (true):=⟨by kernel_rfl⟩
instance:aH (fN Tryz.prog 38) (some (false,1)):=⟨by kernel_rfl⟩
instance:aH (lW Tryz.prog 44) (some ([.nilSlice,.int .i64 0,.int .i64 0,.int .i64 0,.nilSlice,.nilSlice,.nilSlice,.nilSlice,.int .i64 0,.int .i64 0,.nilSlice,.nilSlice],[(0,4),(4,6),(10,1),(11,1)])):=⟨by kernel_rfl⟩
instance:aH (tU Tryz.prog 44) (some 208):=⟨by kernel_rfl⟩
theorem Ph:nq Tryz.prog 42=some 12:=by kernel_rfl
instance:aH (dH Tryz.prog 44 2) (some 10):=⟨by kernel_rfl⟩
instance:aH (dH Tryz.prog 44 3) (some 11):=⟨by kernel_rfl⟩
instance:aH (eB Tryz.prog 42) (true):=⟨by kernel_rfl⟩
instance:aH (nL Tryz.prog 42) (some (44,[.nilSlice,.int .i64 0,.int .i64 0,.int .i64 0,.nilSlice,.nilSlice,.nilSlice,.nilSlice,.int .i64 0,.int .i64 0,.nilSlice,.nilSlice])):=⟨by kernel_rfl⟩
instance:aH (fN Tryz.prog 42) (some (false,1)):=⟨by kernel_rfl⟩
instance:aH (lW Tryz.prog 126) (some ([.int .i64 0,.int .i64 0,.int .i64 0,.int .i64 0,.int .i64 0,.int .i64 0],[(0,2),(2,2),(4,2)])):=⟨by kernel_rfl⟩
instance:aH (tU Tryz.prog 126) (some 48):=⟨by kernel_rfl⟩
instance:aH (dH Tryz.prog 41 0) (some 0):=⟨by kernel_rfl⟩
instance:aH (nL Tryz.prog 36) (some (126,[.int .i64 0,.int .i64 0,.int .i64 0,.int .i64 0,.int .i64 0,.int .i64 0])):=⟨by kernel_rfl⟩
instance:aH (cO Tryz.prog 126) (some (.agg [.int .i64 0,.int .i64 0,.int .i64 0,.int .i64 0,.int .i64 0,.int .i64 0])):=⟨by kernel_rfl⟩
instance:aH (lW Tryz.prog 192) (some ([.int .i64 0,.int .i64 0,.int .i64 0],[(0,1),(1,2)])):=⟨by kernel_rfl⟩
instance:aH (lW Tryz.prog 81) (some ([.int .i64 0,.int .i64 0,.int .i64 0],[(0,1),(1,2)])):=⟨by kernel_rfl⟩
instance:aH (tU Tryz.prog 81) (some 24):=⟨by kernel_rfl⟩
instance:aH (an Tryz.prog 118) (true):=⟨by kernel_rfl⟩
instance:aH (an Tryz.prog 119) (true):=⟨by kernel_rfl⟩
instance:aH (an Tryz.prog 120) (true):=⟨by kernel_rfl⟩
instance:aH (nL Tryz.prog 193) (some (192,[.int .i64 0,.int .i64 0,.int .i64 0])):=⟨by kernel_rfl⟩
instance:aH (nL Tryz.prog 38) (some (81,[.int .i64 0,.int .i64 0,.int .i64 0])):=⟨by kernel_rfl⟩
instance:aH (an Tryz.prog 56) (true):=⟨by kernel_rfl⟩
instance:aH (an Tryz.prog 57) (true):=⟨by kernel_rfl⟩
instance:aH (an Tryz.prog 14) (true):=⟨by kernel_rfl⟩
instance:aH (an Tryz.prog 16) (true):=⟨by kernel_rfl⟩
theorem abi: Tryz.prog.eqGuardType Tryz.prog.depth 126=false:=by kernel_rfl
theorem Y3: Tryz.prog.eqGuardType Tryz.prog.depth 128=false:=by kernel_rfl
theorem ab8: Tryz.prog.eqGuardType Tryz.prog.depth 81=false:=by kernel_rfl
theorem aaj:eqTy Tryz.prog 8 126=some [.int .i64,.int .i64,.int .i64,.int .i64,.int .i64,.int .i64]:=by kernel_rfl
theorem aaX:eqTy Tryz.prog 8 128=some [.int .i64,.int .i64]:=by kernel_rfl
theorem acH:eqTy Tryz.prog 8 81=some [.int .i64,.int .i64,.int .i64]:=by kernel_rfl
instance:aH (an Tryz.prog 37) (true):=⟨by kernel_rfl⟩
theorem Yh:zz Tryz.prog 265=some 64:=by kernel_rfl
instance:aH (lW Tryz.prog 106) (some ([.int .i64 0],[(0,1)])):=⟨by kernel_rfl⟩
theorem Mk:sP Tryz.prog 106=true:=by kernel_rfl
theorem aaN:nq Tryz.prog 265=some 1:=by kernel_rfl
instance:aH (an Tryz.prog 158) (true):=⟨by kernel_rfl⟩
instance:aH (an Tryz.prog 197) (true):=⟨by kernel_rfl⟩
instance:aH (an Tryz.prog 53) (true):=⟨by kernel_rfl⟩
theorem Y0: Tryz.prog.underlying 231=some (.int .u64):=by kernel_rfl
instance:aH (Pg Tryz.prog 75) (true):=⟨by kernel_rfl⟩
theorem lD:sP Tryz.prog 3=true:=by kernel_rfl
theorem Ep:sP Tryz.prog 39=true:=by kernel_rfl
theorem mO:sP Tryz.prog 9=true:=by kernel_rfl
theorem aaM:nq Tryz.prog 168=some 1:=by kernel_rfl
theorem acR:nq Tryz.prog 75=some 1:=by kernel_rfl
instance:aH (an Tryz.prog 25) (true):=⟨by kernel_rfl⟩
instance:aH (an Tryz.prog 85) (true):=⟨by kernel_rfl⟩
instance:aH (an Tryz.prog 89) (true):=⟨by kernel_rfl⟩
instance:aH (eB Tryz.prog 168) (true):=⟨by kernel_rfl⟩
instance:aH (eB Tryz.prog 75) (true):=⟨by kernel_rfl⟩
instance:aH (fN Tryz.prog 20) (some (false,1)):=⟨by kernel_rfl⟩
instance:aH (cO Tryz.prog 39) (some (.nilSlice)):=⟨by kernel_rfl⟩
instance:aH (cO Tryz.prog 9) (some (.str ⟨#[]⟩)):=⟨by kernel_rfl⟩
instance:aH (an Tryz.prog 110) (true):=⟨by kernel_rfl⟩
instance:aH (an Tryz.prog 111) (true):=⟨by kernel_rfl⟩
instance:aH (an Tryz.prog 112) (true):=⟨by kernel_rfl⟩
instance:aH (fN Tryz.prog 32) (some (false,1)):=⟨by kernel_rfl⟩
instance:aH (dH Tryz.prog 59 0) (some 0):=⟨by kernel_rfl⟩
instance:aH (dH Tryz.prog 59 1) (some 6):=⟨by kernel_rfl⟩
instance:aH (an Tryz.prog 80) (true):=⟨by kernel_rfl⟩
instance:aH (an Tryz.prog 87) (true):=⟨by kernel_rfl⟩
instance:aH (an Tryz.prog 88) (true):=⟨by kernel_rfl⟩
instance:aH (fN Tryz.prog 59) (some (true,7)):=⟨by kernel_rfl⟩
instance:aH (cO Tryz.prog 59) (some (.agg [.nilSlice,.nilSlice,.nilSlice,.nilSlice,.int .i64 0,.int .i64 0,.nilSlice])):=⟨by kernel_rfl⟩
instance:aH (dH Tryz.prog 63 0) (some 0):=⟨by kernel_rfl⟩
instance:aH (an Tryz.prog 152) (true):=⟨by kernel_rfl⟩
instance:aH (an Tryz.prog 100) (true):=⟨by kernel_rfl⟩
instance:aH (an Tryz.prog 156) (true):=⟨by kernel_rfl⟩
instance:aH (an Tryz.prog 31) (true):=⟨by kernel_rfl⟩
instance:aH (an Tryz.prog 43) (true):=⟨by kernel_rfl⟩
instance:aH (an Tryz.prog 92) (true):=⟨by kernel_rfl⟩
instance:aH (an Tryz.prog 99) (true):=⟨by kernel_rfl⟩
instance:aH (nL Tryz.prog 168) (some (20,[.nilIface])):=⟨by kernel_rfl⟩
instance:aH (an Tryz.prog 153) (true):=⟨by kernel_rfl⟩
instance:aH (an Tryz.prog 154) (true):=⟨by kernel_rfl⟩
instance:aH (an Tryz.prog 30) (true):=⟨by kernel_rfl⟩
instance:aH (an Tryz.prog 157) (true):=⟨by kernel_rfl⟩
instance:aH (an Tryz.prog 196) (true):=⟨by kernel_rfl⟩
instance:aH (an Tryz.prog 96) (true):=⟨by kernel_rfl⟩
instance:aH (dH Tryz.prog 63 1) (some 7):=⟨by kernel_rfl⟩
instance:aH (an Tryz.prog 155) (true):=⟨by kernel_rfl⟩
instance:aH (an Tryz.prog 21) (true):=⟨by kernel_rfl⟩
instance:aH (an Tryz.prog 104) (true):=⟨by kernel_rfl⟩
instance:aH (an Tryz.prog 28) (true):=⟨by kernel_rfl⟩
instance:aH (tU Tryz.prog 59) (some 136):=⟨by kernel_rfl⟩
theorem YV:nq Tryz.prog 61=some 7:=by kernel_rfl
instance:aH (eB Tryz.prog 61) (true):=⟨by kernel_rfl⟩
instance:aH (nL Tryz.prog 61) (some (59,[.nilSlice,.nilSlice,.nilSlice,.nilSlice,.int .i64 0,.int .i64 0,.nilSlice])):=⟨by kernel_rfl⟩
instance:aH (fN Tryz.prog 61) (some (false,1)):=⟨by kernel_rfl⟩
instance:aH (dH Tryz.prog 63 2) (some 11):=⟨by kernel_rfl⟩
instance:aH (an Tryz.prog 106) (true):=⟨by kernel_rfl⟩
instance:aH (an Tryz.prog 108) (true):=⟨by kernel_rfl⟩
instance:aH (an Tryz.prog 49) (true):=⟨by kernel_rfl⟩
instance:aH (lW Tryz.prog 111) (some ([.int .i64 0,.nilFunc],[(0,1),(1,1)])):=⟨by kernel_rfl⟩
theorem jm:pg Tryz.prog 113=some (.string,.agg [.int .i64 0,.nilFunc]):=by kernel_rfl
instance:aH (dH Tryz.prog 106 0) (some 0):=⟨by kernel_rfl⟩
theorem SF:N4 Tryz.prog 20=true:=by kernel_rfl
instance:aH (fN Tryz.prog 106) (some (true,1)):=⟨by kernel_rfl⟩
instance:aH (fN Tryz.prog 28) (some (false,1)):=⟨by kernel_rfl⟩
instance:aH (fN Tryz.prog 33) (some (false,1)):=⟨by kernel_rfl⟩
instance:aH (cO Tryz.prog 106) (some (.agg [.int .i64 0])):=⟨by kernel_rfl⟩
instance:aH (dH Tryz.prog 111 0) (some 0):=⟨by kernel_rfl⟩
instance:aH (dH Tryz.prog 111 1) (some 1):=⟨by kernel_rfl⟩
instance:aH (dH Tryz.prog 63 3) (some 12):=⟨by kernel_rfl⟩
instance:aH (xx Tryz.prog 33) (some (63,13)):=⟨by kernel_rfl⟩
instance:aH (an Tryz.prog 101) (true):=⟨by kernel_rfl⟩
instance:aH (an Tryz.prog 102) (true):=⟨by kernel_rfl⟩
instance:aH (an Tryz.prog 103) (true):=⟨by kernel_rfl⟩
instance:aH (an Tryz.prog 105) (true):=⟨by kernel_rfl⟩
instance:aH (an Tryz.prog 107) (true):=⟨by kernel_rfl⟩
instance:aH (an Tryz.prog 109) (true):=⟨by kernel_rfl⟩
instance:aH (an Tryz.prog 50) (true):=⟨by kernel_rfl⟩
instance:aH (an Tryz.prog 51) (true):=⟨by kernel_rfl⟩
instance:aH (an Tryz.prog 52) (true):=⟨by kernel_rfl⟩
instance:aH (an Tryz.prog 54) (true):=⟨by kernel_rfl⟩
instance:aH (an Tryz.prog 55) (true):=⟨by kernel_rfl⟩
instance:aH (an Tryz.prog 90) (true):=⟨by kernel_rfl⟩
instance:aH (an Tryz.prog 91) (true):=⟨by kernel_rfl⟩
instance:aH (an Tryz.prog 93) (true):=⟨by kernel_rfl⟩
instance:aH (an Tryz.prog 94) (true):=⟨by kernel_rfl⟩
instance:aH (an Tryz.prog 95) (true):=⟨by kernel_rfl⟩
instance:aH (an Tryz.prog 97) (true):=⟨by kernel_rfl⟩
instance:aH (an Tryz.prog 98) (true):=⟨by kernel_rfl⟩
instance:aH (fN Tryz.prog 109) (some (false,1)):=⟨by kernel_rfl⟩
instance:aH (fN Tryz.prog 111) (some (true,2)):=⟨by kernel_rfl⟩
instance:aH (cO Tryz.prog 111) (some (.agg [.int .i64 0,.nilFunc])):=⟨by kernel_rfl⟩
instance:aH (cO Tryz.prog 28) (some (.int .i64 0)):=⟨by kernel_rfl⟩
instance:aH (lW Tryz.prog 63) (some ([.nilSlice,.nilSlice,.nilSlice,.nilSlice,.int .i64 0,.int .i64 0,.nilSlice,.nilSlice,.int .i64 0,.int .i64 0,.int .i64 0,.nilSlice,.bool false],[(0,7),(7,4),(11,1),(12,1)])):=⟨by kernel_rfl⟩
instance:aH (tU Tryz.prog 103) (some 24):=⟨by kernel_rfl⟩
instance:aH (an Tryz.prog 48) (true):=⟨by kernel_rfl⟩
instance:aH (nL Tryz.prog 22) (some (103,[.int .i64 0,.int .i64 0,.int .i64 0])):=⟨by kernel_rfl⟩
instance:aH (tU Tryz.prog 5) (some 1):=⟨by kernel_rfl⟩
instance:aH (dH Tryz.prog 89 0) (some 0):=⟨by kernel_rfl⟩
instance:aH (dH Tryz.prog 89 1) (some 1):=⟨by kernel_rfl⟩
instance:aH (xx Tryz.prog 87) (some (89,2)):=⟨by kernel_rfl⟩
instance:aH (an Tryz.prog 86) (true):=⟨by kernel_rfl⟩
instance:aH (nL Tryz.prog 75) (some (5,[.int .u8 0])):=⟨by kernel_rfl⟩
instance:aH (fN Tryz.prog 75) (some (false,1)):=⟨by kernel_rfl⟩
instance:aH (fN Tryz.prog 87) (some (false,1)):=⟨by kernel_rfl⟩
instance:aH (ubI Tryz.prog 170 5) (true):=⟨by kernel_rfl⟩
instance:aH (LL Tryz.prog 209) (true):=⟨by kernel_rfl⟩
instance:aH (an Tryz.prog 83) (true):=⟨by kernel_rfl⟩
instance:aH (an Tryz.prog 13) (true):=⟨by kernel_rfl⟩
instance:aH (an Tryz.prog 15) (true):=⟨by kernel_rfl⟩
instance:aH (an Tryz.prog 40) (true):=⟨by kernel_rfl⟩
instance:aH (an Tryz.prog 41) (true):=⟨by kernel_rfl⟩
instance:aH (an Tryz.prog 42) (true):=⟨by kernel_rfl⟩
instance:aH (an Tryz.prog 44) (true):=⟨by kernel_rfl⟩
instance:aH (an Tryz.prog 45) (true):=⟨by kernel_rfl⟩
instance:aH (an Tryz.prog 82) (true):=⟨by kernel_rfl⟩
instance:aH (cO Tryz.prog 33) (some (.nilPtr)):=⟨by kernel_rfl⟩
instance:aH (cO Tryz.prog 89) (some (.agg [.nilPtr,.nilSlice])):=⟨by kernel_rfl⟩
instance:aH (lW Tryz.prog 103) (some ([.int .i64 0,.int .i64 0,.int .i64 0],[(0,1),(1,2)])):=⟨by kernel_rfl⟩
instance:aH (lW Tryz.prog 26) (some ([.nilSlice,.int .i64 0,.int .i64 0,.int .i64 0],[(0,1),(1,2),(3,1)])):=⟨by kernel_rfl⟩
instance:aH (an Tryz.prog 10) (true):=⟨by kernel_rfl⟩
instance:aH (an Tryz.prog 11) (true):=⟨by kernel_rfl⟩
instance:aH (an Tryz.prog 12) (true):=⟨by kernel_rfl⟩
instance:aH (an Tryz.prog 38) (true):=⟨by kernel_rfl⟩
instance:aH (an Tryz.prog 39) (true):=⟨by kernel_rfl⟩
instance:aH (cO Tryz.prog 26) (some (.agg [.nilSlice,.int .i64 0,.int .i64 0,.int .i64 0])):=⟨by kernel_rfl⟩
instance:aH (an Tryz.prog 18) (true):=⟨by kernel_rfl⟩
instance:aH (an Tryz.prog 17) (true):=⟨by kernel_rfl⟩
theorem un4: Tryz.prog.underlying 4=some .bool:=by kernel_rfl
end Go.Proofs.YtchiinjiflgepaaGreatDoor
end
