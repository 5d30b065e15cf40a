/-
 Chapter 15: facts on types and functions, by the kernel.
 Chapter 15: more facts on types and functions, by the kernel.
 Chapter 15: more facts on types and functions, by the kernel.
 Chapter 15: more facts on types and functions, by the kernel.
 Chapter 15: more facts on types and functions, by the kernel.
 Chapter 15: more facts on types and functions, by the kernel.
 Chapter 15: more facts on types and functions, by the kernel.
 Chapter 15: more facts on types and functions, by the kernel.
 Chapter 15: more facts on types and functions, by the kernel.
 Chapter 15: more facts on types and functions, by the kernel.
 Chapter 15: more facts on types and functions, by the kernel.
 Chapter 15: more facts on types and functions, by the kernel.
 Chapter 15: more facts on types and functions, by the kernel.
 Chapter 15: more facts on types and functions, by the kernel.
 Chapter 15: more facts on types and functions, by the kernel.
 Chapter 15: more facts on types and functions, by the kernel.
 Chapter 15: more facts on types and functions, by the kernel.
 Chapter 15: more facts on types and functions, by the kernel.
 Chapter 15: more facts on types and functions, by the kernel.
 Chapter 15: more facts on types and functions, by the kernel.
 Chapter 15: more facts on types and functions, by the kernel.
 Chapter 15: more facts on types and functions, by the kernel.
 Chapter 15: more facts on types and functions, by the kernel.
 Chapter 15: more facts on types and functions, by the kernel.
 Chapter 15: more facts on types and functions, by the kernel.
 Chapter 15: more facts on types and functions, by the kernel.
 Chapter 15: more facts on types and functions, by the kernel.
 Chapter 15: more facts on types and functions, by the kernel.
 Chapter 15: more facts on types and functions, by the kernel.
 Chapter 15: more facts on types and functions, by the kernel.
 Chapter 15: more facts on types and functions, by the kernel.
 Chapter 15: more facts on types and functions, by the kernel.
 Chapter 15: more facts on types and functions, by the kernel.
 Chapter 15: more facts on types and functions, by the kernel.
 Chapter 15: more facts on types and functions, by the kernel.
 Chapter 15: more facts on types and functions, by the kernel.
 Chapter 15: more facts on types and functions, by the kernel.
-/
import Derived.Test.YtibffijhebobmaaGreatDoorProg
import Derived.Test.YtibffijhebobmaaGreatDoorFaUF
import Derived.KernelRfl
import Derived.Test.YtibffijhebobmaaGreatDoorFaUC
section
set_option maxRecDepth 100000
namespace Go.Proofs.YtibffijhebobmaaGreatDoor
open Go.AF
theorem GY:zA Tryz.prog 144=some 2:=by kernel_rfl
theorem Se:zA Tryz.prog 266=some 24:=by kernel_rfl
theorem WS:zA Tryz.prog 283=some 32:=by kernel_rfl
theorem L5:OL Tryz.prog 294=some (2,false,1):=by kernel_rfl
instance:aJ (lT Tryz.prog 137) (some ([.int .i64 0,.int .i64 0,.int .i64 0,.int .i64 0,.int .i64 0],[(0,3),(3,2)])):=⟨by kernel_rfl⟩
instance:aJ (lT Tryz.prog 144) (some ([.nilFunc,.nilFunc],[(0,1),(1,1)])):=⟨by kernel_rfl⟩
instance:aJ (lT Tryz.prog 234) (some ([.int .i64 0,.int .i64 0,.int .i64 0],[(0,1),(1,1),(2,1)])):=⟨by kernel_rfl⟩
instance:aJ (lT Tryz.prog 24) (some ([.int .i64 0,.int .i64 0],[(0,1),(1,1)])):=⟨by kernel_rfl⟩
instance:aJ (lT Tryz.prog 294) (some ([.int .i64 0,.int .i64 0],[(0,1),(1,1)])):=⟨by kernel_rfl⟩
instance:aJ (wG Tryz.prog 3) (some 8):=⟨by kernel_rfl⟩
theorem Mk:rG Tryz.prog 213=true:=by kernel_rfl
theorem Fc:rG Tryz.prog 220=true:=by kernel_rfl
theorem HM:ou Tryz.prog 144=some 1:=by kernel_rfl
theorem Sd:ou Tryz.prog 205=some 3:=by kernel_rfl
theorem V4:ou Tryz.prog 22=some 3:=by kernel_rfl
theorem Xn:ou Tryz.prog 220=some 2:=by kernel_rfl
theorem Wy:ou Tryz.prog 265=some 1:=by kernel_rfl
theorem Rh:ou Tryz.prog 266=some 1:=by kernel_rfl
theorem Xd:ou Tryz.prog 283=some 1:=by kernel_rfl
theorem xK:ou Tryz.prog 32=some 6:=by kernel_rfl
theorem Q7:ou Tryz.prog 33=some 2:=by kernel_rfl
theorem Tf:ou Tryz.prog 34=some 3:=by kernel_rfl
theorem dX:ou Tryz.prog 35=some 1:=by kernel_rfl
instance:aJ (dB Tryz.prog 122 0) (some 0):=⟨by kernel_rfl⟩
instance:aJ (dB Tryz.prog 122 1) (some 1):=⟨by kernel_rfl⟩
instance:aJ (dB Tryz.prog 137 0) (some 0):=⟨by kernel_rfl⟩
instance:aJ (dB Tryz.prog 137 1) (some 3):=⟨by kernel_rfl⟩
instance:aJ (dB Tryz.prog 204 0) (some 0):=⟨by kernel_rfl⟩
instance:aJ (dB Tryz.prog 204 1) (some 1):=⟨by kernel_rfl⟩
instance:aJ (dB Tryz.prog 231 0) (some 0):=⟨by kernel_rfl⟩
instance:aJ (dB Tryz.prog 231 1) (some 6):=⟨by kernel_rfl⟩
instance:aJ (dB Tryz.prog 234 0) (some 0):=⟨by kernel_rfl⟩
instance:aJ (dB Tryz.prog 234 1) (some 1):=⟨by kernel_rfl⟩
instance:aJ (dB Tryz.prog 234 2) (some 2):=⟨by kernel_rfl⟩
instance:aJ (dB Tryz.prog 24 0) (some 0):=⟨by kernel_rfl⟩
instance:aJ (dB Tryz.prog 24 1) (some 1):=⟨by kernel_rfl⟩
instance:aJ (dB Tryz.prog 26 0) (some 0):=⟨by kernel_rfl⟩
instance:aJ (dB Tryz.prog 26 1) (some 1):=⟨by kernel_rfl⟩
instance:aJ (dB Tryz.prog 26 2) (some 3):=⟨by kernel_rfl⟩
instance:aJ (dB Tryz.prog 60 0) (some 0):=⟨by kernel_rfl⟩
instance:aJ (dB Tryz.prog 60 1) (some 2):=⟨by kernel_rfl⟩
instance:aJ (dB Tryz.prog 60 2) (some 4):=⟨by kernel_rfl⟩
instance:aJ (dB Tryz.prog 74 0) (some 0):=⟨by kernel_rfl⟩
instance:aJ (dB Tryz.prog 74 1) (some 1):=⟨by kernel_rfl⟩
instance:aJ (dB Tryz.prog 92 0) (some 0):=⟨by kernel_rfl⟩
instance:aJ (dB Tryz.prog 92 1) (some 1):=⟨by kernel_rfl⟩
theorem LA:Pc Tryz.prog 24 0=some (false,1,0):=by kernel_rfl
theorem L3:Pc Tryz.prog 24 1=some (false,1,1):=by kernel_rfl
theorem EN:oy Tryz.prog 177=some (.int .i64,.agg [.int .i64 0,.int .i64 0,.int .i64 0,.int .i64 0,.int .i64 0,.int .i64 0,.int .i64 0,.int .i64 0]):=by kernel_rfl
theorem NP:oy Tryz.prog 213=some (.int .i64,.int .u32 0):=by kernel_rfl
instance:aJ (ak Tryz.prog 113) (true):=⟨by kernel_rfl⟩
instance:aJ (ak Tryz.prog 114) (true):=⟨by kernel_rfl⟩
instance:aJ (ak Tryz.prog 116) (true):=⟨by kernel_rfl⟩
instance:aJ (ak Tryz.prog 123) (true):=⟨by kernel_rfl⟩
instance:aJ (ak Tryz.prog 124) (true):=⟨by kernel_rfl⟩
instance:aJ (ak Tryz.prog 125) (true):=⟨by kernel_rfl⟩
instance:aJ (ak Tryz.prog 126) (true):=⟨by kernel_rfl⟩
instance:aJ (ak Tryz.prog 127) (true):=⟨by kernel_rfl⟩
instance:aJ (ak Tryz.prog 128) (true):=⟨by kernel_rfl⟩
instance:aJ (ak Tryz.prog 129) (true):=⟨by kernel_rfl⟩
instance:aJ (ak Tryz.prog 145) (true):=⟨by kernel_rfl⟩
instance:aJ (ak Tryz.prog 146) (true):=⟨by kernel_rfl⟩
instance:aJ (ak Tryz.prog 148) (true):=⟨by kernel_rfl⟩
instance:aJ (ak Tryz.prog 149) (true):=⟨by kernel_rfl⟩
instance:aJ (ak Tryz.prog 150) (true):=⟨by kernel_rfl⟩
instance:aJ (ak Tryz.prog 151) (true):=⟨by kernel_rfl⟩
instance:aJ (ak Tryz.prog 152) (true):=⟨by kernel_rfl⟩
instance:aJ (ak Tryz.prog 153) (true):=⟨by kernel_rfl⟩
instance:aJ (ak Tryz.prog 162) (true):=⟨by kernel_rfl⟩
instance:aJ (ak Tryz.prog 163) (true):=⟨by kernel_rfl⟩
instance:aJ (ak Tryz.prog 164) (true):=⟨by kernel_rfl⟩
instance:aJ (ak Tryz.prog 165) (true):=⟨by kernel_rfl⟩
instance:aJ (ak Tryz.prog 171) (true):=⟨by kernel_rfl⟩
instance:aJ (ak Tryz.prog 172) (true):=⟨by kernel_rfl⟩
instance:aJ (ak Tryz.prog 178) (true):=⟨by kernel_rfl⟩
instance:aJ (ak Tryz.prog 179) (true):=⟨by kernel_rfl⟩
instance:aJ (ak Tryz.prog 180) (true):=⟨by kernel_rfl⟩
instance:aJ (ak Tryz.prog 181) (true):=⟨by kernel_rfl⟩
instance:aJ (ak Tryz.prog 184) (true):=⟨by kernel_rfl⟩
instance:aJ (ak Tryz.prog 185) (true):=⟨by kernel_rfl⟩
instance:aJ (ak Tryz.prog 186) (true):=⟨by kernel_rfl⟩
instance:aJ (ak Tryz.prog 187) (true):=⟨by kernel_rfl⟩
instance:aJ (ak Tryz.prog 188) (true):=⟨by kernel_rfl⟩
instance:aJ (ak Tryz.prog 190) (true):=⟨by kernel_rfl⟩
instance:aJ (ak Tryz.prog 191) (true):=⟨by kernel_rfl⟩
instance:aJ (ak Tryz.prog 198) (true):=⟨by kernel_rfl⟩
instance:aJ (ak Tryz.prog 199) (true):=⟨by kernel_rfl⟩
instance:aJ (ak Tryz.prog 200) (true):=⟨by kernel_rfl⟩
instance:aJ (ak Tryz.prog 205) (true):=⟨by kernel_rfl⟩
instance:aJ (ak Tryz.prog 206) (true):=⟨by kernel_rfl⟩
instance:aJ (ak Tryz.prog 207) (true):=⟨by kernel_rfl⟩
instance:aJ (ak Tryz.prog 208) (true):=⟨by kernel_rfl⟩
instance:aJ (ak Tryz.prog 209) (true):=⟨by kernel_rfl⟩
instance:aJ (ak Tryz.prog 210) (true):=⟨by kernel_rfl⟩
instance:aJ (ak Tryz.prog 212) (true):=⟨by kernel_rfl⟩
instance:aJ (ak Tryz.prog 213) (true):=⟨by kernel_rfl⟩
instance:aJ (ak Tryz.prog 233) (true):=⟨by kernel_rfl⟩
instance:aJ (ak Tryz.prog 234) (true):=⟨by kernel_rfl⟩
instance:aJ (ak Tryz.prog 48) (true):=⟨by kernel_rfl⟩
instance:aJ (ak Tryz.prog 50) (true):=⟨by kernel_rfl⟩
instance:aJ (ak Tryz.prog 51) (true):=⟨by kernel_rfl⟩
instance:aJ (ak Tryz.prog 52) (true):=⟨by kernel_rfl⟩
instance:aJ (ak Tryz.prog 53) (true):=⟨by kernel_rfl⟩
instance:aJ (ak Tryz.prog 65) (true):=⟨by kernel_rfl⟩
instance:aJ (ak Tryz.prog 66) (true):=⟨by kernel_rfl⟩
instance:aJ (ak Tryz.prog 68) (true):=⟨by kernel_rfl⟩
instance:aJ (ak Tryz.prog 69) (true):=⟨by kernel_rfl⟩
instance:aJ (ak Tryz.prog 73) (true):=⟨by kernel_rfl⟩
instance:aJ (ak Tryz.prog 74) (true):=⟨by kernel_rfl⟩
instance:aJ (ak Tryz.prog 94) (true):=⟨by kernel_rfl⟩
instance:aJ (dY Tryz.prog 205) (true):=⟨by kernel_rfl⟩
instance:aJ (dY Tryz.prog 22) (true):=⟨by kernel_rfl⟩
instance:aJ (dY Tryz.prog 220) (true):=⟨by kernel_rfl⟩
instance:aJ (dY Tryz.prog 265) (true):=⟨by kernel_rfl⟩
instance:aJ (dY Tryz.prog 32) (true):=⟨by kernel_rfl⟩
instance:aJ (dY Tryz.prog 33) (true):=⟨by kernel_rfl⟩
instance:aJ (dY Tryz.prog 34) (true):=⟨by kernel_rfl⟩
instance:aJ (dY Tryz.prog 35) (true):=⟨by kernel_rfl⟩
instance:aJ (oz Tryz.prog 265) (some (209,[.int .u32 0])):=⟨by kernel_rfl⟩
instance:aJ (oz Tryz.prog 35) (some (3,[.int .i64 0])):=⟨by kernel_rfl⟩
instance:aJ (fm Tryz.prog 119) (some (false,1)):=⟨by kernel_rfl⟩
instance:aJ (fm Tryz.prog 122) (some (true,3)):=⟨by kernel_rfl⟩
instance:aJ (fm Tryz.prog 137) (some (true,5)):=⟨by kernel_rfl⟩
instance:aJ (fm Tryz.prog 144) (some (true,2)):=⟨by kernel_rfl⟩
instance:aJ (fm Tryz.prog 177) (some (false,1)):=⟨by kernel_rfl⟩
instance:aJ (fm Tryz.prog 204) (some (true,3)):=⟨by kernel_rfl⟩
instance:aJ (fm Tryz.prog 209) (some (false,1)):=⟨by kernel_rfl⟩
instance:aJ (fm Tryz.prog 213) (some (false,1)):=⟨by kernel_rfl⟩
instance:aJ (fm Tryz.prog 219) (some (false,1)):=⟨by kernel_rfl⟩
instance:aJ (fm Tryz.prog 22) (some (false,1)):=⟨by kernel_rfl⟩
instance:aJ (fm Tryz.prog 231) (some (true,8)):=⟨by kernel_rfl⟩
instance:aJ (fm Tryz.prog 234) (some (true,3)):=⟨by kernel_rfl⟩
instance:aJ (fm Tryz.prog 235) (some (false,1)):=⟨by kernel_rfl⟩
instance:aJ (fm Tryz.prog 24) (some (true,2)):=⟨by kernel_rfl⟩
instance:aJ (fm Tryz.prog 255) (some (false,1)):=⟨by kernel_rfl⟩
instance:aJ (fm Tryz.prog 26) (some (true,4)):=⟨by kernel_rfl⟩
instance:aJ (fm Tryz.prog 3) (some (false,1)):=⟨by kernel_rfl⟩
instance:aJ (fm Tryz.prog 32) (some (false,1)):=⟨by kernel_rfl⟩
instance:aJ (fm Tryz.prog 33) (some (false,1)):=⟨by kernel_rfl⟩
instance:aJ (fm Tryz.prog 4) (some (false,1)):=⟨by kernel_rfl⟩
instance:aJ (fm Tryz.prog 5) (some (false,1)):=⟨by kernel_rfl⟩
instance:aJ (fm Tryz.prog 60) (some (true,6)):=⟨by kernel_rfl⟩
instance:aJ (fm Tryz.prog 74) (some (true,3)):=⟨by kernel_rfl⟩
instance:aJ (fm Tryz.prog 92) (some (true,2)):=⟨by kernel_rfl⟩
theorem C5: Tryz.prog.underlying 175=some (.int .u64):=by kernel_rfl
theorem tg: Tryz.prog.underlying 209=some (.int .u32):=by kernel_rfl
theorem AI: Tryz.prog.underlying 3=some (.int .i64):=by kernel_rfl
theorem un5: Tryz.prog.underlying 5=some (.int .u8):=by kernel_rfl
instance:aJ (cO Tryz.prog 137) (some (.agg [.int .i64 0,.int .i64 0,.int .i64 0,.int .i64 0,.int .i64 0])):=⟨by kernel_rfl⟩
instance:aJ (cO Tryz.prog 144) (some (.agg [.nilFunc,.nilFunc])):=⟨by kernel_rfl⟩
instance:aJ (cO Tryz.prog 177) (some (.nilMap)):=⟨by kernel_rfl⟩
instance:aJ (cO Tryz.prog 204) (some (.agg [.int .i64 0,.int .i64 0,.int .i64 0])):=⟨by kernel_rfl⟩
instance:aJ (cO Tryz.prog 209) (some (.int .u32 0)):=⟨by kernel_rfl⟩
instance:aJ (cO Tryz.prog 213) (some (.nilMap)):=⟨by kernel_rfl⟩
instance:aJ (cO Tryz.prog 231) (some (.agg [.int .i64 0,.int .i64 0,.int .i64 0,.int .i64 0,.int .i64 0,.int .i64 0,.int .i64 0,.int .i64 0])):=⟨by kernel_rfl⟩
instance:aJ (cO Tryz.prog 234) (some (.agg [.int .i64 0,.int .i64 0,.int .i64 0])):=⟨by kernel_rfl⟩
instance:aJ (cO Tryz.prog 24) (some (.agg [.int .i64 0,.int .i64 0])):=⟨by kernel_rfl⟩
instance:aJ (cO Tryz.prog 255) (some (.nilFunc)):=⟨by kernel_rfl⟩
instance:aJ (cO Tryz.prog 266) (some (.agg [.bool false,.bool false,.bool false,.bool false,.bool false,.bool false,.bool false,.bool false,.bool false,.bool false,.bool false,.bool false,.bool false,.bool false,.bool false,.bool false,.bool false,.bool false,.bool false,.bool false,.bool false,.bool false,.bool false,.bool false])):=⟨by kernel_rfl⟩
instance:aJ (cO Tryz.prog 3) (some (.int .i64 0)):=⟨by kernel_rfl⟩
instance:aJ (cO Tryz.prog 4) (some (.bool false)):=⟨by kernel_rfl⟩
instance:aJ (cO Tryz.prog 74) (some (.agg [.int .i64 0,.int .i64 0,.int .i64 0])):=⟨by kernel_rfl⟩
instance:aJ (cO Tryz.prog 92) (some (.agg [.int .i64 0,.int .i64 0])):=⟨by kernel_rfl⟩
theorem mixed: Tryz.prog.follows .mixedOrders=true:=by kernel_rfl
instance:aJ (wG Tryz.prog 9) (some 16):=⟨by kernel_rfl⟩
instance:aJ (dY Tryz.prog 27) (true):=⟨by kernel_rfl⟩
instance:aJ (oz Tryz.prog 27) (some (9,[.str ⟨#[]⟩])):=⟨by kernel_rfl⟩
instance:aJ (DB Tryz.prog 9) (true):=⟨by kernel_rfl⟩
theorem Qh: Tryz.prog.underlying 9=some .string:=by kernel_rfl
theorem xy:ou Tryz.prog 27=some 1:=by kernel_rfl
instance:aJ (fm Tryz.prog 35) (some (false,1)):=⟨by kernel_rfl⟩
instance:aJ (fm Tryz.prog 9) (some (false,1)):=⟨by kernel_rfl⟩
instance:aJ (dB Tryz.prog 37 0) (some 0):=⟨by kernel_rfl⟩
instance:aJ (dB Tryz.prog 37 1) (some 1):=⟨by kernel_rfl⟩
instance:aJ (dB Tryz.prog 37 2) (some 2):=⟨by kernel_rfl⟩
instance:aJ (dB Tryz.prog 37 3) (some 3):=⟨by kernel_rfl⟩
instance:aJ (dB Tryz.prog 37 4) (some 4):=⟨by kernel_rfl⟩
instance:aJ (dB Tryz.prog 37 5) (some 5):=⟨by kernel_rfl⟩
instance:aJ (fm Tryz.prog 34) (some (false,1)):=⟨by kernel_rfl⟩
theorem Xe:zA Tryz.prog 284=some 64:=by kernel_rfl
instance:aJ (lT Tryz.prog 204) (some ([.int .i64 0,.int .i64 0,.int .i64 0],[(0,1),(1,2)])):=⟨by kernel_rfl⟩
instance:aJ (lT Tryz.prog 94) (some ([.int .i64 0],[(0,1)])):=⟨by kernel_rfl⟩
theorem Ro:rG Tryz.prog 94=true:=by kernel_rfl
theorem Vp:ou Tryz.prog 284=some 1:=by kernel_rfl
instance:aJ (ak Tryz.prog 147) (true):=⟨by kernel_rfl⟩
instance:aJ (ak Tryz.prog 189) (true):=⟨by kernel_rfl⟩
instance:aJ (ak Tryz.prog 40) (true):=⟨by kernel_rfl⟩
theorem VG: Tryz.prog.underlying 224=some (.int .u64):=by kernel_rfl
instance:aJ (Px Tryz.prog 68) (true):=⟨by kernel_rfl⟩
theorem j3:rG Tryz.prog 3=true:=by kernel_rfl
theorem Gx:rG Tryz.prog 35=true:=by kernel_rfl
theorem lI:rG Tryz.prog 9=true:=by kernel_rfl
theorem XB:ou Tryz.prog 197=some 1:=by kernel_rfl
theorem aa6:ou Tryz.prog 68=some 1:=by kernel_rfl
instance:aJ (ak Tryz.prog 134) (true):=⟨by kernel_rfl⟩
instance:aJ (ak Tryz.prog 14) (true):=⟨by kernel_rfl⟩
instance:aJ (ak Tryz.prog 84) (true):=⟨by kernel_rfl⟩
instance:aJ (dY Tryz.prog 197) (true):=⟨by kernel_rfl⟩
instance:aJ (dY Tryz.prog 68) (true):=⟨by kernel_rfl⟩
instance:aJ (fm Tryz.prog 20) (some (false,1)):=⟨by kernel_rfl⟩
instance:aJ (cO Tryz.prog 35) (some (.nilSlice)):=⟨by kernel_rfl⟩
instance:aJ (cO Tryz.prog 9) (some (.str ⟨#[]⟩)):=⟨by kernel_rfl⟩
instance:aJ (ak Tryz.prog 108) (true):=⟨by kernel_rfl⟩
instance:aJ (ak Tryz.prog 109) (true):=⟨by kernel_rfl⟩
instance:aJ (ak Tryz.prog 110) (true):=⟨by kernel_rfl⟩
instance:aJ (fm Tryz.prog 27) (some (false,1)):=⟨by kernel_rfl⟩
instance:aJ (wG Tryz.prog 60) (some 48):=⟨by kernel_rfl⟩
instance:aJ (wG Tryz.prog 74) (some 24):=⟨by kernel_rfl⟩
instance:aJ (wG Tryz.prog 92) (some 16):=⟨by kernel_rfl⟩
instance:aJ (dB Tryz.prog 83 0) (some 0):=⟨by kernel_rfl⟩
instance:aJ (dB Tryz.prog 83 1) (some 6):=⟨by kernel_rfl⟩
instance:aJ (ak Tryz.prog 72) (true):=⟨by kernel_rfl⟩
instance:aJ (ak Tryz.prog 81) (true):=⟨by kernel_rfl⟩
instance:aJ (ak Tryz.prog 82) (true):=⟨by kernel_rfl⟩
instance:aJ (oz Tryz.prog 32) (some (60,[.int .i64 0,.int .i64 0,.int .i64 0,.int .i64 0,.int .i64 0,.int .i64 0])):=⟨by kernel_rfl⟩
instance:aJ (oz Tryz.prog 33) (some (92,[.int .i64 0,.int .i64 0])):=⟨by kernel_rfl⟩
instance:aJ (oz Tryz.prog 34) (some (74,[.int .i64 0,.int .i64 0,.int .i64 0])):=⟨by kernel_rfl⟩
instance:aJ (fm Tryz.prog 83) (some (true,7)):=⟨by kernel_rfl⟩
instance:aJ (cO Tryz.prog 83) (some (.agg [.nilSlice,.nilSlice,.nilSlice,.nilSlice,.int .i64 0,.int .i64 0,.nilSlice])):=⟨by kernel_rfl⟩
instance:aJ (lT Tryz.prog 92) (some ([.int .i64 0,.int .i64 0],[(0,1),(1,1)])):=⟨by kernel_rfl⟩
instance:aJ (dB Tryz.prog 87 0) (some 0):=⟨by kernel_rfl⟩
instance:aJ (ak Tryz.prog 139) (true):=⟨by kernel_rfl⟩
instance:aJ (ak Tryz.prog 100) (true):=⟨by kernel_rfl⟩
instance:aJ (ak Tryz.prog 143) (true):=⟨by kernel_rfl⟩
instance:aJ (ak Tryz.prog 78) (true):=⟨by kernel_rfl⟩
instance:aJ (ak Tryz.prog 87) (true):=⟨by kernel_rfl⟩
instance:aJ (ak Tryz.prog 95) (true):=⟨by kernel_rfl⟩
instance:aJ (ak Tryz.prog 96) (true):=⟨by kernel_rfl⟩
instance:aJ (oz Tryz.prog 197) (some (20,[.nilIface])):=⟨by kernel_rfl⟩
instance:aJ (lT Tryz.prog 60) (some ([.int .i64 0,.int .i64 0,.int .i64 0,.int .i64 0,.int .i64 0,.int .i64 0],[(0,2),(2,2),(4,2)])):=⟨by kernel_rfl⟩
instance:aJ (ak Tryz.prog 140) (true):=⟨by kernel_rfl⟩
instance:aJ (ak Tryz.prog 141) (true):=⟨by kernel_rfl⟩
instance:aJ (ak Tryz.prog 98) (true):=⟨by kernel_rfl⟩
instance:aJ (oz Tryz.prog 205) (some (204,[.int .i64 0,.int .i64 0,.int .i64 0])):=⟨by kernel_rfl⟩
instance:aJ (cO Tryz.prog 60) (some (.agg [.int .i64 0,.int .i64 0,.int .i64 0,.int .i64 0,.int .i64 0,.int .i64 0])):=⟨by kernel_rfl⟩
instance:aJ (ak Tryz.prog 144) (true):=⟨by kernel_rfl⟩
instance:aJ (ak Tryz.prog 183) (true):=⟨by kernel_rfl⟩
instance:aJ (ak Tryz.prog 91) (true):=⟨by kernel_rfl⟩
instance:aJ (lT Tryz.prog 74) (some ([.int .i64 0,.int .i64 0,.int .i64 0],[(0,1),(1,2)])):=⟨by kernel_rfl⟩
instance:aJ (dB Tryz.prog 87 1) (some 7):=⟨by kernel_rfl⟩
instance:aJ (ak Tryz.prog 142) (true):=⟨by kernel_rfl⟩
instance:aJ (ak Tryz.prog 29) (true):=⟨by kernel_rfl⟩
instance:aJ (ak Tryz.prog 102) (true):=⟨by kernel_rfl⟩
instance:aJ (ak Tryz.prog 31) (true):=⟨by kernel_rfl⟩
instance:aJ (wG Tryz.prog 83) (some 136):=⟨by kernel_rfl⟩
theorem WW:ou Tryz.prog 85=some 7:=by kernel_rfl
instance:aJ (dY Tryz.prog 85) (true):=⟨by kernel_rfl⟩
instance:aJ (oz Tryz.prog 85) (some (83,[.nilSlice,.nilSlice,.nilSlice,.nilSlice,.int .i64 0,.int .i64 0,.nilSlice])):=⟨by kernel_rfl⟩
instance:aJ (fm Tryz.prog 85) (some (false,1)):=⟨by kernel_rfl⟩
instance:aJ (dB Tryz.prog 87 2) (some 11):=⟨by kernel_rfl⟩
instance:aJ (ak Tryz.prog 104) (true):=⟨by kernel_rfl⟩
instance:aJ (ak Tryz.prog 106) (true):=⟨by kernel_rfl⟩
instance:aJ (ak Tryz.prog 35) (true):=⟨by kernel_rfl⟩
instance:aJ (lT Tryz.prog 99) (some ([.int .i64 0,.nilFunc],[(0,1),(1,1)])):=⟨by kernel_rfl⟩
theorem iB:oy Tryz.prog 101=some (.string,.agg [.int .i64 0,.nilFunc]):=by kernel_rfl
instance:aJ (dB Tryz.prog 94 0) (some 0):=⟨by kernel_rfl⟩
theorem Rs:KL Tryz.prog 20=true:=by kernel_rfl
instance:aJ (fm Tryz.prog 30) (some (false,1)):=⟨by kernel_rfl⟩
instance:aJ (fm Tryz.prog 41) (some (false,1)):=⟨by kernel_rfl⟩
instance:aJ (fm Tryz.prog 94) (some (true,1)):=⟨by kernel_rfl⟩
instance:aJ (cO Tryz.prog 94) (some (.agg [.int .i64 0])):=⟨by kernel_rfl⟩
instance:aJ (dB Tryz.prog 87 3) (some 12):=⟨by kernel_rfl⟩
instance:aJ (dB Tryz.prog 99 0) (some 0):=⟨by kernel_rfl⟩
instance:aJ (dB Tryz.prog 99 1) (some 1):=⟨by kernel_rfl⟩
instance:aJ (Ae Tryz.prog 30) (some (87,13)):=⟨by kernel_rfl⟩
instance:aJ (ak Tryz.prog 37) (true):=⟨by kernel_rfl⟩
instance:aJ (ak Tryz.prog 38) (true):=⟨by kernel_rfl⟩
instance:aJ (ak Tryz.prog 39) (true):=⟨by kernel_rfl⟩
instance:aJ (ak Tryz.prog 41) (true):=⟨by kernel_rfl⟩
instance:aJ (ak Tryz.prog 42) (true):=⟨by kernel_rfl⟩
instance:aJ (fm Tryz.prog 97) (some (false,1)):=⟨by kernel_rfl⟩
instance:aJ (fm Tryz.prog 99) (some (true,2)):=⟨by kernel_rfl⟩
instance:aJ (cO Tryz.prog 41) (some (.int .i64 0)):=⟨by kernel_rfl⟩
instance:aJ (cO Tryz.prog 99) (some (.agg [.int .i64 0,.nilFunc])):=⟨by kernel_rfl⟩
instance:aJ (lT Tryz.prog 87) (some ([.nilSlice,.nilSlice,.nilSlice,.nilSlice,.int .i64 0,.int .i64 0,.nilSlice,.nilSlice,.int .i64 0,.int .i64 0,.int .i64 0,.nilSlice,.bool false],[(0,7),(7,4),(11,1),(12,1)])):=⟨by kernel_rfl⟩
instance:aJ (wG Tryz.prog 122) (some 24):=⟨by kernel_rfl⟩
instance:aJ (ak Tryz.prog 58) (true):=⟨by kernel_rfl⟩
instance:aJ (oz Tryz.prog 22) (some (122,[.int .i64 0,.int .i64 0,.int .i64 0])):=⟨by kernel_rfl⟩
instance:aJ (wG Tryz.prog 5) (some 1):=⟨by kernel_rfl⟩
instance:aJ (dB Tryz.prog 148 0) (some 0):=⟨by kernel_rfl⟩
instance:aJ (dB Tryz.prog 148 1) (some 1):=⟨by kernel_rfl⟩
instance:aJ (Ae Tryz.prog 146) (some (148,2)):=⟨by kernel_rfl⟩
instance:aJ (ak Tryz.prog 135) (true):=⟨by kernel_rfl⟩
instance:aJ (oz Tryz.prog 68) (some (5,[.int .u8 0])):=⟨by kernel_rfl⟩
instance:aJ (fm Tryz.prog 146) (some (false,1)):=⟨by kernel_rfl⟩
instance:aJ (fm Tryz.prog 68) (some (false,1)):=⟨by kernel_rfl⟩
instance:aJ (ubI Tryz.prog 199 5) (true):=⟨by kernel_rfl⟩
instance:aJ (Ly Tryz.prog 256) (true):=⟨by kernel_rfl⟩
instance:aJ (ak Tryz.prog 132) (true):=⟨by kernel_rfl⟩
instance:aJ (ak Tryz.prog 13) (true):=⟨by kernel_rfl⟩
instance:aJ (ak Tryz.prog 131) (true):=⟨by kernel_rfl⟩
instance:aJ (ak Tryz.prog 20) (true):=⟨by kernel_rfl⟩
instance:aJ (ak Tryz.prog 75) (true):=⟨by kernel_rfl⟩
instance:aJ (ak Tryz.prog 76) (true):=⟨by kernel_rfl⟩
instance:aJ (ak Tryz.prog 77) (true):=⟨by kernel_rfl⟩
instance:aJ (ak Tryz.prog 79) (true):=⟨by kernel_rfl⟩
instance:aJ (ak Tryz.prog 80) (true):=⟨by kernel_rfl⟩
instance:aJ (cO Tryz.prog 148) (some (.agg [.nilPtr,.nilSlice])):=⟨by kernel_rfl⟩
instance:aJ (cO Tryz.prog 30) (some (.nilPtr)):=⟨by kernel_rfl⟩
instance:aJ (lT Tryz.prog 122) (some ([.int .i64 0,.int .i64 0,.int .i64 0],[(0,1),(1,2)])):=⟨by kernel_rfl⟩
instance:aJ (lT Tryz.prog 26) (some ([.nilSlice,.int .i64 0,.int .i64 0,.int .i64 0],[(0,1),(1,2),(3,1)])):=⟨by kernel_rfl⟩
instance:aJ (ak Tryz.prog 33) (true):=⟨by kernel_rfl⟩
instance:aJ (cO Tryz.prog 26) (some (.agg [.nilSlice,.int .i64 0,.int .i64 0,.int .i64 0])):=⟨by kernel_rfl⟩
instance:aJ (lT Tryz.prog 117) (some ([.int .i64 0,.int .i64 0,.int .i64 0,.int .i64 0,.int .i64 0,.int .i64 0,.int .i64 0,.int .i64 0,.int .i64 0,.int .i64 0,.int .i64 0,.int .i64 0,.int .i64 0,.int .i64 0,.int .i64 0],[(0,6),(6,6),(12,1),(13,2)])):=⟨by kernel_rfl⟩
instance:aJ (lT Tryz.prog 231) (some ([.int .i64 0,.int .i64 0,.int .i64 0,.int .i64 0,.int .i64 0,.int .i64 0,.int .i64 0,.int .i64 0],[(0,6),(6,2)])):=⟨by kernel_rfl⟩
instance:aJ (dB Tryz.prog 117 0) (some 0):=⟨by kernel_rfl⟩
instance:aJ (dB Tryz.prog 117 1) (some 6):=⟨by kernel_rfl⟩
instance:aJ (dB Tryz.prog 117 2) (some 12):=⟨by kernel_rfl⟩
instance:aJ (dB Tryz.prog 117 3) (some 13):=⟨by kernel_rfl⟩
instance:aJ (ak Tryz.prog 115) (true):=⟨by kernel_rfl⟩
instance:aJ (ak Tryz.prog 49) (true):=⟨by kernel_rfl⟩
instance:aJ (ak Tryz.prog 54) (true):=⟨by kernel_rfl⟩
instance:aJ (ak Tryz.prog 55) (true):=⟨by kernel_rfl⟩
instance:aJ (ak Tryz.prog 56) (true):=⟨by kernel_rfl⟩
instance:aJ (ak Tryz.prog 57) (true):=⟨by kernel_rfl⟩
instance:aJ (fm Tryz.prog 117) (some (true,15)):=⟨by kernel_rfl⟩
instance:aJ (cO Tryz.prog 117) (some (.agg [.int .i64 0,.int .i64 0,.int .i64 0,.int .i64 0,.int .i64 0,.int .i64 0,.int .i64 0,.int .i64 0,.int .i64 0,.int .i64 0,.int .i64 0,.int .i64 0,.int .i64 0,.int .i64 0,.int .i64 0])):=⟨by kernel_rfl⟩
theorem R5:KL Tryz.prog 64=true:=by kernel_rfl
instance:aJ (ak Tryz.prog 24) (true):=⟨by kernel_rfl⟩
theorem un4: Tryz.prog.underlying 4=some .bool:=by kernel_rfl
theorem aah: Tryz.prog.eqGuardType Tryz.prog.depth 24=false:=by kernel_rfl
theorem aae:eqTy Tryz.prog 8 24=some [.int .i64,.int .i64]:=by kernel_rfl
instance:aJ (ak Tryz.prog 17) (true):=⟨by kernel_rfl⟩
instance:aJ (ak Tryz.prog 18) (true):=⟨by kernel_rfl⟩
instance:aJ (ak Tryz.prog 19) (true):=⟨by kernel_rfl⟩
instance:aJ (ak Tryz.prog 21) (true):=⟨by kernel_rfl⟩
instance:aJ (ak Tryz.prog 22) (true):=⟨by kernel_rfl⟩
instance:aJ (ak Tryz.prog 23) (true):=⟨by kernel_rfl⟩
theorem aai: Tryz.prog.underlying 52=some (.int .u32):=by kernel_rfl
end Go.Proofs.YtibffijhebobmaaGreatDoor
end
