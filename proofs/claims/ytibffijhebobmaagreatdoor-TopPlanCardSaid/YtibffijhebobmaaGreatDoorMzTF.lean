/-
 Chapter 15: facts on types and functions, by the kernel.
 Chapter 15: more facts on types and functions, by the kernel.
 Chapter 15: more facts on types and functions, by the kernel.
 Chapter 15: more facts on types and functions, by the kernel.
 Chapter 15: more facts on types and functions, by the kernel.
 Chapter 15: more facts on types and functions, by the kernel.
 Chapter 15: more facts on types and functions, by the kernel.
 Chapter 15: more facts on types and functions, by the kernel.
 Chapter 15: more facts on types and functions, by the kernel.
 Chapter 15: more facts on types and functions, by the kernel.
 Chapter 15: more facts on types and functions, by the kernel.
 Chapter 15: more facts on types and functions, by the kernel.
 Chapter 15: more facts on types and functions, by the kernel.
 Chapter 15: more facts on types and functions, by the kernel.
 Chapter 15: more facts on types and functions, by the kernel.
 Chapter 15: more facts on types and functions, by the kernel.
 Chapter 15: more facts on types and functions, by the kernel.
 Chapter 15: more facts on types and functions, by the kernel.
 Chapter 15: more facts on types and functions, by the kernel.
 Chapter 15: more facts on types and functions, by the kernel.
 Chapter 15: more facts on types and functions, by the kernel.
 Chapter 15: more facts on types and functions, by the kernel.
 Chapter 15: more facts on types and functions, by the kernel.
 Chapter 15: more facts on types and functions, by the kernel.
 Chapter 15: more facts on types and functions, by the kernel.
 Chapter 15: more facts on types and functions, by the kernel.
 Chapter 15: more facts on types and functions, by the kernel.
 Chapter 15: more facts on types and functions, by the kernel.
 Chapter 15: more facts on types and functions, by the kernel.
 Chapter 15: more facts on types and functions, by the kernel.
 Chapter 15: more facts on types and functions, by the kernel.
 Chapter 15: more facts on types and functions, by the kernel.
 Chapter 15: more facts on types and functions, by the kernel.
 Chapter 15: more facts on types and functions, by the kernel.
 Chapter 15: more facts on types and functions, by the kernel.
 Chapter 15: more facts on types and functions, by the kernel.
 Chapter 15: more facts on types and functions, by the kernel.
 Chapter 15: more facts on types and functions, by the kernel.
 Chapter 15: more facts on types and functions, by the kernel.
-/
import Derived.Test.YtibffijhebobmaaGreatDoorProg
import Derived.Test.YtibffijhebobmaaGreatDoorFaTF
import Derived.KernelRfl
import Derived.Test.YtibffijhebobmaaGreatDoorFaTC
section
set_option maxRecDepth 100000
namespace Go.Proofs.YtibffijhebobmaaGreatDoor
open Go.AF
theorem HF:xN Tryz.prog 144=some 2:=by kernel_rfl
theorem RQ:xN Tryz.prog 266=some 24:=by kernel_rfl
theorem Xj:xN Tryz.prog 283=some 32:=by kernel_rfl
theorem Nl:Po Tryz.prog 294=some (2,false,1):=by kernel_rfl
instance:aL (lY Tryz.prog 137) (some ([.int .i64 0,.int .i64 0,.int .i64 0,.int .i64 0,.int .i64 0],[(0,3),(3,2)])):=⟨by kernel_rfl⟩
instance:aL (lY Tryz.prog 144) (some ([.nilFunc,.nilFunc],[(0,1),(1,1)])):=⟨by kernel_rfl⟩
instance:aL (lY Tryz.prog 234) (some ([.int .i64 0,.int .i64 0,.int .i64 0],[(0,1),(1,1),(2,1)])):=⟨by kernel_rfl⟩
instance:aL (lY Tryz.prog 24) (some ([.int .i64 0,.int .i64 0],[(0,1),(1,1)])):=⟨by kernel_rfl⟩
instance:aL (lY Tryz.prog 294) (some ([.int .i64 0,.int .i64 0],[(0,1),(1,1)])):=⟨by kernel_rfl⟩
instance:aL (xh Tryz.prog 3) (some 8):=⟨by kernel_rfl⟩
theorem Nx:rW Tryz.prog 213=true:=by kernel_rfl
theorem Fh:rW Tryz.prog 220=true:=by kernel_rfl
theorem HY:nk Tryz.prog 144=some 1:=by kernel_rfl
theorem R2:nk Tryz.prog 205=some 3:=by kernel_rfl
theorem Rj:nk Tryz.prog 22=some 3:=by kernel_rfl
theorem YT:nk Tryz.prog 220=some 2:=by kernel_rfl
theorem Xq:nk Tryz.prog 265=some 1:=by kernel_rfl
theorem RO:nk Tryz.prog 266=some 1:=by kernel_rfl
theorem YX:nk Tryz.prog 283=some 1:=by kernel_rfl
theorem XL:nk Tryz.prog 32=some 6:=by kernel_rfl
theorem Rd:nk Tryz.prog 33=some 2:=by kernel_rfl
theorem oQ:nk Tryz.prog 34=some 3:=by kernel_rfl
theorem dH:nk Tryz.prog 35=some 1:=by kernel_rfl
instance:aL (dN Tryz.prog 122 0) (some 0):=⟨by kernel_rfl⟩
instance:aL (dN Tryz.prog 122 1) (some 1):=⟨by kernel_rfl⟩
instance:aL (dN Tryz.prog 137 0) (some 0):=⟨by kernel_rfl⟩
instance:aL (dN Tryz.prog 137 1) (some 3):=⟨by kernel_rfl⟩
instance:aL (dN Tryz.prog 204 0) (some 0):=⟨by kernel_rfl⟩
instance:aL (dN Tryz.prog 204 1) (some 1):=⟨by kernel_rfl⟩
instance:aL (dN Tryz.prog 231 0) (some 0):=⟨by kernel_rfl⟩
instance:aL (dN Tryz.prog 231 1) (some 6):=⟨by kernel_rfl⟩
instance:aL (dN Tryz.prog 234 0) (some 0):=⟨by kernel_rfl⟩
instance:aL (dN Tryz.prog 234 1) (some 1):=⟨by kernel_rfl⟩
instance:aL (dN Tryz.prog 234 2) (some 2):=⟨by kernel_rfl⟩
instance:aL (dN Tryz.prog 24 0) (some 0):=⟨by kernel_rfl⟩
instance:aL (dN Tryz.prog 24 1) (some 1):=⟨by kernel_rfl⟩
instance:aL (dN Tryz.prog 26 0) (some 0):=⟨by kernel_rfl⟩
instance:aL (dN Tryz.prog 26 1) (some 1):=⟨by kernel_rfl⟩
instance:aL (dN Tryz.prog 26 2) (some 3):=⟨by kernel_rfl⟩
instance:aL (dN Tryz.prog 60 0) (some 0):=⟨by kernel_rfl⟩
instance:aL (dN Tryz.prog 60 1) (some 2):=⟨by kernel_rfl⟩
instance:aL (dN Tryz.prog 60 2) (some 4):=⟨by kernel_rfl⟩
instance:aL (dN Tryz.prog 74 0) (some 0):=⟨by kernel_rfl⟩
instance:aL (dN Tryz.prog 74 1) (some 1):=⟨by kernel_rfl⟩
instance:aL (dN Tryz.prog 92 0) (some 0):=⟨by kernel_rfl⟩
instance:aL (dN Tryz.prog 92 1) (some 1):=⟨by kernel_rfl⟩
theorem TB:Mg Tryz.prog 24 0=some (false,1,0):=by kernel_rfl
theorem UW:Mg Tryz.prog 24 1=some (false,1,1):=by kernel_rfl
theorem Od:oX Tryz.prog 177=some (.int .i64,.agg [.int .i64 0,.int .i64 0,.int .i64 0,.int .i64 0,.int .i64 0,.int .i64 0,.int .i64 0,.int .i64 0]):=by kernel_rfl
theorem K0:oX Tryz.prog 213=some (.int .i64,.int .u32 0):=by kernel_rfl
instance:aL (ak Tryz.prog 113) (true):=⟨by kernel_rfl⟩
instance:aL (ak Tryz.prog 114) (true):=⟨by kernel_rfl⟩
instance:aL (ak Tryz.prog 116) (true):=⟨by kernel_rfl⟩
instance:aL (ak Tryz.prog 123) (true):=⟨by kernel_rfl⟩
instance:aL (ak Tryz.prog 124) (true):=⟨by kernel_rfl⟩
instance:aL (ak Tryz.prog 125) (true):=⟨by kernel_rfl⟩
instance:aL (ak Tryz.prog 126) (true):=⟨by kernel_rfl⟩
instance:aL (ak Tryz.prog 127) (true):=⟨by kernel_rfl⟩
instance:aL (ak Tryz.prog 128) (true):=⟨by kernel_rfl⟩
instance:aL (ak Tryz.prog 129) (true):=⟨by kernel_rfl⟩
instance:aL (ak Tryz.prog 145) (true):=⟨by kernel_rfl⟩
instance:aL (ak Tryz.prog 146) (true):=⟨by kernel_rfl⟩
instance:aL (ak Tryz.prog 148) (true):=⟨by kernel_rfl⟩
instance:aL (ak Tryz.prog 149) (true):=⟨by kernel_rfl⟩
instance:aL (ak Tryz.prog 150) (true):=⟨by kernel_rfl⟩
instance:aL (ak Tryz.prog 151) (true):=⟨by kernel_rfl⟩
instance:aL (ak Tryz.prog 152) (true):=⟨by kernel_rfl⟩
instance:aL (ak Tryz.prog 153) (true):=⟨by kernel_rfl⟩
instance:aL (ak Tryz.prog 162) (true):=⟨by kernel_rfl⟩
instance:aL (ak Tryz.prog 163) (true):=⟨by kernel_rfl⟩
instance:aL (ak Tryz.prog 164) (true):=⟨by kernel_rfl⟩
instance:aL (ak Tryz.prog 165) (true):=⟨by kernel_rfl⟩
instance:aL (ak Tryz.prog 171) (true):=⟨by kernel_rfl⟩
instance:aL (ak Tryz.prog 172) (true):=⟨by kernel_rfl⟩
instance:aL (ak Tryz.prog 178) (true):=⟨by kernel_rfl⟩
instance:aL (ak Tryz.prog 179) (true):=⟨by kernel_rfl⟩
instance:aL (ak Tryz.prog 180) (true):=⟨by kernel_rfl⟩
instance:aL (ak Tryz.prog 181) (true):=⟨by kernel_rfl⟩
instance:aL (ak Tryz.prog 184) (true):=⟨by kernel_rfl⟩
instance:aL (ak Tryz.prog 185) (true):=⟨by kernel_rfl⟩
instance:aL (ak Tryz.prog 186) (true):=⟨by kernel_rfl⟩
instance:aL (ak Tryz.prog 187) (true):=⟨by kernel_rfl⟩
instance:aL (ak Tryz.prog 188) (true):=⟨by kernel_rfl⟩
instance:aL (ak Tryz.prog 190) (true):=⟨by kernel_rfl⟩
instance:aL (ak Tryz.prog 191) (true):=⟨by kernel_rfl⟩
instance:aL (ak Tryz.prog 198) (true):=⟨by kernel_rfl⟩
instance:aL (ak Tryz.prog 199) (true):=⟨by kernel_rfl⟩
instance:aL (ak Tryz.prog 200) (true):=⟨by kernel_rfl⟩
instance:aL (ak Tryz.prog 205) (true):=⟨by kernel_rfl⟩
instance:aL (ak Tryz.prog 206) (true):=⟨by kernel_rfl⟩
instance:aL (ak Tryz.prog 207) (true):=⟨by kernel_rfl⟩
instance:aL (ak Tryz.prog 208) (true):=⟨by kernel_rfl⟩
instance:aL (ak Tryz.prog 209) (true):=⟨by kernel_rfl⟩
instance:aL (ak Tryz.prog 210) (true):=⟨by kernel_rfl⟩
instance:aL (ak Tryz.prog 212) (true):=⟨by kernel_rfl⟩
instance:aL (ak Tryz.prog 213) (true):=⟨by kernel_rfl⟩
instance:aL (ak Tryz.prog 233) (true):=⟨by kernel_rfl⟩
instance:aL (ak Tryz.prog 234) (true):=⟨by kernel_rfl⟩
instance:aL (ak Tryz.prog 50) (true):=⟨by kernel_rfl⟩
instance:aL (ak Tryz.prog 51) (true):=⟨by kernel_rfl⟩
instance:aL (ak Tryz.prog 52) (true):=⟨by kernel_rfl⟩
instance:aL (ak Tryz.prog 53) (true):=⟨by kernel_rfl⟩
instance:aL (ak Tryz.prog 63) (true):=⟨by kernel_rfl⟩
instance:aL (ak Tryz.prog 64) (true):=⟨by kernel_rfl⟩
instance:aL (ak Tryz.prog 65) (true):=⟨by kernel_rfl⟩
instance:aL (ak Tryz.prog 66) (true):=⟨by kernel_rfl⟩
instance:aL (ak Tryz.prog 68) (true):=⟨by kernel_rfl⟩
instance:aL (ak Tryz.prog 69) (true):=⟨by kernel_rfl⟩
instance:aL (ak Tryz.prog 73) (true):=⟨by kernel_rfl⟩
instance:aL (ak Tryz.prog 74) (true):=⟨by kernel_rfl⟩
instance:aL (ak Tryz.prog 94) (true):=⟨by kernel_rfl⟩
instance:aL (eE Tryz.prog 205) (true):=⟨by kernel_rfl⟩
instance:aL (eE Tryz.prog 22) (true):=⟨by kernel_rfl⟩
instance:aL (eE Tryz.prog 220) (true):=⟨by kernel_rfl⟩
instance:aL (eE Tryz.prog 265) (true):=⟨by kernel_rfl⟩
instance:aL (eE Tryz.prog 32) (true):=⟨by kernel_rfl⟩
instance:aL (eE Tryz.prog 33) (true):=⟨by kernel_rfl⟩
instance:aL (eE Tryz.prog 34) (true):=⟨by kernel_rfl⟩
instance:aL (eE Tryz.prog 35) (true):=⟨by kernel_rfl⟩
instance:aL (nh Tryz.prog 265) (some (209,[.int .u32 0])):=⟨by kernel_rfl⟩
instance:aL (nh Tryz.prog 35) (some (3,[.int .i64 0])):=⟨by kernel_rfl⟩
instance:aL (fc Tryz.prog 119) (some (false,1)):=⟨by kernel_rfl⟩
instance:aL (fc Tryz.prog 122) (some (true,3)):=⟨by kernel_rfl⟩
instance:aL (fc Tryz.prog 137) (some (true,5)):=⟨by kernel_rfl⟩
instance:aL (fc Tryz.prog 144) (some (true,2)):=⟨by kernel_rfl⟩
instance:aL (fc Tryz.prog 177) (some (false,1)):=⟨by kernel_rfl⟩
instance:aL (fc Tryz.prog 204) (some (true,3)):=⟨by kernel_rfl⟩
instance:aL (fc Tryz.prog 209) (some (false,1)):=⟨by kernel_rfl⟩
instance:aL (fc Tryz.prog 213) (some (false,1)):=⟨by kernel_rfl⟩
instance:aL (fc Tryz.prog 219) (some (false,1)):=⟨by kernel_rfl⟩
instance:aL (fc Tryz.prog 22) (some (false,1)):=⟨by kernel_rfl⟩
instance:aL (fc Tryz.prog 231) (some (true,8)):=⟨by kernel_rfl⟩
instance:aL (fc Tryz.prog 234) (some (true,3)):=⟨by kernel_rfl⟩
instance:aL (fc Tryz.prog 235) (some (false,1)):=⟨by kernel_rfl⟩
instance:aL (fc Tryz.prog 24) (some (true,2)):=⟨by kernel_rfl⟩
instance:aL (fc Tryz.prog 255) (some (false,1)):=⟨by kernel_rfl⟩
instance:aL (fc Tryz.prog 26) (some (true,4)):=⟨by kernel_rfl⟩
instance:aL (fc Tryz.prog 3) (some (false,1)):=⟨by kernel_rfl⟩
instance:aL (fc Tryz.prog 32) (some (false,1)):=⟨by kernel_rfl⟩
instance:aL (fc Tryz.prog 33) (some (false,1)):=⟨by kernel_rfl⟩
instance:aL (fc Tryz.prog 4) (some (false,1)):=⟨by kernel_rfl⟩
instance:aL (fc Tryz.prog 5) (some (false,1)):=⟨by kernel_rfl⟩
instance:aL (fc Tryz.prog 60) (some (true,6)):=⟨by kernel_rfl⟩
instance:aL (fc Tryz.prog 74) (some (true,3)):=⟨by kernel_rfl⟩
instance:aL (fc Tryz.prog 92) (some (true,2)):=⟨by kernel_rfl⟩
theorem BB: Tryz.prog.underlying 175=some (.int .u64):=by kernel_rfl
theorem tT: Tryz.prog.underlying 209=some (.int .u32):=by kernel_rfl
theorem CR: Tryz.prog.underlying 3=some (.int .i64):=by kernel_rfl
theorem un5: Tryz.prog.underlying 5=some (.int .u8):=by kernel_rfl
instance:aL (cB Tryz.prog 137) (some (.agg [.int .i64 0,.int .i64 0,.int .i64 0,.int .i64 0,.int .i64 0])):=⟨by kernel_rfl⟩
instance:aL (cB Tryz.prog 144) (some (.agg [.nilFunc,.nilFunc])):=⟨by kernel_rfl⟩
instance:aL (cB Tryz.prog 177) (some (.nilMap)):=⟨by kernel_rfl⟩
instance:aL (cB Tryz.prog 204) (some (.agg [.int .i64 0,.int .i64 0,.int .i64 0])):=⟨by kernel_rfl⟩
instance:aL (cB Tryz.prog 209) (some (.int .u32 0)):=⟨by kernel_rfl⟩
instance:aL (cB Tryz.prog 213) (some (.nilMap)):=⟨by kernel_rfl⟩
instance:aL (cB Tryz.prog 231) (some (.agg [.int .i64 0,.int .i64 0,.int .i64 0,.int .i64 0,.int .i64 0,.int .i64 0,.int .i64 0,.int .i64 0])):=⟨by kernel_rfl⟩
instance:aL (cB Tryz.prog 234) (some (.agg [.int .i64 0,.int .i64 0,.int .i64 0])):=⟨by kernel_rfl⟩
instance:aL (cB Tryz.prog 24) (some (.agg [.int .i64 0,.int .i64 0])):=⟨by kernel_rfl⟩
instance:aL (cB Tryz.prog 255) (some (.nilFunc)):=⟨by kernel_rfl⟩
instance:aL (cB Tryz.prog 266) (some (.agg [.bool false,.bool false,.bool false,.bool false,.bool false,.bool false,.bool false,.bool false,.bool false,.bool false,.bool false,.bool false,.bool false,.bool false,.bool false,.bool false,.bool false,.bool false,.bool false,.bool false,.bool false,.bool false,.bool false,.bool false])):=⟨by kernel_rfl⟩
instance:aL (cB Tryz.prog 3) (some (.int .i64 0)):=⟨by kernel_rfl⟩
instance:aL (cB Tryz.prog 4) (some (.bool false)):=⟨by kernel_rfl⟩
instance:aL (cB Tryz.prog 74) (some (.agg [.int .i64 0,.int .i64 0,.int .i64 0])):=⟨by kernel_rfl⟩
instance:aL (cB Tryz.prog 92) (some (.agg [.int .i64 0,.int .i64 0])):=⟨by kernel_rfl⟩
theorem mixed: Tryz.prog.follows .mixedOrders=true:=by kernel_rfl
instance:aL (xh Tryz.prog 9) (some 16):=⟨by kernel_rfl⟩
instance:aL (eE Tryz.prog 27) (true):=⟨by kernel_rfl⟩
instance:aL (nh Tryz.prog 27) (some (9,[.str ⟨#[]⟩])):=⟨by kernel_rfl⟩
instance:aL (BI Tryz.prog 9) (true):=⟨by kernel_rfl⟩
theorem Ro: Tryz.prog.underlying 9=some .string:=by kernel_rfl
theorem CC:nk Tryz.prog 27=some 1:=by kernel_rfl
instance:aL (fc Tryz.prog 35) (some (false,1)):=⟨by kernel_rfl⟩
instance:aL (fc Tryz.prog 9) (some (false,1)):=⟨by kernel_rfl⟩
theorem aa5: Tryz.prog.eqGuardType Tryz.prog.depth 74=false:=by kernel_rfl
theorem aam:eqTy Tryz.prog 8 74=some [.int .i64,.int .i64,.int .i64]:=by kernel_rfl
instance:aL (dN Tryz.prog 37 0) (some 0):=⟨by kernel_rfl⟩
instance:aL (dN Tryz.prog 37 1) (some 1):=⟨by kernel_rfl⟩
instance:aL (dN Tryz.prog 37 2) (some 2):=⟨by kernel_rfl⟩
instance:aL (dN Tryz.prog 37 3) (some 3):=⟨by kernel_rfl⟩
instance:aL (dN Tryz.prog 37 4) (some 4):=⟨by kernel_rfl⟩
instance:aL (dN Tryz.prog 37 5) (some 5):=⟨by kernel_rfl⟩
instance:aL (ak Tryz.prog 30) (true):=⟨by kernel_rfl⟩
instance:aL (fc Tryz.prog 34) (some (false,1)):=⟨by kernel_rfl⟩
theorem Yt:xN Tryz.prog 284=some 64:=by kernel_rfl
instance:aL (lY Tryz.prog 204) (some ([.int .i64 0,.int .i64 0,.int .i64 0],[(0,1),(1,2)])):=⟨by kernel_rfl⟩
instance:aL (lY Tryz.prog 94) (some ([.int .i64 0],[(0,1)])):=⟨by kernel_rfl⟩
theorem RR:rW Tryz.prog 94=true:=by kernel_rfl
theorem Xs:nk Tryz.prog 284=some 1:=by kernel_rfl
instance:aL (ak Tryz.prog 147) (true):=⟨by kernel_rfl⟩
instance:aL (ak Tryz.prog 189) (true):=⟨by kernel_rfl⟩
instance:aL (ak Tryz.prog 40) (true):=⟨by kernel_rfl⟩
theorem XG: Tryz.prog.underlying 224=some (.int .u64):=by kernel_rfl
instance:aL (Rq Tryz.prog 68) (true):=⟨by kernel_rfl⟩
theorem kn:rW Tryz.prog 3=true:=by kernel_rfl
theorem Iy:rW Tryz.prog 35=true:=by kernel_rfl
theorem lN:rW Tryz.prog 9=true:=by kernel_rfl
theorem W6:nk Tryz.prog 197=some 1:=by kernel_rfl
theorem Yz:nk Tryz.prog 68=some 1:=by kernel_rfl
instance:aL (ak Tryz.prog 134) (true):=⟨by kernel_rfl⟩
instance:aL (ak Tryz.prog 14) (true):=⟨by kernel_rfl⟩
instance:aL (ak Tryz.prog 84) (true):=⟨by kernel_rfl⟩
instance:aL (eE Tryz.prog 197) (true):=⟨by kernel_rfl⟩
instance:aL (eE Tryz.prog 68) (true):=⟨by kernel_rfl⟩
instance:aL (fc Tryz.prog 20) (some (false,1)):=⟨by kernel_rfl⟩
instance:aL (cB Tryz.prog 35) (some (.nilSlice)):=⟨by kernel_rfl⟩
instance:aL (cB Tryz.prog 9) (some (.str ⟨#[]⟩)):=⟨by kernel_rfl⟩
instance:aL (ak Tryz.prog 108) (true):=⟨by kernel_rfl⟩
instance:aL (ak Tryz.prog 109) (true):=⟨by kernel_rfl⟩
instance:aL (ak Tryz.prog 110) (true):=⟨by kernel_rfl⟩
instance:aL (fc Tryz.prog 27) (some (false,1)):=⟨by kernel_rfl⟩
instance:aL (xh Tryz.prog 60) (some 48):=⟨by kernel_rfl⟩
instance:aL (xh Tryz.prog 74) (some 24):=⟨by kernel_rfl⟩
instance:aL (xh Tryz.prog 92) (some 16):=⟨by kernel_rfl⟩
instance:aL (dN Tryz.prog 83 0) (some 0):=⟨by kernel_rfl⟩
instance:aL (dN Tryz.prog 83 1) (some 6):=⟨by kernel_rfl⟩
instance:aL (ak Tryz.prog 72) (true):=⟨by kernel_rfl⟩
instance:aL (ak Tryz.prog 81) (true):=⟨by kernel_rfl⟩
instance:aL (ak Tryz.prog 82) (true):=⟨by kernel_rfl⟩
instance:aL (nh Tryz.prog 32) (some (60,[.int .i64 0,.int .i64 0,.int .i64 0,.int .i64 0,.int .i64 0,.int .i64 0])):=⟨by kernel_rfl⟩
instance:aL (nh Tryz.prog 33) (some (92,[.int .i64 0,.int .i64 0])):=⟨by kernel_rfl⟩
instance:aL (nh Tryz.prog 34) (some (74,[.int .i64 0,.int .i64 0,.int .i64 0])):=⟨by kernel_rfl⟩
instance:aL (fc Tryz.prog 83) (some (true,7)):=⟨by kernel_rfl⟩
instance:aL (cB Tryz.prog 83) (some (.agg [.nilSlice,.nilSlice,.nilSlice,.nilSlice,.int .i64 0,.int .i64 0,.nilSlice])):=⟨by kernel_rfl⟩
instance:aL (lY Tryz.prog 92) (some ([.int .i64 0,.int .i64 0],[(0,1),(1,1)])):=⟨by kernel_rfl⟩
instance:aL (dN Tryz.prog 87 0) (some 0):=⟨by kernel_rfl⟩
instance:aL (ak Tryz.prog 139) (true):=⟨by kernel_rfl⟩
instance:aL (ak Tryz.prog 100) (true):=⟨by kernel_rfl⟩
instance:aL (ak Tryz.prog 143) (true):=⟨by kernel_rfl⟩
instance:aL (ak Tryz.prog 78) (true):=⟨by kernel_rfl⟩
instance:aL (ak Tryz.prog 87) (true):=⟨by kernel_rfl⟩
instance:aL (ak Tryz.prog 95) (true):=⟨by kernel_rfl⟩
instance:aL (ak Tryz.prog 96) (true):=⟨by kernel_rfl⟩
instance:aL (nh Tryz.prog 197) (some (20,[.nilIface])):=⟨by kernel_rfl⟩
instance:aL (lY Tryz.prog 60) (some ([.int .i64 0,.int .i64 0,.int .i64 0,.int .i64 0,.int .i64 0,.int .i64 0],[(0,2),(2,2),(4,2)])):=⟨by kernel_rfl⟩
instance:aL (ak Tryz.prog 140) (true):=⟨by kernel_rfl⟩
instance:aL (ak Tryz.prog 141) (true):=⟨by kernel_rfl⟩
instance:aL (ak Tryz.prog 98) (true):=⟨by kernel_rfl⟩
instance:aL (nh Tryz.prog 205) (some (204,[.int .i64 0,.int .i64 0,.int .i64 0])):=⟨by kernel_rfl⟩
instance:aL (cB Tryz.prog 60) (some (.agg [.int .i64 0,.int .i64 0,.int .i64 0,.int .i64 0,.int .i64 0,.int .i64 0])):=⟨by kernel_rfl⟩
instance:aL (ak Tryz.prog 144) (true):=⟨by kernel_rfl⟩
instance:aL (ak Tryz.prog 183) (true):=⟨by kernel_rfl⟩
instance:aL (ak Tryz.prog 91) (true):=⟨by kernel_rfl⟩
instance:aL (lY Tryz.prog 74) (some ([.int .i64 0,.int .i64 0,.int .i64 0],[(0,1),(1,2)])):=⟨by kernel_rfl⟩
instance:aL (dN Tryz.prog 87 1) (some 7):=⟨by kernel_rfl⟩
instance:aL (ak Tryz.prog 142) (true):=⟨by kernel_rfl⟩
instance:aL (ak Tryz.prog 29) (true):=⟨by kernel_rfl⟩
instance:aL (ak Tryz.prog 102) (true):=⟨by kernel_rfl⟩
instance:aL (ak Tryz.prog 31) (true):=⟨by kernel_rfl⟩
instance:aL (xh Tryz.prog 83) (some 136):=⟨by kernel_rfl⟩
theorem WG:nk Tryz.prog 85=some 7:=by kernel_rfl
instance:aL (eE Tryz.prog 85) (true):=⟨by kernel_rfl⟩
instance:aL (nh Tryz.prog 85) (some (83,[.nilSlice,.nilSlice,.nilSlice,.nilSlice,.int .i64 0,.int .i64 0,.nilSlice])):=⟨by kernel_rfl⟩
instance:aL (fc Tryz.prog 85) (some (false,1)):=⟨by kernel_rfl⟩
instance:aL (dN Tryz.prog 87 2) (some 11):=⟨by kernel_rfl⟩
instance:aL (ak Tryz.prog 104) (true):=⟨by kernel_rfl⟩
instance:aL (ak Tryz.prog 106) (true):=⟨by kernel_rfl⟩
instance:aL (ak Tryz.prog 35) (true):=⟨by kernel_rfl⟩
instance:aL (lY Tryz.prog 99) (some ([.int .i64 0,.nilFunc],[(0,1),(1,1)])):=⟨by kernel_rfl⟩
theorem iR:oX Tryz.prog 101=some (.string,.agg [.int .i64 0,.nilFunc]):=by kernel_rfl
instance:aL (dN Tryz.prog 94 0) (some 0):=⟨by kernel_rfl⟩
theorem SF:QK Tryz.prog 20=true:=by kernel_rfl
instance:aL (fc Tryz.prog 30) (some (false,1)):=⟨by kernel_rfl⟩
instance:aL (fc Tryz.prog 41) (some (false,1)):=⟨by kernel_rfl⟩
instance:aL (fc Tryz.prog 94) (some (true,1)):=⟨by kernel_rfl⟩
instance:aL (cB Tryz.prog 94) (some (.agg [.int .i64 0])):=⟨by kernel_rfl⟩
instance:aL (dN Tryz.prog 87 3) (some 12):=⟨by kernel_rfl⟩
instance:aL (dN Tryz.prog 99 0) (some 0):=⟨by kernel_rfl⟩
instance:aL (dN Tryz.prog 99 1) (some 1):=⟨by kernel_rfl⟩
instance:aL (x7 Tryz.prog 30) (some (87,13)):=⟨by kernel_rfl⟩
instance:aL (ak Tryz.prog 37) (true):=⟨by kernel_rfl⟩
instance:aL (ak Tryz.prog 38) (true):=⟨by kernel_rfl⟩
instance:aL (ak Tryz.prog 39) (true):=⟨by kernel_rfl⟩
instance:aL (ak Tryz.prog 41) (true):=⟨by kernel_rfl⟩
instance:aL (ak Tryz.prog 42) (true):=⟨by kernel_rfl⟩
instance:aL (fc Tryz.prog 97) (some (false,1)):=⟨by kernel_rfl⟩
instance:aL (fc Tryz.prog 99) (some (true,2)):=⟨by kernel_rfl⟩
instance:aL (cB Tryz.prog 41) (some (.int .i64 0)):=⟨by kernel_rfl⟩
instance:aL (cB Tryz.prog 99) (some (.agg [.int .i64 0,.nilFunc])):=⟨by kernel_rfl⟩
instance:aL (lY Tryz.prog 87) (some ([.nilSlice,.nilSlice,.nilSlice,.nilSlice,.int .i64 0,.int .i64 0,.nilSlice,.nilSlice,.int .i64 0,.int .i64 0,.int .i64 0,.nilSlice,.bool false],[(0,7),(7,4),(11,1),(12,1)])):=⟨by kernel_rfl⟩
instance:aL (xh Tryz.prog 122) (some 24):=⟨by kernel_rfl⟩
instance:aL (ak Tryz.prog 58) (true):=⟨by kernel_rfl⟩
instance:aL (nh Tryz.prog 22) (some (122,[.int .i64 0,.int .i64 0,.int .i64 0])):=⟨by kernel_rfl⟩
instance:aL (xh Tryz.prog 5) (some 1):=⟨by kernel_rfl⟩
instance:aL (dN Tryz.prog 148 0) (some 0):=⟨by kernel_rfl⟩
instance:aL (dN Tryz.prog 148 1) (some 1):=⟨by kernel_rfl⟩
instance:aL (x7 Tryz.prog 146) (some (148,2)):=⟨by kernel_rfl⟩
instance:aL (ak Tryz.prog 135) (true):=⟨by kernel_rfl⟩
instance:aL (nh Tryz.prog 68) (some (5,[.int .u8 0])):=⟨by kernel_rfl⟩
instance:aL (fc Tryz.prog 146) (some (false,1)):=⟨by kernel_rfl⟩
instance:aL (fc Tryz.prog 68) (some (false,1)):=⟨by kernel_rfl⟩
instance:aL (ubI Tryz.prog 199 5) (true):=⟨by kernel_rfl⟩
instance:aL (K6 Tryz.prog 256) (true):=⟨by kernel_rfl⟩
instance:aL (ak Tryz.prog 132) (true):=⟨by kernel_rfl⟩
instance:aL (ak Tryz.prog 13) (true):=⟨by kernel_rfl⟩
instance:aL (ak Tryz.prog 131) (true):=⟨by kernel_rfl⟩
instance:aL (ak Tryz.prog 20) (true):=⟨by kernel_rfl⟩
instance:aL (ak Tryz.prog 75) (true):=⟨by kernel_rfl⟩
instance:aL (ak Tryz.prog 76) (true):=⟨by kernel_rfl⟩
instance:aL (ak Tryz.prog 77) (true):=⟨by kernel_rfl⟩
instance:aL (ak Tryz.prog 79) (true):=⟨by kernel_rfl⟩
instance:aL (ak Tryz.prog 80) (true):=⟨by kernel_rfl⟩
instance:aL (cB Tryz.prog 148) (some (.agg [.nilPtr,.nilSlice])):=⟨by kernel_rfl⟩
instance:aL (cB Tryz.prog 30) (some (.nilPtr)):=⟨by kernel_rfl⟩
instance:aL (lY Tryz.prog 122) (some ([.int .i64 0,.int .i64 0,.int .i64 0],[(0,1),(1,2)])):=⟨by kernel_rfl⟩
instance:aL (lY Tryz.prog 26) (some ([.nilSlice,.int .i64 0,.int .i64 0,.int .i64 0],[(0,1),(1,2),(3,1)])):=⟨by kernel_rfl⟩
instance:aL (ak Tryz.prog 33) (true):=⟨by kernel_rfl⟩
instance:aL (cB Tryz.prog 26) (some (.agg [.nilSlice,.int .i64 0,.int .i64 0,.int .i64 0])):=⟨by kernel_rfl⟩
instance:aL (fc Tryz.prog 37) (some (true,6)):=⟨by kernel_rfl⟩
instance:aL (cB Tryz.prog 37) (some (.agg [.nilSlice,.nilSlice,.nilSlice,.nilSlice,.int .i64 0,.int .i64 0])):=⟨by kernel_rfl⟩
instance:aL (dN Tryz.prog 134 1) (some 1):=⟨by kernel_rfl⟩
instance:aL (ak Tryz.prog 71) (true):=⟨by kernel_rfl⟩
instance:aL (fc Tryz.prog 134) (some (true,3)):=⟨by kernel_rfl⟩
instance:aL (cB Tryz.prog 134) (some (.agg [.nilSlice,.int .i64 0,.bool false])):=⟨by kernel_rfl⟩
instance:aL (lY Tryz.prog 134) (some ([.nilSlice,.int .i64 0,.bool false],[(0,1),(1,1),(2,1)])):=⟨by kernel_rfl⟩
instance:aL (dN Tryz.prog 132 0) (some 0):=⟨by kernel_rfl⟩
instance:aL (fc Tryz.prog 127) (some (false,1)):=⟨by kernel_rfl⟩
instance:aL (fc Tryz.prog 132) (some (true,6)):=⟨by kernel_rfl⟩
theorem LO:xN Tryz.prog 130=some 4:=by kernel_rfl
instance:aL (lY Tryz.prog 132) (some ([.int .i64 0,.int .i64 0,.int .i64 0,.int .i64 0,.int .i64 0,.int .i64 0],[(0,1),(1,1),(2,4)])):=⟨by kernel_rfl⟩
theorem MT:nk Tryz.prog 130=some 1:=by kernel_rfl
instance:aL (dN Tryz.prog 132 1) (some 1):=⟨by kernel_rfl⟩
instance:aL (dN Tryz.prog 132 2) (some 2):=⟨by kernel_rfl⟩
instance:aL (dN Tryz.prog 134 0) (some 0):=⟨by kernel_rfl⟩
instance:aL (dN Tryz.prog 134 2) (some 2):=⟨by kernel_rfl⟩
instance:aL (ak Tryz.prog 67) (true):=⟨by kernel_rfl⟩
instance:aL (ak Tryz.prog 70) (true):=⟨by kernel_rfl⟩
instance:aL (fc Tryz.prog 128) (some (false,1)):=⟨by kernel_rfl⟩
instance:aL (fc Tryz.prog 130) (some (true,4)):=⟨by kernel_rfl⟩
instance:aL (cB Tryz.prog 132) (some (.agg [.int .i64 0,.int .i64 0,.int .i64 0,.int .i64 0,.int .i64 0,.int .i64 0])):=⟨by kernel_rfl⟩
instance:aL (ak Tryz.prog 10) (true):=⟨by kernel_rfl⟩
instance:aL (ak Tryz.prog 22) (true):=⟨by kernel_rfl⟩
instance:aL (cB Tryz.prog 127) (some (.nilMap)):=⟨by kernel_rfl⟩
instance:aL (cB Tryz.prog 128) (some (.nilFunc)):=⟨by kernel_rfl⟩
instance:aL (ak Tryz.prog 25) (true):=⟨by kernel_rfl⟩
instance:aL (ak Tryz.prog 26) (true):=⟨by kernel_rfl⟩
instance:aL (ak Tryz.prog 27) (true):=⟨by kernel_rfl⟩
instance:aL (ak Tryz.prog 28) (true):=⟨by kernel_rfl⟩
end Go.Proofs.YtibffijhebobmaaGreatDoor
end
