/-
 The row of MasterLines. No condition.
-/
import Derived.Test.YtchiinjiflgepaaGreatDoorRows
import Derived.Test.YtchiinjiflgepaaGreatDoorFaRE
import Derived.Test.YtchiinjiflgepaaGreatDoorMzRJ
import Derived.WalkKit
import Derived.ProofKit
import Derived.OpenShut
import Derived.ChangeOld
import Derived.Below
import Derived.Test.YtchiinjiflgepaaGreatDoorTie
import Derived.Test.YtchiinjiflgepaaGreatDoorCards
import Derived.Stop.Joined
import Derived.SevenTiedAt
set_option linter.unusedVariables false
namespace Go.Proofs.YtchiinjiflgepaaGreatDoor.masterLinesDone
open Go.ChangeShapes Go.WideShapes Go.ChangeAt Go.RowKit Go.AF
noncomputable def Mj (w:World):World:={w with heap:=w.heap.modify 4 fun o=>match o with | .cells _ e f=> .cells (Go.Pinned.utf8FirstZ.map fun(n:Nat)=>Value.int .u8 (Int.ofNat n)).toArray e f | o=>o}
theorem own:ownKnob Tryz.prog.godebug=none:=by kernel_rfl
theorem laidOut:laidOutB Tryz.prog=true:=by kernel_rfl
theorem UG:xG Tryz.prog 8 26=some (true,[.sl [.leaf (.int .i64),.leaf (.int .i64),.leaf (.int .i64)],.leaf (.int .i64),.leaf (.int .i64),.leaf (.int .i64)]):=by kernel_rfl
theorem arg1:xG Tryz.prog 8 32=some (false,[.sl [.leaf .string]]):=by kernel_rfl
def JO:List Int:=[0,1,28,2,29,14,24,3,30,22,20,15,25,17,4,8,31,27,13,23,21,19,16,7,26,12,18,6,11,5,10,9]
theorem LR: Tryz.prog.globalNamed "math/bits.deBruijn32tab" =some 1:=by kernel_rfl
theorem JS:(Tryz.prog.globals[1]?).map (·.type)=some 236:=by kernel_rfl
theorem My: Tryz.prog.cellsOf 5=1:=by kernel_rfl
theorem MK: Tryz.prog.cellsOf 236=32:=by kernel_rfl
def Nl:List Int:=[0,1,56,2,57,49,28,3,61,58,42,50,38,29,17,4,62,47,59,36,45,43,51,22,53,39,33,30,24,18,12,5,63,55,48,27,60,41,37,16,46,35,44,21,52,32,23,11,54,26,40,15,34,20,31,10,25,14,19,9,13,8,7,6]
theorem KZ: Tryz.prog.globalNamed "math/bits.deBruijn64tab" =some 3:=by kernel_rfl
theorem Mg:(Tryz.prog.globals[3]?).map (·.type)=some 265:=by kernel_rfl
theorem Ni: Tryz.prog.cellsOf 5=1:=by kernel_rfl
theorem JQ: Tryz.prog.cellsOf 265=64:=by kernel_rfl
def IN:List Int:=[1,10,100,1000,10000,100000,1000000,10000000,100000000,1000000000,10000000000,100000000000,1000000000000,10000000000000,100000000000000,1000000000000000,10000000000000000,100000000000000000,1000000000000000000,10000000000000000000]
theorem Nw: Tryz.prog.globalNamed "internal/strconv.uint64pow10" =some 2:=by kernel_rfl
theorem K5:(Tryz.prog.globals[2]?).map (·.type)=some 252:=by kernel_rfl
theorem K6: Tryz.prog.cellsOf 231=1:=by kernel_rfl
theorem M8: Tryz.prog.cellsOf 252=20:=by kernel_rfl
theorem Vq:nN Tryz.prog=[(1,JO.map (PV.int .u8)),(3,Nl.map (PV.int .u8)),(2,IN.map (PV.int .u64))]:=by kernel_rfl
theorem gok{W:World}(h:laidMetH Tryz.prog [("math/bits.deBruijn32tab",Rows.laid_math_bits_deBruijn32tab),("math/bits.deBruijn64tab",Rows.laid_math_bits_deBruijn64tab),("internal/strconv.uint64pow10",Rows.laid_internal_strconv_uint64pow10),("unicode/utf8.acceptRanges",Rows.laid_unicode_utf8_acceptRanges),("unicode/utf8.first",Rows.laid_unicode_utf8_first)] W)(hsh:W.ShapedOpen Tryz.prog):MJ Tryz.prog W fun b=>b<W.heap.size:=by
 rw[MakeChecks.laidMetH_plain _ _ _ (by kernel_rfl)] at h
 obtain⟨ps,h1,_,_⟩:=h
 obtain⟨v0,q0,k0⟩:=lP (ns:=JO) (n:=32) (e:=5) (k:= .u8) rfl LR JS Tryz.underlying236 Tryz.underlying5 My MK rfl (by decide) h1
 obtain⟨v1,q1,k1⟩:=lP (ns:=Nl) (n:=64) (e:=5) (k:= .u8) rfl KZ Mg Tryz.underlying265 Tryz.underlying5 Ni JQ rfl (by decide) k0
 obtain⟨v2,q2,k2⟩:=lP (ns:=IN) (n:=20) (e:=231) (k:= .u64) rfl Nw K5 Tryz.underlying252 Tryz.underlying231 K6 M8 rfl (by decide) k1
 obtain⟨_,_,_,_,_,_,_,_,_,_,k3,_⟩:=k2
 obtain⟨_,_,_,_,_,_,_,_,_,_,k4,_⟩:=k3
 refine⟨fun x hx=> ?_,fun g hg=> ?_⟩
 ·rw[Vq] at hx
  simp only[Zv,Oc,or_false] at hx
  rcases hx with rfl | rfl | rfl
  ·exact v0
  ·exact v1
  ·exact v2
 ·obtain rfl:=ZB ((show Tryz.prog.globalNamed "internal/bytealg.MaxLen" =some 0 by kernel_rfl).symm.trans hg)
  exact pO (t:=3) (zero:= #[.int .i64 0]) hsh (Ze (by kernel_rfl)) (by kernel_rfl) rfl (by kernel_rfl) (by kernel_rfl) (by kernel_rfl)
theorem vr(os:Os)(args:Array Value):laidMetH Tryz.prog [("math/bits.deBruijn32tab",Rows.laid_math_bits_deBruijn32tab),("math/bits.deBruijn64tab",Rows.laid_math_bits_deBruijn64tab),("internal/strconv.uint64pow10",Rows.laid_internal_strconv_uint64pow10),("unicode/utf8.acceptRanges",Rows.laid_unicode_utf8_acceptRanges),("unicode/utf8.first",Rows.laid_unicode_utf8_first)] ((Mj (World.doorLaid Tryz.prog 400 os)).forCall (fun _ _=>0) ⟨#[],args,[]⟩).memory:=
 laidMetH_of_parts3 (fuel:=8) (laidMet_of_run' 8 (by kernel_rfl) (by kernel_rfl)) (by kernel_rfl) (by kernel_rfl)
set_option maxRecDepth 100000 in
theorem lifted(os:Os)(started:os.Started)(H:Type)(enc:TypeId×Value->H):
    ReturnsInHanded {} Tryz.checked os 4 .any (fun w args=>(Rows.masterLinesSpec.pre enc Tryz.prog Tryz.f4 [] false w args∧laidMetH Tryz.prog [("math/bits.deBruijn32tab",Rows.laid_math_bits_deBruijn32tab),("math/bits.deBruijn64tab",Rows.laid_math_bits_deBruijn64tab),("internal/strconv.uint64pow10",Rows.laid_internal_strconv_uint64pow10),("unicode/utf8.acceptRanges",Rows.laid_unicode_utf8_acceptRanges),("unicode/utf8.first",Rows.laid_unicode_utf8_first)] w)∧sizedMet enc Tryz.prog Tryz.f4 (OpenSpec.ofChange Rows.masterLinesSpec) false w args)
     (Rows.masterLinesSpec.post enc Tryz.prog Tryz.f4 false true false false):=by
 refine qS (C:= Tryz.checked) (X:=fun w _=>laidMetH Tryz.prog [("math/bits.deBruijn32tab",Rows.laid_math_bits_deBruijn32tab),("math/bits.deBruijn64tab",Rows.laid_math_bits_deBruijn64tab),("internal/strconv.uint64pow10",Rows.laid_internal_strconv_uint64pow10),("unicode/utf8.acceptRanges",Rows.laid_unicode_utf8_acceptRanges),("unicode/utf8.first",Rows.laid_unicode_utf8_first)] w) (fun _ _ _ hh h=>h.of_heap hh) own started (by kernel_rfl) Tryz.func4
  (ChangeSpec.witness_shaped (enc:=enc) (C:= Tryz.checked) (os:=os) (X:=fun w _=>laidMetH Tryz.prog [("math/bits.deBruijn32tab",Rows.laid_math_bits_deBruijn32tab),("math/bits.deBruijn64tab",Rows.laid_math_bits_deBruijn64tab),("internal/strconv.uint64pow10",Rows.laid_internal_strconv_uint64pow10),("unicode/utf8.acceptRanges",Rows.laid_unicode_utf8_acceptRanges),("unicode/utf8.first",Rows.laid_unicode_utf8_first)] w) false (Mj (World.doorLaid Tryz.prog 400 os)) #[.agg #[.slice none 0 0,.int .i64 0,.int .i64 0,.int .i64 0],.slice none 0 0] 8 rfl (World.shaped_of_RefB (by kernel_rfl) (by kernel_rfl)) (by kernel_rfl) (by kernel_rfl) (by kernel_rfl) (vr os _)) ?_
 intro W base args ds gs before Bf hW hL hsh
 have Va:=gok hL hsh
 have hval:∀(j:Nat) t v, Tryz.f4.params[j]? =some t->args[j]? =some v->Value.okWide Tryz.prog W .any base t v:=Bf
 have hW':=hW
 obtain⟨p,q,UQ,hV,rfl,hfz,hnd⟩:=hW
 have hA:DataW.TrodAll enc Tryz.prog W 0 (fun _=>true) true Tryz.f4.params.toList args.toList ds p:=UQ
 rw[Tryz.params4] at hA hval
 obtain⟨v0,vs0,d0,ds0,p0,q0,hargs,rfl,rfl,h0,r0⟩:=trodAll_cons hA
 obtain⟨v1,Sf,d1,ds1,p1,q1,rfl,rfl,rfl,h1,r1⟩:=trodAll_cons r0
 obtain⟨rfl,rfl,rfl⟩:=trodAll_nil r1
 obtain rfl:args= #[v0,v1]:=by cases args;simp_all
 obtain⟨rfl,rfl⟩:=trodVars_none hV
 have k0:=h0
 have lt0:∀ x∈p0,x.block<W.heap.size:=by obtain⟨m,hm⟩:=k0;exact DataW.trod_lt m _ _ _ hm
 obtain⟨x0,ty0,Uw⟩:=qB UG (hval 0 26 v0 rfl rfl) h0
 have k1:=h1
 have lt1:∀ x∈p1,x.block<W.heap.size:=by obtain⟨m,hm⟩:=k1;exact DataW.trod_lt m _ _ _ hm
 obtain⟨x1,ty1,Vx⟩:=qB arg1 (hval 1 32 v1 rfl rfl) h1
 clear UQ Bf
 refine(Pure.MC (ua ty0 ty1) Va ⟨v0,_,rfl,Uw,v1,_,rfl,Vx,rfl⟩).mono fun e W' ⟨u,he,hr,bel⟩=> ?_
 subst he
 obtain rfl:u= .bool true:=hr
 exact⟨_,rfl,_,_,_,[],_,[],hW',trodAll_mk1 (shut_bool Tryz.underlying4 _),(trodAll_cons_mk (Below.trod laidOut (by kernel_rfl) (Ze (by kernel_rfl)) k0 bel lt0) (trodAll_cons_mk (Below.trod laidOut (by kernel_rfl) (Ze (by kernel_rfl)) k1 bel lt1) trodAll_mk0)),rfl,bel.frame _,fun h=>by cases h⟩
theorem over:Rows.masterLinesRow.holds Tryz.pinned (OpenSpec.ofChange Rows.masterLinesSpec):=
 OpenClaim.holds_of_wide 4 Tryz.f4 rfl rfl rfl rfl rfl rfl rfl ⟨rfl,rfl,rfl,rfl,rfl⟩ rfl rfl rfl rfl rfl (by kernel_rfl) Tryz.func4 (by kernel_rfl)
  (Ze (by kernel_rfl)) (by unfold Func.isWrapper;rw[if_neg (Zf (by kernel_rfl))];exact⟨rfl,rfl⟩)
  (fun os started H enc _=>lifted os started H enc)
theorem proved:Rows.MasterLinesCardSaid:=
 Claim7.holds_tied_plain_at .later [] [.data,.data,.data,.data,.pinned] true (true, "be9e9f5b7511630d397d060c839c45f2568aa63ca3c4490e06139ff07272388a") true
  over (fun _ h=>by cases h) (by kernel_rfl) (fun _ h=>by cases h) masterLines_row_tie rfl ⟨rfl,rfl⟩ (by kernel_rfl) rfl
  (fun f fn hf hfn=>by
   obtain rfl:f=4:=ZB ((show Tryz.prog.funcNamed "pencilworks/pencilworkslaw15.MasterLines" =some 4 by kernel_rfl).symm.trans hf)|>.symm
   obtain rfl:fn= Tryz.f4:=(ZB (Tryz.func4.symm.trans hfn)).symm
   exact⟨by kernel_rfl,fun j t ht=>by
    rw[Tryz.params4] at ht
    rcases j with _ | _ | j
    ·obtain rfl:t=26:=by simpa using ht.symm
     exact(show Tryz.prog.wantsStandIn 26=false by kernel_rfl)
    ·obtain rfl:t=32:=by simpa using ht.symm
     exact(show Tryz.prog.wantsStandIn 32=false by kernel_rfl)
    ·simp at ht⟩)
  (by kernel_rfl)
#print axioms proved
end Go.Proofs.YtchiinjiflgepaaGreatDoor.masterLinesDone
