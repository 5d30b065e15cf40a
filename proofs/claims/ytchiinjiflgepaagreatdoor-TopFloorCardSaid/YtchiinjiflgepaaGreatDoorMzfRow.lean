/-
 The row of TopFloor. No condition.
-/
import Derived.Test.YtchiinjiflgepaaGreatDoorRows
import Derived.Test.YtchiinjiflgepaaGreatDoorFaQE
import Derived.Test.YtchiinjiflgepaaGreatDoorMzQJ
import Derived.WalkKit
import Derived.ProofKit
import Derived.OpenShut
import Derived.ChangeOld
import Derived.Below
import Derived.Test.YtchiinjiflgepaaGreatDoorTie
import Derived.Test.YtchiinjiflgepaaGreatDoorCards
import Derived.Stop.Joined
import Derived.SevenTiedAt
set_option linter.unusedVariables false
namespace Go.Proofs.YtchiinjiflgepaaGreatDoor.topFloorDone
open Go.ChangeShapes Go.WideShapes Go.ChangeAt Go.RowKit Go.AF
noncomputable def vu (w:World):World:={w with heap:=w.heap.modify 4 fun o=>match o with | .cells _ e f=> .cells (Go.Pinned.utf8FirstZ.map fun(n:Nat)=>Value.int .u8 (Int.ofNat n)).toArray e f | o=>o}
theorem own:ownKnob Tryz.prog.godebug=none:=by kernel_rfl
theorem laidOut:laidOutB Tryz.prog=true:=by kernel_rfl
theorem B4:mO Tryz.prog 8 26=some (true,[.sl [.leaf (.int .i64),.leaf (.int .i64),.leaf (.int .i64)],.leaf (.int .i64),.leaf (.int .i64),.leaf (.int .i64)]):=by kernel_rfl
theorem arg1:mO Tryz.prog 8 32=some (false,[.sl [.leaf .string]]):=by kernel_rfl
theorem arg2:mO Tryz.prog 8 5=some (false,[.leaf (.int .u8)]):=by kernel_rfl
def tK:List Int:=[0,1,28,2,29,14,24,3,30,22,20,15,25,17,4,8,31,27,13,23,21,19,16,7,26,12,18,6,11,5,10,9]
theorem vK: Tryz.prog.globalNamed "math/bits.deBruijn32tab" =some 1:=by kernel_rfl
theorem u5:(Tryz.prog.globals[1]?).map (·.type)=some 236:=by kernel_rfl
theorem uD: Tryz.prog.cellsOf 5=1:=by kernel_rfl
theorem vv: Tryz.prog.cellsOf 236=32:=by kernel_rfl
def uW:List Int:=[0,1,56,2,57,49,28,3,61,58,42,50,38,29,17,4,62,47,59,36,45,43,51,22,53,39,33,30,24,18,12,5,63,55,48,27,60,41,37,16,46,35,44,21,52,32,23,11,54,26,40,15,34,20,31,10,25,14,19,9,13,8,7,6]
theorem uQ: Tryz.prog.globalNamed "math/bits.deBruijn64tab" =some 3:=by kernel_rfl
theorem uI:(Tryz.prog.globals[3]?).map (·.type)=some 265:=by kernel_rfl
theorem uZ: Tryz.prog.cellsOf 5=1:=by kernel_rfl
theorem vT: Tryz.prog.cellsOf 265=64:=by kernel_rfl
def vG:List Int:=[1,10,100,1000,10000,100000,1000000,10000000,100000000,1000000000,10000000000,100000000000,1000000000000,10000000000000,100000000000000,1000000000000000,10000000000000000,100000000000000000,1000000000000000000,10000000000000000000]
theorem tG: Tryz.prog.globalNamed "internal/strconv.uint64pow10" =some 2:=by kernel_rfl
theorem tY:(Tryz.prog.globals[2]?).map (·.type)=some 252:=by kernel_rfl
theorem uF: Tryz.prog.cellsOf 231=1:=by kernel_rfl
theorem uE: Tryz.prog.cellsOf 252=20:=by kernel_rfl
theorem Ce:kO Tryz.prog=[(1,tK.map (PV.int .u8)),(3,uW.map (PV.int .u8)),(2,vG.map (PV.int .u64))]:=by kernel_rfl
theorem Tc{W:World}(h:laidMetH Tryz.prog [("math/bits.deBruijn32tab",Rows.laid_math_bits_deBruijn32tab),("math/bits.deBruijn64tab",Rows.laid_math_bits_deBruijn64tab),("internal/strconv.uint64pow10",Rows.laid_internal_strconv_uint64pow10),("unicode/utf8.acceptRanges",Rows.laid_unicode_utf8_acceptRanges),("unicode/utf8.first",Rows.laid_unicode_utf8_first)] W)(hsh:W.ShapedOpen Tryz.prog):DR Tryz.prog W fun b=>b<W.heap.size:=by
 rw[MakeChecks.laidMetH_plain _ _ _ (by kernel_rfl)] at h
 obtain⟨ps,h1,_,_⟩:=h
 obtain⟨v0,q0,k0⟩:=eZ (ns:=tK) (n:=32) (e:=5) (k:= .u8) rfl vK u5 Tryz.underlying236 Tryz.underlying5 uD vv rfl (by decide) h1
 obtain⟨v1,q1,k1⟩:=eZ (ns:=uW) (n:=64) (e:=5) (k:= .u8) rfl uQ uI Tryz.underlying265 Tryz.underlying5 uZ vT rfl (by decide) k0
 obtain⟨v2,q2,k2⟩:=eZ (ns:=vG) (n:=20) (e:=231) (k:= .u64) rfl tG tY Tryz.underlying252 Tryz.underlying231 uF uE rfl (by decide) k1
 obtain⟨_,_,_,_,_,_,_,_,_,_,k3,_⟩:=k2
 obtain⟨_,_,_,_,_,_,_,_,_,_,k4,_⟩:=k3
 refine⟨fun x hx=> ?_,fun g hg=> ?_⟩
 ·rw[Ce] at hx
  simp only[Zt,KZ,or_false] at hx
  rcases hx with rfl | rfl | rfl
  ·exact v0
  ·exact v1
  ·exact v2
 ·obtain rfl:=Zw ((show Tryz.prog.globalNamed "internal/bytealg.MaxLen" =some 0 by kernel_rfl).symm.trans hg)
  exact ig (t:=3) (zero:= #[.int .i64 0]) hsh (Zf (by kernel_rfl)) (by kernel_rfl) rfl (by kernel_rfl) (by kernel_rfl) (by kernel_rfl)
theorem jm(os:Os)(args:Array Value):laidMetH Tryz.prog [("math/bits.deBruijn32tab",Rows.laid_math_bits_deBruijn32tab),("math/bits.deBruijn64tab",Rows.laid_math_bits_deBruijn64tab),("internal/strconv.uint64pow10",Rows.laid_internal_strconv_uint64pow10),("unicode/utf8.acceptRanges",Rows.laid_unicode_utf8_acceptRanges),("unicode/utf8.first",Rows.laid_unicode_utf8_first)] ((vu (World.doorLaid Tryz.prog 400 os)).forCall (fun _ _=>0) ⟨#[],args,[]⟩).memory:=
 laidMetH_of_parts3 (fuel:=8) (laidMet_of_run' 8 (by kernel_rfl) (by kernel_rfl)) (by kernel_rfl) (by kernel_rfl)
set_option maxRecDepth 100000 in
theorem lifted(os:Os)(started:os.Started)(H:Type)(enc:TypeId×Value->H):
    ReturnsInHanded {} Tryz.checked os 8 .any (fun w args=>(Rows.topFloorSpec.pre enc Tryz.prog Tryz.f8 [] false w args∧laidMetH Tryz.prog [("math/bits.deBruijn32tab",Rows.laid_math_bits_deBruijn32tab),("math/bits.deBruijn64tab",Rows.laid_math_bits_deBruijn64tab),("internal/strconv.uint64pow10",Rows.laid_internal_strconv_uint64pow10),("unicode/utf8.acceptRanges",Rows.laid_unicode_utf8_acceptRanges),("unicode/utf8.first",Rows.laid_unicode_utf8_first)] w)∧sizedMet enc Tryz.prog Tryz.f8 (OpenSpec.ofChange Rows.topFloorSpec) false w args)
     (Rows.topFloorSpec.post enc Tryz.prog Tryz.f8 false true false false):=by
 refine iW (C:= Tryz.checked) (X:=fun w _=>laidMetH Tryz.prog [("math/bits.deBruijn32tab",Rows.laid_math_bits_deBruijn32tab),("math/bits.deBruijn64tab",Rows.laid_math_bits_deBruijn64tab),("internal/strconv.uint64pow10",Rows.laid_internal_strconv_uint64pow10),("unicode/utf8.acceptRanges",Rows.laid_unicode_utf8_acceptRanges),("unicode/utf8.first",Rows.laid_unicode_utf8_first)] w) (fun _ _ _ hh h=>h.of_heap hh) own started (by kernel_rfl) Tryz.func8
  (ChangeSpec.witness_shaped (enc:=enc) (C:= Tryz.checked) (os:=os) (X:=fun w _=>laidMetH Tryz.prog [("math/bits.deBruijn32tab",Rows.laid_math_bits_deBruijn32tab),("math/bits.deBruijn64tab",Rows.laid_math_bits_deBruijn64tab),("internal/strconv.uint64pow10",Rows.laid_internal_strconv_uint64pow10),("unicode/utf8.acceptRanges",Rows.laid_unicode_utf8_acceptRanges),("unicode/utf8.first",Rows.laid_unicode_utf8_first)] w) false (vu (World.doorLaid Tryz.prog 400 os)) #[.agg #[.slice none 0 0,.int .i64 0,.int .i64 0,.int .i64 0],.slice none 0 0,.int .u8 0] 8 rfl (World.shaped_of_RefB (by kernel_rfl) (by kernel_rfl)) (by kernel_rfl) (by kernel_rfl) (by kernel_rfl) (jm os _)) ?_
 intro W base args ds gs before mA hW hL hsh
 have B5:=Tc hL hsh
 have hval:∀(j:Nat) t v, Tryz.f8.params[j]? =some t->args[j]? =some v->Value.okWide Tryz.prog W .any base t v:=mA
 have Uf:=hW
 obtain⟨p,q,F1,hV,rfl,hfz,hnd⟩:=hW
 have hA:DataW.TrodAll enc Tryz.prog W 0 (fun _=>true) true Tryz.f8.params.toList args.toList ds p:=F1
 rw[Tryz.params8] at hA hval
 obtain⟨v0,R9,d0,ds0,p0,q0,hargs,rfl,rfl,h0,r0⟩:=trodAll_cons hA
 obtain⟨v1,N4,d1,ds1,p1,q1,rfl,rfl,rfl,h1,r1⟩:=trodAll_cons r0
 obtain⟨v2,vs2,d2,ds2,p2,q2,rfl,rfl,rfl,h2,r2⟩:=trodAll_cons r1
 obtain⟨rfl,rfl,rfl⟩:=trodAll_nil r2
 obtain rfl:args= #[v0,v1,v2]:=by cases args;simp_all
 obtain⟨rfl,rfl⟩:=trodVars_none hV
 have k0:=h0
 have Sf:∀ x∈p0,x.block<W.heap.size:=by obtain⟨m,hm⟩:=k0;exact DataW.trod_lt m _ _ _ hm
 obtain⟨x0,SY,CA⟩:=gO B4 (hval 0 26 v0 rfl rfl) h0
 have k1:=h1
 have WD:∀ x∈p1,x.block<W.heap.size:=by obtain⟨m,hm⟩:=k1;exact DataW.trod_lt m _ _ _ hm
 obtain⟨x1,Yn,GN⟩:=gO arg1 (hval 1 32 v1 rfl rfl) h1
 have k2:=h2
 have lt2:∀ x∈p2,x.block<W.heap.size:=by obtain⟨m,hm⟩:=k2;exact DataW.trod_lt m _ _ _ hm
 obtain⟨x2,ty2,TP⟩:=gO arg2 (hval 2 5 v2 rfl rfl) h2
 clear F1 mA
 refine(Pure.zh (yb SY Yn ty2) B5 ⟨v0,_,rfl,CA,v1,_,rfl,GN,v2,_,rfl,TP,rfl⟩).mono fun e W' ⟨u,he,hr,bel⟩=> ?_
 subst he
 obtain rfl:u= .bool true:=hr
 exact⟨_,rfl,_,_,_,[],_,[],Uf,trodAll_mk1 (shut_bool Tryz.underlying4 _),(trodAll_cons_mk (Below.trod laidOut (by kernel_rfl) (Zf (by kernel_rfl)) k0 bel Sf) (trodAll_cons_mk (Below.trod laidOut (by kernel_rfl) (Zf (by kernel_rfl)) k1 bel WD) (trodAll_cons_mk (Below.trod laidOut (by kernel_rfl) (Zf (by kernel_rfl)) k2 bel lt2) trodAll_mk0))),rfl,bel.frame _,fun h=>by cases h⟩
theorem over:Rows.topFloorRow.holds Tryz.pinned (OpenSpec.ofChange Rows.topFloorSpec):=
 OpenClaim.holds_of_wide 8 Tryz.f8 rfl rfl rfl rfl rfl rfl rfl ⟨rfl,rfl,rfl,rfl,rfl⟩ rfl rfl rfl rfl rfl (by kernel_rfl) Tryz.func8 (by kernel_rfl)
  (Zf (by kernel_rfl)) (by unfold Func.isWrapper;rw[if_neg (Zh (by kernel_rfl))];exact⟨rfl,rfl⟩)
  (fun os started H enc _=>lifted os started H enc)
theorem proved:Rows.TopFloorCardSaid:=
 Claim7.holds_tied_plain_at .later [] [.data,.data,.data,.data,.pinned] true (true, "be9e9f5b7511630d397d060c839c45f2568aa63ca3c4490e06139ff07272388a") true
  over (fun _ h=>by cases h) (by kernel_rfl) (fun _ h=>by cases h) topFloor_row_tie rfl ⟨rfl,rfl⟩ (by kernel_rfl) rfl
  (fun f fn hf hfn=>by
   obtain rfl:f=8:=Zw ((show Tryz.prog.funcNamed "pencilworks/pencilworkstop.TopFloor" =some 8 by kernel_rfl).symm.trans hf)|>.symm
   obtain rfl:fn= Tryz.f8:=(Zw (Tryz.func8.symm.trans hfn)).symm
   exact⟨by kernel_rfl,fun j t ht=>by
    rw[Tryz.params8] at ht
    rcases j with _ | _ | _ | j
    ·obtain rfl:t=26:=by simpa using ht.symm
     exact(show Tryz.prog.wantsStandIn 26=false by kernel_rfl)
    ·obtain rfl:t=32:=by simpa using ht.symm
     exact(show Tryz.prog.wantsStandIn 32=false by kernel_rfl)
    ·obtain rfl:t=5:=by simpa using ht.symm
     exact(show Tryz.prog.wantsStandIn 5=false by kernel_rfl)
    ·simp at ht⟩)
  (by kernel_rfl)
#print axioms proved
end Go.Proofs.YtchiinjiflgepaaGreatDoor.topFloorDone
