/-
 The row of TopPlan. No condition.
-/
import Derived.Test.YtibffijhebobmaaGreatDoorRows
import Derived.Test.YtibffijhebobmaaGreatDoorFaTE
import Derived.Test.YtibffijhebobmaaGreatDoorMzTL
import Derived.WalkKit
import Derived.ProofKit
import Derived.OpenShut
import Derived.ChangeOld
import Derived.Below
import Derived.Test.YtibffijhebobmaaGreatDoorTie
import Derived.Test.YtibffijhebobmaaGreatDoorCards
import Derived.Stop.Joined
import Derived.SevenTiedAt
set_option linter.unusedVariables false
namespace Go.Proofs.YtibffijhebobmaaGreatDoor.topPlanDone
open Go.ChangeShapes Go.WideShapes Go.ChangeAt Go.RowKit Go.AF
noncomputable def X4 (w:World):World:={w with heap:=w.heap.modify 8 fun o=>match o with | .cells _ e f=> .cells (Go.Pinned.utf8FirstZ.map fun(n:Nat)=>Value.int .u8 (Int.ofNat n)).toArray e f | o=>o}
theorem own:ownKnob Tryz.prog.godebug=none:=by kernel_rfl
theorem laidOut:laidOutB Tryz.prog=true:=by kernel_rfl
theorem abk:DE Tryz.prog 8 26=some (true,[.sl [.leaf (.int .i64),.leaf (.int .i64),.leaf (.int .i64)],.leaf (.int .i64),.leaf (.int .i64),.leaf (.int .i64)]):=by kernel_rfl
theorem arg1:DE Tryz.prog 8 34=some (false,[.sl [.leaf (.int .i64),.leaf (.int .i64),.leaf (.int .i64)]]):=by kernel_rfl
theorem arg2:DE Tryz.prog 8 68=some (false,[.sl [.leaf (.int .u8)]]):=by kernel_rfl
def Z7:List Int:=[0,1,28,2,29,14,24,3,30,22,20,15,25,17,4,8,31,27,13,23,21,19,16,7,26,12,18,6,11,5,10,9]
theorem Ym: Tryz.prog.globalNamed "math/bits.deBruijn32tab" =some 6:=by kernel_rfl
theorem Z5:(Tryz.prog.globals[6]?).map (·.type)=some 283:=by kernel_rfl
theorem Xd: Tryz.prog.cellsOf 5=1:=by kernel_rfl
theorem Xh: Tryz.prog.cellsOf 283=32:=by kernel_rfl
def XO:List Int:=[0,1,56,2,57,49,28,3,61,58,42,50,38,29,17,4,62,47,59,36,45,43,51,22,53,39,33,30,24,18,12,5,63,55,48,27,60,41,37,16,46,35,44,21,52,32,23,11,54,26,40,15,34,20,31,10,25,14,19,9,13,8,7,6]
theorem WS: Tryz.prog.globalNamed "math/bits.deBruijn64tab" =some 7:=by kernel_rfl
theorem Xt:(Tryz.prog.globals[7]?).map (·.type)=some 284:=by kernel_rfl
theorem Yu: Tryz.prog.cellsOf 5=1:=by kernel_rfl
theorem Xv: Tryz.prog.cellsOf 284=64:=by kernel_rfl
def W5:List Int:=[1,10,100,1000,10000,100000,1000000,10000000,100000000,1000000000,10000000000,100000000000,1000000000000,10000000000000,100000000000000,1000000000000000,10000000000000000,100000000000000000,1000000000000000000,10000000000000000000]
theorem Yx: Tryz.prog.globalNamed "internal/strconv.uint64pow10" =some 5:=by kernel_rfl
theorem YB:(Tryz.prog.globals[5]?).map (·.type)=some 269:=by kernel_rfl
theorem Yk: Tryz.prog.cellsOf 224=1:=by kernel_rfl
theorem X7: Tryz.prog.cellsOf 269=20:=by kernel_rfl
theorem aaK:o5 Tryz.prog=[(6,Z7.map (PV.int .u8)),(7,XO.map (PV.int .u8)),(5,W5.map (PV.int .u64))]:=by kernel_rfl
theorem gok{W:World}(h:laidMetH Tryz.prog [("math/bits.deBruijn32tab",Rows.laid_math_bits_deBruijn32tab),("math/bits.deBruijn64tab",Rows.laid_math_bits_deBruijn64tab),("internal/strconv.uint64pow10",Rows.laid_internal_strconv_uint64pow10),("unicode/utf8.acceptRanges",Rows.laid_unicode_utf8_acceptRanges),("unicode/utf8.first",Rows.laid_unicode_utf8_first)] W)(hsh:W.ShapedOpen Tryz.prog):OU Tryz.prog W fun b=>b<W.heap.size:=by
 rw[MakeChecks.laidMetH_plain _ _ _ (by kernel_rfl)] at h
 obtain⟨ps,h1,_,_⟩:=h
 obtain⟨v0,q0,k0⟩:=xE (ns:=Z7) (n:=32) (e:=5) (k:= .u8) rfl Ym Z5 Tryz.underlying283 Tryz.underlying5 Xd Xh rfl (by decide) h1
 obtain⟨v1,q1,k1⟩:=xE (ns:=XO) (n:=64) (e:=5) (k:= .u8) rfl WS Xt Tryz.underlying284 Tryz.underlying5 Yu Xv rfl (by decide) k0
 obtain⟨v2,q2,k2⟩:=xE (ns:=W5) (n:=20) (e:=224) (k:= .u64) rfl Yx YB Tryz.underlying269 Tryz.underlying224 Yk X7 rfl (by decide) k1
 obtain⟨_,_,_,_,_,_,_,_,_,_,k3,_⟩:=k2
 obtain⟨_,_,_,_,_,_,_,_,_,_,k4,_⟩:=k3
 refine⟨fun x hx=> ?_,(fun h=>absurd h (by decide)),fun g hg=> ?_⟩
 ·rw[aaK] at hx
  simp only[Zr,KF,or_false] at hx
  rcases hx with rfl | rfl | rfl
  ·exact v0
  ·exact v1
  ·exact v2
 ·obtain rfl:=ZD ((show Tryz.prog.globalNamed "internal/bytealg.MaxLen" =some 2 by kernel_rfl).symm.trans hg)
  exact xY (t:=3) (zero:= #[.int .i64 0]) hsh (Zk (by kernel_rfl)) (by kernel_rfl) rfl (by kernel_rfl) (by kernel_rfl) (by kernel_rfl)
theorem Nb(os:Os)(args:Array Value):laidMetH Tryz.prog [("math/bits.deBruijn32tab",Rows.laid_math_bits_deBruijn32tab),("math/bits.deBruijn64tab",Rows.laid_math_bits_deBruijn64tab),("internal/strconv.uint64pow10",Rows.laid_internal_strconv_uint64pow10),("unicode/utf8.acceptRanges",Rows.laid_unicode_utf8_acceptRanges),("unicode/utf8.first",Rows.laid_unicode_utf8_first)] ((X4 (World.doorLaid Tryz.prog 400 os)).forCall (fun _ _=>0) ⟨#[],args,[]⟩).memory:=
 laidMetH_of_parts3 (fuel:=8) (laidMet_of_run' 8 (by kernel_rfl) (by kernel_rfl)) (by kernel_rfl) (by kernel_rfl)
set_option maxRecDepth 100000 in
theorem lifted(os:Os)(started:os.Started)(H:Type)(enc:TypeId×Value->H):
    ReturnsInHanded {} Tryz.checked os 6 .any (fun w args=>(Rows.topPlanSpec.pre enc Tryz.prog Tryz.f6 [] false w args∧laidMetH Tryz.prog [("math/bits.deBruijn32tab",Rows.laid_math_bits_deBruijn32tab),("math/bits.deBruijn64tab",Rows.laid_math_bits_deBruijn64tab),("internal/strconv.uint64pow10",Rows.laid_internal_strconv_uint64pow10),("unicode/utf8.acceptRanges",Rows.laid_unicode_utf8_acceptRanges),("unicode/utf8.first",Rows.laid_unicode_utf8_first)] w)∧sizedMet enc Tryz.prog Tryz.f6 (OpenSpec.ofChange Rows.topPlanSpec) false w args)
     (Rows.topPlanSpec.post enc Tryz.prog Tryz.f6 false true false false):=by
 refine Ar (C:= Tryz.checked) (X:=fun w _=>laidMetH Tryz.prog [("math/bits.deBruijn32tab",Rows.laid_math_bits_deBruijn32tab),("math/bits.deBruijn64tab",Rows.laid_math_bits_deBruijn64tab),("internal/strconv.uint64pow10",Rows.laid_internal_strconv_uint64pow10),("unicode/utf8.acceptRanges",Rows.laid_unicode_utf8_acceptRanges),("unicode/utf8.first",Rows.laid_unicode_utf8_first)] w) (fun _ _ _ hh h=>h.of_heap hh) own started (by kernel_rfl) Tryz.func6
  (ChangeSpec.witness_shaped (enc:=enc) (C:= Tryz.checked) (os:=os) (X:=fun w _=>laidMetH Tryz.prog [("math/bits.deBruijn32tab",Rows.laid_math_bits_deBruijn32tab),("math/bits.deBruijn64tab",Rows.laid_math_bits_deBruijn64tab),("internal/strconv.uint64pow10",Rows.laid_internal_strconv_uint64pow10),("unicode/utf8.acceptRanges",Rows.laid_unicode_utf8_acceptRanges),("unicode/utf8.first",Rows.laid_unicode_utf8_first)] w) false (X4 (World.doorLaid Tryz.prog 400 os)) #[.agg #[.slice none 0 0,.int .i64 0,.int .i64 0,.int .i64 0],.slice none 0 0,.slice none 0 0] 8 rfl (World.shaped_of_RefB (by kernel_rfl) (by kernel_rfl)) (by kernel_rfl) (by kernel_rfl) (by kernel_rfl) (Nb os _)) ?_
 intro W base args ds gs before RZ hW hL hsh
 have aar:=gok hL hsh
 have hval:∀(j:Nat) t v, Tryz.f6.params[j]? =some t->args[j]? =some v->Value.okWide Tryz.prog W .any base t v:=RZ
 have hW':=hW
 obtain⟨p,q,hA0,hV,rfl,hfz,hnd⟩:=hW
 have hA:DataW.TrodAll enc Tryz.prog W 0 (fun _=>true) true Tryz.f6.params.toList args.toList ds p:=hA0
 rw[Tryz.params6] at hA hval
 obtain⟨v0,vs0,d0,ds0,p0,q0,hargs,rfl,rfl,h0,r0⟩:=trodAll_cons hA
 obtain⟨v1,VN,d1,ds1,p1,q1,rfl,rfl,rfl,h1,r1⟩:=trodAll_cons r0
 obtain⟨v2,vs2,d2,ds2,p2,q2,rfl,rfl,rfl,h2,r2⟩:=trodAll_cons r1
 obtain⟨rfl,rfl,rfl⟩:=trodAll_nil r2
 obtain rfl:args= #[v0,v1,v2]:=by cases args;simp_all
 obtain⟨rfl,rfl⟩:=trodVars_none hV
 have k0:=h0
 have lt0:∀ x∈p0,x.block<W.heap.size:=by obtain⟨m,hm⟩:=k0;exact DataW.trod_lt m _ _ _ hm
 obtain⟨x0,ty0,aa6⟩:=xw abk (hval 0 26 v0 rfl rfl) h0
 have k1:=h1
 have lt1:∀ x∈p1,x.block<W.heap.size:=by obtain⟨m,hm⟩:=k1;exact DataW.trod_lt m _ _ _ hm
 obtain⟨x1,ty1,aai⟩:=xw arg1 (hval 1 34 v1 rfl rfl) h1
 have k2:=h2
 have lt2:∀ x∈p2,x.block<W.heap.size:=by obtain⟨m,hm⟩:=k2;exact DataW.trod_lt m _ _ _ hm
 obtain⟨x2,ty2,aaR⟩:=xw arg2 (hval 2 68 v2 rfl rfl) h2
 clear hA0 RZ
 refine(Pure.TX (Cb ty0 ty1 ty2) aar ⟨v0,_,rfl,aa6,v1,_,rfl,aai,v2,_,rfl,aaR,rfl⟩).mono fun e W' ⟨u,he,hr,bel⟩=> ?_
 subst he
 obtain rfl:u= .bool true:=hr
 exact⟨_,rfl,_,_,_,[],_,[],hW',trodAll_mk1 (shut_bool Tryz.underlying4 _),(trodAll_cons_mk (Below.trod laidOut (by kernel_rfl) (Zk (by kernel_rfl)) k0 bel lt0) (trodAll_cons_mk (Below.trod laidOut (by kernel_rfl) (Zk (by kernel_rfl)) k1 bel lt1) (trodAll_cons_mk (Below.trod laidOut (by kernel_rfl) (Zk (by kernel_rfl)) k2 bel lt2) trodAll_mk0))),rfl,bel.frame _,fun h=>by cases h⟩
theorem over:Rows.topPlanRow.holds Tryz.pinned (OpenSpec.ofChange Rows.topPlanSpec):=
 OpenClaim.holds_of_wide 6 Tryz.f6 rfl rfl rfl rfl rfl rfl rfl ⟨rfl,rfl,rfl,rfl,rfl⟩ rfl rfl rfl rfl rfl (by kernel_rfl) Tryz.func6 (by kernel_rfl)
  (Zk (by kernel_rfl)) (by unfold Func.isWrapper;rw[if_neg (Zl (by kernel_rfl))];exact⟨rfl,rfl⟩)
  (fun os started H enc _=>lifted os started H enc)
theorem proved:Rows.TopPlanCardSaid:=
 Claim7.holds_tied_plain_at .later [] [.data,.data,.data,.data,.pinned] true (true, "080aa0021fe5b4c5297f2c7142edd97e64a0b35f98c2743d9585875df2772d1e") true
  over (fun _ h=>by cases h) (by kernel_rfl) (fun _ h=>by cases h) topPlan_row_tie rfl ⟨rfl,rfl⟩ (by kernel_rfl) rfl
  (fun f fn hf hfn=>by
   obtain rfl:f=6:=ZD ((show Tryz.prog.funcNamed "pencilworks/pencilworkstop.TopPlan" =some 6 by kernel_rfl).symm.trans hf)|>.symm
   obtain rfl:fn= Tryz.f6:=(ZD (Tryz.func6.symm.trans hfn)).symm
   exact⟨by kernel_rfl,fun j t ht=>by
    rw[Tryz.params6] at ht
    rcases j with _ | _ | _ | j
    ·obtain rfl:t=26:=by simpa using ht.symm
     exact(show Tryz.prog.wantsStandIn 26=false by kernel_rfl)
    ·obtain rfl:t=34:=by simpa using ht.symm
     exact(show Tryz.prog.wantsStandIn 34=false by kernel_rfl)
    ·obtain rfl:t=68:=by simpa using ht.symm
     exact(show Tryz.prog.wantsStandIn 68=false by kernel_rfl)
    ·simp at ht⟩)
  (by kernel_rfl)
#print axioms proved
end Go.Proofs.YtibffijhebobmaaGreatDoor.topPlanDone
