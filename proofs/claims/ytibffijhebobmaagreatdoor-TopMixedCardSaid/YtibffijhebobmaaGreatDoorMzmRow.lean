/-
 The row of TopMixed. No condition.
-/
import Derived.Test.YtibffijhebobmaaGreatDoorRows
import Derived.Test.YtibffijhebobmaaGreatDoorFaUE
import Derived.Test.YtibffijhebobmaaGreatDoorMzUL
import Derived.WalkKit
import Derived.ProofKit
import Derived.OpenShut
import Derived.ChangeOld
import Derived.Below
import Derived.Test.YtibffijhebobmaaGreatDoorTie
import Derived.Test.YtibffijhebobmaaGreatDoorCards
import Derived.Stop.Joined
import Derived.SevenTiedAt
import Derived.Deep.DeepLaidRun
set_option linter.unusedVariables false
namespace Go.Proofs.YtibffijhebobmaaGreatDoor.topMixedDone
open Go.ChangeShapes Go.WideShapes Go.ChangeAt Go.RowKit Go.AF
noncomputable def X6 (w:World):World:={w with heap:=w.heap.modify 8 fun o=>match o with | .cells _ e f=> .cells (Go.Pinned.utf8FirstZ.map fun(n:Nat)=>Value.int .u8 (Int.ofNat n)).toArray e f | o=>o}
theorem own:ownKnob Tryz.prog.godebug=none:=by kernel_rfl
theorem laidOut:laidOutB Tryz.prog=true:=by kernel_rfl
theorem aa4:tr Tryz.prog 8 32=some (false,[.sl [.leaf (.int .i64),.leaf (.int .i64),.leaf (.int .i64),.leaf (.int .i64),.leaf (.int .i64),.leaf (.int .i64)]]):=by kernel_rfl
theorem arg1:tr Tryz.prog 8 3=some (false,[.leaf (.int .i64)]):=by kernel_rfl
theorem arg2:tr Tryz.prog 8 3=some (false,[.leaf (.int .i64)]):=by kernel_rfl
theorem arg3:tr Tryz.prog 8 3=some (false,[.leaf (.int .i64)]):=by kernel_rfl
theorem Z8:tr Tryz.prog 8 24=some (true,[.leaf (.int .i64),.leaf (.int .i64)]):=by kernel_rfl
theorem aaw:tr Tryz.prog 8 52=some (false,[.leaf (.int .u32)]):=by kernel_rfl
def VM:List Int:=[0,1,28,2,29,14,24,3,30,22,20,15,25,17,4,8,31,27,13,23,21,19,16,7,26,12,18,6,11,5,10,9]
theorem VH: Tryz.prog.globalNamed "math/bits.deBruijn32tab" =some 6:=by kernel_rfl
theorem Ye:(Tryz.prog.globals[6]?).map (·.type)=some 283:=by kernel_rfl
theorem VV: Tryz.prog.cellsOf 5=1:=by kernel_rfl
theorem Wt: Tryz.prog.cellsOf 283=32:=by kernel_rfl
def WI:List Int:=[0,1,56,2,57,49,28,3,61,58,42,50,38,29,17,4,62,47,59,36,45,43,51,22,53,39,33,30,24,18,12,5,63,55,48,27,60,41,37,16,46,35,44,21,52,32,23,11,54,26,40,15,34,20,31,10,25,14,19,9,13,8,7,6]
theorem V5: Tryz.prog.globalNamed "math/bits.deBruijn64tab" =some 7:=by kernel_rfl
theorem XV:(Tryz.prog.globals[7]?).map (·.type)=some 284:=by kernel_rfl
theorem Xu: Tryz.prog.cellsOf 5=1:=by kernel_rfl
theorem Vo: Tryz.prog.cellsOf 284=64:=by kernel_rfl
def Wr:List Int:=[1,10,100,1000,10000,100000,1000000,10000000,100000000,1000000000,10000000000,100000000000,1000000000000,10000000000000,100000000000000,1000000000000000,10000000000000000,100000000000000000,1000000000000000000,10000000000000000000]
theorem VL: Tryz.prog.globalNamed "internal/strconv.uint64pow10" =some 5:=by kernel_rfl
theorem Xb:(Tryz.prog.globals[5]?).map (·.type)=some 269:=by kernel_rfl
theorem Wc: Tryz.prog.cellsOf 224=1:=by kernel_rfl
theorem VX: Tryz.prog.cellsOf 269=20:=by kernel_rfl
theorem Z1:oQ Tryz.prog=[(6,VM.map (PV.int .u8)),(7,WI.map (PV.int .u8)),(5,Wr.map (PV.int .u64))]:=by kernel_rfl
theorem gsp: Tryz.prog.globalNamed "strings.asciiSpace" =some 0:=by kernel_rfl
theorem tsp:(Tryz.prog.globals[0]?).map (·.type)=some 123:=by kernel_rfl
theorem csp: Tryz.prog.cellsOf 5=1:=by kernel_rfl
theorem ssp: Tryz.prog.cellsOf 123=256:=by kernel_rfl
theorem gok{W:World}(h:laidMetH Tryz.prog [("math/bits.deBruijn32tab",Rows.laid_math_bits_deBruijn32tab),("math/bits.deBruijn64tab",Rows.laid_math_bits_deBruijn64tab),("internal/strconv.uint64pow10",Rows.laid_internal_strconv_uint64pow10),("unicode/utf8.acceptRanges",Rows.laid_unicode_utf8_acceptRanges),("strconv.ErrRange",Rows.laid_strconv_ErrRange),("strconv.ErrSyntax",Rows.laid_strconv_ErrSyntax),("unicode.White_Space",Rows.laid_unicode_White_Space),("strings.asciiSpace",Rows.laid_strings_asciiSpace),("unicode/utf8.first",Rows.laid_unicode_utf8_first)] W)(hsh:W.ShapedOpen Tryz.prog):Je Tryz.prog W fun b=>b<W.heap.size:=by
 rw[MakeChecks.laidMetH_plain _ _ _ (by kernel_rfl)] at h
 obtain⟨ps,h1,_,_⟩:=h
 obtain⟨v0,q0,k0⟩:=qp (ns:=VM) (n:=32) (e:=5) (k:= .u8) rfl VH Ye Tryz.underlying283 Tryz.underlying5 VV Wt rfl (by decide) h1
 obtain⟨v1,q1,k1⟩:=qp (ns:=WI) (n:=64) (e:=5) (k:= .u8) rfl V5 XV Tryz.underlying284 Tryz.underlying5 Xu Vo rfl (by decide) k0
 obtain⟨v2,q2,k2⟩:=qp (ns:=Wr) (n:=20) (e:=224) (k:= .u64) rfl VL Xb Tryz.underlying269 Tryz.underlying224 Wc VX rfl (by decide) k1
 obtain⟨_,_,_,_,_,_,_,_,_,_,k3,_⟩:=k2
 obtain⟨_,_,_,_,_,_,_,_,_,_,k4,_⟩:=k3
 obtain⟨_,_,_,_,_,_,_,_,_,_,k5,_⟩:=k4
 obtain⟨_,_,_,_,_,_,_,_,_,_,k6,_⟩:=k5
 obtain⟨vsp,qsp,k7⟩:=qp (ns:=AW) (n:=256) (e:=5) (k:= .u8) (by kernel_rfl) gsp tsp Tryz.underlying123 Tryz.underlying5 csp ssp (by kernel_rfl) (by decide) k6
 obtain⟨_,_,_,_,_,_,_,_,_,_,k8,_⟩:=k7
 refine⟨fun x hx=> ?_,(fun _ g hg=>by obtain rfl:=ZB (gsp.symm.trans hg);exact⟨vsp.1,vsp.2.1⟩),fun g hg=> ?_⟩
 ·rw[Z1] at hx
  simp only[Zr,HL,or_false] at hx
  rcases hx with rfl | rfl | rfl
  ·exact v0
  ·exact v1
  ·exact v2
 ·obtain rfl:=ZB ((show Tryz.prog.globalNamed "internal/bytealg.MaxLen" =some 2 by kernel_rfl).symm.trans hg)
  exact xE (t:=3) (zero:= #[.int .i64 0]) hsh (Zm (by kernel_rfl)) (by kernel_rfl) rfl (by kernel_rfl) (by kernel_rfl) (by kernel_rfl)
theorem Ln(os:Os)(args:Array Value):laidMetH Tryz.prog [("math/bits.deBruijn32tab",Rows.laid_math_bits_deBruijn32tab),("math/bits.deBruijn64tab",Rows.laid_math_bits_deBruijn64tab),("internal/strconv.uint64pow10",Rows.laid_internal_strconv_uint64pow10),("unicode/utf8.acceptRanges",Rows.laid_unicode_utf8_acceptRanges),("strconv.ErrRange",Rows.laid_strconv_ErrRange),("strconv.ErrSyntax",Rows.laid_strconv_ErrSyntax),("unicode.White_Space",Rows.laid_unicode_White_Space),("strings.asciiSpace",Rows.laid_strings_asciiSpace),("unicode/utf8.first",Rows.laid_unicode_utf8_first)] ((X6 (World.doorLaid Tryz.prog 400 os)).forCall (fun _ _=>0) ⟨#[],args,[]⟩).memory:=
 laidMetH_of_parts3 (fuel:=8) (laidMet_of_run3 8 (by kernel_rfl) (by kernel_rfl) (by kernel_rfl)) (by kernel_rfl) (by kernel_rfl)
set_option maxRecDepth 100000 in
theorem lifted(os:Os)(started:os.Started)(H:Type)(enc:TypeId×Value->H):
    ReturnsInHanded {} Tryz.checked os 5 .any (fun w args=>(Rows.topMixedSpec.pre enc Tryz.prog Tryz.f5 [] false w args∧laidMetH Tryz.prog [("math/bits.deBruijn32tab",Rows.laid_math_bits_deBruijn32tab),("math/bits.deBruijn64tab",Rows.laid_math_bits_deBruijn64tab),("internal/strconv.uint64pow10",Rows.laid_internal_strconv_uint64pow10),("unicode/utf8.acceptRanges",Rows.laid_unicode_utf8_acceptRanges),("strconv.ErrRange",Rows.laid_strconv_ErrRange),("strconv.ErrSyntax",Rows.laid_strconv_ErrSyntax),("unicode.White_Space",Rows.laid_unicode_White_Space),("strings.asciiSpace",Rows.laid_strings_asciiSpace),("unicode/utf8.first",Rows.laid_unicode_utf8_first)] w)∧sizedMet enc Tryz.prog Tryz.f5 (OpenSpec.ofChange Rows.topMixedSpec) false w args)
     (Rows.topMixedSpec.post enc Tryz.prog Tryz.f5 false true false false):=by
 refine Ad (C:= Tryz.checked) (X:=fun w _=>laidMetH Tryz.prog [("math/bits.deBruijn32tab",Rows.laid_math_bits_deBruijn32tab),("math/bits.deBruijn64tab",Rows.laid_math_bits_deBruijn64tab),("internal/strconv.uint64pow10",Rows.laid_internal_strconv_uint64pow10),("unicode/utf8.acceptRanges",Rows.laid_unicode_utf8_acceptRanges),("strconv.ErrRange",Rows.laid_strconv_ErrRange),("strconv.ErrSyntax",Rows.laid_strconv_ErrSyntax),("unicode.White_Space",Rows.laid_unicode_White_Space),("strings.asciiSpace",Rows.laid_strings_asciiSpace),("unicode/utf8.first",Rows.laid_unicode_utf8_first)] w) (fun _ _ _ hh h=>h.of_heap hh) own started (by kernel_rfl) Tryz.func5
  (ChangeSpec.witness_shaped (enc:=enc) (C:= Tryz.checked) (os:=os) (X:=fun w _=>laidMetH Tryz.prog [("math/bits.deBruijn32tab",Rows.laid_math_bits_deBruijn32tab),("math/bits.deBruijn64tab",Rows.laid_math_bits_deBruijn64tab),("internal/strconv.uint64pow10",Rows.laid_internal_strconv_uint64pow10),("unicode/utf8.acceptRanges",Rows.laid_unicode_utf8_acceptRanges),("strconv.ErrRange",Rows.laid_strconv_ErrRange),("strconv.ErrSyntax",Rows.laid_strconv_ErrSyntax),("unicode.White_Space",Rows.laid_unicode_White_Space),("strings.asciiSpace",Rows.laid_strings_asciiSpace),("unicode/utf8.first",Rows.laid_unicode_utf8_first)] w) false (X6 (World.doorLaid Tryz.prog 400 os)) #[.slice none 0 0,.int .i64 0,.int .i64 0,.int .i64 0,.agg #[.int .i64 0,.int .i64 0],.int .u32 0] 8 rfl (World.shaped_of_RefB (by kernel_rfl) (by kernel_rfl)) (by kernel_rfl) (by kernel_rfl) (by kernel_rfl) (Ln os _)) ?_
 intro W base args ds gs before RF hW hL hsh
 have aaL:=gok hL hsh
 have hval:∀(j:Nat) t v, Tryz.f5.params[j]? =some t->args[j]? =some v->Value.okWide Tryz.prog W .any base t v:=RF
 have hW':=hW
 obtain⟨p,q,Y2,hV,rfl,hfz,hnd⟩:=hW
 have hA:DataW.TrodAll enc Tryz.prog W 0 (fun _=>true) true Tryz.f5.params.toList args.toList ds p:=Y2
 rw[Tryz.params5] at hA hval
 obtain⟨v0,Vd,d0,ds0,p0,q0,hargs,rfl,rfl,h0,r0⟩:=trodAll_cons hA
 obtain⟨v1,Te,d1,ds1,p1,q1,rfl,rfl,rfl,h1,r1⟩:=trodAll_cons r0
 obtain⟨v2,vs2,d2,ds2,p2,q2,rfl,rfl,rfl,h2,r2⟩:=trodAll_cons r1
 obtain⟨v3,vs3,d3,ds3,p3,q3,rfl,rfl,rfl,h3,r3⟩:=trodAll_cons r2
 obtain⟨v4,vs4,d4,ds4,p4,q4,rfl,rfl,rfl,h4,r4⟩:=trodAll_cons r3
 obtain⟨v5,vs5,d5,ds5,p5,q5,rfl,rfl,rfl,h5,r5⟩:=trodAll_cons r4
 obtain⟨rfl,rfl,rfl⟩:=trodAll_nil r5
 obtain rfl:args= #[v0,v1,v2,v3,v4,v5]:=by cases args;simp_all
 obtain⟨rfl,rfl⟩:=trodVars_none hV
 have k0:=h0
 have lt0:∀ x∈p0,x.block<W.heap.size:=by obtain⟨m,hm⟩:=k0;exact DataW.trod_lt m _ _ _ hm
 obtain⟨x0,ty0,aba⟩:=ki aa4 (hval 0 32 v0 rfl rfl) h0
 have k1:=h1
 have lt1:∀ x∈p1,x.block<W.heap.size:=by obtain⟨m,hm⟩:=k1;exact DataW.trod_lt m _ _ _ hm
 obtain⟨x1,ty1,aaV⟩:=ki arg1 (hval 1 3 v1 rfl rfl) h1
 have k2:=h2
 have lt2:∀ x∈p2,x.block<W.heap.size:=by obtain⟨m,hm⟩:=k2;exact DataW.trod_lt m _ _ _ hm
 obtain⟨x2,ty2,aap⟩:=ki arg2 (hval 2 3 v2 rfl rfl) h2
 have k3:=h3
 have lt3:∀ x∈p3,x.block<W.heap.size:=by obtain⟨m,hm⟩:=k3;exact DataW.trod_lt m _ _ _ hm
 obtain⟨x3,tya3,Z5⟩:=ki arg3 (hval 3 3 v3 rfl rfl) h3
 have k4:=h4
 have lt4:∀ x∈p4,x.block<W.heap.size:=by obtain⟨m,hm⟩:=k4;exact DataW.trod_lt m _ _ _ hm
 obtain⟨x4,tya4,aaO⟩:=ki Z8 (hval 4 24 v4 rfl rfl) h4
 have k5:=h5
 have lt5:∀ x∈p5,x.block<W.heap.size:=by obtain⟨m,hm⟩:=k5;exact DataW.trod_lt m _ _ _ hm
 obtain⟨x5,tya5,aaB⟩:=ki aaw (hval 5 52 v5 rfl rfl) h5
 clear Y2 RF
 refine(Pure.Us (zG rfl ty0 ty1 ty2 tya3 tya4 tya5) aaL ⟨v0,_,rfl,aba,v1,_,rfl,aaV,v2,_,rfl,aap,v3,_,rfl,Z5,v4,_,rfl,aaO,v5,_,rfl,aaB,rfl⟩).mono fun e W' ⟨u,he,hr,bel⟩=> ?_
 subst he
 obtain rfl:u= .bool true:=hr
 exact⟨_,rfl,_,_,_,[],_,[],hW',trodAll_mk1 (shut_bool Tryz.underlying4 _),(trodAll_cons_mk (Below.trod laidOut (by kernel_rfl) (Zm (by kernel_rfl)) k0 bel lt0) (trodAll_cons_mk (Below.trod laidOut (by kernel_rfl) (Zm (by kernel_rfl)) k1 bel lt1) (trodAll_cons_mk (Below.trod laidOut (by kernel_rfl) (Zm (by kernel_rfl)) k2 bel lt2) (trodAll_cons_mk (Below.trod laidOut (by kernel_rfl) (Zm (by kernel_rfl)) k3 bel lt3) (trodAll_cons_mk (Below.trod laidOut (by kernel_rfl) (Zm (by kernel_rfl)) k4 bel lt4) (trodAll_cons_mk (Below.trod laidOut (by kernel_rfl) (Zm (by kernel_rfl)) k5 bel lt5) trodAll_mk0)))))),rfl,bel.frame _,fun h=>by cases h⟩
theorem over:Rows.topMixedRow.holds Tryz.pinned (OpenSpec.ofChange Rows.topMixedSpec):=
 OpenClaim.holds_of_wide 5 Tryz.f5 rfl rfl rfl rfl rfl rfl rfl ⟨rfl,rfl,rfl,rfl,rfl⟩ rfl rfl rfl rfl rfl (by kernel_rfl) Tryz.func5 (by kernel_rfl)
  (Zm (by kernel_rfl)) (by unfold Func.isWrapper;rw[if_neg (Zs (by kernel_rfl))];exact⟨rfl,rfl⟩)
  (fun os started H enc _=>lifted os started H enc)
theorem proved:Rows.TopMixedCardSaid:=
 Claim7.holds_tied_plain_at .later [] [.data,.data,.data,.data,.sentinel,.sentinel,.listed,.data,.pinned] true (true, "080aa0021fe5b4c5297f2c7142edd97e64a0b35f98c2743d9585875df2772d1e") true
  over (fun _ h=>by cases h) (by kernel_rfl) (fun _ h=>by cases h) topMixed_row_tie rfl ⟨rfl,rfl⟩ (by kernel_rfl) rfl
  (fun f fn hf hfn=>by
   obtain rfl:f=5:=ZB ((show Tryz.prog.funcNamed "pencilworks/pencilworkstop.TopMixed" =some 5 by kernel_rfl).symm.trans hf)|>.symm
   obtain rfl:fn= Tryz.f5:=(ZB (Tryz.func5.symm.trans hfn)).symm
   exact⟨by kernel_rfl,fun j t ht=>by
    rw[Tryz.params5] at ht
    rcases j with _ | _ | _ | _ | _ | _ | j
    ·obtain rfl:t=32:=by simpa using ht.symm
     exact(show Tryz.prog.wantsStandIn 32=false by kernel_rfl)
    ·obtain rfl:t=3:=by simpa using ht.symm
     exact(show Tryz.prog.wantsStandIn 3=false by kernel_rfl)
    ·obtain rfl:t=3:=by simpa using ht.symm
     exact(show Tryz.prog.wantsStandIn 3=false by kernel_rfl)
    ·obtain rfl:t=3:=by simpa using ht.symm
     exact(show Tryz.prog.wantsStandIn 3=false by kernel_rfl)
    ·obtain rfl:t=24:=by simpa using ht.symm
     exact(show Tryz.prog.wantsStandIn 24=false by kernel_rfl)
    ·obtain rfl:t=52:=by simpa using ht.symm
     exact(show Tryz.prog.wantsStandIn 52=false by kernel_rfl)
    ·simp at ht⟩)
  (by kernel_rfl)
#print axioms proved
end Go.Proofs.YtibffijhebobmaaGreatDoor.topMixedDone
