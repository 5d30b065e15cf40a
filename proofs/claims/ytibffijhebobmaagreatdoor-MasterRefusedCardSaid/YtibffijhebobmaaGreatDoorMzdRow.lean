/-
 The row of MasterRefused. No condition.
-/
import Derived.Test.YtibffijhebobmaaGreatDoorRows
import Derived.Test.YtibffijhebobmaaGreatDoorFaSE
import Derived.Test.YtibffijhebobmaaGreatDoorMzSL
import Derived.WalkKit
import Derived.ProofKit
import Derived.OpenShut
import Derived.ChangeOld
import Derived.Below
import Derived.Test.YtibffijhebobmaaGreatDoorTie
import Derived.Test.YtibffijhebobmaaGreatDoorCards
import Derived.Stop.Joined
import Derived.SevenTiedAt
set_option linter.unusedVariables false
namespace Go.Proofs.YtibffijhebobmaaGreatDoor.masterRefusedDone
open Go.ChangeShapes Go.WideShapes Go.ChangeAt Go.RowKit Go.AF
noncomputable def L4 (w:World):World:={w with heap:=w.heap.modify 8 fun o=>match o with | .cells _ e f=> .cells (Go.Pinned.utf8FirstZ.map fun(n:Nat)=>Value.int .u8 (Int.ofNat n)).toArray e f | o=>o}
theorem own:ownKnob Tryz.prog.godebug=none:=by kernel_rfl
theorem laidOut:laidOutB Tryz.prog=true:=by kernel_rfl
theorem TZ:tA Tryz.prog 8 26=some (true,[.sl [.leaf (.int .i64),.leaf (.int .i64),.leaf (.int .i64)],.leaf (.int .i64),.leaf (.int .i64),.leaf (.int .i64)]):=by kernel_rfl
theorem arg1:tA Tryz.prog 8 27=some (false,[.sl [.leaf .string]]):=by kernel_rfl
theorem arg2:tA Tryz.prog 8 9=some (false,[.leaf .string]):=by kernel_rfl
def Ox:List Int:=[0,1,28,2,29,14,24,3,30,22,20,15,25,17,4,8,31,27,13,23,21,19,16,7,26,12,18,6,11,5,10,9]
theorem NY: Tryz.prog.globalNamed "math/bits.deBruijn32tab" =some 6:=by kernel_rfl
theorem Nf:(Tryz.prog.globals[6]?).map (·.type)=some 283:=by kernel_rfl
theorem Ol: Tryz.prog.cellsOf 5=1:=by kernel_rfl
theorem Kw: Tryz.prog.cellsOf 283=32:=by kernel_rfl
def M3:List Int:=[0,1,56,2,57,49,28,3,61,58,42,50,38,29,17,4,62,47,59,36,45,43,51,22,53,39,33,30,24,18,12,5,63,55,48,27,60,41,37,16,46,35,44,21,52,32,23,11,54,26,40,15,34,20,31,10,25,14,19,9,13,8,7,6]
theorem LL: Tryz.prog.globalNamed "math/bits.deBruijn64tab" =some 7:=by kernel_rfl
theorem NC:(Tryz.prog.globals[7]?).map (·.type)=some 284:=by kernel_rfl
theorem Mm: Tryz.prog.cellsOf 5=1:=by kernel_rfl
theorem Ms: Tryz.prog.cellsOf 284=64:=by kernel_rfl
def Lb:List Int:=[1,10,100,1000,10000,100000,1000000,10000000,100000000,1000000000,10000000000,100000000000,1000000000000,10000000000000,100000000000000,1000000000000000,10000000000000000,100000000000000000,1000000000000000000,10000000000000000000]
theorem KM: Tryz.prog.globalNamed "internal/strconv.uint64pow10" =some 5:=by kernel_rfl
theorem K1:(Tryz.prog.globals[5]?).map (·.type)=some 269:=by kernel_rfl
theorem KF: Tryz.prog.cellsOf 224=1:=by kernel_rfl
theorem ND: Tryz.prog.cellsOf 269=20:=by kernel_rfl
theorem Tn:nO Tryz.prog=[(6,Ox.map (PV.int .u8)),(7,M3.map (PV.int .u8)),(5,Lb.map (PV.int .u64))]:=by kernel_rfl
theorem gok{W:World}(h:laidMetH Tryz.prog [("math/bits.deBruijn32tab",Rows.laid_math_bits_deBruijn32tab),("math/bits.deBruijn64tab",Rows.laid_math_bits_deBruijn64tab),("internal/strconv.uint64pow10",Rows.laid_internal_strconv_uint64pow10),("unicode/utf8.acceptRanges",Rows.laid_unicode_utf8_acceptRanges),("strconv.ErrRange",Rows.laid_strconv_ErrRange),("strconv.ErrSyntax",Rows.laid_strconv_ErrSyntax),("unicode/utf8.first",Rows.laid_unicode_utf8_first)] W)(hsh:W.ShapedOpen Tryz.prog):JM Tryz.prog W fun b=>b<W.heap.size:=by
 rw[MakeChecks.laidMetH_plain _ _ _ (by kernel_rfl)] at h
 obtain⟨ps,h1,_,_⟩:=h
 obtain⟨v0,q0,k0⟩:=lu (ns:=Ox) (n:=32) (e:=5) (k:= .u8) rfl NY Nf Tryz.underlying283 Tryz.underlying5 Ol Kw rfl (by decide) h1
 obtain⟨v1,q1,k1⟩:=lu (ns:=M3) (n:=64) (e:=5) (k:= .u8) rfl LL NC Tryz.underlying284 Tryz.underlying5 Mm Ms rfl (by decide) k0
 obtain⟨v2,q2,k2⟩:=lu (ns:=Lb) (n:=20) (e:=224) (k:= .u64) rfl KM K1 Tryz.underlying269 Tryz.underlying224 KF ND rfl (by decide) k1
 obtain⟨_,_,_,_,_,_,_,_,_,_,k3,_⟩:=k2
 obtain⟨_,_,_,_,_,_,_,_,_,_,k4,_⟩:=k3
 obtain⟨_,_,_,_,_,_,_,_,_,_,k5,_⟩:=k4
 obtain⟨_,_,_,_,_,_,_,_,_,_,k6,_⟩:=k5
 refine⟨fun x hx=> ?_,(fun h=>absurd h (by decide)),fun g hg=> ?_⟩
 ·rw[Tn] at hx
  simp only[Zw,R5,or_false] at hx
  rcases hx with rfl | rfl | rfl
  ·exact v0
  ·exact v1
  ·exact v2
 ·obtain rfl:=Zy ((show Tryz.prog.globalNamed "internal/bytealg.MaxLen" =some 2 by kernel_rfl).symm.trans hg)
  exact oZ (t:=3) (zero:= #[.int .i64 0]) hsh (Zg (by kernel_rfl)) (by kernel_rfl) rfl (by kernel_rfl) (by kernel_rfl) (by kernel_rfl)
theorem vt(os:Os)(args:Array Value):laidMetH Tryz.prog [("math/bits.deBruijn32tab",Rows.laid_math_bits_deBruijn32tab),("math/bits.deBruijn64tab",Rows.laid_math_bits_deBruijn64tab),("internal/strconv.uint64pow10",Rows.laid_internal_strconv_uint64pow10),("unicode/utf8.acceptRanges",Rows.laid_unicode_utf8_acceptRanges),("strconv.ErrRange",Rows.laid_strconv_ErrRange),("strconv.ErrSyntax",Rows.laid_strconv_ErrSyntax),("unicode/utf8.first",Rows.laid_unicode_utf8_first)] ((L4 (World.doorLaid Tryz.prog 400 os)).forCall (fun _ _=>0) ⟨#[],args,[]⟩).memory:=
 laidMetH_of_parts3 (fuel:=8) (laidMet_of_run' 8 (by kernel_rfl) (by kernel_rfl)) (by kernel_rfl) (by kernel_rfl)
set_option maxRecDepth 100000 in
theorem lifted(os:Os)(started:os.Started)(H:Type)(enc:TypeId×Value->H):
    ReturnsInHanded {} Tryz.checked os 4 .any (fun w args=>(Rows.masterRefusedSpec.pre enc Tryz.prog Tryz.f4 [] false w args∧laidMetH Tryz.prog [("math/bits.deBruijn32tab",Rows.laid_math_bits_deBruijn32tab),("math/bits.deBruijn64tab",Rows.laid_math_bits_deBruijn64tab),("internal/strconv.uint64pow10",Rows.laid_internal_strconv_uint64pow10),("unicode/utf8.acceptRanges",Rows.laid_unicode_utf8_acceptRanges),("strconv.ErrRange",Rows.laid_strconv_ErrRange),("strconv.ErrSyntax",Rows.laid_strconv_ErrSyntax),("unicode/utf8.first",Rows.laid_unicode_utf8_first)] w)∧sizedMet enc Tryz.prog Tryz.f4 (OpenSpec.ofChange Rows.masterRefusedSpec) false w args)
     (Rows.masterRefusedSpec.post enc Tryz.prog Tryz.f4 false true false false):=by
 refine qo (C:= Tryz.checked) (X:=fun w _=>laidMetH Tryz.prog [("math/bits.deBruijn32tab",Rows.laid_math_bits_deBruijn32tab),("math/bits.deBruijn64tab",Rows.laid_math_bits_deBruijn64tab),("internal/strconv.uint64pow10",Rows.laid_internal_strconv_uint64pow10),("unicode/utf8.acceptRanges",Rows.laid_unicode_utf8_acceptRanges),("strconv.ErrRange",Rows.laid_strconv_ErrRange),("strconv.ErrSyntax",Rows.laid_strconv_ErrSyntax),("unicode/utf8.first",Rows.laid_unicode_utf8_first)] w) (fun _ _ _ hh h=>h.of_heap hh) own started (by kernel_rfl) Tryz.func4
  (ChangeSpec.witness_shaped (enc:=enc) (C:= Tryz.checked) (os:=os) (X:=fun w _=>laidMetH Tryz.prog [("math/bits.deBruijn32tab",Rows.laid_math_bits_deBruijn32tab),("math/bits.deBruijn64tab",Rows.laid_math_bits_deBruijn64tab),("internal/strconv.uint64pow10",Rows.laid_internal_strconv_uint64pow10),("unicode/utf8.acceptRanges",Rows.laid_unicode_utf8_acceptRanges),("strconv.ErrRange",Rows.laid_strconv_ErrRange),("strconv.ErrSyntax",Rows.laid_strconv_ErrSyntax),("unicode/utf8.first",Rows.laid_unicode_utf8_first)] w) false (L4 (World.doorLaid Tryz.prog 400 os)) #[.agg #[.slice none 0 0,.int .i64 0,.int .i64 0,.int .i64 0],.slice none 0 0,.string ⟨#[]⟩] 8 rfl (World.shaped_of_RefB (by kernel_rfl) (by kernel_rfl)) (by kernel_rfl) (by kernel_rfl) (by kernel_rfl) (vt os _)) ?_
 intro W base args ds gs before Ei hW hL hsh
 have TY:=gok hL hsh
 have hval:∀(j:Nat) t v, Tryz.f4.params[j]? =some t->args[j]? =some v->Value.okWide Tryz.prog W .any base t v:=Ei
 have hW':=hW
 obtain⟨p,q,Ts,hV,rfl,hfz,hnd⟩:=hW
 have hA:DataW.TrodAll enc Tryz.prog W 0 (fun _=>true) true Tryz.f4.params.toList args.toList ds p:=Ts
 rw[Tryz.params4] at hA hval
 obtain⟨v0,UX,d0,ds0,p0,q0,hargs,rfl,rfl,h0,r0⟩:=trodAll_cons hA
 obtain⟨v1,Sn,d1,ds1,p1,q1,rfl,rfl,rfl,h1,r1⟩:=trodAll_cons r0
 obtain⟨v2,vs2,d2,ds2,p2,q2,rfl,rfl,rfl,h2,r2⟩:=trodAll_cons r1
 obtain⟨rfl,rfl,rfl⟩:=trodAll_nil r2
 obtain rfl:args= #[v0,v1,v2]:=by cases args;simp_all
 obtain⟨rfl,rfl⟩:=trodVars_none hV
 have k0:=h0
 have lt0:∀ x∈p0,x.block<W.heap.size:=by obtain⟨m,hm⟩:=k0;exact DataW.trod_lt m _ _ _ hm
 obtain⟨x0,ty0,VR⟩:=kD TZ (hval 0 26 v0 rfl rfl) h0
 have k1:=h1
 have lt1:∀ x∈p1,x.block<W.heap.size:=by obtain⟨m,hm⟩:=k1;exact DataW.trod_lt m _ _ _ hm
 obtain⟨x1,ty1,V8⟩:=kD arg1 (hval 1 27 v1 rfl rfl) h1
 have k2:=h2
 have lt2:∀ x∈p2,x.block<W.heap.size:=by obtain⟨m,hm⟩:=k2;exact DataW.trod_lt m _ _ _ hm
 obtain⟨x2,ty2,Tv⟩:=kD arg2 (hval 2 9 v2 rfl rfl) h2
 clear Ts Ei
 refine(Pure.K9 (rz ty0 ty1 ty2) TY ⟨v0,_,rfl,VR,v1,_,rfl,V8,v2,_,rfl,Tv,rfl⟩).mono fun e W' ⟨u,he,hr,bel⟩=> ?_
 subst he
 obtain rfl:u= .bool true:=hr
 exact⟨_,rfl,_,_,_,[],_,[],hW',trodAll_mk1 (shut_bool Tryz.underlying4 _),(trodAll_cons_mk (Below.trod laidOut (by kernel_rfl) (Zg (by kernel_rfl)) k0 bel lt0) (trodAll_cons_mk (Below.trod laidOut (by kernel_rfl) (Zg (by kernel_rfl)) k1 bel lt1) (trodAll_cons_mk (Below.trod laidOut (by kernel_rfl) (Zg (by kernel_rfl)) k2 bel lt2) trodAll_mk0))),rfl,bel.frame _,fun h=>by cases h⟩
theorem over:Rows.masterRefusedRow.holds Tryz.pinned (OpenSpec.ofChange Rows.masterRefusedSpec):=
 OpenClaim.holds_of_wide 4 Tryz.f4 rfl rfl rfl rfl rfl rfl rfl ⟨rfl,rfl,rfl,rfl,rfl⟩ rfl rfl rfl rfl rfl (by kernel_rfl) Tryz.func4 (by kernel_rfl)
  (Zg (by kernel_rfl)) (by unfold Func.isWrapper;rw[if_neg (Zk (by kernel_rfl))];exact⟨rfl,rfl⟩)
  (fun os started H enc _=>lifted os started H enc)
theorem proved:Rows.MasterRefusedCardSaid:=
 Claim7.holds_tied_plain_at .later [] [.data,.data,.data,.data,.sentinel,.sentinel,.pinned] true (true, "080aa0021fe5b4c5297f2c7142edd97e64a0b35f98c2743d9585875df2772d1e") true
  over (fun _ h=>by cases h) (by kernel_rfl) (fun _ h=>by cases h) masterRefused_row_tie rfl ⟨rfl,rfl⟩ (by kernel_rfl) rfl
  (fun f fn hf hfn=>by
   obtain rfl:f=4:=Zy ((show Tryz.prog.funcNamed "pencilworks/pencilworkslaw15.MasterRefused" =some 4 by kernel_rfl).symm.trans hf)|>.symm
   obtain rfl:fn= Tryz.f4:=(Zy (Tryz.func4.symm.trans hfn)).symm
   exact⟨by kernel_rfl,fun j t ht=>by
    rw[Tryz.params4] at ht
    rcases j with _ | _ | _ | j
    ·obtain rfl:t=26:=by simpa using ht.symm
     exact(show Tryz.prog.wantsStandIn 26=false by kernel_rfl)
    ·obtain rfl:t=27:=by simpa using ht.symm
     exact(show Tryz.prog.wantsStandIn 27=false by kernel_rfl)
    ·obtain rfl:t=9:=by simpa using ht.symm
     exact(show Tryz.prog.wantsStandIn 9=false by kernel_rfl)
    ·simp at ht⟩)
  (by kernel_rfl)
#print axioms proved
end Go.Proofs.YtibffijhebobmaaGreatDoor.masterRefusedDone
