/-
 The program of chapter 15: marks (laid upon each other, taken away).
 The program of chapter 15: what verbs do (marks).
 The program of chapter 15: all verbs.
 Chapter 15, the program: what a line says, word by word; cells that are written anew.
 The program of chapter 15: what is recovered.
 The program of chapter 15: a line.
-/
import Derived.Test.YtibffijhebobmaaGreatDoorMzTF
import Derived.Test.YtibffijhebobmaaGreatDoorMzTB
import Derived.Test.YtibffijhebobmaaGreatDoorFaTF
import Derived.Test.YtibffijhebobmaaGreatDoorMzTZ
theorem ru{A:Prop}(h:A:=by
 refine af ?_
 refine Kc (aa.kF rfl rfl rfl) ?_
 iterate 7 refine af ?_
 refine Kc (aa.FI rfl rfl rfl an) ?_
 refine af ?_
 refine Kg 14 13 2 rfl (fun h=>(aa.load rfl rfl an rfl)) ?_
 refine Kh 15 13 14 rfl rfl rfl rfl (fun h=>(aa.nilCheck rfl rfl)) ?_
 refine Kh 16 13 15 rfl rfl rfl rfl (fun h=>(aa.fieldAddr rfl rfl an rfl)) ?_
 refine Kh 17 13 16 rfl rfl rfl rfl (fun h=>(Kl (.p (.bool true)))) ?_
 refine Kh 18 13 17 rfl rfl rfl rfl (fun h=>(aa.gr rfl rfl)) ?_
 refine Kc (aa.mG rfl rfl rfl ?_) ?_
 ·first | (intro h;rw[h];rfl) | (intro h;simp_all)
 iterate 2 refine af ?_
 refine Ki (fun hc0=> ?_) fun hc0=> ?_
 ·exact absurd hc0 (by decide)
 ·iterate 3 refine af ?_
  refine Kc (aa.l7 rfl rfl Ro) ?_
  iterate 3 refine af ?_
  refine Ki (fun cR=> ?_) fun cR=> ?_
  ·exfalso
   have h:=Zk cR
   rw[gD] at h
   omega
  ·iterate 5 refine af ?_
   refine Kc (aa.load (v:= .agg (dF 1 2 3 4 5 b)) rfl rfl an (show cN _ _ _ _=_ from congrArg some (xX 1 2 3 4 5 b))) ?_
   refine Kc (uF 4 10 b h1 h2 h3 h4 h5 rfl rfl rfl rfl rfl (Oc rfl rfl rfl rfl rfl) an) ?_
   refine af ?_
   refine Kz (aa.store (H':=LH b p um M) rfl rfl rfl rfl (qo _ _ _ _ _ b) an rfl rfl) ?_
   refine af ?_
   exact⟨KS,rfl⟩):A:=h
theorem qH{A:Prop}(h:A:=by
 refine iF.one rfl rfl ⟨by rw[hd],?_,rfl⟩
 rw[hd,eJ]
 rfl):A:=h
theorem Ba{A:Prop}(h:A:=by
 exact⟨_,rfl,sr (cs:=dF 1 2 3 4 5 b) b p um 8 rfl rfl rfl rfl rfl rfl ⟨_,LX rfl rfl rfl (zy Kn) (zD Kn),rfl,rfl⟩⟩):A:=h
set_option linter.unusedSimpArgs false
set_option linter.unusedVariables false
section
set_option maxRecDepth 100000
set_option maxHeartbeats 4000000
namespace Go.Proofs.YtibffijhebobmaaGreatDoor
open Go.AF
structure RS where
 a:Option Addr
 n:Nat
 c:Nat
def RS.v(s:RS):V:= .raw s.a s.n s.c
structure RB where
 s1:RS
 s2:RS
 s3:RS
 s4:RS
 bad:Int
 good:Int
 s5:RS
def RB.cells(r:RB):List V:=[r.s1.v,r.s2.v,r.s3.v,r.s4.v,.p (.int .i64 r.bad),.p (.int .i64 r.good),r.s5.v]
def nG(l:List RB):List V:=l.flatMap RB.cells
def di(l:List RB):ah:= .row (nG l) 83
theorem rS(l:List RB):(nG l).length=l.length*7:=by
 unfold nG
 induction l with
 | nil=>rfl
 | cons x l ih=>rw[ZH,Zb,ih,Zm];show 7+_=_;omega
theorem ux(σ:Nat->Option Nat)(l:List RB):bA σ (nG l)=nG l:=by
 unfold nG
 induction l with
 | nil=>rfl
 | cons x l ih=>rw[ZH,bF,ih];rfl
theorem gT(σ:Nat->Option Nat)(l:List RB):aE σ (di l)=di l:=by
 unfold di
 show ah.row (bA σ _) _=_
 rw[ux]
def fm(b:bN)(p:Di.bn)(um:V)(M:ah):List ah:=[cH b p um 1 2 3 4 5,dn b.au,cV b.ai,de b.aq,bz b.plan,bz b.bZ,M]
theorem RC{H:List ah}{l:List RB}{r:RB}(h:H[6]? =some (di (l++[r]))):cN H true 7 (.ptr 6 (l.length*7))=some (.agg r.cells):=by
 simp only[cN,h]
 show(if l.length*7+7<=(nG (l++[r])).length then some (fW (((nG (l++[r])).drop (l.length*7)).take 7)) else none)=_
 rw[rS,Zb,Sy,if_pos (by omega)]
 have e0:nG (l++[r])=nG l++r.cells:=by unfold nG;rw[IC];simp
 rw[e0,List.drop_append_of_le_length (ON (rS l).symm),ZbI (ON (rS l))]
 rfl
theorem j5{xs:List PV}{e n:Nat}(h:iX (xs.map .p)=true):Wc (dU (xs.map .p) e n)=true:=by
 cases n with
 | zero=>rfl
 | succ n=>exact h
theorem Oc{H:List ah}{k:Nat}{b:bN}{i1 i2 i3 i4 i5:Nat}(h1:H[i1]? =some (dn b.au))(h2:H[i2]? =some (cV b.ai))(h3:H[i3]? =some (de b.aq))(h4:H[i4]? =some (bz b.plan))(h5:H[i5]? =some (bz b.bZ)):cT (bU H (k+2)) [.agg (dF i1 i2 i3 i4 i5 b)]=some [.agg (JS b)]:=by
 have e:bU H (k+2) (.agg (dF i1 i2 i3 i4 i5 b))=some (.agg (JS b)):=by
  show(cT (bU H (k+1)) (dF i1 i2 i3 i4 i5 b)).map PV.agg=_
  simp only[dF,cT,Qs h1,Px h2,PG h3,JM h4,JM h5,NC]
  rfl
 simp only[cT,e]
theorem uF{N:Nat}{T:Tm}{H:List ah}{o:Oper}(m k:Nat)(b:bN)(h1:b.au.length<=1000)(h2:b.ai.length<=1000)(h3:b.aq.length<=1000)(h4:b.plan.length<=1000)(h5:b.bZ.length<=1000)(hk:H.length=k){f:Operand}{ys:Array Operand}{ts:Array TypeId}{fv:V}{vs all:List V}(ho:o.op= .call {callee:= .value f,args:=ys,argTypes:=ts})(hf:ev T f=some fv)
    (hxs:jT T ys.toList=some vs)(hc:callee vs fv=some (35,all))(hb:cT (bU H m) all=some [.agg (JS b)])(hg:ak Tryz.prog 35=true):aa Tryz.prog N o T H (.agg (dF (k+3) (k+2) (k+4) (k+5) (k+6) b)) (H++[.dead,.dead,cV b.ai,dn b.au,de b.aq,bz b.plan,bz b.bZ]):=by
 have:=aa.Aa (N:=N) (T:=T) (H:=H) m (JV b h1 h2 h3 h4 h5) (by simp only[Np,dF,iX,uK];rfl) (by
  simp only[Qm,List.all_nil,dn,cV,de,bz,j5 (eK (f:=Ck.Sk.cells) (fun _=>rfl) _),j5 (eK (f:=Rx.cx.cells) (fun _=>rfl) _),j5 (eK (f:=Di.aH.cells) (fun _=>rfl) _),j5 (eK (f:=Di.bY) (fun _=>rfl) _)]
  rfl) ho hf hxs hc hb hg
 have e1:bf (Ff H.length) (.agg (dF 3 2 4 5 6 b))= .agg (dF (k+3) (k+2) (k+4) (k+5) (k+6) b):=by
  show V.agg (bA (Ff H.length) (dF 3 2 4 5 6 b))=_
  have up:∀ i n,bf (Ff H.length) (aZ i n)=aZ (k+i) n:=fun i n=>cJ (by unfold Ff;rw[hk])
  simp only[dF,bK,cj,up,ef]
 have e2:([.dead,.dead,cV b.ai,dn b.au,de b.aq,bz b.plan,bz b.bZ]:List ah).map (aE (Ff H.length))=[.dead,.dead,cV b.ai,dn b.au,de b.aq,bz b.plan,bz b.bZ]:=by
  simp only[Zz,zx,fA,dn,cV,de,bz,bE]
 rw[e1,e2] at this
 exact this
theorem ko{n0:Nat}{ms:List Nat}{i1 i2 i3 i4 i5:Nat}{b:bN}(h1:i1<n0)(h2:i2<n0)(h3:i3<n0)(h4:i4<n0)(h5:i5<n0):bA (sg n0 ms) (dF i1 i2 i3 i4 i5 b)=dF i1 i2 i3 i4 i5 b:=by
 simp only[dF,bK,cj,ef,cU h1,cU h2,cU h3,cU h4,cU h5]
theorem D1(b:bN)(p:Di.bn)(l:List RB)(r:RB)(h8:l.length<=8):ax Tryz.prog 106 [.ptr 0 11] (fm b p (.row 6 (l.length+1)) (di (l++[r]))) (fun v H2=>v= .tuple [.agg r.cells,.p (.bool true)]∧H2=[cH b p (.row 6 l.length) 1 2 3 4 5,dn b.au,cV b.ai,de b.aq,bz b.plan,bz b.bZ,di (l++[r]),.cells r.cells 83]):=by
 refine ax.start (N:=28) Tryz.func106 rfl rfl Kn ?_
 iterate 9 refine af ?_
 refine Kc (Kl (.row 6 (l.length+1))) ?_
 iterate 9 refine af ?_
 refine Ki (fun hc0=> ?_) fun hc0=> ?_
 ·exfalso
  have h:=Zk hc0
  omega
 ·iterate 5 refine af ?_
  refine Kc (Kl (.row 6 (l.length+1))) ?_
  refine af ?_
  refine Kc (aa.iI (m:=((l.length:Nat):Int)) rfl rfl rfl ((aK ?_).trans ?_)) ?_
  ·omega
  ·omega
  refine Kc (aa.Dj rfl rfl rfl an WG (by omega)) ?_
  refine Kc (aa.load (v:= .agg r.cells) rfl rfl an (RC rfl)) ?_
  refine Kz (aa.store (H':=[cH b p (.row 6 (l.length+1)) 1 2 3 4 5,dn b.au,cV b.ai,de b.aq,bz b.plan,bz b.bZ,di (l++[r]),.cells r.cells 83]) rfl rfl rfl rfl rfl an rfl rfl) ?_
  iterate 6 refine af ?_
  refine Kc (Kl (.row 6 (l.length+1))) ?_
  refine af ?_
  refine Kc (aa.iI (m:=((l.length:Nat):Int)) rfl rfl rfl ((aK ?_).trans ?_)) ?_
  ·omega
  ·omega
  refine Kc (aa.JH (h:=l.length) rfl rfl rfl an WG (by omega)) ?_
  refine af ?_
  refine Kz (aa.store (H':=[cH b p (.row 6 l.length) 1 2 3 4 5,dn b.au,cV b.ai,de b.aq,bz b.plan,bz b.bZ,di (l++[r]),.cells r.cells 83]) rfl rfl rfl rfl rfl an rfl rfl) ?_
  iterate 3 refine af ?_
  refine Kc (Kl (.agg r.cells)) ?_
  refine Kz (aa.store (H':=[cH b p (.row 6 l.length) 1 2 3 4 5,dn b.au,cV b.ai,de b.aq,bz b.plan,bz b.bZ,di (l++[r]),.cells r.cells 83]) rfl rfl rfl rfl rfl an rfl rfl) ?_
  iterate 3 refine af ?_
  exact⟨.inr rfl,_,en.many (vs:=[.agg r.cells,.p (.bool true)]) rfl ⟨_,_,rfl,⟨_,_,_,rfl,an,rfl⟩,⟨_,_,rfl,rfl,rfl⟩⟩,rfl,rfl⟩
theorem EZ(b:bN)(p:Di.bn)(um:V)(M:ah)(hu:Gd um=some 0):ax Tryz.prog 106 [.ptr 0 11] (fm b p um M) (fun v H2=>v= .p (.tuple [.agg [.nilSlice,.nilSlice,.nilSlice,.nilSlice,.int .i64 0,.int .i64 0,.nilSlice],.bool false])∧H2=[cH b p um 1 2 3 4 5,dn b.au,cV b.ai,de b.aq,bz b.plan,bz b.bZ,M,.cells ([.nilSlice,.nilSlice,.nilSlice,.nilSlice,.int .i64 0,.int .i64 0,.nilSlice].map .p) 83]):=by
 refine ax.start (N:=28) Tryz.func106 rfl rfl Kn ?_
 iterate 9 refine af ?_
 refine Kc (Kl (um)) ?_
 refine Kc (aa.bq rfl rfl an hu) ?_
 iterate 8 refine af ?_
 refine Ki (fun hc0=> ?_) fun hc0=> ?_
 ·iterate 3 refine af ?_
  refine Kz (aa.store (H':=[cH b p um 1 2 3 4 5,dn b.au,cV b.ai,de b.aq,bz b.plan,bz b.bZ,M,.cells ([.nilSlice,.nilSlice,.nilSlice,.nilSlice,.int .i64 0,.int .i64 0,.nilSlice].map .p) 83]) rfl rfl rfl rfl rfl an rfl rfl) ?_
  iterate 3 refine af ?_
  exact⟨.inr rfl,_,en.many (vs:=[.p (.agg [.nilSlice,.nilSlice,.nilSlice,.nilSlice,.int .i64 0,.int .i64 0,.nilSlice]),.p (.bool false)]) rfl ⟨_,_,rfl,⟨_,_,_,rfl,an,rfl⟩,⟨_,_,rfl,rfl,rfl⟩⟩,rfl,rfl⟩
 ·exfalso
  have h:=Zl hc0
  exact h rfl
theorem Gu{b:bN}{p:Di.bn}{n0 i1 i2 i3 i4 i5:Nat}{um:V}{ms:List Nat}(hu:bf (sg n0 ms) um=um)(h1:i1<n0)(h2:i2<n0)(h3:i3<n0)(h4:i4<n0)(h5:i5<n0):aE (sg n0 ms) (cH b p um i1 i2 i3 i4 i5)=cH b p um i1 i2 i3 i4 i5:=by
 unfold cH
 show ah.cells (bA _ (_++_++_)) _=_
 rw[bF,bF,ko h1 h2 h3 h4 h5,aP]
 simp only[bK,cj,hu,ef]
theorem KY(b:bN)(p:Di.bn):([cH b p .z0 1 2 3 4 5,dn b.au,cV b.ai,de b.aq,bz b.plan,bz b.bZ,.dead,.dead,.dead,cV b.ai,dn b.au,de b.aq,bz b.plan,bz b.bZ]++[ah.cells (dF 10 9 11 12 13 b) 83]).map (aE (sg 15 []))=[cH b p .z0 1 2 3 4 5,dn b.au,cV b.ai,de b.aq,bz b.plan,bz b.bZ,.dead,.dead,.dead,cV b.ai,dn b.au,de b.aq,bz b.plan,bz b.bZ]++[ah.cells (dF 10 9 11 12 13 b) 83]:=by
 simp only[ZA,Zz,zx,dn,cV,de,bz,bE,fA,bS,Gu (n0:=15) (um:= .z0) rfl (show 1<15 by decide) (show 2<15 by decide) (show 3<15 by decide) (show 4<15 by decide) (show 5<15 by decide),ko (n0:=15) (show 10<15 by decide) (show 9<15 by decide) (show 11<15 by decide) (show 12<15 by decide) (show 13<15 by decide)]
theorem L6(b:bN)(p:Di.bn)(l:List RB):([cH b p (.row 6 l.length) 1 2 3 4 5,dn b.au,cV b.ai,de b.aq,bz b.plan,bz b.bZ,di l,.dead,.dead,cV b.ai,dn b.au,de b.aq,bz b.plan,bz b.bZ]++[ah.cells (dF 10 9 11 12 13 b) 83]).map (aE (sg 15 []))=[cH b p (.row 6 l.length) 1 2 3 4 5,dn b.au,cV b.ai,de b.aq,bz b.plan,bz b.bZ,di l,.dead,.dead,cV b.ai,dn b.au,de b.aq,bz b.plan,bz b.bZ]++[ah.cells (dF 10 9 11 12 13 b) 83]:=by
 simp only[ZA,Zz,zx,dn,cV,de,bz,bE,fA,gT,bS,Gu (n0:=15) (um:=(.row 6 l.length)) rfl (show 1<15 by decide) (show 2<15 by decide) (show 3<15 by decide) (show 4<15 by decide) (show 5<15 by decide),ko (n0:=15) (show 10<15 by decide) (show 9<15 by decide) (show 11<15 by decide) (show 12<15 by decide) (show 13<15 by decide)]
theorem UO(b:bN)(p:Di.bn):ax Tryz.prog 104 [.ptr 0 11,.agg (dF 10 9 11 12 13 b)] [cH b p .z0 1 2 3 4 5,dn b.au,cV b.ai,de b.aq,bz b.plan,bz b.bZ,.dead,.dead,.dead,cV b.ai,dn b.au,de b.aq,bz b.plan,bz b.bZ] (fun v H2=>v= .p (.tuple [])∧H2=[cH b p (.row 16 1) 1 2 3 4 5,dn b.au,cV b.ai,de b.aq,bz b.plan,bz b.bZ,.dead,.dead,.dead,cV b.ai,dn b.au,de b.aq,bz b.plan,bz b.bZ,.cells (dF 10 9 11 12 13 b) 83,.row (dF 10 9 11 12 13 b) 83,.row (dF 10 9 11 12 13 b) 83]):=by
 refine ax.start (N:=12) Tryz.func104 rfl rfl Kn ?_
 iterate 2 refine af ?_
 refine Kc (aa.kF rfl rfl rfl) ?_
 refine af ?_
 refine aF.tW (H':=[cH b p .z0 1 2 3 4 5,dn b.au,cV b.ai,de b.aq,bz b.plan,bz b.bZ,.dead,.dead,.dead,cV b.ai,dn b.au,de b.aq,bz b.plan,bz b.bZ]++[.cells (dF 10 9 11 12 13 b) 83]) rfl ?_
 refine aF.bQ 7 2 [15,16] [([],false),([],false),([],false),([],false),([],false),([15],true),([16,15],true)] mixed (by kernel_rfl) (by decide) (by kernel_rfl) rfl (KY b p) ?_
 iterate 2 refine af ?_
 refine br.cons 6 rfl rfl rfl (fun _=>(aa.nilCheck rfl rfl)) rfl ?_
 refine br.cons 7 rfl rfl rfl (fun _=>(Kl (.z0))) rfl ?_
 refine br.cons 8 rfl rfl rfl (fun _=>(aa.load (v:= .agg (dF 10 9 11 12 13 b)) rfl rfl an (show cN _ _ _ _=_ from congrArg some (xX 10 9 11 12 13 b)))) (by show V.agg (bA _ _)=_;rw[ko Kn Kn Kn Kn Kn]) ?_
 refine br.lay (blk:= .row (dF 10 9 11 12 13 b) 83) (v0:= .row 17 _) 9 15 rfl rfl rfl rfl rfl rfl rfl rfl (fun _=>(aa.qB rfl an (by decide) rfl rfl)) rfl rfl (by show ah.row (bA _ _) _=_;rw[ko Kn Kn Kn Kn Kn]) ?_
 refine br.lay (blk:= .row (dF 10 9 11 12 13 b) 83) (v0:= .row 17 1) 10 16 rfl rfl rfl rfl rfl rfl rfl rfl (fun _=>(aa.zz (n:=1) (ys:=(dF 10 9 11 12 13 b)) rfl rfl rfl an an (Ef rfl rfl) (by decide) (qo 10 9 11 12 13 b) an (by decide) (by decide))) rfl rfl (by show ah.row (bA _ _) _=_;rw[ko Kn Kn Kn Kn Kn]) ?_
 refine br.nil ?_
 refine af ?_
 refine Kz (aa.store (H':=[cH b p (.row 16 1) 1 2 3 4 5,dn b.au,cV b.ai,de b.aq,bz b.plan,bz b.bZ,.dead,.dead,.dead,cV b.ai,dn b.au,de b.aq,bz b.plan,bz b.bZ,.cells (dF 10 9 11 12 13 b) 83,.row (dF 10 9 11 12 13 b) 83,.row (dF 10 9 11 12 13 b) 83]) rfl rfl rfl rfl rfl an rfl rfl) ?_
 refine af ?_
 exact qZ
theorem Ng(b:bN)(p:Di.bn)(l:List RB)(hl:l.length<=8):ax Tryz.prog 104 [.ptr 0 11,.agg (dF 10 9 11 12 13 b)] [cH b p (.row 6 l.length) 1 2 3 4 5,dn b.au,cV b.ai,de b.aq,bz b.plan,bz b.bZ,di l,.dead,.dead,cV b.ai,dn b.au,de b.aq,bz b.plan,bz b.bZ] (fun v H2=>v= .p (.tuple [])∧H2=[cH b p (.row 16 (l.length+1)) 1 2 3 4 5,dn b.au,cV b.ai,de b.aq,bz b.plan,bz b.bZ,.dead,.dead,.dead,cV b.ai,dn b.au,de b.aq,bz b.plan,bz b.bZ,.cells (dF 10 9 11 12 13 b) 83,.row (dF 10 9 11 12 13 b) 83,.row (nG l++dF 10 9 11 12 13 b) 83]):=by
 refine ax.start (N:=12) Tryz.func104 rfl rfl Kn ?_
 iterate 2 refine af ?_
 refine Kc (aa.kF rfl rfl rfl) ?_
 refine af ?_
 refine aF.tW (H':=[cH b p (.row 6 l.length) 1 2 3 4 5,dn b.au,cV b.ai,de b.aq,bz b.plan,bz b.bZ,di l,.dead,.dead,cV b.ai,dn b.au,de b.aq,bz b.plan,bz b.bZ]++[.cells (dF 10 9 11 12 13 b) 83]) rfl ?_
 refine aF.bQ 7 2 [6,15,16] [([],false),([],false),([],false),([],false),([],false),([15],true),([16,6,15],true)] mixed (by kernel_rfl) (by decide) (by kernel_rfl) rfl (L6 b p l) ?_
 iterate 2 refine af ?_
 refine br.cons 6 rfl rfl rfl (fun _=>(aa.nilCheck rfl rfl)) rfl ?_
 refine br.cons 7 rfl rfl rfl (fun _=>(Kl ((.row 6 l.length)))) rfl ?_
 refine br.cons 8 rfl rfl rfl (fun _=>(aa.load (v:= .agg (dF 10 9 11 12 13 b)) rfl rfl an (show cN _ _ _ _=_ from congrArg some (xX 10 9 11 12 13 b)))) (by show V.agg (bA _ _)=_;rw[ko Kn Kn Kn Kn Kn]) ?_
 refine br.lay (blk:= .row (dF 10 9 11 12 13 b) 83) (v0:= .row 17 _) 9 15 rfl rfl rfl rfl rfl rfl rfl rfl (fun _=>(aa.qB rfl an (by decide) rfl rfl)) rfl rfl (by show ah.row (bA _ _) _=_;rw[ko Kn Kn Kn Kn Kn]) ?_
 refine br.JX (blk:= .row (nG l++dF 10 9 11 12 13 b) 83) (v0:= .row 17 _) 10 16 6 rfl rfl rfl rfl rfl rfl rfl rfl rfl rfl (fun _=>(aa.kN (i:=6) (len:=l.length) (cs:=nG l) (ys:=(dF 10 9 11 12 13 b)) (n:=1) rfl rfl rfl an an rfl (rS l) (Ef rfl rfl) (qo 10 9 11 12 13 b) an (by decide) (by show(2*(l.length+1)+192)*136<=281474976710656;omega))) rfl rfl (by show ah.row (bA _ (_++_)) _=_;rw[bF,ux,ko Kn Kn Kn Kn Kn]) ?_
 refine br.nil ?_
 refine af ?_
 refine Kz (aa.store (H':=[cH b p (.row 16 (l.length+1)) 1 2 3 4 5,dn b.au,cV b.ai,de b.aq,bz b.plan,bz b.bZ,.dead,.dead,.dead,cV b.ai,dn b.au,de b.aq,bz b.plan,bz b.bZ,.cells (dF 10 9 11 12 13 b) 83,.row (dF 10 9 11 12 13 b) 83,.row (nG l++dF 10 9 11 12 13 b) 83]) rfl rfl rfl rfl rfl an rfl rfl) ?_
 refine af ?_
 exact qZ
theorem TM(F:cW)(n:List Int)(hF:mJ F)(hl:0=F.marks.length):av Tryz.prog 103 [.ptr 0 0,.p (Di.bw n)] (fm F.b F.aV .z0 .dead) (fun v H2=>(bH F .mark n).2.2=0∧v= .p (.str (sB (bH F .mark n).2.1))∧H2=[cH F.b F.aV (.row 16 1) 1 2 3 4 5,dn F.b.au,cV F.b.ai,de F.b.aq,bz F.b.plan,bz F.b.bZ,.dead,.dead,.dead,cV F.b.ai,dn F.b.au,de F.b.aq,bz F.b.plan,bz F.b.bZ,.cells (dF 10 9 11 12 13 F.b) 83,.row (dF 10 9 11 12 13 F.b) 83,.row (dF 10 9 11 12 13 F.b) 83]) (fun y H2=>(bH F .mark n).2.2≠0∧y= .iface 94 (.agg [.int .i64 (bH F .mark n).2.2])∧H2=fm F.b F.aV .z0 .dead):=by
 have jM:=Rx.dc hF.b.cd
 have ud:=hF.b.sk
 have sO:=hF.b.dr
 have hck:=hF.b.ck
 obtain⟨u0,OV⟩:=hF.b.Kv
 have PM:=iP OV
 have Pb:=hF.mm
 refine av.start (N:=30) Tryz.func103 rfl rfl Kn ?_
 iterate 9 refine af ?_
 refine Kc (Kl (.z0)) ?_
 iterate 2 refine af ?_
 refine aj.cy 11 (b:=_) (dD _ 9) (dG _ 9) rfl rfl rfl rfl rfl rfl rfl an (fun hb=> ?_) (fun hb=> ?_)
 ·exact absurd hb (by decide)
 iterate 2 refine af ?_
 refine aF.j9 8 ([cH F.b F.aV .z0 1 2 3 4 5,dn F.b.au,cV F.b.ai,de F.b.aq,bz F.b.plan,bz F.b.bZ,.dead,.dead,.dead,cV F.b.ai,dn F.b.au,de F.b.aq,bz F.b.plan,bz F.b.bZ]) mixed (by kernel_rfl) (by decide) ?_
 refine aJ.cons 12 rfl rfl rfl (aa.move rfl rfl) (aa.move rfl rfl) ?_
 refine aJ.cons 13 rfl rfl rfl (aa.nilCheck rfl rfl) (aa.nilCheck rfl rfl) ?_
 refine aJ.cons 14 rfl rfl rfl (aa.fieldAddr rfl rfl an rfl) (aa.fieldAddr rfl rfl an rfl) ?_
 refine aJ.cons 15 rfl rfl rfl (aa.move rfl rfl) (aa.move rfl rfl) ?_
 refine aJ.cons 16 rfl rfl rfl (aa.nilCheck rfl rfl) (aa.nilCheck rfl rfl) ?_
 refine aJ.cons 17 rfl rfl rfl (aa.fieldAddr rfl rfl an rfl) (aa.fieldAddr rfl rfl an rfl) ?_
 refine aJ.cons 18 rfl rfl rfl (aa.load (v:= .agg (dF 1 2 3 4 5 F.b)) rfl rfl an (show cN _ _ _ _=_ from congrArg some (xX 1 2 3 4 5 F.b))) (aa.load (v:= .agg (dF 1 2 3 4 5 F.b)) rfl rfl an (show cN _ _ _ _=_ from congrArg some (xX 1 2 3 4 5 F.b))) ?_
 refine aJ.lay 19 rfl rfl rfl (uF 4 7 F.b (by omega) (by omega) (by omega) (by omega) (by omega) rfl rfl rfl rfl rfl (Oc rfl rfl rfl rfl rfl) an) ?_
 refine aJ.nil ?_
 refine Kc (aa.gB rfl rfl rfl rfl an (UO F.b F.aV)) ?_
 iterate 3 refine af ?_
 refine Kc (aa.aG rfl rfl lN) ?_
 iterate 3 refine af ?_
 refine Kc (Kl (.row 16 1)) ?_
 refine af ?_
 refine Kc (aa.aG rfl rfl kn) ?_
 refine Kc (aa.aS rfl an (by decide) rfl rfl rfl) ?_
 refine Kc (Kp (dy [.str (Vb.t .mark),.num ((1:Nat):Int)] Kn Kn (fD (by decide) (eG (by omega) gf)))) ?_
 iterate 3 refine af ?_
 have hd:bH F .mark n=({F with marks:=F.marks++[F.b]},aY (Vb.t .mark) [((1:Nat):Int)],0):=by unfold bH;dsimp only;rw[if_neg (by omega),<- hl];rfl
 exact qH
theorem T8(F:cW)(n:List Int)(l:List RB)(hF:mJ F)(hl:l.length=F.marks.length):av Tryz.prog 103 [.ptr 0 0,.p (Di.bw n)] (fm F.b F.aV (.row 6 l.length) (di l)) (fun v H2=>(bH F .mark n).2.2=0∧v= .p (.str (sB (bH F .mark n).2.1))∧H2=[cH F.b F.aV (.row 16 (l.length+1)) 1 2 3 4 5,dn F.b.au,cV F.b.ai,de F.b.aq,bz F.b.plan,bz F.b.bZ,.dead,.dead,.dead,cV F.b.ai,dn F.b.au,de F.b.aq,bz F.b.plan,bz F.b.bZ,.cells (dF 10 9 11 12 13 F.b) 83,.row (dF 10 9 11 12 13 F.b) 83,.row (nG l++dF 10 9 11 12 13 F.b) 83]) (fun y H2=>(bH F .mark n).2.2≠0∧y= .iface 94 (.agg [.int .i64 (bH F .mark n).2.2])∧H2=fm F.b F.aV (.row 6 l.length) (di l)):=by
 have jM:=Rx.dc hF.b.cd
 have ud:=hF.b.sk
 have sO:=hF.b.dr
 have hck:=hF.b.ck
 obtain⟨u0,OV⟩:=hF.b.Kv
 have PM:=iP OV
 have Pb:=hF.mm
 refine av.start (N:=30) Tryz.func103 rfl rfl Kn ?_
 iterate 9 refine af ?_
 refine Kc (Kl ((.row 6 l.length))) ?_
 iterate 2 refine af ?_
 refine aj.cy 11 (b:=_) (dD _ 9) (dG _ 9) rfl rfl rfl rfl rfl rfl rfl an (fun hb=> ?_) (fun hb=> ?_)
 ·have h9:(bH F .mark n).2.2=9:=by unfold bH;dsimp only;rw[if_pos (by have h:=Zl hb;omega)]
  exact⟨_,rfl,by rw[h9];decide,by rw[h9],rfl⟩
 have h8:l.length<8:=by have h:=Zk hb;omega
 iterate 2 refine af ?_
 refine aF.j9 8 ([cH F.b F.aV (.row 6 l.length) 1 2 3 4 5,dn F.b.au,cV F.b.ai,de F.b.aq,bz F.b.plan,bz F.b.bZ,(di l),.dead,.dead,cV F.b.ai,dn F.b.au,de F.b.aq,bz F.b.plan,bz F.b.bZ]) mixed (by kernel_rfl) (by decide) ?_
 refine aJ.cons 12 rfl rfl rfl (aa.move rfl rfl) (aa.move rfl rfl) ?_
 refine aJ.cons 13 rfl rfl rfl (aa.nilCheck rfl rfl) (aa.nilCheck rfl rfl) ?_
 refine aJ.cons 14 rfl rfl rfl (aa.fieldAddr rfl rfl an rfl) (aa.fieldAddr rfl rfl an rfl) ?_
 refine aJ.cons 15 rfl rfl rfl (aa.move rfl rfl) (aa.move rfl rfl) ?_
 refine aJ.cons 16 rfl rfl rfl (aa.nilCheck rfl rfl) (aa.nilCheck rfl rfl) ?_
 refine aJ.cons 17 rfl rfl rfl (aa.fieldAddr rfl rfl an rfl) (aa.fieldAddr rfl rfl an rfl) ?_
 refine aJ.cons 18 rfl rfl rfl (aa.load (v:= .agg (dF 1 2 3 4 5 F.b)) rfl rfl an (show cN _ _ _ _=_ from congrArg some (xX 1 2 3 4 5 F.b))) (aa.load (v:= .agg (dF 1 2 3 4 5 F.b)) rfl rfl an (show cN _ _ _ _=_ from congrArg some (xX 1 2 3 4 5 F.b))) ?_
 refine aJ.lay 19 rfl rfl rfl (uF 4 7 F.b (by omega) (by omega) (by omega) (by omega) (by omega) rfl rfl rfl rfl rfl (Oc rfl rfl rfl rfl rfl) an) ?_
 refine aJ.nil ?_
 refine Kc (aa.gB rfl rfl rfl rfl an (Ng F.b F.aV l (by omega))) ?_
 iterate 3 refine af ?_
 refine Kc (aa.aG rfl rfl lN) ?_
 iterate 3 refine af ?_
 refine Kc (Kl (.row 16 (l.length+1))) ?_
 refine af ?_
 refine Kc (aa.aG rfl rfl kn) ?_
 refine Kc (aa.aS rfl an (by decide) rfl rfl rfl) ?_
 refine Kc (Kp (dy [.str (Vb.t .mark),.num ((l.length+1:Nat):Int)] Kn Kn (fD (by decide) (eG (by omega) gf)))) ?_
 iterate 3 refine af ?_
 have hd:bH F .mark n=({F with marks:=F.marks++[F.b]},aY (Vb.t .mark) [((l.length+1:Nat):Int)],0):=by unfold bH;dsimp only;rw[if_neg (by omega),<- hl];rfl
 exact qH
theorem JJ(F:cW)(n:List Int)(l:List RB)(r:RB)(fs:List bN)(x:bN)(hm:F.marks=fs++[x])(hl:l.length=fs.length)(h8:l.length<=8):av Tryz.prog 105 [.ptr 0 0,.p (Di.bw n)] (fm F.b F.aV (.row 6 (l.length+1)) (di (l++[r]))) (fun v H2=>(bH F .back n).2.2=0∧v= .p (.str (sB (bH F .back n).2.1))∧H2=[.cells (r.cells++F.aV.cells.map .p++[.row 6 l.length,.p (.bool true)]) 87,dn F.b.au,cV F.b.ai,de F.b.aq,bz F.b.plan,bz F.b.bZ,di (l++[r]),.cells r.cells 83,.cells r.cells 83]) (fun _ _=>False):=by
 refine av.start (N:=29) Tryz.func105 rfl rfl Kn ?_
 iterate 9 refine af ?_
 refine Kc (aa.gB rfl rfl rfl rfl an (D1 F.b F.aV l r h8)) ?_
 iterate 4 refine af ?_
 refine Kz (aa.store (H':=[cH F.b F.aV (.row 6 l.length) 1 2 3 4 5,dn F.b.au,cV F.b.ai,de F.b.aq,bz F.b.plan,bz F.b.bZ,di (l++[r]),.cells r.cells 83,.cells r.cells 83]) rfl rfl rfl rfl rfl an rfl rfl) ?_
 iterate 5 refine af ?_
 refine Kc (Kp (wh 4)) ?_
 iterate 4 refine af ?_
 refine Kc (Kl (.agg r.cells)) ?_
 iterate 2 refine af ?_
 refine Kz (aa.store (H':=[.cells (r.cells++F.aV.cells.map .p++[.row 6 l.length,.p (.bool true)]) 87,dn F.b.au,cV F.b.ai,de F.b.aq,bz F.b.plan,bz F.b.bZ,di (l++[r]),.cells r.cells 83,.cells r.cells 83]) rfl rfl rfl rfl rfl an rfl rfl) ?_
 iterate 3 refine af ?_
 refine Kc (aa.aG rfl rfl lN) ?_
 iterate 3 refine af ?_
 refine Kc (Kl (.row 6 l.length)) ?_
 refine af ?_
 refine Kc (aa.aG rfl rfl kn) ?_
 refine Kc (aa.aS rfl an (by decide) rfl rfl rfl) ?_
 refine Kc (Kp (dy [.str (Vb.t .back),.num ((l.length:Nat):Int)] Kn Kn (fD (by decide) (eG (by omega) gf)))) ?_
 iterate 3 refine af ?_
 have hd:bH F .back n=({F with b:=x,marks:=fs},aY (Vb.t .back) [((l.length:Nat):Int)],0):=by unfold bH;rw[hm];simp[hl]
 exact qH
theorem JG(F:cW)(n:List Int)(um:V)(M:ah)(hm:F.marks=[])(hu:Gd um=some 0):av Tryz.prog 105 [.ptr 0 0,.p (Di.bw n)] (fm F.b F.aV um M) (fun _ _=>False) (fun y H2=>(bH F .back n).2.2≠0∧y= .iface 94 (.agg [.int .i64 (bH F .back n).2.2])∧H2=[cH F.b F.aV um 1 2 3 4 5,dn F.b.au,cV F.b.ai,de F.b.aq,bz F.b.plan,bz F.b.bZ,M,.cells ([.nilSlice,.nilSlice,.nilSlice,.nilSlice,.int .i64 0,.int .i64 0,.nilSlice].map .p) 83,.cells ([.nilSlice,.nilSlice,.nilSlice,.nilSlice,.int .i64 0,.int .i64 0,.nilSlice].map .p) 83]):=by
 refine av.start (N:=29) Tryz.func105 rfl rfl Kn ?_
 iterate 9 refine af ?_
 refine Kc (aa.gB rfl rfl rfl rfl an (EZ F.b F.aV um M hu)) ?_
 iterate 4 refine af ?_
 refine Kz (aa.store (H':=[cH F.b F.aV um 1 2 3 4 5,dn F.b.au,cV F.b.ai,de F.b.aq,bz F.b.plan,bz F.b.bZ,M,.cells ([.nilSlice,.nilSlice,.nilSlice,.nilSlice,.int .i64 0,.int .i64 0,.nilSlice].map .p) 83,.cells ([.nilSlice,.nilSlice,.nilSlice,.nilSlice,.int .i64 0,.int .i64 0,.nilSlice].map .p) 83]) rfl rfl rfl rfl rfl an rfl rfl) ?_
 iterate 5 refine af ?_
 refine aj.cy 15 (b:=false) (dD false 4) (dG false 4) rfl rfl rfl rfl rfl rfl rfl an (fun hb=> ?_) (fun hb=> ?_)
 ·have h4:(bH F .back n).2.2=4:=by unfold bH;rw[hm];rfl
  exact⟨_,rfl,by rw[h4];decide,by rw[h4],rfl⟩
 cases hb
theorem IS(F:cW)(n:List Int)(l:List RB)(r:RB)(fs:List bN)(x:bN)(hm:F.marks=fs++[x])(hl:l.length=fs.length)(h8:l.length<=8):av Tryz.prog 107 [.ptr 0 0,.p (Di.bw n)] (fm F.b F.aV (.row 6 (l.length+1)) (di (l++[r]))) (fun v H2=>(bH F .keep n).2.2=0∧v= .p (.str (sB (bH F .keep n).2.1))∧H2=[cH F.b F.aV (.row 6 l.length) 1 2 3 4 5,dn F.b.au,cV F.b.ai,de F.b.aq,bz F.b.plan,bz F.b.bZ,di (l++[r]),.cells r.cells 83,.cells r.cells 83]) (fun _ _=>False):=by
 refine av.start (N:=25) Tryz.func107 rfl rfl Kn ?_
 iterate 9 refine af ?_
 refine Kc (aa.gB rfl rfl rfl rfl an (D1 F.b F.aV l r h8)) ?_
 iterate 4 refine af ?_
 refine Kz (aa.store (H':=[cH F.b F.aV (.row 6 l.length) 1 2 3 4 5,dn F.b.au,cV F.b.ai,de F.b.aq,bz F.b.plan,bz F.b.bZ,di (l++[r]),.cells r.cells 83,.cells r.cells 83]) rfl rfl rfl rfl rfl an rfl rfl) ?_
 iterate 5 refine af ?_
 refine Kc (Kp (wh 4)) ?_
 iterate 3 refine af ?_
 refine Kc (aa.aG rfl rfl lN) ?_
 iterate 3 refine af ?_
 refine Kc (Kl (.row 6 l.length)) ?_
 refine af ?_
 refine Kc (aa.aG rfl rfl kn) ?_
 refine Kc (aa.aS rfl an (by decide) rfl rfl rfl) ?_
 refine Kc (Kp (dy [.str (Vb.t .keep),.num ((l.length:Nat):Int)] Kn Kn (fD (by decide) (eG (by omega) gf)))) ?_
 iterate 3 refine af ?_
 have hd:bH F .keep n=({F with marks:=fs},aY (Vb.t .keep) [((l.length:Nat):Int)],0):=by unfold bH;rw[hm];simp[hl]
 exact qH
theorem IX(F:cW)(n:List Int)(um:V)(M:ah)(hm:F.marks=[])(hu:Gd um=some 0):av Tryz.prog 107 [.ptr 0 0,.p (Di.bw n)] (fm F.b F.aV um M) (fun _ _=>False) (fun y H2=>(bH F .keep n).2.2≠0∧y= .iface 94 (.agg [.int .i64 (bH F .keep n).2.2])∧H2=[cH F.b F.aV um 1 2 3 4 5,dn F.b.au,cV F.b.ai,de F.b.aq,bz F.b.plan,bz F.b.bZ,M,.cells ([.nilSlice,.nilSlice,.nilSlice,.nilSlice,.int .i64 0,.int .i64 0,.nilSlice].map .p) 83,.cells ([.nilSlice,.nilSlice,.nilSlice,.nilSlice,.int .i64 0,.int .i64 0,.nilSlice].map .p) 83]):=by
 refine av.start (N:=25) Tryz.func107 rfl rfl Kn ?_
 iterate 9 refine af ?_
 refine Kc (aa.gB rfl rfl rfl rfl an (EZ F.b F.aV um M hu)) ?_
 iterate 4 refine af ?_
 refine Kz (aa.store (H':=[cH F.b F.aV um 1 2 3 4 5,dn F.b.au,cV F.b.ai,de F.b.aq,bz F.b.plan,bz F.b.bZ,M,.cells ([.nilSlice,.nilSlice,.nilSlice,.nilSlice,.int .i64 0,.int .i64 0,.nilSlice].map .p) 83,.cells ([.nilSlice,.nilSlice,.nilSlice,.nilSlice,.int .i64 0,.int .i64 0,.nilSlice].map .p) 83]) rfl rfl rfl rfl rfl an rfl rfl) ?_
 iterate 5 refine af ?_
 refine aj.cy 15 (b:=false) (dD false 4) (dG false 4) rfl rfl rfl rfl rfl rfl rfl an (fun hb=> ?_) (fun hb=> ?_)
 ·have h4:(bH F .keep n).2.2=4:=by unfold bH;rw[hm];rfl
  exact⟨_,rfl,by rw[h4];decide,by rw[h4],rfl⟩
 cases hb
def kE(x:Int×FuncId):PV:= .agg [.int .i64 x.1,.func (.func x.2) [] []]
def kM:Vb->FuncId
 | .nN=>85
 | .slat=>86
 | .lead=>88
 | .pencil=>89
 | .bad=>90
 | .good=>92
 | .blame=>93
 | .call=>97
 | .from_=>99
 | .wear=>101
 | .mark=>103
 | .back=>105
 | .keep=>107
def nJ:List (ByteArray×(Int×FuncId)):=(aU (sB [107,101,101,112]) ((0:Int),(107:FuncId)) (aU (sB [98,97,99,107]) ((0:Int),(105:FuncId)) (aU (sB [109,97,114,107]) ((0:Int),(103:FuncId)) (aU (sB [119,101,97,114]) ((1:Int),(101:FuncId)) (aU (sB [102,114,111,109]) ((1:Int),(99:FuncId)) (aU (sB [99,97,108,108]) ((0:Int),(97:FuncId)) (aU (sB [98,108,97,109,101]) ((0:Int),(93:FuncId)) (aU (sB [103,111,111,100]) ((1:Int),(92:FuncId)) (aU (sB [98,97,100]) ((1:Int),(90:FuncId)) (aU (sB [112,101,110,99,105,108]) ((3:Int),(89:FuncId)) (aU (sB [108,101,97,100]) ((8:Int),(88:FuncId)) (aU (sB [115,108,97,116]) ((0:Int),(86:FuncId)) (aU (sB [115,97,99,107]) ((6:Int),(85:FuncId)) [])))))))))))))
theorem YP{a b:Bs}:sB a=sB b↔a=b:=⟨fun h=>by rw[<- ji a,h,ji],fun h=>by rw[h]⟩
theorem Kb(s:Bs):bM (sB s) nJ=(ju s).map fun v=>((v.many:Int),kM v):=by
 unfold nJ
 simp only[gH,YP]
 cases h:ju s with
 | some v=>
  have e:=yt h
  subst e
  cases v <;> rfl
 | none=>
  have hn:=JF h
  simp only[if_neg (show ¬ s=[115,97,99,107] from fun e=>hn .nN e.symm),if_neg (show ¬ s=[115,108,97,116] from fun e=>hn .slat e.symm),if_neg (show ¬ s=[108,101,97,100] from fun e=>hn .lead e.symm),if_neg (show ¬ s=[112,101,110,99,105,108] from fun e=>hn .pencil e.symm),if_neg (show ¬ s=[98,97,100] from fun e=>hn .bad e.symm),if_neg (show ¬ s=[103,111,111,100] from fun e=>hn .good e.symm),if_neg (show ¬ s=[98,108,97,109,101] from fun e=>hn .blame e.symm),if_neg (show ¬ s=[99,97,108,108] from fun e=>hn .call e.symm),if_neg (show ¬ s=[102,114,111,109] from fun e=>hn .from_ e.symm),if_neg (show ¬ s=[119,101,97,114] from fun e=>hn .wear e.symm),if_neg (show ¬ s=[109,97,114,107] from fun e=>hn .mark e.symm),if_neg (show ¬ s=[98,97,99,107] from fun e=>hn .back e.symm),if_neg (show ¬ s=[107,101,101,112] from fun e=>hn .keep e.symm)]
  rfl
theorem Sn{N:Nat}{T:Tm}{H:List ah}{o:Oper}(s:Bs){x y:Operand}{t:TypeId}{z:PV}(ho:o.op= .lookup t x y true)(hx:ev T x=some (.p (lJ PV.str kE nJ)))(hy:ev T y=some (.p (.str (sB s))))(ht:oX Tryz.prog t=some (.string,z)):aa Tryz.prog N o T H (jP [(((ju s).map fun v=>V.p (kE ((v.many:Int),kM v))).getD (.p z)),.p (.bool (ju s).isSome)]) H:=by
 have h:=aa.En (N:=N) (H:=H) dJ.str (gp:=kE) (ms:=nJ) (n:=sB s) (ok:=true) ho hx hy ht
 rw[Kb s] at h
 unfold x5 at h
 rw[if_pos rfl,Option.map_map,Option.isSome_map] at h
 exact h
theorem qX:Pure Tryz.prog 39 [] (lJ PV.str kE nJ):=by
 refine Kf (N:=16) Tryz.func39 ?_
 iterate 6 refine af ?_
 refine Kc (aa.makeMap (enc:=PV.str) (g:=fun x=>V.p (kE x)) rfl) ?_
 refine af ?_
 refine Kz (aa.mapUpdate (enc:=PV.str) (g:=fun x=>V.p (kE x)) (ms:=[]) (n:=sB [115,97,99,107]) (c:=((6:Int),(85:FuncId))) dJ.str (.inr rfl) rfl rfl rfl rfl iR) ?_
 refine af ?_
 refine Kz (aa.mapUpdate (enc:=PV.str) (g:=fun x=>V.p (kE x)) (ms:=(aU (sB [115,97,99,107]) ((6:Int),(85:FuncId)) [])) (n:=sB [115,108,97,116]) (c:=((0:Int),(86:FuncId))) dJ.str (.inr rfl) rfl rfl rfl rfl iR) ?_
 refine af ?_
 refine Kz (aa.mapUpdate (enc:=PV.str) (g:=fun x=>V.p (kE x)) (ms:=(aU (sB [115,108,97,116]) ((0:Int),(86:FuncId)) (aU (sB [115,97,99,107]) ((6:Int),(85:FuncId)) []))) (n:=sB [108,101,97,100]) (c:=((8:Int),(88:FuncId))) dJ.str (.inr rfl) rfl rfl rfl rfl iR) ?_
 refine af ?_
 refine Kz (aa.mapUpdate (enc:=PV.str) (g:=fun x=>V.p (kE x)) (ms:=(aU (sB [108,101,97,100]) ((8:Int),(88:FuncId)) (aU (sB [115,108,97,116]) ((0:Int),(86:FuncId)) (aU (sB [115,97,99,107]) ((6:Int),(85:FuncId)) [])))) (n:=sB [112,101,110,99,105,108]) (c:=((3:Int),(89:FuncId))) dJ.str (.inr rfl) rfl rfl rfl rfl iR) ?_
 refine af ?_
 refine Kz (aa.mapUpdate (enc:=PV.str) (g:=fun x=>V.p (kE x)) (ms:=(aU (sB [112,101,110,99,105,108]) ((3:Int),(89:FuncId)) (aU (sB [108,101,97,100]) ((8:Int),(88:FuncId)) (aU (sB [115,108,97,116]) ((0:Int),(86:FuncId)) (aU (sB [115,97,99,107]) ((6:Int),(85:FuncId)) []))))) (n:=sB [98,97,100]) (c:=((1:Int),(90:FuncId))) dJ.str (.inr rfl) rfl rfl rfl rfl iR) ?_
 refine af ?_
 refine Kz (aa.mapUpdate (enc:=PV.str) (g:=fun x=>V.p (kE x)) (ms:=(aU (sB [98,97,100]) ((1:Int),(90:FuncId)) (aU (sB [112,101,110,99,105,108]) ((3:Int),(89:FuncId)) (aU (sB [108,101,97,100]) ((8:Int),(88:FuncId)) (aU (sB [115,108,97,116]) ((0:Int),(86:FuncId)) (aU (sB [115,97,99,107]) ((6:Int),(85:FuncId)) [])))))) (n:=sB [103,111,111,100]) (c:=((1:Int),(92:FuncId))) dJ.str (.inr rfl) rfl rfl rfl rfl iR) ?_
 refine af ?_
 refine Kz (aa.mapUpdate (enc:=PV.str) (g:=fun x=>V.p (kE x)) (ms:=(aU (sB [103,111,111,100]) ((1:Int),(92:FuncId)) (aU (sB [98,97,100]) ((1:Int),(90:FuncId)) (aU (sB [112,101,110,99,105,108]) ((3:Int),(89:FuncId)) (aU (sB [108,101,97,100]) ((8:Int),(88:FuncId)) (aU (sB [115,108,97,116]) ((0:Int),(86:FuncId)) (aU (sB [115,97,99,107]) ((6:Int),(85:FuncId)) []))))))) (n:=sB [98,108,97,109,101]) (c:=((0:Int),(93:FuncId))) dJ.str (.inr rfl) rfl rfl rfl rfl iR) ?_
 refine af ?_
 refine Kz (aa.mapUpdate (enc:=PV.str) (g:=fun x=>V.p (kE x)) (ms:=(aU (sB [98,108,97,109,101]) ((0:Int),(93:FuncId)) (aU (sB [103,111,111,100]) ((1:Int),(92:FuncId)) (aU (sB [98,97,100]) ((1:Int),(90:FuncId)) (aU (sB [112,101,110,99,105,108]) ((3:Int),(89:FuncId)) (aU (sB [108,101,97,100]) ((8:Int),(88:FuncId)) (aU (sB [115,108,97,116]) ((0:Int),(86:FuncId)) (aU (sB [115,97,99,107]) ((6:Int),(85:FuncId)) [])))))))) (n:=sB [99,97,108,108]) (c:=((0:Int),(97:FuncId))) dJ.str (.inr rfl) rfl rfl rfl rfl iR) ?_
 refine af ?_
 refine Kz (aa.mapUpdate (enc:=PV.str) (g:=fun x=>V.p (kE x)) (ms:=(aU (sB [99,97,108,108]) ((0:Int),(97:FuncId)) (aU (sB [98,108,97,109,101]) ((0:Int),(93:FuncId)) (aU (sB [103,111,111,100]) ((1:Int),(92:FuncId)) (aU (sB [98,97,100]) ((1:Int),(90:FuncId)) (aU (sB [112,101,110,99,105,108]) ((3:Int),(89:FuncId)) (aU (sB [108,101,97,100]) ((8:Int),(88:FuncId)) (aU (sB [115,108,97,116]) ((0:Int),(86:FuncId)) (aU (sB [115,97,99,107]) ((6:Int),(85:FuncId)) []))))))))) (n:=sB [102,114,111,109]) (c:=((1:Int),(99:FuncId))) dJ.str (.inr rfl) rfl rfl rfl rfl iR) ?_
 refine af ?_
 refine Kz (aa.mapUpdate (enc:=PV.str) (g:=fun x=>V.p (kE x)) (ms:=(aU (sB [102,114,111,109]) ((1:Int),(99:FuncId)) (aU (sB [99,97,108,108]) ((0:Int),(97:FuncId)) (aU (sB [98,108,97,109,101]) ((0:Int),(93:FuncId)) (aU (sB [103,111,111,100]) ((1:Int),(92:FuncId)) (aU (sB [98,97,100]) ((1:Int),(90:FuncId)) (aU (sB [112,101,110,99,105,108]) ((3:Int),(89:FuncId)) (aU (sB [108,101,97,100]) ((8:Int),(88:FuncId)) (aU (sB [115,108,97,116]) ((0:Int),(86:FuncId)) (aU (sB [115,97,99,107]) ((6:Int),(85:FuncId)) [])))))))))) (n:=sB [119,101,97,114]) (c:=((1:Int),(101:FuncId))) dJ.str (.inr rfl) rfl rfl rfl rfl iR) ?_
 refine af ?_
 refine Kz (aa.mapUpdate (enc:=PV.str) (g:=fun x=>V.p (kE x)) (ms:=(aU (sB [119,101,97,114]) ((1:Int),(101:FuncId)) (aU (sB [102,114,111,109]) ((1:Int),(99:FuncId)) (aU (sB [99,97,108,108]) ((0:Int),(97:FuncId)) (aU (sB [98,108,97,109,101]) ((0:Int),(93:FuncId)) (aU (sB [103,111,111,100]) ((1:Int),(92:FuncId)) (aU (sB [98,97,100]) ((1:Int),(90:FuncId)) (aU (sB [112,101,110,99,105,108]) ((3:Int),(89:FuncId)) (aU (sB [108,101,97,100]) ((8:Int),(88:FuncId)) (aU (sB [115,108,97,116]) ((0:Int),(86:FuncId)) (aU (sB [115,97,99,107]) ((6:Int),(85:FuncId)) []))))))))))) (n:=sB [109,97,114,107]) (c:=((0:Int),(103:FuncId))) dJ.str (.inr rfl) rfl rfl rfl rfl iR) ?_
 refine af ?_
 refine Kz (aa.mapUpdate (enc:=PV.str) (g:=fun x=>V.p (kE x)) (ms:=(aU (sB [109,97,114,107]) ((0:Int),(103:FuncId)) (aU (sB [119,101,97,114]) ((1:Int),(101:FuncId)) (aU (sB [102,114,111,109]) ((1:Int),(99:FuncId)) (aU (sB [99,97,108,108]) ((0:Int),(97:FuncId)) (aU (sB [98,108,97,109,101]) ((0:Int),(93:FuncId)) (aU (sB [103,111,111,100]) ((1:Int),(92:FuncId)) (aU (sB [98,97,100]) ((1:Int),(90:FuncId)) (aU (sB [112,101,110,99,105,108]) ((3:Int),(89:FuncId)) (aU (sB [108,101,97,100]) ((8:Int),(88:FuncId)) (aU (sB [115,108,97,116]) ((0:Int),(86:FuncId)) (aU (sB [115,97,99,107]) ((6:Int),(85:FuncId)) [])))))))))))) (n:=sB [98,97,99,107]) (c:=((0:Int),(105:FuncId))) dJ.str (.inr rfl) rfl rfl rfl rfl iR) ?_
 refine af ?_
 refine Kz (aa.mapUpdate (enc:=PV.str) (g:=fun x=>V.p (kE x)) (ms:=(aU (sB [98,97,99,107]) ((0:Int),(105:FuncId)) (aU (sB [109,97,114,107]) ((0:Int),(103:FuncId)) (aU (sB [119,101,97,114]) ((1:Int),(101:FuncId)) (aU (sB [102,114,111,109]) ((1:Int),(99:FuncId)) (aU (sB [99,97,108,108]) ((0:Int),(97:FuncId)) (aU (sB [98,108,97,109,101]) ((0:Int),(93:FuncId)) (aU (sB [103,111,111,100]) ((1:Int),(92:FuncId)) (aU (sB [98,97,100]) ((1:Int),(90:FuncId)) (aU (sB [112,101,110,99,105,108]) ((3:Int),(89:FuncId)) (aU (sB [108,101,97,100]) ((8:Int),(88:FuncId)) (aU (sB [115,108,97,116]) ((0:Int),(86:FuncId)) (aU (sB [115,97,99,107]) ((6:Int),(85:FuncId)) []))))))))))))) (n:=sB [107,101,101,112]) (c:=((0:Int),(107:FuncId))) dJ.str (.inr rfl) rfl rfl rfl rfl iR) ?_
 iterate 3 refine af ?_
 refine aF.to (To.sx 0 (enc:=PV.str) (gp:=kE) (ms:=nJ) rfl) ?_
 refine af ?_
 exact iQ
theorem y6{s w:Bs}{l:List Bs}(hw:b7 s=w::l)(h:ju w=none):cF s=none:=by
 unfold cF
 rw[hw]
 simp only[h]
theorem yF{s w:Bs}{l:List Bs}{v:Vb}(hw:b7 s=w::l)(hv:ju w=some v)(h:l.length≠v.many):cF s=none:=by
 unfold cF
 rw[hw]
 simp only[hv]
 rw[if_neg h]
theorem Sj{x:Bs}:xT x=true↔hO x:=by
 unfold xT
 constructor
 ·intro h
  by_cases hc:hO x
  ·exact hc
  ·rw[NV hc] at h;cases h
 ·intro h
  rw[uD h];rfl
theorem za{s w:Bs}{l:List Bs}{v:Vb}(hw:b7 s=w::l)(hv:ju w=some v)(h:¬ ∀ x∈l,hO x):cF s=none:=by
 unfold cF
 rw[hw]
 simp only[hv]
 have h2:l.all xT=false:=by
  cases hb:l.all xT with
  | false=>rfl
  | true=>exact absurd (fun x hx=>Sj.1 (Zx.1 hb x hx)) h
 rw[mapM_none l h2]
 split <;> rfl
theorem y3{s w:Bs}{l:List Bs}{v:Vb}(hw:b7 s=w::l)(hv:ju w=some v)(hl:l.length=v.many)(h:∀ x∈l,hO x):cF s=some (v,l.map gF):=by
 unfold cF
 rw[hw]
 simp only[hv]
 rw[if_pos hl,vT l (Zx.2 fun x hx=>Sj.2 (h x hx))]
 rfl
theorem wI(s:Bs):∃ w l,b7 s=w::l:=by
 have h:=sG s
 cases hw:b7 s with
 | nil=>rw[hw] at h;cases h
 | cons w l=>exact⟨w,l,rfl⟩
theorem yL:∀(ws cs pre t:List V),cs.length=ws.length->setAt (pre++cs++t) pre.length ws=pre++ws++t
 | [],cs,pre,t,h=>by
  rw[ZB h];rfl
 | w::ws,[],pre,t,h=>by cases h
 | w::ws,c::cs,pre,t,h=>by
  show setAt ((pre++c::cs++t).set pre.length w) (pre.length+1) ws=_
  have e:(pre++c::cs++t).set pre.length w=(pre++[w])++cs++t:=by
   rw[ZK,List.set_append_right _ _ (Zf _),Rt]
   simp
  rw[e]
  have:=yL ws cs (pre++[w]) t (by simpa using h)
  rw[Zb,Sy] at this
  rw[this]
  simp
theorem MP{ws cs t:List V}(h:cs.length=ws.length):setAt (cs++t) 0 ws=ws++t:=yL ws cs [] t h
theorem BY{H:List ah}{i k:Nat}{cs:List V}{e:TypeId}{v:V}(h:H[i]? =some (.cells cs e))(hk:cs[k]? =some v):cN H false 1 (.ptr i k)=some v:=by
 simp only[cN,h]
 exact hk
theorem Ud{H:List ah}{i n:Nat}{cs:List V}{e:TypeId}(h:H[i]? =some (.cells cs e))(hn:cs.length=n):cN H true n (.ptr i 0)=some (fW cs):=by
 simp only[cN,h]
 show(if 0+n<=cs.length then some (fW ((cs.drop 0).take n)) else none)=_
 rw[if_pos (by omega),Wm,OI (by omega)]
theorem EE{H:List ah}{i:Nat}{cs ws:List V}{e:TypeId}(h:H[i]? =some (.cells cs e))(hn:cs.length=ws.length):fK H i 0 ws=some (H.set i (.cells ws e)):=by
 simp only[fK,h]
 rw[if_pos (by omega)]
 have:=MP (t:=[]) hn
 rw[ZT,ZT] at this
 rw[this]
theorem UB{H:List ah}{i:Nat}{cs ws t:List V}{e:TypeId}(h:H[i]? =some (.cells (cs++t) e))(hn:cs.length=ws.length):fK H i 0 ws=some (H.set i (.cells (ws++t) e)):=by
 simp only[fK,h]
 rw[if_pos (by rw[Zb];omega),MP hn]
theorem Qv{H:List ah}{x y:ah}:(H++[x]).set H.length y=H++[y]:=by
 rw[List.set_append_right _ _ (Zf _),Rt];rfl
theorem GY{H:List ah}{x:ah}:(H++[x])[H.length]? =some x:=by
 rw[Zj (Zf _),Rt];rfl
theorem n8{H X:List ah}{i:Nat}{x:ah}(h:H[i]? =some x):(H++X)[i]? =some x:=by
 rw[Zd (Za.1 h).1];exact h
theorem bO{H:List ah}{i j:Nat}{x y:ah}(hij:j≠i)(h:H[i]? =some x):(H.set j y)[i]? =some x:=by
 rw[Zv,if_neg hij];exact h
theorem fI{H:List ah}{i:Nat}{x y:ah}(h:H[i]? =some x):(H.set i y)[i]? =some y:=by
 rw[Zv,if_pos rfl,if_pos (Za.1 h).1]
def LH(b:bN)(p:Di.bn)(um:V)(M:ah):List ah:=[cH b p um 1 2 3 4 5,dn b.au,cV b.ai,de b.aq,bz b.plan,bz b.bZ,M,.cells [.ptr 0 0] 30,.cells [.p (.str (sB []))] 9,.cells [.p (.int .i64 0)] 41,.dead,.dead,cV b.ai,dn b.au,de b.aq,bz b.plan,bz b.bZ,.cells (dF 13 12 14 15 16 b) 83]
def gv(H:List ah)(b:bN)(p:Di.bn)(um:V)(e:Int):List ah:=((((H++[ah.cells [.p (.int .i64 e)] 94]).set 0 (cH b p um 13 12 14 15 16)).set 8 (.cells [.p (.str (sB []))] 9)).set 9 (.cells [.p (.int .i64 e)] 41))
theorem LX{N:Nat}{fn:Func}{T:Tm}{H:List ah}{t:ByteArray}{e:Int}(hfn:fn.results=[ResultVar.cell 4 9,.cell 5 41].toArray)(h4:lk T 4=some (.ptr 8 0))(h5:lk T 5=some (.ptr 9 0))(k8:H[8]? =some (.cells [.p (.str t)] 9))(k9:H[9]? =some (.cells [.p (.int .i64 e)] 41)):en Tryz.prog N fn T H (.p (.tuple [.str t,.int .i64 e])):=
 en.many (vs:=[.p (.str t),.p (.int .i64 e)]) hfn ⟨_,_,rfl,⟨_,_,_,h4,an,BY k8 rfl⟩,⟨_,_,rfl,⟨_,_,_,h5,an,BY k9 rfl⟩,rfl⟩⟩
theorem zy{H:List ah}{b:bN}{p:Di.bn}{um:V}{e:Int}(h:9<H.length):(gv H b p um e)[8]? =some (.cells [.p (.str (sB []))] 9):=by
 unfold gv
 exact bO (by decide) (fI (x:=((H++[ah.cells [.p (.int .i64 e)] 94]).set 0 (cH b p um 13 12 14 15 16))[8]'(by simp;omega)) (Zc _))
theorem zD{H:List ah}{b:bN}{p:Di.bn}{um:V}{e:Int}(h:9<H.length):(gv H b p um e)[9]? =some (.cells [.p (.int .i64 e)] 41):=by
 unfold gv
 exact fI (x:=(((H++[ah.cells [.p (.int .i64 e)] 94]).set 0 (cH b p um 13 12 14 15 16)).set 8 (.cells [.p (.str (sB []))] 9))[9]'(by simp;omega)) (Zc _)
theorem pP{N:Nat}{T:Tm}{H:List ah}{o:Oper}(s:Bs)(v:Vb)(hv:ju s=some v){x y:Operand}{t:TypeId}{z:PV}(ho:o.op= .lookup t x y true)(hx:ev T x=some (.p (lJ PV.str kE nJ)))(hy:ev T y=some (.p (.str (sB s))))(ht:oX Tryz.prog t=some (.string,z)):aa Tryz.prog N o T H (.p (.tuple [.agg [.int .i64 (v.many:Int),.func (.func (kM v)) [] []],.bool true])) H:=by
 have h:=Sn (N:=N) (H:=H) s ho hx hy ht
 rw[hv] at h
 exact h
theorem FE{N:Nat}{T:Tm}{H:List ah}{o:Oper}(s:Bs)(hv:ju s=none){x y:Operand}{t:TypeId}{z:PV}(ho:o.op= .lookup t x y true)(hx:ev T x=some (.p (lJ PV.str kE nJ)))(hy:ev T y=some (.p (.str (sB s))))(ht:oX Tryz.prog t=some (.string,z)):aa Tryz.prog N o T H (.p (.tuple [z,.bool false])) H:=by
 have h:=Sn (N:=N) (H:=H) s ho hx hy ht
 rw[hv] at h
 exact h
theorem HM(w:Bs)(l:List Bs):(((w::l).flatMap lX).drop (1*1)).take ((l.length+1 - 1)*1)=l.flatMap lX:=by
 show(l.flatMap lX).take _=_
 rw[JW,Nat.add_sub_cancel]
 have e:(l.flatMap lX).length=l.length:=by rw[AF.cu (c:=1) (fun _=>rfl),JW]
 exact OI (ON e)
theorem Hj(b:bN)(p:Di.bn)(um:V)(M:ah)(hu:∀ σ:Nat->Option Nat,(M.live=true->σ 6=some 6)->bf σ um=um)(hM:∀ σ,aE σ M=M):(LH b p um M).map (aE (sg 18 []))=LH b p um M:=by
 unfold LH
 simp only[Zz,zx,dn,cV,de,bz,bE,fA,hM,bS,Gu (n0:=18) (um:=um) (ms:=[]) (hu _ fun _=>rfl) (show 1<18 by decide) (show 2<18 by decide) (show 3<18 by decide) (show 4<18 by decide) (show 5<18 by decide),ko (n0:=18) (show 13<18 by decide) (show 12<18 by decide) (show 14<18 by decide) (show 15<18 by decide) (show 16<18 by decide),bK,cj,ef]
 rfl
theorem Jc{H:List ah}{Hq:List ah->Prop}(hH:Hq H):ya Tryz.prog 37 [.ptr 17 0,.ptr 7 0,.ptr 8 0,.ptr 9 0] H none Hq:=by
 refine ya.start (N:=24) Tryz.func37 rfl rfl Kn (Wv rfl) rfl rfl rfl rfl rfl rfl rfl rfl ?_
 iterate 3 refine af ?_
 refine Kc (aa.Qn rfl rfl SF) ?_
 refine af ?_
 refine Ki (fun hc0=> ?_) fun hc0=> ?_
 ·cases hc0
 ·refine af ?_
  exact⟨.inl rfl,hH⟩
theorem sr{H:List ah}{Hq:List ah->Prop}{cs:List V}(b:bN)(p:Di.bn)(um:V)(e:Int)(h0:H[0]? =some (.cells (cs++p.cells.map .p++[um,.p (.bool true)]) 87))(hc:cs.length=7)(h7:H[7]? =some (.cells [.ptr 0 0] 30))(h8:H[8]? =some (.cells [.p (.str (sB []))] 9))(h9:H[9]? =some (.cells [.p (.int .i64 0)] 41))(h17:H[17]? =some (.cells (dF 13 12 14 15 16 b) 83))(hH:Hq (gv H b p um e)):ya Tryz.prog 37 [.ptr 17 0,.ptr 7 0,.ptr 8 0,.ptr 9 0] H (some (.iface 94 (.agg [.int .i64 e]))) Hq:=by
 refine ya.start (N:=24) Tryz.func37 rfl rfl Kn (Wv rfl) rfl rfl rfl rfl rfl rfl rfl rfl ?_
 iterate 3 refine af ?_
 refine Kc (aa.aaV rfl rfl SF) ?_
 refine af ?_
 refine Ki (fun hc0=> ?_) fun hc0=> ?_
 ·iterate 3 refine af ?_
  refine Kc (aa.taG rfl rfl RR (⟨94,_,rfl,.inl ⟨rfl,rfl⟩⟩)) ?_
  iterate 4 refine af ?_
  refine Kz (aa.store (H':=H++[.cells [.p (.int .i64 e)] 94]) rfl rfl rfl rfl rfl an rfl ((EE (H:=H++[ah.cells [.p (.int .i64 0)] 94]) (i:=H.length) (cs:=[.p (.int .i64 0)]) (ws:=[.p (.int .i64 e)]) GY rfl).trans (congrArg some Qv))) ?_
  iterate 4 refine af ?_
  have g0:=n8 (X:=[ah.cells [.p (.int .i64 e)] 94]) h0
  have g7:=n8 (X:=[ah.cells [.p (.int .i64 e)] 94]) h7
  have g8:=n8 (X:=[ah.cells [.p (.int .i64 e)] 94]) h8
  have g9:=n8 (X:=[ah.cells [.p (.int .i64 e)] 94]) h9
  have g17:=n8 (X:=[ah.cells [.p (.int .i64 e)] 94]) h17
  have gm1:=GY (H:=H) (x:=ah.cells [.p (.int .i64 e)] 94)
  obtain⟨H1,SD⟩:∃ X,X=H++[ah.cells [.p (.int .i64 e)] 94]:=⟨_,rfl⟩
  refine aF.tW (H':=H1) SD ?_
  rw[<- SD] at g0 g7 g8 g9 g17 gm1
  have hL:=(Za.1 h17).1
  iterate 4 refine af ?_
  refine Ki (fun cR=> ?_) fun cR=> ?_
  ·cases cR
  ·iterate 3 refine af ?_
   refine Kc (aa.load (v:= .ptr 0 0) rfl rfl an (BY g7 rfl)) ?_
   refine Kc (aa.load (v:= .agg (dF 13 12 14 15 16 b)) rfl rfl an ((Ud g17 rfl).trans (congrArg some (xX _ _ _ _ _ b)))) ?_
   iterate 2 refine af ?_
   refine Kz (aa.store rfl rfl rfl rfl (qo _ _ _ _ _ b) an rfl (UB (t:=p.cells.map .p++[um,.p (.bool true)]) (by rw[<- ZK];exact g0) hc)) ?_
   refine af ?_
   have g82:=bO (j:=0) (y:=cH b p um 13 12 14 15 16) (by decide) g8
   have g92:=bO (j:=0) (y:=cH b p um 13 12 14 15 16) (by decide) g9
   have gm:=bO (j:=0) (y:=cH b p um 13 12 14 15 16) (by omega) gm1
   obtain⟨H2,eH2⟩:∃ X,X=H1.set 0 (cH b p um 13 12 14 15 16):=⟨_,rfl⟩
   refine aF.tW (H':=H2) (by rw[eH2];unfold cH;rw[ZK];rfl) ?_
   rw[<- eH2] at g82 g92 gm
   have gm3:=bO (j:=8) (y:=ah.cells [.p (.str (sB []))] 9) (by omega) gm
   have g93:=bO (j:=8) (y:=ah.cells [.p (.str (sB []))] 9) (by decide) g92
   refine aF.j9 3 (H2.set 8 (.cells [.p (.str (sB []))] 9)) mixed (by kernel_rfl) (by decide) ?_
   refine aJ.cons 22 rfl rfl rfl (aa.fieldAddr rfl rfl an rfl) (aa.fieldAddr rfl rfl an rfl) ?_
   refine aJ.cons 23 rfl rfl rfl (aa.load (v:= .p (.int .i64 e)) rfl rfl an (BY (by first | exact gm | exact gm3) rfl)) (aa.load (v:= .p (.int .i64 e)) rfl rfl an (BY (by first | exact gm | exact gm3) rfl)) ?_
   refine aJ.put rfl rfl (aa.store rfl rfl rfl rfl rfl an rfl (EE g82 rfl)) ?_
   refine aJ.nil ?_
   refine Kz (aa.store rfl rfl rfl rfl rfl an rfl (EE g93 rfl)) ?_
   refine af ?_
   subst eH2 SD
   exact⟨.inl rfl,hH⟩
 ·cases hc0
abbrev zb:TypeId:=83
structure bX (H H2:List ah):Prop where
 len:7<=H2.length
 dead:∀(j:Nat) (x y:ah),j<7->H[j]? =some x->x.live=false->H2[j]? =some y->y.live=false
theorem bX.k{H H2 H3:List ah}(h:bX H H2)(hd:∀ j,j<7->∃ x,H[j]? =some x∧(H3.getD j .dead).live=x.live):fL H3 [0,1,2,3,4,5,6] H2:=by
 refine⟨h.len,fun j i y hk hl hy=> ?_⟩
 have hj:j<7:=(Za.1 hk).1
 have hji:i=j:=by
  have:([0,1,2,3,4,5,6]:List Nat)[j]? =some j:=by
   match j,hj with
   | 0,_=>rfl
   | 1,_=>rfl
   | 2,_=>rfl
   | 3,_=>rfl
   | 4,_=>rfl
   | 5,_=>rfl
   | 6,_=>rfl
  rw[this] at hk
  exact(ZD hk).symm
 subst hji
 obtain⟨x,h1,h2⟩:=hd i hj
 exact h.dead i x y hj h1 (by rw[<- h2];exact hl) hy
theorem xq(b:bN)(p:Di.bn)(um:V)(M x:ah):∀ j,j<7->∃ y,(fm b p um M)[j]? =some y∧((LH b p um M++[x]).getD j .dead).live=y.live:=fun j hj=>by
 match j,hj with
 | 0,_=>exact⟨_,rfl,rfl⟩
 | 1,_=>exact⟨_,rfl,rfl⟩
 | 2,_=>exact⟨_,rfl,rfl⟩
 | 3,_=>exact⟨_,rfl,rfl⟩
 | 4,_=>exact⟨_,rfl,rfl⟩
 | 5,_=>exact⟨_,rfl,rfl⟩
 | 6,_=>exact⟨_,rfl,rfl⟩
theorem gq{H:List ah}{ks:List Nat}{i j n:Nat}{cs:List V}{e:TypeId}(hp:pl ks i=some j)(hx:H.getD i .dead=dU cs e n):bf (oe H ks) (aZ i n)=aZ j n:=by
 cases n with
 | zero=>rfl
 | succ n=>exact cJ (by unfold oe;rw[hx];exact hp)
theorem Tf(b:bN)(p:Di.bn)(um:V)(M:ah)(hu:∀ σ:Nat->Option Nat,(M.live=true->σ 6=some 6)->bf σ um=um)(hM:∀ σ,aE σ M=M)(x:ah):(([0,1,2,3,4,5,6]:List Nat).map fun i=>aE (oe (LH b p um M++[x]) [0,1,2,3,4,5,6]) ((LH b p um M++[x]).getD i .dead))=fm b p um M:=by
 have h0:aE (oe (LH b p um M++[x]) [0,1,2,3,4,5,6]) (cH b p um 1 2 3 4 5)=cH b p um 1 2 3 4 5:=by
  unfold cH dF
  rw[bS,bF,bF,aP]
  simp only[bK,cj,ef]
  rw[gq (j:=1) rfl rfl,gq (j:=2) rfl rfl,gq (j:=3) rfl rfl,gq (j:=4) rfl rfl,gq (j:=5) rfl rfl,hu _ (fun h=>by unfold oe;exact if_pos h)]
 show[aE _ (cH b p um 1 2 3 4 5),aE _ (dn b.au),aE _ (cV b.ai),aE _ (de b.aq),aE _ (bz b.plan),aE _ (bz b.bZ),aE _ M]=_
 rw[h0,hM]
 simp only[dn,cV,de,bz,bE]
 rfl
theorem Uc(b:bN)(p:Di.bn)(um:V)(M x:ah):M.live=true->dS (LH b p um M++[x]) [0,1,2,3,4,5,6] 6=some 6:=fun h=>by
 show(if ((LH b p um M++[x]).getD 6 .dead).live=true then some 6 else none)=some 6
 exact if_pos h
theorem dI(σ:Nat->Option Nat):∀ l:List V,(bA σ l).length=l.length
 | []=>rfl
 | v::l=>by rw[bK,Zm,Zm,dI σ l]
theorem wq{σ:Nat->Option Nat}{cs:List V}{p:Di.bn}{um:V}{e:TypeId}(hu:bf σ um=um):aE σ (.cells (cs++p.cells.map .p++[um,.p (.bool true)]) e)= .cells (bA σ cs++p.cells.map .p++[um,.p (.bool true)]) e:=by
 rw[bS,bF,bF,aP]
 simp only[bK,cj,ef,hu]
theorem Qh(v:Vb):ak Tryz.prog (kM v)=true:=by
 cases v <;> kernel_rfl
theorem I8(b:bN)(p:Di.bn)(um:V)(M:ah)(hu:∀ σ:Nat->Option Nat,(M.live=true->σ 6=some 6)->bf σ um=um)(hM:∀ σ,aE σ M=M)(h1:b.au.length<=1000)(h2:b.ai.length<=1000)(h3:b.aq.length<=1000)(h4:b.plan.length<=1000)(h5:b.bZ.length<=1000)(s:Bs)(hs:120<s.length):ax Tryz.prog 13 [.ptr 0 0,.p (.str (sB s))] (fm b p um M) (fun v H2=>v= .p (.tuple [.str (sB []),.int .i64 3])∧H2=fm b p um M++[.cells [.ptr 0 0] 30,.cells [.p (.str (sB []))] 9,.cells [.p (.int .i64 3)] 41]):=by
 refine ax.start (N:=58) Tryz.func13 rfl rfl Kn ?_
 iterate 2 refine af ?_
 refine Kc (aa.kF rfl rfl rfl) ?_
 iterate 8 refine af ?_
 refine Kc (aa.FI rfl rfl rfl an) ?_
 refine af ?_
 refine Kg 14 13 2 rfl (fun h=>(aa.load rfl rfl an rfl)) ?_
 refine Kh 15 13 14 rfl rfl rfl rfl (fun h=>(aa.nilCheck rfl rfl)) ?_
 refine Kh 16 13 15 rfl rfl rfl rfl (fun h=>(aa.fieldAddr rfl rfl an rfl)) ?_
 refine Kh 17 13 16 rfl rfl rfl rfl (fun h=>(Kl (.p (.bool true)))) ?_
 refine Kh 18 13 17 rfl rfl rfl rfl (fun h=>(aa.gr rfl rfl)) ?_
 refine Kc (aa.mG rfl rfl rfl ?_) ?_
 ·exact az
 iterate 2 refine af ?_
 refine Ki (fun hc0=> ?_) fun hc0=> ?_
 ·exact absurd hc0 (by decide)
 ·iterate 3 refine af ?_
  refine Kc (aa.l7 rfl rfl Ro) ?_
  iterate 3 refine af ?_
  refine Ki (fun cR=> ?_) fun cR=> ?_
  ·iterate 6 refine af ?_
   exact⟨.inr rfl,_,LX rfl rfl rfl rfl rfl,rfl,rfl⟩
  ·exfalso
   have h:=Zl cR
   rw[gD] at h
   omega
theorem Uo(b:bN)(p:Di.bn)(um:V)(M:ah)(hu:∀ σ:Nat->Option Nat,(M.live=true->σ 6=some 6)->bf σ um=um)(hM:∀ σ,aE σ M=M)(h1:b.au.length<=1000)(h2:b.ai.length<=1000)(h3:b.aq.length<=1000)(h4:b.plan.length<=1000)(h5:b.bZ.length<=1000)(s:Bs)(hs:s.length<=120)(w:Bs)(l:List Bs)(hw:b7 s=w::l)(hv:ju w=none):ax Tryz.prog 13 [.ptr 0 0,.p (.str (sB s))] (fm b p um M) (fun x H2=>x= .p (.tuple [.str (sB []),.int .i64 8])∧H2=gv (LH b p um M++[ah.cells [.p (.int .i64 0),.p .nilFunc] 99]) b p um 8):=by
 have Uv:(w::l).length=l.length+1:=rfl
 have hsp:=rD s (by omega)
 rw[hw] at hsp
 have Gp:=(je 32 s []).2
 rw[show eg 32 [] s=w::l from hw,Zm] at Gp
 have zQ:l.length<=1000000:=by omega
 have X0:∀ x∈l,x.length<=1000000:=fun x hx=>by have h6:=oI 32 s [] x (by rw[show eg 32 [] s=w::l from hw];exact Zh _ hx);rw[KG] at h6;omega
 refine ax.uH (N:=58) (g:=37) (dm:=29) (T1:=[(1,.p (.str (sB s))),(2,.ptr 7 0),(4,.ptr 8 0),(5,.ptr 9 0),(6,.ptr 17 0)]) (H1:=LH b p um M) (caps:=[.ptr 17 0,.ptr 7 0,.ptr 8 0,.ptr 9 0]) Tryz.func13 rfl rfl Kn ?_ (aa.makeFunc (fi:=[]) (ca:=[.ptr 17 0,.ptr 7 0,.ptr 8 0,.ptr 9 0]) rfl rfl rfl) rfl rfl rfl rfl rfl rfl an ?_
 ·exact ru
 ·iterate 3 refine af ?_
  refine Kc (Kp (hsp)) ?_
  iterate 3 refine af ?_
  refine aF.bQ 10 1 [18] [([],false),([],false),([],false),([],false),([],false),([],false),([],false),([],false),([18],true),([18],true)] mixed (by kernel_rfl) (by decide) (by kernel_rfl) rfl (Hj b p um M hu hM) ?_
  refine br.cons 33 rfl rfl rfl (fun _=>(Kp (qX))) rfl ?_
  refine af ?_
  refine br.cons 35 rfl rfl rfl (fun _=>(aa.aN (g:=Di.gt [] (w::l)) (k:=0) (Di.aC _) rfl rfl rfl an CC rfl (fun _=>rfl) (by decide) (RW _))) rfl ?_
  refine br.cons 36 rfl rfl rfl (fun _=>(Kl (.p (.str (sB w))))) rfl ?_
  refine br.cons 37 rfl rfl rfl (fun _=>(FE w hv rfl rfl rfl iR)) rfl ?_
  refine af ?_
  refine br.cons 38 rfl rfl rfl (fun _=>(aa.extract rfl rfl rfl)) rfl ?_
  refine br.cons 39 rfl rfl rfl (fun _=>(aa.extract rfl rfl rfl)) rfl ?_
  refine br.lay (v0:= .ptr 19 0) 8 18 rfl rfl rfl rfl rfl rfl rfl rfl (fun _=>(aa.aQ rfl an rfl)) rfl rfl rfl ?_
  refine br.put (blk:= .cells [.p (.int .i64 0),.p .nilFunc] 99) 18 rfl rfl rfl rfl (fun _=>(aa.store rfl rfl rfl rfl rfl an rfl rfl)) rfl rfl ?_
  refine br.nil ?_
  iterate 3 refine af ?_
  refine aF.tW (H':=LH b p um M++[ah.cells [.p (.int .i64 0),.p .nilFunc] 99]) rfl ?_
  iterate 3 refine af ?_
  refine Kg 42 41 7 rfl (fun h=>(aa.move rfl rfl)) ?_
  refine Kh 43 41 42 rfl rfl rfl rfl (fun h=>(aa.bq rfl rfl an rfl)) ?_
  refine Kh 44 41 43 rfl rfl rfl rfl (fun h=>(aa.iI (m:=((l.length:Nat):Int)) rfl rfl rfl ((aK (by omega)).trans (by omega)))) ?_
  refine Kg 45 41 8 rfl (fun h=>(aa.fieldAddr rfl rfl an rfl)) ?_
  refine Kh 46 41 45 rfl rfl rfl rfl (fun h=>(Kl (.p (.int .i64 0)))) ?_
  refine aj.g 47 41 rfl rfl rfl rfl rfl rfl rfl [(44,_),(46,_)] (fun h=>And.intro (.inr ⟨_,rfl,h⟩) (And.intro (.inr ⟨_,rfl,h⟩) (trivial))) (fun h=>(aa.eql rfl rfl rfl)) ?_
  refine Kc (aa.fH rfl rfl rfl ?_) ?_
  ·exact az
  refine aj.cy 49 (b:=_) (dD _ 8) (dG _ 8) rfl rfl rfl rfl rfl rfl rfl an (fun hb=> ?_) (fun hb=> ?_)
  ·exact Ba
  simp at hb
theorem UU(b:bN)(p:Di.bn)(um:V)(M:ah)(hu:∀ σ:Nat->Option Nat,(M.live=true->σ 6=some 6)->bf σ um=um)(hM:∀ σ,aE σ M=M)(h1:b.au.length<=1000)(h2:b.ai.length<=1000)(h3:b.aq.length<=1000)(h4:b.plan.length<=1000)(h5:b.bZ.length<=1000)(s:Bs)(hs:s.length<=120)(w:Bs)(l:List Bs)(hw:b7 s=w::l)(v:Vb)(hv:ju w=some v)(hm:l.length≠v.many):ax Tryz.prog 13 [.ptr 0 0,.p (.str (sB s))] (fm b p um M) (fun x H2=>x= .p (.tuple [.str (sB []),.int .i64 8])∧H2=gv (LH b p um M++[ah.cells [.p (.int .i64 (v.many:Int)),.p (.func (.func (kM v)) [] [])] 99]) b p um 8):=by
 have Uv:(w::l).length=l.length+1:=rfl
 have hsp:=rD s (by omega)
 rw[hw] at hsp
 have Gp:=(je 32 s []).2
 rw[show eg 32 [] s=w::l from hw,Zm] at Gp
 have zQ:l.length<=1000000:=by omega
 have X0:∀ x∈l,x.length<=1000000:=fun x hx=>by have h6:=oI 32 s [] x (by rw[show eg 32 [] s=w::l from hw];exact Zh _ hx);rw[KG] at h6;omega
 refine ax.uH (N:=58) (g:=37) (dm:=29) (T1:=[(1,.p (.str (sB s))),(2,.ptr 7 0),(4,.ptr 8 0),(5,.ptr 9 0),(6,.ptr 17 0)]) (H1:=LH b p um M) (caps:=[.ptr 17 0,.ptr 7 0,.ptr 8 0,.ptr 9 0]) Tryz.func13 rfl rfl Kn ?_ (aa.makeFunc (fi:=[]) (ca:=[.ptr 17 0,.ptr 7 0,.ptr 8 0,.ptr 9 0]) rfl rfl rfl) rfl rfl rfl rfl rfl rfl an ?_
 ·exact ru
 ·iterate 3 refine af ?_
  refine Kc (Kp (hsp)) ?_
  iterate 3 refine af ?_
  refine aF.bQ 10 1 [18] [([],false),([],false),([],false),([],false),([],false),([],false),([],false),([],false),([18],true),([18],true)] mixed (by kernel_rfl) (by decide) (by kernel_rfl) rfl (Hj b p um M hu hM) ?_
  refine br.cons 33 rfl rfl rfl (fun _=>(Kp (qX))) rfl ?_
  refine af ?_
  refine br.cons 35 rfl rfl rfl (fun _=>(aa.aN (g:=Di.gt [] (w::l)) (k:=0) (Di.aC _) rfl rfl rfl an CC rfl (fun _=>rfl) (by decide) (RW _))) rfl ?_
  refine br.cons 36 rfl rfl rfl (fun _=>(Kl (.p (.str (sB w))))) rfl ?_
  refine br.cons 37 rfl rfl rfl (fun _=>(pP w v hv rfl rfl rfl iR)) rfl ?_
  refine af ?_
  refine br.cons 38 rfl rfl rfl (fun _=>(aa.extract rfl rfl rfl)) rfl ?_
  refine br.cons 39 rfl rfl rfl (fun _=>(aa.extract rfl rfl rfl)) rfl ?_
  refine br.lay (v0:= .ptr 19 0) 8 18 rfl rfl rfl rfl rfl rfl rfl rfl (fun _=>(aa.aQ rfl an rfl)) rfl rfl rfl ?_
  refine br.put (blk:= .cells [.p (.int .i64 (v.many:Int)),.p (.func (.func (kM v)) [] [])] 99) 18 rfl rfl rfl rfl (fun _=>(aa.store rfl rfl rfl rfl rfl an rfl rfl)) rfl rfl ?_
  refine br.nil ?_
  iterate 3 refine af ?_
  refine aF.tW (H':=LH b p um M++[ah.cells [.p (.int .i64 (v.many:Int)),.p (.func (.func (kM v)) [] [])] 99]) rfl ?_
  iterate 3 refine af ?_
  refine Kg 42 41 7 rfl (fun h=>(aa.move rfl rfl)) ?_
  refine Kh 43 41 42 rfl rfl rfl rfl (fun h=>(aa.bq rfl rfl an rfl)) ?_
  refine Kh 44 41 43 rfl rfl rfl rfl (fun h=>(aa.iI (m:=((l.length:Nat):Int)) rfl rfl rfl ((aK (by omega)).trans (by omega)))) ?_
  refine Kg 45 41 8 rfl (fun h=>(aa.fieldAddr rfl rfl an rfl)) ?_
  refine Kh 46 41 45 rfl rfl rfl rfl (fun h=>(Kl (.p (.int .i64 (v.many:Int))))) ?_
  refine aj.g 47 41 rfl rfl rfl rfl rfl rfl rfl [(44,_),(46,_)] (fun h=>And.intro (.inr ⟨_,rfl,h⟩) (And.intro (.inr ⟨_,rfl,h⟩) (trivial))) (fun h=>(aa.eql rfl rfl rfl)) ?_
  refine Kc (aa.fH rfl rfl rfl ?_) ?_
  ·exact az
  refine aj.cy 49 (b:=_) (dD _ 8) (dG _ 8) rfl rfl rfl rfl rfl rfl rfl an (fun hb=> ?_) (fun hb=> ?_)
  ·exact Ba
  exfalso
  simp at hb
  omega
theorem Vl(b:bN)(p:Di.bn)(um:V)(M:ah)(hu:∀ σ:Nat->Option Nat,(M.live=true->σ 6=some 6)->bf σ um=um)(hM:∀ σ,aE σ M=M)(h1:b.au.length<=1000)(h2:b.ai.length<=1000)(h3:b.aq.length<=1000)(h4:b.plan.length<=1000)(h5:b.bZ.length<=1000)(s:Bs)(hs:s.length<=120)(w:Bs)(l:List Bs)(hw:b7 s=w::l)(v:Vb)(hv:ju w=some v)(hm:l.length=v.many)(hC:¬ ∀ x∈l,hO x):ax Tryz.prog 13 [.ptr 0 0,.p (.str (sB s))] (fm b p um M) (fun x H2=>x= .p (.tuple [.str (sB []),.int .i64 8])∧H2=gv (LH b p um M++[ah.cells [.p (.int .i64 (v.many:Int)),.p (.func (.func (kM v)) [] [])] 99]) b p um 8):=by
 have Uv:(w::l).length=l.length+1:=rfl
 have hsp:=rD s (by omega)
 rw[hw] at hsp
 have Gp:=(je 32 s []).2
 rw[show eg 32 [] s=w::l from hw,Zm] at Gp
 have zQ:l.length<=1000000:=by omega
 have X0:∀ x∈l,x.length<=1000000:=fun x hx=>by have h6:=oI 32 s [] x (by rw[show eg 32 [] s=w::l from hw];exact Zh _ hx);rw[KG] at h6;omega
 refine ax.uH (N:=58) (g:=37) (dm:=29) (T1:=[(1,.p (.str (sB s))),(2,.ptr 7 0),(4,.ptr 8 0),(5,.ptr 9 0),(6,.ptr 17 0)]) (H1:=LH b p um M) (caps:=[.ptr 17 0,.ptr 7 0,.ptr 8 0,.ptr 9 0]) Tryz.func13 rfl rfl Kn ?_ (aa.makeFunc (fi:=[]) (ca:=[.ptr 17 0,.ptr 7 0,.ptr 8 0,.ptr 9 0]) rfl rfl rfl) rfl rfl rfl rfl rfl rfl an ?_
 ·exact ru
 ·iterate 3 refine af ?_
  refine Kc (Kp (hsp)) ?_
  iterate 3 refine af ?_
  refine aF.bQ 10 1 [18] [([],false),([],false),([],false),([],false),([],false),([],false),([],false),([],false),([18],true),([18],true)] mixed (by kernel_rfl) (by decide) (by kernel_rfl) rfl (Hj b p um M hu hM) ?_
  refine br.cons 33 rfl rfl rfl (fun _=>(Kp (qX))) rfl ?_
  refine af ?_
  refine br.cons 35 rfl rfl rfl (fun _=>(aa.aN (g:=Di.gt [] (w::l)) (k:=0) (Di.aC _) rfl rfl rfl an CC rfl (fun _=>rfl) (by decide) (RW _))) rfl ?_
  refine br.cons 36 rfl rfl rfl (fun _=>(Kl (.p (.str (sB w))))) rfl ?_
  refine br.cons 37 rfl rfl rfl (fun _=>(pP w v hv rfl rfl rfl iR)) rfl ?_
  refine af ?_
  refine br.cons 38 rfl rfl rfl (fun _=>(aa.extract rfl rfl rfl)) rfl ?_
  refine br.cons 39 rfl rfl rfl (fun _=>(aa.extract rfl rfl rfl)) rfl ?_
  refine br.lay (v0:= .ptr 19 0) 8 18 rfl rfl rfl rfl rfl rfl rfl rfl (fun _=>(aa.aQ rfl an rfl)) rfl rfl rfl ?_
  refine br.put (blk:= .cells [.p (.int .i64 (v.many:Int)),.p (.func (.func (kM v)) [] [])] 99) 18 rfl rfl rfl rfl (fun _=>(aa.store rfl rfl rfl rfl rfl an rfl rfl)) rfl rfl ?_
  refine br.nil ?_
  iterate 3 refine af ?_
  refine aF.tW (H':=LH b p um M++[ah.cells [.p (.int .i64 (v.many:Int)),.p (.func (.func (kM v)) [] [])] 99]) rfl ?_
  iterate 3 refine af ?_
  refine Kg 42 41 7 rfl (fun h=>(aa.move rfl rfl)) ?_
  refine Kh 43 41 42 rfl rfl rfl rfl (fun h=>(aa.bq rfl rfl an rfl)) ?_
  refine Kh 44 41 43 rfl rfl rfl rfl (fun h=>(aa.iI (m:=((l.length:Nat):Int)) rfl rfl rfl ((aK (by omega)).trans (by omega)))) ?_
  refine Kg 45 41 8 rfl (fun h=>(aa.fieldAddr rfl rfl an rfl)) ?_
  refine Kh 46 41 45 rfl rfl rfl rfl (fun h=>(Kl (.p (.int .i64 (v.many:Int))))) ?_
  refine aj.g 47 41 rfl rfl rfl rfl rfl rfl rfl [(44,_),(46,_)] (fun h=>And.intro (.inr ⟨_,rfl,h⟩) (And.intro (.inr ⟨_,rfl,h⟩) (trivial))) (fun h=>(aa.eql rfl rfl rfl)) ?_
  refine Kc (aa.fH rfl rfl rfl ?_) ?_
  ·exact az
  refine aj.cy 49 (b:=_) (dD _ 8) (dG _ 8) rfl rfl rfl rfl rfl rfl rfl an (fun hb=> ?_) (fun hb=> ?_)
  ·exfalso
   simp at hb
   omega
  iterate 2 refine af ?_
  refine aF.EM 6 ([(4,.ptr 8 0),(5,.ptr 9 0)]) rfl rfl mixed (by kernel_rfl) KS rfl ?_
  refine af ?_
  refine Kq (Kl (.p (.func (.func (kM v)) [] []))) ?_
  iterate 2 refine af ?_
  refine Kq (aa.oy (l:=1) (h:=(l.length+1)) (r:=(l.flatMap lX)) rfl rfl an CC ⟨_,rfl⟩ rfl (by omega) (by omega) (HM w l)) ?_
  refine Kq (Kp (xm l)) ?_
  refine aA.nil ?_
  refine aj.wm 56 (Js l zQ X0 hC) rfl rfl rfl rfl rfl rfl rfl an ⟨⟨_,rfl⟩,⟨_,rfl,sr (cs:=dF 1 2 3 4 5 b) b p um 8 rfl rfl rfl rfl rfl rfl ⟨_,LX rfl rfl rfl (zy Kn) (zD Kn),rfl,rfl⟩⟩⟩
theorem HI(b:bN)(p:Di.bn)(um:V)(M:ah)(hu:∀ σ:Nat->Option Nat,(M.live=true->σ 6=some 6)->bf σ um=um)(hM:∀ σ,aE σ M=M)(h1:b.au.length<=1000)(h2:b.ai.length<=1000)(h3:b.aq.length<=1000)(h4:b.plan.length<=1000)(h5:b.bZ.length<=1000)(s:Bs)(hs:s.length<=120)(w:Bs)(l:List Bs)(hw:b7 s=w::l)(v:Vb)(hv:ju w=some v)(hm:l.length=v.many)(hC:∀ x∈l,hO x)(t:Bs)(e:Int)(Qr:V->List ah->Prop)(Qp:PV->List ah->Prop)(hd:av Tryz.prog (kM v) [.ptr 0 0,.p (Di.bw (l.map gF))] (fm b p um M) Qr Qp)(hr:∀ r H2,Qr r H2->r= .p (.str (sB t))∧bX (fm b p um M) H2)(hp:∀ y H2,Qp y H2->y=(.iface 94 (.agg [.int .i64 e]))∧bX (fm b p um M) H2∧∃ cs,cs.length=7∧H2[0]? =some (.cells (cs++p.cells.map .p++[um,.p (.bool true)]) 87)):ax Tryz.prog 13 [.ptr 0 0,.p (.str (sB s))] (fm b p um M) (fun x H2=>(x= .p (.tuple [.str (sB t),.int .i64 0])∧∃ H0,Qr (.p (.str (sB t))) H0∧H2=(((bp (LH b p um M++[ah.cells [.p (.int .i64 (v.many:Int)),.p (.func (.func (kM v)) [] [])] 99]) [0,1,2,3,4,5,6] H0).set 8 (.cells [.p (.str (sB t))] 9)).set 9 (.cells [.p (.int .i64 0)] 41)))∨(x= .p (.tuple [.str (sB []),.int .i64 e])∧∃ H0,Qp (.iface 94 (.agg [.int .i64 e])) H0∧H2=gv (bp (LH b p um M++[ah.cells [.p (.int .i64 (v.many:Int)),.p (.func (.func (kM v)) [] [])] 99]) [0,1,2,3,4,5,6] H0) b p um e)):=by
 have Uv:(w::l).length=l.length+1:=rfl
 have hsp:=rD s (by omega)
 rw[hw] at hsp
 have Gp:=(je 32 s []).2
 rw[show eg 32 [] s=w::l from hw,Zm] at Gp
 have zQ:l.length<=1000000:=by omega
 have X0:∀ x∈l,x.length<=1000000:=fun x hx=>by have h6:=oI 32 s [] x (by rw[show eg 32 [] s=w::l from hw];exact Zh _ hx);rw[KG] at h6;omega
 refine ax.uH (N:=58) (g:=37) (dm:=29) (T1:=[(1,.p (.str (sB s))),(2,.ptr 7 0),(4,.ptr 8 0),(5,.ptr 9 0),(6,.ptr 17 0)]) (H1:=LH b p um M) (caps:=[.ptr 17 0,.ptr 7 0,.ptr 8 0,.ptr 9 0]) Tryz.func13 rfl rfl Kn ?_ (aa.makeFunc (fi:=[]) (ca:=[.ptr 17 0,.ptr 7 0,.ptr 8 0,.ptr 9 0]) rfl rfl rfl) rfl rfl rfl rfl rfl rfl an ?_
 ·exact ru
 ·iterate 3 refine af ?_
  refine Kc (Kp (hsp)) ?_
  iterate 3 refine af ?_
  refine aF.bQ 10 1 [18] [([],false),([],false),([],false),([],false),([],false),([],false),([],false),([],false),([18],true),([18],true)] mixed (by kernel_rfl) (by decide) (by kernel_rfl) rfl (Hj b p um M hu hM) ?_
  refine br.cons 33 rfl rfl rfl (fun _=>(Kp (qX))) rfl ?_
  refine af ?_
  refine br.cons 35 rfl rfl rfl (fun _=>(aa.aN (g:=Di.gt [] (w::l)) (k:=0) (Di.aC _) rfl rfl rfl an CC rfl (fun _=>rfl) (by decide) (RW _))) rfl ?_
  refine br.cons 36 rfl rfl rfl (fun _=>(Kl (.p (.str (sB w))))) rfl ?_
  refine br.cons 37 rfl rfl rfl (fun _=>(pP w v hv rfl rfl rfl iR)) rfl ?_
  refine af ?_
  refine br.cons 38 rfl rfl rfl (fun _=>(aa.extract rfl rfl rfl)) rfl ?_
  refine br.cons 39 rfl rfl rfl (fun _=>(aa.extract rfl rfl rfl)) rfl ?_
  refine br.lay (v0:= .ptr 19 0) 8 18 rfl rfl rfl rfl rfl rfl rfl rfl (fun _=>(aa.aQ rfl an rfl)) rfl rfl rfl ?_
  refine br.put (blk:= .cells [.p (.int .i64 (v.many:Int)),.p (.func (.func (kM v)) [] [])] 99) 18 rfl rfl rfl rfl (fun _=>(aa.store rfl rfl rfl rfl rfl an rfl rfl)) rfl rfl ?_
  refine br.nil ?_
  iterate 3 refine af ?_
  refine aF.tW (H':=LH b p um M++[ah.cells [.p (.int .i64 (v.many:Int)),.p (.func (.func (kM v)) [] [])] 99]) rfl ?_
  iterate 3 refine af ?_
  refine Kg 42 41 7 rfl (fun h=>(aa.move rfl rfl)) ?_
  refine Kh 43 41 42 rfl rfl rfl rfl (fun h=>(aa.bq rfl rfl an rfl)) ?_
  refine Kh 44 41 43 rfl rfl rfl rfl (fun h=>(aa.iI (m:=((l.length:Nat):Int)) rfl rfl rfl ((aK (by omega)).trans (by omega)))) ?_
  refine Kg 45 41 8 rfl (fun h=>(aa.fieldAddr rfl rfl an rfl)) ?_
  refine Kh 46 41 45 rfl rfl rfl rfl (fun h=>(Kl (.p (.int .i64 (v.many:Int))))) ?_
  refine aj.g 47 41 rfl rfl rfl rfl rfl rfl rfl [(44,_),(46,_)] (fun h=>And.intro (.inr ⟨_,rfl,h⟩) (And.intro (.inr ⟨_,rfl,h⟩) (trivial))) (fun h=>(aa.eql rfl rfl rfl)) ?_
  refine Kc (aa.fH rfl rfl rfl ?_) ?_
  ·exact az
  refine aj.cy 49 (b:=_) (dD _ 8) (dG _ 8) rfl rfl rfl rfl rfl rfl rfl an (fun hb=> ?_) (fun hb=> ?_)
  ·exfalso
   simp at hb
   omega
  iterate 2 refine af ?_
  refine aF.aD 7 mixed (by kernel_rfl) (by decide) ?_
  refine af ?_
  refine Kq (Kl (.p (.func (.func (kM v)) [] []))) ?_
  iterate 2 refine af ?_
  refine Kq (aa.oy (l:=1) (h:=(l.length+1)) (r:=(l.flatMap lX)) rfl rfl an CC ⟨_,rfl⟩ rfl (by omega) (by omega) (HM w l)) ?_
  refine Kq (Kp (xm l)) ?_
  refine Kq (Kp (Ky l zQ X0 hC)) ?_
  refine aA.nil ?_
  refine aj.Au 57 [0,1,2,3,4,5,6] hd rfl (Tf b p um M hu hM _) rfl (fun r H2 h=>((hr r H2 h).2).k (by exact xq b p um M _)) (fun y H2 h=>((hp y H2 h).2.1).k (by exact xq b p um M _)) rfl rfl rfl rfl rfl rfl rfl (Qh v) (fun y H0 hy=> ?_) (fun r H0 hq=> ?_)
  ·obtain⟨rfl,hk,cs,hc,g0⟩:=hp y H0 hy
   have rT:7<=H0.length:=hk.1
   have k8:=dL (H:=(LH b p um M++[ah.cells [.p (.int .i64 (v.many:Int)),.p (.func (.func (kM v)) [] [])] 99])) (ks:=[0,1,2,3,4,5,6]) (i:=8) (by decide) rT Kn (by decide)
   have k0:=fy (H:=(LH b p um M++[ah.cells [.p (.int .i64 (v.many:Int)),.p (.func (.func (kM v)) [] [])] 99])) (ks:=[0,1,2,3,4,5,6]) (j:=0) (i:=0) (by decide) rT rfl Kn g0
   rw[wq (hu _ (Uc b p um M _))] at k0
   have hL9:9<(bp (LH b p um M++[ah.cells [.p (.int .i64 (v.many:Int)),.p (.func (.func (kM v)) [] [])] 99]) [0,1,2,3,4,5,6] H0).length:=by rw[tc (ks:=[0,1,2,3,4,5,6]) rT];exact Nat.lt_add_right _ Kn
   exact⟨_,rfl,sr b p um e k0 (by rw[dI];exact hc) (dL (i:=7) (by decide) rT Kn (by decide)) (dL (i:=8) (by decide) rT Kn (by decide)) (dL (i:=9) (by decide) rT Kn (by decide)) (dL (i:=17) (by decide) rT Kn (by decide)) ⟨_,LX rfl rfl rfl (zy hL9) (zD hL9),.inr ⟨rfl,H0,hy,rfl⟩⟩⟩
  obtain⟨rfl,hk⟩:=hr r H0 hq
  have rT:7<=H0.length:=hk.1
  have k8:(bp (LH b p um M++[ah.cells [.p (.int .i64 (v.many:Int)),.p (.func (.func (kM v)) [] [])] 99]) [0,1,2,3,4,5,6] H0)[8]? =some (.cells [.p (.str (sB []))] 9):=dL (i:=8) (by decide) rT Kn (by decide)
  have k9:(bp (LH b p um M++[ah.cells [.p (.int .i64 (v.many:Int)),.p (.func (.func (kM v)) [] [])] 99]) [0,1,2,3,4,5,6] H0)[9]? =some (.cells [.p (.int .i64 0)] 41):=dL (i:=9) (by decide) rT Kn (by decide)
  have k92:=bO (j:=8) (y:=ah.cells [.p (.str (sB t))] 9) (by decide) k9
  refine Kz (aa.store rfl rfl rfl rfl rfl an rfl (EE k8 rfl)) ?_
  refine Kz (aa.store rfl rfl rfl rfl rfl an rfl (EE k92 rfl)) ?_
  iterate 2 refine af ?_
  exact Jc ⟨_,LX rfl rfl rfl (bO (by decide) (fI k8)) (fI k92),.inl ⟨rfl,H0,hq,rfl⟩⟩
end Go.Proofs.YtibffijhebobmaaGreatDoor
end
