/-
 The program of chapter 15: marks (laid upon each other, taken away).
 The program of chapter 15: what verbs do (marks).
 The program of chapter 15: all verbs.
 Chapter 15, the program: what a line says, word by word; cells that are written anew.
 The program of chapter 15: what is recovered.
 The program of chapter 15: a line.
-/
import Derived.Test.YtibffijhebobmaaGreatDoorMzSF
import Derived.Test.YtibffijhebobmaaGreatDoorMzSB
import Derived.Test.YtibffijhebobmaaGreatDoorFaSF
import Derived.Test.YtibffijhebobmaaGreatDoorMzSZ
theorem rN{A:Prop}(h:A:=by
 refine af ?_
 refine Kc (aa.jf rfl rfl rfl) ?_
 iterate 7 refine af ?_
 refine Kc (aa.si rfl rfl rfl an) ?_
 refine af ?_
 refine Kg 14 13 2 rfl (fun h=>(aa.load rfl rfl an rfl)) ?_
 refine Kh 15 13 14 rfl rfl rfl rfl (fun h=>(aa.nilCheck rfl rfl)) ?_
 refine Kh 16 13 15 rfl rfl rfl rfl (fun h=>(aa.fieldAddr rfl rfl an rfl)) ?_
 refine Kh 17 13 16 rfl rfl rfl rfl (fun h=>(Kl (.p (.bool true)))) ?_
 refine Kh 18 13 17 rfl rfl rfl rfl (fun h=>(aa.gW rfl rfl)) ?_
 refine Kc (aa.kA rfl rfl rfl ?_) ?_
 ·exact ax
 exact N6):A:=h
theorem N6{A:Prop}(h:A:=by
 iterate 2 refine af ?_
 refine Ki (fun hc0=> ?_) fun hc0=> ?_
 ·exact absurd hc0 (by decide)
 ·iterate 3 refine af ?_
  refine Kc (aa.gw rfl rfl EV) ?_
  iterate 3 refine af ?_
  refine Ki (fun cK=> ?_) fun cK=> ?_
  ·exfalso
   have h:=Zg cK
   rw[cU] at h
   omega
  ·iterate 5 refine af ?_
   refine Kc (aa.load (v:= .agg (di 1 2 3 4 5 b)) rfl rfl an (show cV _ _ _ _=_ from congrArg some (x9 1 2 3 4 5 b))) ?_
   refine Kc (ua 4 10 b h1 h2 h3 h4 h5 rfl rfl rfl rfl rfl (MD rfl rfl rfl rfl rfl) an) ?_
   refine af ?_
   refine Kz (aa.store (H':=LH b p um M) rfl rfl rfl rfl (pZ _ _ _ _ _ b) an rfl rfl) ?_
   refine af ?_
   exact⟨KS,rfl⟩):A:=h
theorem qL{A:Prop}(h:A:=by
 refine iR.one rfl rfl ⟨by rw[hd],?_,rfl⟩
 rw[hd,fC]
 rfl):A:=h
theorem CR{A:Prop}(h:A:=by
 exact⟨_,rfl,rZ (cs:=di 1 2 3 4 5 b) b p um 8 rfl rfl rfl rfl rfl rfl ⟨_,ML rfl rfl rfl (Az Kn) (AB Kn),rfl,rfl⟩⟩):A:=h
set_option linter.unusedSimpArgs false
set_option linter.unusedVariables false
section
set_option maxRecDepth 100000
set_option maxHeartbeats 4000000
namespace Go.Proofs.YtibffijhebobmaaGreatDoor
open Go.AF
structure RS where
 a:Option Addr
 n:Nat
 c:Nat
def RS.v(s:RS):V:= .raw s.a s.n s.c
structure RB where
 s1:RS
 s2:RS
 s3:RS
 s4:RS
 bad:Int
 good:Int
 s5:RS
def RB.cells(r:RB):List V:=[r.s1.v,r.s2.v,r.s3.v,r.s4.v,.p (.int .i64 r.bad),.p (.int .i64 r.good),r.s5.v]
def ni(l:List RB):List V:=l.flatMap RB.cells
def c9(l:List RB):ai:= .row (ni l) 83
theorem qv(l:List RB):(ni l).length=l.length*7:=by
 unfold ni
 induction l with
 | nil=>rfl
 | cons x l ih=>rw[ZI,Zc,ih,Zo];show 7+_=_;omega
theorem uf(σ:Nat->Option Nat)(l:List RB):bw σ (ni l)=ni l:=by
 unfold ni
 induction l with
 | nil=>rfl
 | cons x l ih=>rw[ZI,bF,ih];rfl
theorem ie(σ:Nat->Option Nat)(l:List RB):aH σ (c9 l)=c9 l:=by
 unfold c9
 show ai.row (bw σ _) _=_
 rw[uf]
def fq(b:bI)(p:Di.bJ)(um:V)(M:ai):List ai:=[cB b p um 1 2 3 4 5,c7 b.aq,cY b.ag,c8 b.au,bu b.plan,bu b.b9,M]
theorem RR{H:List ai}{l:List RB}{r:RB}(h:H[6]? =some (c9 (l++[r]))):cV H true 7 (.ptr 6 (l.length*7))=some (.agg r.cells):=by
 simp only[cV,h]
 show(if l.length*7+7<=(ni (l++[r])).length then some (fZ (((ni (l++[r])).drop (l.length*7)).take 7)) else none)=_
 rw[qv,Zc,Wo,if_pos (by omega)]
 have e0:ni (l++[r])=ni l++r.cells:=by unfold ni;rw[Hp];simp
 rw[e0,List.drop_append_of_le_length (Pa (qv l).symm),ZbF (Pa (qv l))]
 rfl
theorem jY{xs:List PV}{e n:Nat}(h:iZ (xs.map .p)=true):Wz (dA (xs.map .p) e n)=true:=by
 cases n with
 | zero=>rfl
 | succ n=>exact h
theorem MD{H:List ai}{k:Nat}{b:bI}{i1 i2 i3 i4 i5:Nat}(h1:H[i1]? =some (c7 b.aq))(h2:H[i2]? =some (cY b.ag))(h3:H[i3]? =some (c8 b.au))(h4:H[i4]? =some (bu b.plan))(h5:H[i5]? =some (bu b.b9)):cS (bS H (k+2)) [.agg (di i1 i2 i3 i4 i5 b)]=some [.agg (IA b)]:=by
 have e:bS H (k+2) (.agg (di i1 i2 i3 i4 i5 b))=some (.agg (IA b)):=by
  show(cS (bS H (k+1)) (di i1 i2 i3 i4 i5 b)).map PV.agg=_
  simp only[di,cS,Rz h1,Pd h2,P4 h3,ID h4,ID h5,KB]
  rfl
 simp only[cS,e]
theorem ua{N:Nat}{T:Tm}{H:List ai}{o:Oper}(m k:Nat)(b:bI)(h1:b.aq.length<=1000)(h2:b.ag.length<=1000)(h3:b.au.length<=1000)(h4:b.plan.length<=1000)(h5:b.b9.length<=1000)(hk:H.length=k){f:Operand}{ys:Array Operand}{ts:Array TypeId}{fv:V}{vs all:List V}(ho:o.op= .call {callee:= .value f,args:=ys,argTypes:=ts})(hf:ev T f=some fv)
    (hxs:jU T ys.toList=some vs)(hc:callee vs fv=some (35,all))(hb:cS (bS H m) all=some [.agg (IA b)])(hg:ak Tryz.prog 35=true):aa Tryz.prog N o T H (.agg (di (k+3) (k+2) (k+4) (k+5) (k+6) b)) (H++[.dead,.dead,cY b.ag,c7 b.aq,c8 b.au,bu b.plan,bu b.b9]):=by
 have:=aa.zP (N:=N) (T:=T) (H:=H) m (IW b h1 h2 h3 h4 h5) (by simp only[Lq,di,iZ,uw];rfl) (by
  simp only[Vp,List.all_nil,c7,cY,c8,bu,jY (eT (f:=Ck.Sk.cells) (fun _=>rfl) _),jY (eT (f:=Rx.bY.cells) (fun _=>rfl) _),jY (eT (f:=Di.cO.cells) (fun _=>rfl) _),jY (eT (f:=Di.bZ) (fun _=>rfl) _)]
  rfl) ho hf hxs hc hb hg
 have e1:aY (ES H.length) (.agg (di 3 2 4 5 6 b))= .agg (di (k+3) (k+2) (k+4) (k+5) (k+6) b):=by
  show V.agg (bw (ES H.length) (di 3 2 4 5 6 b))=_
  have up:∀ i n,aY (ES H.length) (aW i n)=aW (k+i) n:=fun i n=>cC (by unfold ES;rw[hk])
  simp only[di,bK,b8,up,dV]
 have e2:([.dead,.dead,cY b.ag,c7 b.aq,c8 b.au,bu b.plan,bu b.b9]:List ai).map (aH (ES H.length))=[.dead,.dead,cY b.ag,c7 b.aq,c8 b.au,bu b.plan,bu b.b9]:=by
  simp only[ZD,C5,fA,c7,cY,c8,bu,bC]
 rw[e1,e2] at this
 exact this
theorem ke{n0:Nat}{ms:List Nat}{i1 i2 i3 i4 i5:Nat}{b:bI}(h1:i1<n0)(h2:i2<n0)(h3:i3<n0)(h4:i4<n0)(h5:i5<n0):bw (sg n0 ms) (di i1 i2 i3 i4 i5 b)=di i1 i2 i3 i4 i5 b:=by
 simp only[di,bK,b8,dV,cT h1,cT h2,cT h3,cT h4,cT h5]
theorem A7(b:bI)(p:Di.bJ)(l:List RB)(r:RB)(h8:l.length<=8):az Tryz.prog 106 [.ptr 0 11] (fq b p (.row 6 (l.length+1)) (c9 (l++[r]))) (fun v H2=>v= .tuple [.agg r.cells,.p (.bool true)]∧H2=[cB b p (.row 6 l.length) 1 2 3 4 5,c7 b.aq,cY b.ag,c8 b.au,bu b.plan,bu b.b9,c9 (l++[r]),.cells r.cells 83]):=by
 refine az.start (N:=28) Tryz.func106 rfl rfl Kn ?_
 iterate 9 refine af ?_
 refine Kc (Kl (.row 6 (l.length+1))) ?_
 iterate 9 refine af ?_
 refine Ki (fun hc0=> ?_) fun hc0=> ?_
 ·exfalso
  have h:=Zg hc0
  omega
 ·iterate 5 refine af ?_
  refine Kc (Kl (.row 6 (l.length+1))) ?_
  refine af ?_
  refine Kc (aa.fN (m:=((l.length:Nat):Int)) rfl rfl rfl ((aI ?_).trans ?_)) ?_
  ·omega
  ·omega
  refine Kc (aa.DN rfl rfl rfl an WW (by omega)) ?_
  refine Kc (aa.load (v:= .agg r.cells) rfl rfl an (RR rfl)) ?_
  refine Kz (aa.store (H':=[cB b p (.row 6 (l.length+1)) 1 2 3 4 5,c7 b.aq,cY b.ag,c8 b.au,bu b.plan,bu b.b9,c9 (l++[r]),.cells r.cells 83]) rfl rfl rfl rfl rfl an rfl rfl) ?_
  iterate 6 refine af ?_
  refine Kc (Kl (.row 6 (l.length+1))) ?_
  refine af ?_
  refine Kc (aa.fN (m:=((l.length:Nat):Int)) rfl rfl rfl ((aI ?_).trans ?_)) ?_
  ·omega
  ·omega
  refine Kc (aa.Jg (h:=l.length) rfl rfl rfl an WW (by omega)) ?_
  refine af ?_
  refine Kz (aa.store (H':=[cB b p (.row 6 l.length) 1 2 3 4 5,c7 b.aq,cY b.ag,c8 b.au,bu b.plan,bu b.b9,c9 (l++[r]),.cells r.cells 83]) rfl rfl rfl rfl rfl an rfl rfl) ?_
  iterate 3 refine af ?_
  refine Kc (Kl (.agg r.cells)) ?_
  refine Kz (aa.store (H':=[cB b p (.row 6 l.length) 1 2 3 4 5,c7 b.aq,cY b.ag,c8 b.au,bu b.plan,bu b.b9,c9 (l++[r]),.cells r.cells 83]) rfl rfl rfl rfl rfl an rfl rfl) ?_
  iterate 3 refine af ?_
  exact⟨.inr rfl,_,eX.many (vs:=[.agg r.cells,.p (.bool true)]) rfl ⟨_,_,rfl,⟨_,_,_,rfl,an,rfl⟩,⟨_,_,rfl,rfl,rfl⟩⟩,rfl,rfl⟩
theorem BY(b:bI)(p:Di.bJ)(um:V)(M:ai)(hu:FB um=some 0):az Tryz.prog 106 [.ptr 0 11] (fq b p um M) (fun v H2=>v= .p (.tuple [.agg [.nilSlice,.nilSlice,.nilSlice,.nilSlice,.int .i64 0,.int .i64 0,.nilSlice],.bool false])∧H2=[cB b p um 1 2 3 4 5,c7 b.aq,cY b.ag,c8 b.au,bu b.plan,bu b.b9,M,.cells ([.nilSlice,.nilSlice,.nilSlice,.nilSlice,.int .i64 0,.int .i64 0,.nilSlice].map .p) 83]):=by
 refine az.start (N:=28) Tryz.func106 rfl rfl Kn ?_
 iterate 9 refine af ?_
 refine Kc (Kl (um)) ?_
 refine Kc (aa.bD rfl rfl an hu) ?_
 iterate 8 refine af ?_
 refine Ki (fun hc0=> ?_) fun hc0=> ?_
 ·iterate 3 refine af ?_
  refine Kz (aa.store (H':=[cB b p um 1 2 3 4 5,c7 b.aq,cY b.ag,c8 b.au,bu b.plan,bu b.b9,M,.cells ([.nilSlice,.nilSlice,.nilSlice,.nilSlice,.int .i64 0,.int .i64 0,.nilSlice].map .p) 83]) rfl rfl rfl rfl rfl an rfl rfl) ?_
  iterate 3 refine af ?_
  exact⟨.inr rfl,_,eX.many (vs:=[.p (.agg [.nilSlice,.nilSlice,.nilSlice,.nilSlice,.int .i64 0,.int .i64 0,.nilSlice]),.p (.bool false)]) rfl ⟨_,_,rfl,⟨_,_,_,rfl,an,rfl⟩,⟨_,_,rfl,rfl,rfl⟩⟩,rfl,rfl⟩
 ·exfalso
  have h:=Zk hc0
  exact h rfl
theorem F1{b:bI}{p:Di.bJ}{n0 i1 i2 i3 i4 i5:Nat}{um:V}{ms:List Nat}(hu:aY (sg n0 ms) um=um)(h1:i1<n0)(h2:i2<n0)(h3:i3<n0)(h4:i4<n0)(h5:i5<n0):aH (sg n0 ms) (cB b p um i1 i2 i3 i4 i5)=cB b p um i1 i2 i3 i4 i5:=by
 unfold cB
 show ai.cells (bw _ (_++_++_)) _=_
 rw[bF,bF,ke h1 h2 h3 h4 h5,aX]
 simp only[bK,b8,hu,dV]
theorem LA(b:bI)(p:Di.bJ):([cB b p .z0 1 2 3 4 5,c7 b.aq,cY b.ag,c8 b.au,bu b.plan,bu b.b9,.dead,.dead,.dead,cY b.ag,c7 b.aq,c8 b.au,bu b.plan,bu b.b9]++[ai.cells (di 10 9 11 12 13 b) 83]).map (aH (sg 15 []))=[cB b p .z0 1 2 3 4 5,c7 b.aq,cY b.ag,c8 b.au,bu b.plan,bu b.b9,.dead,.dead,.dead,cY b.ag,c7 b.aq,c8 b.au,bu b.plan,bu b.b9]++[ai.cells (di 10 9 11 12 13 b) 83]:=by
 simp only[ZC,ZD,C5,c7,cY,c8,bu,bC,fA,bR,F1 (n0:=15) (um:= .z0) rfl (show 1<15 by decide) (show 2<15 by decide) (show 3<15 by decide) (show 4<15 by decide) (show 5<15 by decide),ke (n0:=15) (show 10<15 by decide) (show 9<15 by decide) (show 11<15 by decide) (show 12<15 by decide) (show 13<15 by decide)]
theorem Mx(b:bI)(p:Di.bJ)(l:List RB):([cB b p (.row 6 l.length) 1 2 3 4 5,c7 b.aq,cY b.ag,c8 b.au,bu b.plan,bu b.b9,c9 l,.dead,.dead,cY b.ag,c7 b.aq,c8 b.au,bu b.plan,bu b.b9]++[ai.cells (di 10 9 11 12 13 b) 83]).map (aH (sg 15 []))=[cB b p (.row 6 l.length) 1 2 3 4 5,c7 b.aq,cY b.ag,c8 b.au,bu b.plan,bu b.b9,c9 l,.dead,.dead,cY b.ag,c7 b.aq,c8 b.au,bu b.plan,bu b.b9]++[ai.cells (di 10 9 11 12 13 b) 83]:=by
 simp only[ZC,ZD,C5,c7,cY,c8,bu,bC,fA,ie,bR,F1 (n0:=15) (um:=(.row 6 l.length)) rfl (show 1<15 by decide) (show 2<15 by decide) (show 3<15 by decide) (show 4<15 by decide) (show 5<15 by decide),ke (n0:=15) (show 10<15 by decide) (show 9<15 by decide) (show 11<15 by decide) (show 12<15 by decide) (show 13<15 by decide)]
theorem Ud(b:bI)(p:Di.bJ):az Tryz.prog 104 [.ptr 0 11,.agg (di 10 9 11 12 13 b)] [cB b p .z0 1 2 3 4 5,c7 b.aq,cY b.ag,c8 b.au,bu b.plan,bu b.b9,.dead,.dead,.dead,cY b.ag,c7 b.aq,c8 b.au,bu b.plan,bu b.b9] (fun v H2=>v= .p (.tuple [])∧H2=[cB b p (.row 16 1) 1 2 3 4 5,c7 b.aq,cY b.ag,c8 b.au,bu b.plan,bu b.b9,.dead,.dead,.dead,cY b.ag,c7 b.aq,c8 b.au,bu b.plan,bu b.b9,.cells (di 10 9 11 12 13 b) 83,.row (di 10 9 11 12 13 b) 83,.row (di 10 9 11 12 13 b) 83]):=by
 refine az.start (N:=12) Tryz.func104 rfl rfl Kn ?_
 iterate 2 refine af ?_
 refine Kc (aa.jf rfl rfl rfl) ?_
 refine af ?_
 refine aF.xO (H':=[cB b p .z0 1 2 3 4 5,c7 b.aq,cY b.ag,c8 b.au,bu b.plan,bu b.b9,.dead,.dead,.dead,cY b.ag,c7 b.aq,c8 b.au,bu b.plan,bu b.b9]++[.cells (di 10 9 11 12 13 b) 83]) rfl ?_
 refine aF.bU 7 2 [15,16] [([],false),([],false),([],false),([],false),([],false),([15],true),([16,15],true)] mixed (by kernel_rfl) (by decide) (by kernel_rfl) rfl (LA b p) ?_
 iterate 2 refine af ?_
 refine bA.cons 6 rfl rfl rfl (fun _=>(aa.nilCheck rfl rfl)) rfl ?_
 refine bA.cons 7 rfl rfl rfl (fun _=>(Kl (.z0))) rfl ?_
 refine bA.cons 8 rfl rfl rfl (fun _=>(aa.load (v:= .agg (di 10 9 11 12 13 b)) rfl rfl an (show cV _ _ _ _=_ from congrArg some (x9 10 9 11 12 13 b)))) (by show V.agg (bw _ _)=_;rw[ke Kn Kn Kn Kn Kn]) ?_
 refine bA.lay (blk:= .row (di 10 9 11 12 13 b) 83) (v0:= .row 17 _) 9 15 rfl rfl rfl rfl rfl rfl rfl rfl (fun _=>(aa.Ee rfl an (by decide) rfl rfl)) rfl rfl (by show ai.row (bw _ _) _=_;rw[ke Kn Kn Kn Kn Kn]) ?_
 refine bA.lay (blk:= .row (di 10 9 11 12 13 b) 83) (v0:= .row 17 1) 10 16 rfl rfl rfl rfl rfl rfl rfl rfl (fun _=>(aa.zW (n:=1) (ys:=(di 10 9 11 12 13 b)) rfl rfl rfl an an (C3 rfl rfl) (by decide) (pZ 10 9 11 12 13 b) an (by decide) (by decide))) rfl rfl (by show ai.row (bw _ _) _=_;rw[ke Kn Kn Kn Kn Kn]) ?_
 refine bA.nil ?_
 refine af ?_
 refine Kz (aa.store (H':=[cB b p (.row 16 1) 1 2 3 4 5,c7 b.aq,cY b.ag,c8 b.au,bu b.plan,bu b.b9,.dead,.dead,.dead,cY b.ag,c7 b.aq,c8 b.au,bu b.plan,bu b.b9,.cells (di 10 9 11 12 13 b) 83,.row (di 10 9 11 12 13 b) 83,.row (di 10 9 11 12 13 b) 83]) rfl rfl rfl rfl rfl an rfl rfl) ?_
 refine af ?_
 exact rL
theorem NO(b:bI)(p:Di.bJ)(l:List RB)(hl:l.length<=8):az Tryz.prog 104 [.ptr 0 11,.agg (di 10 9 11 12 13 b)] [cB b p (.row 6 l.length) 1 2 3 4 5,c7 b.aq,cY b.ag,c8 b.au,bu b.plan,bu b.b9,c9 l,.dead,.dead,cY b.ag,c7 b.aq,c8 b.au,bu b.plan,bu b.b9] (fun v H2=>v= .p (.tuple [])∧H2=[cB b p (.row 16 (l.length+1)) 1 2 3 4 5,c7 b.aq,cY b.ag,c8 b.au,bu b.plan,bu b.b9,.dead,.dead,.dead,cY b.ag,c7 b.aq,c8 b.au,bu b.plan,bu b.b9,.cells (di 10 9 11 12 13 b) 83,.row (di 10 9 11 12 13 b) 83,.row (ni l++di 10 9 11 12 13 b) 83]):=by
 refine az.start (N:=12) Tryz.func104 rfl rfl Kn ?_
 iterate 2 refine af ?_
 refine Kc (aa.jf rfl rfl rfl) ?_
 refine af ?_
 refine aF.xO (H':=[cB b p (.row 6 l.length) 1 2 3 4 5,c7 b.aq,cY b.ag,c8 b.au,bu b.plan,bu b.b9,c9 l,.dead,.dead,cY b.ag,c7 b.aq,c8 b.au,bu b.plan,bu b.b9]++[.cells (di 10 9 11 12 13 b) 83]) rfl ?_
 refine aF.bU 7 2 [6,15,16] [([],false),([],false),([],false),([],false),([],false),([15],true),([16,6,15],true)] mixed (by kernel_rfl) (by decide) (by kernel_rfl) rfl (Mx b p l) ?_
 iterate 2 refine af ?_
 refine bA.cons 6 rfl rfl rfl (fun _=>(aa.nilCheck rfl rfl)) rfl ?_
 refine bA.cons 7 rfl rfl rfl (fun _=>(Kl ((.row 6 l.length)))) rfl ?_
 refine bA.cons 8 rfl rfl rfl (fun _=>(aa.load (v:= .agg (di 10 9 11 12 13 b)) rfl rfl an (show cV _ _ _ _=_ from congrArg some (x9 10 9 11 12 13 b)))) (by show V.agg (bw _ _)=_;rw[ke Kn Kn Kn Kn Kn]) ?_
 refine bA.lay (blk:= .row (di 10 9 11 12 13 b) 83) (v0:= .row 17 _) 9 15 rfl rfl rfl rfl rfl rfl rfl rfl (fun _=>(aa.Ee rfl an (by decide) rfl rfl)) rfl rfl (by show ai.row (bw _ _) _=_;rw[ke Kn Kn Kn Kn Kn]) ?_
 refine bA.Ot (blk:= .row (ni l++di 10 9 11 12 13 b) 83) (v0:= .row 17 _) 10 16 6 rfl rfl rfl rfl rfl rfl rfl rfl rfl rfl (fun _=>(aa.sj (i:=6) (len:=l.length) (cs:=ni l) (ys:=(di 10 9 11 12 13 b)) (n:=1) rfl rfl rfl an an rfl (qv l) (C3 rfl rfl) (pZ 10 9 11 12 13 b) an (by decide) (by show(2*(l.length+1)+192)*136<=281474976710656;omega))) rfl rfl (by show ai.row (bw _ (_++_)) _=_;rw[bF,uf,ke Kn Kn Kn Kn Kn]) ?_
 refine bA.nil ?_
 refine af ?_
 refine Kz (aa.store (H':=[cB b p (.row 16 (l.length+1)) 1 2 3 4 5,c7 b.aq,cY b.ag,c8 b.au,bu b.plan,bu b.b9,.dead,.dead,.dead,cY b.ag,c7 b.aq,c8 b.au,bu b.plan,bu b.b9,.cells (di 10 9 11 12 13 b) 83,.row (di 10 9 11 12 13 b) 83,.row (ni l++di 10 9 11 12 13 b) 83]) rfl rfl rfl rfl rfl an rfl rfl) ?_
 refine af ?_
 exact rL
theorem Vt(F:bT)(n:List Int)(hF:kO F)(hl:0=F.marks.length):ay Tryz.prog 103 [.ptr 0 0,.p (Di.bh n)] (fq F.b F.aT .z0 .dead) (fun v H2=>(bp F .mark n).2.2=0∧v= .p (.str (sB (bp F .mark n).2.1))∧H2=[cB F.b F.aT (.row 16 1) 1 2 3 4 5,c7 F.b.aq,cY F.b.ag,c8 F.b.au,bu F.b.plan,bu F.b.b9,.dead,.dead,.dead,cY F.b.ag,c7 F.b.aq,c8 F.b.au,bu F.b.plan,bu F.b.b9,.cells (di 10 9 11 12 13 F.b) 83,.row (di 10 9 11 12 13 F.b) 83,.row (di 10 9 11 12 13 F.b) 83]) (fun y H2=>(bp F .mark n).2.2≠0∧y= .iface 94 (.agg [.int .i64 (bp F .mark n).2.2])∧H2=fq F.b F.aT .z0 .dead):=by
 have jz:=Rx.cG hF.b.cd
 have tR:=hF.b.sk
 have tf:=hF.b.dr
 have hck:=hF.b.ck
 obtain⟨u0,O5⟩:=hF.b.ER
 have Pw:=fy O5
 have QZ:=hF.mm
 refine ay.start (N:=30) Tryz.func103 rfl rfl Kn ?_
 iterate 9 refine af ?_
 refine Kc (Kl (.z0)) ?_
 iterate 2 refine af ?_
 refine aj.ct 11 (b:=_) (dn _ 9) (dj _ 9) rfl rfl rfl rfl rfl rfl rfl an (fun hb=> ?_) (fun hb=> ?_)
 ·exact absurd hb (by decide)
 iterate 2 refine af ?_
 refine aF.iT 8 ([cB F.b F.aT .z0 1 2 3 4 5,c7 F.b.aq,cY F.b.ag,c8 F.b.au,bu F.b.plan,bu F.b.b9,.dead,.dead,.dead,cY F.b.ag,c7 F.b.aq,c8 F.b.au,bu F.b.plan,bu F.b.b9]) mixed (by kernel_rfl) (by decide) ?_
 refine aA.cons 12 rfl rfl rfl (aa.move rfl rfl) (aa.move rfl rfl) ?_
 refine aA.cons 13 rfl rfl rfl (aa.nilCheck rfl rfl) (aa.nilCheck rfl rfl) ?_
 refine aA.cons 14 rfl rfl rfl (aa.fieldAddr rfl rfl an rfl) (aa.fieldAddr rfl rfl an rfl) ?_
 refine aA.cons 15 rfl rfl rfl (aa.move rfl rfl) (aa.move rfl rfl) ?_
 refine aA.cons 16 rfl rfl rfl (aa.nilCheck rfl rfl) (aa.nilCheck rfl rfl) ?_
 refine aA.cons 17 rfl rfl rfl (aa.fieldAddr rfl rfl an rfl) (aa.fieldAddr rfl rfl an rfl) ?_
 refine aA.cons 18 rfl rfl rfl (aa.load (v:= .agg (di 1 2 3 4 5 F.b)) rfl rfl an (show cV _ _ _ _=_ from congrArg some (x9 1 2 3 4 5 F.b))) (aa.load (v:= .agg (di 1 2 3 4 5 F.b)) rfl rfl an (show cV _ _ _ _=_ from congrArg some (x9 1 2 3 4 5 F.b))) ?_
 refine aA.lay 19 rfl rfl rfl (ua 4 7 F.b (by omega) (by omega) (by omega) (by omega) (by omega) rfl rfl rfl rfl rfl (MD rfl rfl rfl rfl rfl) an) ?_
 refine aA.nil ?_
 refine Kc (aa.gK rfl rfl rfl rfl an (Ud F.b F.aT)) ?_
 iterate 3 refine af ?_
 refine Kc (aa.aG rfl rfl mh) ?_
 iterate 3 refine af ?_
 refine Kc (Kl (.row 16 1)) ?_
 refine af ?_
 refine Kc (aa.aG rfl rfl ku) ?_
 refine Kc (aa.aR rfl an (by decide) rfl rfl rfl) ?_
 refine Kc (Kp (de [.str (Vb.t .mark),.num ((1:Nat):Int)] Kn Kn (fE (by decide) (ew (by omega) gr)))) ?_
 iterate 3 refine af ?_
 have hd:bp F .mark n=({F with marks:=F.marks++[F.b]},bn (Vb.t .mark) [((1:Nat):Int)],0):=by unfold bp;dsimp only;rw[if_neg (by omega),<- hl];rfl
 exact qL
theorem Ur(F:bT)(n:List Int)(l:List RB)(hF:kO F)(hl:l.length=F.marks.length):ay Tryz.prog 103 [.ptr 0 0,.p (Di.bh n)] (fq F.b F.aT (.row 6 l.length) (c9 l)) (fun v H2=>(bp F .mark n).2.2=0∧v= .p (.str (sB (bp F .mark n).2.1))∧H2=[cB F.b F.aT (.row 16 (l.length+1)) 1 2 3 4 5,c7 F.b.aq,cY F.b.ag,c8 F.b.au,bu F.b.plan,bu F.b.b9,.dead,.dead,.dead,cY F.b.ag,c7 F.b.aq,c8 F.b.au,bu F.b.plan,bu F.b.b9,.cells (di 10 9 11 12 13 F.b) 83,.row (di 10 9 11 12 13 F.b) 83,.row (ni l++di 10 9 11 12 13 F.b) 83]) (fun y H2=>(bp F .mark n).2.2≠0∧y= .iface 94 (.agg [.int .i64 (bp F .mark n).2.2])∧H2=fq F.b F.aT (.row 6 l.length) (c9 l)):=by
 have jz:=Rx.cG hF.b.cd
 have tR:=hF.b.sk
 have tf:=hF.b.dr
 have hck:=hF.b.ck
 obtain⟨u0,O5⟩:=hF.b.ER
 have Pw:=fy O5
 have QZ:=hF.mm
 refine ay.start (N:=30) Tryz.func103 rfl rfl Kn ?_
 iterate 9 refine af ?_
 refine Kc (Kl ((.row 6 l.length))) ?_
 iterate 2 refine af ?_
 refine aj.ct 11 (b:=_) (dn _ 9) (dj _ 9) rfl rfl rfl rfl rfl rfl rfl an (fun hb=> ?_) (fun hb=> ?_)
 ·have h9:(bp F .mark n).2.2=9:=by unfold bp;dsimp only;rw[if_pos (by have h:=Zk hb;omega)]
  exact⟨_,rfl,by rw[h9];decide,by rw[h9],rfl⟩
 have h8:l.length<8:=by have h:=Zg hb;omega
 iterate 2 refine af ?_
 refine aF.iT 8 ([cB F.b F.aT (.row 6 l.length) 1 2 3 4 5,c7 F.b.aq,cY F.b.ag,c8 F.b.au,bu F.b.plan,bu F.b.b9,(c9 l),.dead,.dead,cY F.b.ag,c7 F.b.aq,c8 F.b.au,bu F.b.plan,bu F.b.b9]) mixed (by kernel_rfl) (by decide) ?_
 refine aA.cons 12 rfl rfl rfl (aa.move rfl rfl) (aa.move rfl rfl) ?_
 refine aA.cons 13 rfl rfl rfl (aa.nilCheck rfl rfl) (aa.nilCheck rfl rfl) ?_
 refine aA.cons 14 rfl rfl rfl (aa.fieldAddr rfl rfl an rfl) (aa.fieldAddr rfl rfl an rfl) ?_
 refine aA.cons 15 rfl rfl rfl (aa.move rfl rfl) (aa.move rfl rfl) ?_
 refine aA.cons 16 rfl rfl rfl (aa.nilCheck rfl rfl) (aa.nilCheck rfl rfl) ?_
 refine aA.cons 17 rfl rfl rfl (aa.fieldAddr rfl rfl an rfl) (aa.fieldAddr rfl rfl an rfl) ?_
 refine aA.cons 18 rfl rfl rfl (aa.load (v:= .agg (di 1 2 3 4 5 F.b)) rfl rfl an (show cV _ _ _ _=_ from congrArg some (x9 1 2 3 4 5 F.b))) (aa.load (v:= .agg (di 1 2 3 4 5 F.b)) rfl rfl an (show cV _ _ _ _=_ from congrArg some (x9 1 2 3 4 5 F.b))) ?_
 refine aA.lay 19 rfl rfl rfl (ua 4 7 F.b (by omega) (by omega) (by omega) (by omega) (by omega) rfl rfl rfl rfl rfl (MD rfl rfl rfl rfl rfl) an) ?_
 refine aA.nil ?_
 refine Kc (aa.gK rfl rfl rfl rfl an (NO F.b F.aT l (by omega))) ?_
 iterate 3 refine af ?_
 refine Kc (aa.aG rfl rfl mh) ?_
 iterate 3 refine af ?_
 refine Kc (Kl (.row 16 (l.length+1))) ?_
 refine af ?_
 refine Kc (aa.aG rfl rfl ku) ?_
 refine Kc (aa.aR rfl an (by decide) rfl rfl rfl) ?_
 refine Kc (Kp (de [.str (Vb.t .mark),.num ((l.length+1:Nat):Int)] Kn Kn (fE (by decide) (ew (by omega) gr)))) ?_
 iterate 3 refine af ?_
 have hd:bp F .mark n=({F with marks:=F.marks++[F.b]},bn (Vb.t .mark) [((l.length+1:Nat):Int)],0):=by unfold bp;dsimp only;rw[if_neg (by omega),<- hl];rfl
 exact qL
theorem JA(F:bT)(n:List Int)(l:List RB)(r:RB)(fs:List bI)(x:bI)(hm:F.marks=fs++[x])(hl:l.length=fs.length)(h8:l.length<=8):ay Tryz.prog 105 [.ptr 0 0,.p (Di.bh n)] (fq F.b F.aT (.row 6 (l.length+1)) (c9 (l++[r]))) (fun v H2=>(bp F .back n).2.2=0∧v= .p (.str (sB (bp F .back n).2.1))∧H2=[.cells (r.cells++F.aT.cells.map .p++[.row 6 l.length,.p (.bool true)]) 87,c7 F.b.aq,cY F.b.ag,c8 F.b.au,bu F.b.plan,bu F.b.b9,c9 (l++[r]),.cells r.cells 83,.cells r.cells 83]) (fun _ _=>False):=by
 refine ay.start (N:=29) Tryz.func105 rfl rfl Kn ?_
 iterate 9 refine af ?_
 refine Kc (aa.gK rfl rfl rfl rfl an (A7 F.b F.aT l r h8)) ?_
 iterate 4 refine af ?_
 refine Kz (aa.store (H':=[cB F.b F.aT (.row 6 l.length) 1 2 3 4 5,c7 F.b.aq,cY F.b.ag,c8 F.b.au,bu F.b.plan,bu F.b.b9,c9 (l++[r]),.cells r.cells 83,.cells r.cells 83]) rfl rfl rfl rfl rfl an rfl rfl) ?_
 iterate 5 refine af ?_
 refine Kc (Kp (xo 4)) ?_
 iterate 4 refine af ?_
 refine Kc (Kl (.agg r.cells)) ?_
 iterate 2 refine af ?_
 refine Kz (aa.store (H':=[.cells (r.cells++F.aT.cells.map .p++[.row 6 l.length,.p (.bool true)]) 87,c7 F.b.aq,cY F.b.ag,c8 F.b.au,bu F.b.plan,bu F.b.b9,c9 (l++[r]),.cells r.cells 83,.cells r.cells 83]) rfl rfl rfl rfl rfl an rfl rfl) ?_
 iterate 3 refine af ?_
 refine Kc (aa.aG rfl rfl mh) ?_
 iterate 3 refine af ?_
 refine Kc (Kl (.row 6 l.length)) ?_
 refine af ?_
 refine Kc (aa.aG rfl rfl ku) ?_
 refine Kc (aa.aR rfl an (by decide) rfl rfl rfl) ?_
 refine Kc (Kp (de [.str (Vb.t .back),.num ((l.length:Nat):Int)] Kn Kn (fE (by decide) (ew (by omega) gr)))) ?_
 iterate 3 refine af ?_
 have hd:bp F .back n=({F with b:=x,marks:=fs},bn (Vb.t .back) [((l.length:Nat):Int)],0):=by unfold bp;rw[hm];simp[hl]
 exact qL
theorem IG(F:bT)(n:List Int)(um:V)(M:ai)(hm:F.marks=[])(hu:FB um=some 0):ay Tryz.prog 105 [.ptr 0 0,.p (Di.bh n)] (fq F.b F.aT um M) (fun _ _=>False) (fun y H2=>(bp F .back n).2.2≠0∧y= .iface 94 (.agg [.int .i64 (bp F .back n).2.2])∧H2=[cB F.b F.aT um 1 2 3 4 5,c7 F.b.aq,cY F.b.ag,c8 F.b.au,bu F.b.plan,bu F.b.b9,M,.cells ([.nilSlice,.nilSlice,.nilSlice,.nilSlice,.int .i64 0,.int .i64 0,.nilSlice].map .p) 83,.cells ([.nilSlice,.nilSlice,.nilSlice,.nilSlice,.int .i64 0,.int .i64 0,.nilSlice].map .p) 83]):=by
 refine ay.start (N:=29) Tryz.func105 rfl rfl Kn ?_
 iterate 9 refine af ?_
 refine Kc (aa.gK rfl rfl rfl rfl an (BY F.b F.aT um M hu)) ?_
 iterate 4 refine af ?_
 refine Kz (aa.store (H':=[cB F.b F.aT um 1 2 3 4 5,c7 F.b.aq,cY F.b.ag,c8 F.b.au,bu F.b.plan,bu F.b.b9,M,.cells ([.nilSlice,.nilSlice,.nilSlice,.nilSlice,.int .i64 0,.int .i64 0,.nilSlice].map .p) 83,.cells ([.nilSlice,.nilSlice,.nilSlice,.nilSlice,.int .i64 0,.int .i64 0,.nilSlice].map .p) 83]) rfl rfl rfl rfl rfl an rfl rfl) ?_
 iterate 5 refine af ?_
 refine aj.ct 15 (b:=false) (dn false 4) (dj false 4) rfl rfl rfl rfl rfl rfl rfl an (fun hb=> ?_) (fun hb=> ?_)
 ·have h4:(bp F .back n).2.2=4:=by unfold bp;rw[hm];rfl
  exact⟨_,rfl,by rw[h4];decide,by rw[h4],rfl⟩
 cases hb
theorem JU(F:bT)(n:List Int)(l:List RB)(r:RB)(fs:List bI)(x:bI)(hm:F.marks=fs++[x])(hl:l.length=fs.length)(h8:l.length<=8):ay Tryz.prog 107 [.ptr 0 0,.p (Di.bh n)] (fq F.b F.aT (.row 6 (l.length+1)) (c9 (l++[r]))) (fun v H2=>(bp F .keep n).2.2=0∧v= .p (.str (sB (bp F .keep n).2.1))∧H2=[cB F.b F.aT (.row 6 l.length) 1 2 3 4 5,c7 F.b.aq,cY F.b.ag,c8 F.b.au,bu F.b.plan,bu F.b.b9,c9 (l++[r]),.cells r.cells 83,.cells r.cells 83]) (fun _ _=>False):=by
 refine ay.start (N:=25) Tryz.func107 rfl rfl Kn ?_
 iterate 9 refine af ?_
 refine Kc (aa.gK rfl rfl rfl rfl an (A7 F.b F.aT l r h8)) ?_
 iterate 4 refine af ?_
 refine Kz (aa.store (H':=[cB F.b F.aT (.row 6 l.length) 1 2 3 4 5,c7 F.b.aq,cY F.b.ag,c8 F.b.au,bu F.b.plan,bu F.b.b9,c9 (l++[r]),.cells r.cells 83,.cells r.cells 83]) rfl rfl rfl rfl rfl an rfl rfl) ?_
 iterate 5 refine af ?_
 refine Kc (Kp (xo 4)) ?_
 iterate 3 refine af ?_
 refine Kc (aa.aG rfl rfl mh) ?_
 iterate 3 refine af ?_
 refine Kc (Kl (.row 6 l.length)) ?_
 refine af ?_
 refine Kc (aa.aG rfl rfl ku) ?_
 refine Kc (aa.aR rfl an (by decide) rfl rfl rfl) ?_
 refine Kc (Kp (de [.str (Vb.t .keep),.num ((l.length:Nat):Int)] Kn Kn (fE (by decide) (ew (by omega) gr)))) ?_
 iterate 3 refine af ?_
 have hd:bp F .keep n=({F with marks:=fs},bn (Vb.t .keep) [((l.length:Nat):Int)],0):=by unfold bp;rw[hm];simp[hl]
 exact qL
theorem Jy(F:bT)(n:List Int)(um:V)(M:ai)(hm:F.marks=[])(hu:FB um=some 0):ay Tryz.prog 107 [.ptr 0 0,.p (Di.bh n)] (fq F.b F.aT um M) (fun _ _=>False) (fun y H2=>(bp F .keep n).2.2≠0∧y= .iface 94 (.agg [.int .i64 (bp F .keep n).2.2])∧H2=[cB F.b F.aT um 1 2 3 4 5,c7 F.b.aq,cY F.b.ag,c8 F.b.au,bu F.b.plan,bu F.b.b9,M,.cells ([.nilSlice,.nilSlice,.nilSlice,.nilSlice,.int .i64 0,.int .i64 0,.nilSlice].map .p) 83,.cells ([.nilSlice,.nilSlice,.nilSlice,.nilSlice,.int .i64 0,.int .i64 0,.nilSlice].map .p) 83]):=by
 refine ay.start (N:=25) Tryz.func107 rfl rfl Kn ?_
 iterate 9 refine af ?_
 refine Kc (aa.gK rfl rfl rfl rfl an (BY F.b F.aT um M hu)) ?_
 iterate 4 refine af ?_
 refine Kz (aa.store (H':=[cB F.b F.aT um 1 2 3 4 5,c7 F.b.aq,cY F.b.ag,c8 F.b.au,bu F.b.plan,bu F.b.b9,M,.cells ([.nilSlice,.nilSlice,.nilSlice,.nilSlice,.int .i64 0,.int .i64 0,.nilSlice].map .p) 83,.cells ([.nilSlice,.nilSlice,.nilSlice,.nilSlice,.int .i64 0,.int .i64 0,.nilSlice].map .p) 83]) rfl rfl rfl rfl rfl an rfl rfl) ?_
 iterate 5 refine af ?_
 refine aj.ct 15 (b:=false) (dn false 4) (dj false 4) rfl rfl rfl rfl rfl rfl rfl an (fun hb=> ?_) (fun hb=> ?_)
 ·have h4:(bp F .keep n).2.2=4:=by unfold bp;rw[hm];rfl
  exact⟨_,rfl,by rw[h4];decide,by rw[h4],rfl⟩
 cases hb
def kn(x:Int×FuncId):PV:= .agg [.int .i64 x.1,.func (.func x.2) [] []]
def kC:Vb->FuncId
 | .kJ=>85
 | .slat=>86
 | .lead=>88
 | .pencil=>89
 | .bad=>90
 | .good=>92
 | .blame=>93
 | .call=>97
 | .from_=>99
 | .wear=>101
 | .mark=>103
 | .back=>105
 | .keep=>107
def nv:List (ByteArray×(Int×FuncId)):=(aV (sB [107,101,101,112]) ((0:Int),(107:FuncId)) (aV (sB [98,97,99,107]) ((0:Int),(105:FuncId)) (aV (sB [109,97,114,107]) ((0:Int),(103:FuncId)) (aV (sB [119,101,97,114]) ((1:Int),(101:FuncId)) (aV (sB [102,114,111,109]) ((1:Int),(99:FuncId)) (aV (sB [99,97,108,108]) ((0:Int),(97:FuncId)) (aV (sB [98,108,97,109,101]) ((0:Int),(93:FuncId)) (aV (sB [103,111,111,100]) ((1:Int),(92:FuncId)) (aV (sB [98,97,100]) ((1:Int),(90:FuncId)) (aV (sB [112,101,110,99,105,108]) ((3:Int),(89:FuncId)) (aV (sB [108,101,97,100]) ((8:Int),(88:FuncId)) (aV (sB [115,108,97,116]) ((0:Int),(86:FuncId)) (aV (sB [115,97,99,107]) ((6:Int),(85:FuncId)) [])))))))))))))
theorem Yi{a b:Bs}:sB a=sB b↔a=b:=⟨fun h=>by rw[<- js a,h,js],fun h=>by rw[h]⟩
theorem Ip(s:Bs):cD (sB s) nv=(jH s).map fun v=>((v.many:Int),kC v):=by
 unfold nv
 simp only[lg,Yi]
 cases h:jH s with
 | some v=>
  have e:=oA h
  subst e
  cases v <;> rfl
 | none=>
  have hn:=Il h
  simp only[if_neg (show ¬ s=[115,97,99,107] from fun e=>hn .kJ e.symm),if_neg (show ¬ s=[115,108,97,116] from fun e=>hn .slat e.symm),if_neg (show ¬ s=[108,101,97,100] from fun e=>hn .lead e.symm),if_neg (show ¬ s=[112,101,110,99,105,108] from fun e=>hn .pencil e.symm),if_neg (show ¬ s=[98,97,100] from fun e=>hn .bad e.symm),if_neg (show ¬ s=[103,111,111,100] from fun e=>hn .good e.symm),if_neg (show ¬ s=[98,108,97,109,101] from fun e=>hn .blame e.symm),if_neg (show ¬ s=[99,97,108,108] from fun e=>hn .call e.symm),if_neg (show ¬ s=[102,114,111,109] from fun e=>hn .from_ e.symm),if_neg (show ¬ s=[119,101,97,114] from fun e=>hn .wear e.symm),if_neg (show ¬ s=[109,97,114,107] from fun e=>hn .mark e.symm),if_neg (show ¬ s=[98,97,99,107] from fun e=>hn .back e.symm),if_neg (show ¬ s=[107,101,101,112] from fun e=>hn .keep e.symm)]
  rfl
theorem Su{N:Nat}{T:Tm}{H:List ai}{o:Oper}(s:Bs){x y:Operand}{t:TypeId}{z:PV}(ho:o.op= .lookup t x y true)(hx:ev T x=some (.p (lW PV.str kn nv)))(hy:ev T y=some (.p (.str (sB s))))(ht:oW Tryz.prog t=some (.string,z)):aa Tryz.prog N o T H (jS [(((jH s).map fun v=>V.p (kn ((v.many:Int),kC v))).getD (.p z)),.p (.bool (jH s).isSome)]) H:=by
 have h:=aa.Ev (N:=N) (H:=H) dw.str (gp:=kn) (ms:=nv) (n:=sB s) (ok:=true) ho hx hy ht
 rw[Ip s] at h
 unfold Dg at h
 rw[if_pos rfl,Option.map_map,Option.isSome_map] at h
 exact h
theorem ri:Pure Tryz.prog 39 [] (lW PV.str kn nv):=by
 refine Kf (N:=16) Tryz.func39 ?_
 iterate 6 refine af ?_
 refine Kc (aa.makeMap (enc:=PV.str) (g:=fun x=>V.p (kn x)) rfl) ?_
 refine af ?_
 refine Kz (aa.mapUpdate (enc:=PV.str) (g:=fun x=>V.p (kn x)) (ms:=[]) (n:=sB [115,97,99,107]) (c:=((6:Int),(85:FuncId))) dw.str (.inr rfl) rfl rfl rfl rfl iU) ?_
 refine af ?_
 refine Kz (aa.mapUpdate (enc:=PV.str) (g:=fun x=>V.p (kn x)) (ms:=(aV (sB [115,97,99,107]) ((6:Int),(85:FuncId)) [])) (n:=sB [115,108,97,116]) (c:=((0:Int),(86:FuncId))) dw.str (.inr rfl) rfl rfl rfl rfl iU) ?_
 refine af ?_
 refine Kz (aa.mapUpdate (enc:=PV.str) (g:=fun x=>V.p (kn x)) (ms:=(aV (sB [115,108,97,116]) ((0:Int),(86:FuncId)) (aV (sB [115,97,99,107]) ((6:Int),(85:FuncId)) []))) (n:=sB [108,101,97,100]) (c:=((8:Int),(88:FuncId))) dw.str (.inr rfl) rfl rfl rfl rfl iU) ?_
 refine af ?_
 refine Kz (aa.mapUpdate (enc:=PV.str) (g:=fun x=>V.p (kn x)) (ms:=(aV (sB [108,101,97,100]) ((8:Int),(88:FuncId)) (aV (sB [115,108,97,116]) ((0:Int),(86:FuncId)) (aV (sB [115,97,99,107]) ((6:Int),(85:FuncId)) [])))) (n:=sB [112,101,110,99,105,108]) (c:=((3:Int),(89:FuncId))) dw.str (.inr rfl) rfl rfl rfl rfl iU) ?_
 refine af ?_
 refine Kz (aa.mapUpdate (enc:=PV.str) (g:=fun x=>V.p (kn x)) (ms:=(aV (sB [112,101,110,99,105,108]) ((3:Int),(89:FuncId)) (aV (sB [108,101,97,100]) ((8:Int),(88:FuncId)) (aV (sB [115,108,97,116]) ((0:Int),(86:FuncId)) (aV (sB [115,97,99,107]) ((6:Int),(85:FuncId)) []))))) (n:=sB [98,97,100]) (c:=((1:Int),(90:FuncId))) dw.str (.inr rfl) rfl rfl rfl rfl iU) ?_
 refine af ?_
 refine Kz (aa.mapUpdate (enc:=PV.str) (g:=fun x=>V.p (kn x)) (ms:=(aV (sB [98,97,100]) ((1:Int),(90:FuncId)) (aV (sB [112,101,110,99,105,108]) ((3:Int),(89:FuncId)) (aV (sB [108,101,97,100]) ((8:Int),(88:FuncId)) (aV (sB [115,108,97,116]) ((0:Int),(86:FuncId)) (aV (sB [115,97,99,107]) ((6:Int),(85:FuncId)) [])))))) (n:=sB [103,111,111,100]) (c:=((1:Int),(92:FuncId))) dw.str (.inr rfl) rfl rfl rfl rfl iU) ?_
 refine af ?_
 refine Kz (aa.mapUpdate (enc:=PV.str) (g:=fun x=>V.p (kn x)) (ms:=(aV (sB [103,111,111,100]) ((1:Int),(92:FuncId)) (aV (sB [98,97,100]) ((1:Int),(90:FuncId)) (aV (sB [112,101,110,99,105,108]) ((3:Int),(89:FuncId)) (aV (sB [108,101,97,100]) ((8:Int),(88:FuncId)) (aV (sB [115,108,97,116]) ((0:Int),(86:FuncId)) (aV (sB [115,97,99,107]) ((6:Int),(85:FuncId)) []))))))) (n:=sB [98,108,97,109,101]) (c:=((0:Int),(93:FuncId))) dw.str (.inr rfl) rfl rfl rfl rfl iU) ?_
 refine af ?_
 refine Kz (aa.mapUpdate (enc:=PV.str) (g:=fun x=>V.p (kn x)) (ms:=(aV (sB [98,108,97,109,101]) ((0:Int),(93:FuncId)) (aV (sB [103,111,111,100]) ((1:Int),(92:FuncId)) (aV (sB [98,97,100]) ((1:Int),(90:FuncId)) (aV (sB [112,101,110,99,105,108]) ((3:Int),(89:FuncId)) (aV (sB [108,101,97,100]) ((8:Int),(88:FuncId)) (aV (sB [115,108,97,116]) ((0:Int),(86:FuncId)) (aV (sB [115,97,99,107]) ((6:Int),(85:FuncId)) [])))))))) (n:=sB [99,97,108,108]) (c:=((0:Int),(97:FuncId))) dw.str (.inr rfl) rfl rfl rfl rfl iU) ?_
 refine af ?_
 refine Kz (aa.mapUpdate (enc:=PV.str) (g:=fun x=>V.p (kn x)) (ms:=(aV (sB [99,97,108,108]) ((0:Int),(97:FuncId)) (aV (sB [98,108,97,109,101]) ((0:Int),(93:FuncId)) (aV (sB [103,111,111,100]) ((1:Int),(92:FuncId)) (aV (sB [98,97,100]) ((1:Int),(90:FuncId)) (aV (sB [112,101,110,99,105,108]) ((3:Int),(89:FuncId)) (aV (sB [108,101,97,100]) ((8:Int),(88:FuncId)) (aV (sB [115,108,97,116]) ((0:Int),(86:FuncId)) (aV (sB [115,97,99,107]) ((6:Int),(85:FuncId)) []))))))))) (n:=sB [102,114,111,109]) (c:=((1:Int),(99:FuncId))) dw.str (.inr rfl) rfl rfl rfl rfl iU) ?_
 refine af ?_
 refine Kz (aa.mapUpdate (enc:=PV.str) (g:=fun x=>V.p (kn x)) (ms:=(aV (sB [102,114,111,109]) ((1:Int),(99:FuncId)) (aV (sB [99,97,108,108]) ((0:Int),(97:FuncId)) (aV (sB [98,108,97,109,101]) ((0:Int),(93:FuncId)) (aV (sB [103,111,111,100]) ((1:Int),(92:FuncId)) (aV (sB [98,97,100]) ((1:Int),(90:FuncId)) (aV (sB [112,101,110,99,105,108]) ((3:Int),(89:FuncId)) (aV (sB [108,101,97,100]) ((8:Int),(88:FuncId)) (aV (sB [115,108,97,116]) ((0:Int),(86:FuncId)) (aV (sB [115,97,99,107]) ((6:Int),(85:FuncId)) [])))))))))) (n:=sB [119,101,97,114]) (c:=((1:Int),(101:FuncId))) dw.str (.inr rfl) rfl rfl rfl rfl iU) ?_
 refine af ?_
 refine Kz (aa.mapUpdate (enc:=PV.str) (g:=fun x=>V.p (kn x)) (ms:=(aV (sB [119,101,97,114]) ((1:Int),(101:FuncId)) (aV (sB [102,114,111,109]) ((1:Int),(99:FuncId)) (aV (sB [99,97,108,108]) ((0:Int),(97:FuncId)) (aV (sB [98,108,97,109,101]) ((0:Int),(93:FuncId)) (aV (sB [103,111,111,100]) ((1:Int),(92:FuncId)) (aV (sB [98,97,100]) ((1:Int),(90:FuncId)) (aV (sB [112,101,110,99,105,108]) ((3:Int),(89:FuncId)) (aV (sB [108,101,97,100]) ((8:Int),(88:FuncId)) (aV (sB [115,108,97,116]) ((0:Int),(86:FuncId)) (aV (sB [115,97,99,107]) ((6:Int),(85:FuncId)) []))))))))))) (n:=sB [109,97,114,107]) (c:=((0:Int),(103:FuncId))) dw.str (.inr rfl) rfl rfl rfl rfl iU) ?_
 refine af ?_
 refine Kz (aa.mapUpdate (enc:=PV.str) (g:=fun x=>V.p (kn x)) (ms:=(aV (sB [109,97,114,107]) ((0:Int),(103:FuncId)) (aV (sB [119,101,97,114]) ((1:Int),(101:FuncId)) (aV (sB [102,114,111,109]) ((1:Int),(99:FuncId)) (aV (sB [99,97,108,108]) ((0:Int),(97:FuncId)) (aV (sB [98,108,97,109,101]) ((0:Int),(93:FuncId)) (aV (sB [103,111,111,100]) ((1:Int),(92:FuncId)) (aV (sB [98,97,100]) ((1:Int),(90:FuncId)) (aV (sB [112,101,110,99,105,108]) ((3:Int),(89:FuncId)) (aV (sB [108,101,97,100]) ((8:Int),(88:FuncId)) (aV (sB [115,108,97,116]) ((0:Int),(86:FuncId)) (aV (sB [115,97,99,107]) ((6:Int),(85:FuncId)) [])))))))))))) (n:=sB [98,97,99,107]) (c:=((0:Int),(105:FuncId))) dw.str (.inr rfl) rfl rfl rfl rfl iU) ?_
 refine af ?_
 refine Kz (aa.mapUpdate (enc:=PV.str) (g:=fun x=>V.p (kn x)) (ms:=(aV (sB [98,97,99,107]) ((0:Int),(105:FuncId)) (aV (sB [109,97,114,107]) ((0:Int),(103:FuncId)) (aV (sB [119,101,97,114]) ((1:Int),(101:FuncId)) (aV (sB [102,114,111,109]) ((1:Int),(99:FuncId)) (aV (sB [99,97,108,108]) ((0:Int),(97:FuncId)) (aV (sB [98,108,97,109,101]) ((0:Int),(93:FuncId)) (aV (sB [103,111,111,100]) ((1:Int),(92:FuncId)) (aV (sB [98,97,100]) ((1:Int),(90:FuncId)) (aV (sB [112,101,110,99,105,108]) ((3:Int),(89:FuncId)) (aV (sB [108,101,97,100]) ((8:Int),(88:FuncId)) (aV (sB [115,108,97,116]) ((0:Int),(86:FuncId)) (aV (sB [115,97,99,107]) ((6:Int),(85:FuncId)) []))))))))))))) (n:=sB [107,101,101,112]) (c:=((0:Int),(107:FuncId))) dw.str (.inr rfl) rfl rfl rfl rfl iU) ?_
 iterate 3 refine af ?_
 refine aF.to (To.sM 0 (enc:=PV.str) (gp:=kn) (ms:=nv) rfl) ?_
 refine af ?_
 exact jO
theorem yR{s w:Bs}{l:List Bs}(hw:bf s=w::l)(h:jH w=none):bO s=none:=by
 unfold bO
 rw[hw]
 simp only[h]
theorem yE{s w:Bs}{l:List Bs}{v:Vb}(hw:bf s=w::l)(hv:jH w=some v)(h:l.length≠v.many):bO s=none:=by
 unfold bO
 rw[hw]
 simp only[hv]
 rw[if_neg h]
theorem S1{x:Bs}:rB x=true↔gV x:=by
 unfold rB
 constructor
 ·intro h
  by_cases hc:gV x
  ·exact hc
  ·rw[zZ hc] at h;cases h
 ·intro h
  rw[ux h];rfl
theorem yB{s w:Bs}{l:List Bs}{v:Vb}(hw:bf s=w::l)(hv:jH w=some v)(h:¬ ∀ x∈l,gV x):bO s=none:=by
 unfold bO
 rw[hw]
 simp only[hv]
 have h2:l.all rB=false:=by
  cases hb:l.all rB with
  | false=>rfl
  | true=>exact absurd (fun x hx=>S1.1 (Zz.1 hb x hx)) h
 rw[mapM_none l h2]
 split <;> rfl
theorem zi{s w:Bs}{l:List Bs}{v:Vb}(hw:bf s=w::l)(hv:jH w=some v)(hl:l.length=v.many)(h:∀ x∈l,gV x):bO s=some (v,l.map fJ):=by
 unfold bO
 rw[hw]
 simp only[hv]
 rw[if_pos hl,vv l (Zz.2 fun x hx=>S1.2 (h x hx))]
 rfl
theorem xp(s:Bs):∃ w l,bf s=w::l:=by
 have h:=ou s
 cases hw:bf s with
 | nil=>rw[hw] at h;cases h
 | cons w l=>exact⟨w,l,rfl⟩
theorem yG:∀(ws cs pre t:List V),cs.length=ws.length->setAt (pre++cs++t) pre.length ws=pre++ws++t
 | [],cs,pre,t,h=>by
  rw[ZA h];rfl
 | w::ws,[],pre,t,h=>by cases h
 | w::ws,c::cs,pre,t,h=>by
  show setAt ((pre++c::cs++t).set pre.length w) (pre.length+1) ws=_
  have e:(pre++c::cs++t).set pre.length w=(pre++[w])++cs++t:=by
   rw[ZQ,List.set_append_right _ _ (Zf _),OX]
   simp
  rw[e]
  have:=yG ws cs (pre++[w]) t (by simpa using h)
  rw[Zc,Wo] at this
  rw[this]
  simp
theorem Md{ws cs t:List V}(h:cs.length=ws.length):setAt (cs++t) 0 ws=ws++t:=yG ws cs [] t h
theorem C4{H:List ai}{i k:Nat}{cs:List V}{e:TypeId}{v:V}(h:H[i]? =some (.cells cs e))(hk:cs[k]? =some v):cV H false 1 (.ptr i k)=some v:=by
 simp only[cV,h]
 exact hk
theorem UB{H:List ai}{i n:Nat}{cs:List V}{e:TypeId}(h:H[i]? =some (.cells cs e))(hn:cs.length=n):cV H true n (.ptr i 0)=some (fZ cs):=by
 simp only[cV,h]
 show(if 0+n<=cs.length then some (fZ ((cs.drop 0).take n)) else none)=_
 rw[if_pos (by omega),Wh,O4 (by omega)]
theorem BL{H:List ai}{i:Nat}{cs ws:List V}{e:TypeId}(h:H[i]? =some (.cells cs e))(hn:cs.length=ws.length):fI H i 0 ws=some (H.set i (.cells ws e)):=by
 simp only[fI,h]
 rw[if_pos (by omega)]
 have:=Md (t:=[]) hn
 rw[ZX,ZX] at this
 rw[this]
theorem TR{H:List ai}{i:Nat}{cs ws t:List V}{e:TypeId}(h:H[i]? =some (.cells (cs++t) e))(hn:cs.length=ws.length):fI H i 0 ws=some (H.set i (.cells (ws++t) e)):=by
 simp only[fI,h]
 rw[if_pos (by rw[Zc];omega),Md hn]
theorem Qg{H:List ai}{x y:ai}:(H++[x]).set H.length y=H++[y]:=by
 rw[List.set_append_right _ _ (Zf _),OX];rfl
theorem HL{H:List ai}{x:ai}:(H++[x])[H.length]? =some x:=by
 rw[Zj (Zf _),OX];rfl
theorem og{H X:List ai}{i:Nat}{x:ai}(h:H[i]? =some x):(H++X)[i]? =some x:=by
 rw[Zd (Za.1 h).1];exact h
theorem bQ{H:List ai}{i j:Nat}{x y:ai}(hij:j≠i)(h:H[i]? =some x):(H.set j y)[i]? =some x:=by
 rw[Zt,if_neg hij];exact h
theorem fO{H:List ai}{i:Nat}{x y:ai}(h:H[i]? =some x):(H.set i y)[i]? =some y:=by
 rw[Zt,if_pos rfl,if_pos (Za.1 h).1]
def LH(b:bI)(p:Di.bJ)(um:V)(M:ai):List ai:=[cB b p um 1 2 3 4 5,c7 b.aq,cY b.ag,c8 b.au,bu b.plan,bu b.b9,M,.cells [.ptr 0 0] 30,.cells [.p (.str (sB []))] 9,.cells [.p (.int .i64 0)] 41,.dead,.dead,cY b.ag,c7 b.aq,c8 b.au,bu b.plan,bu b.b9,.cells (di 13 12 14 15 16 b) 83]
def gF(H:List ai)(b:bI)(p:Di.bJ)(um:V)(e:Int):List ai:=((((H++[ai.cells [.p (.int .i64 e)] 94]).set 0 (cB b p um 13 12 14 15 16)).set 8 (.cells [.p (.str (sB []))] 9)).set 9 (.cells [.p (.int .i64 e)] 41))
theorem ML{N:Nat}{fn:Func}{T:Tm}{H:List ai}{t:ByteArray}{e:Int}(hfn:fn.results=[ResultVar.cell 4 9,.cell 5 41].toArray)(h4:lk T 4=some (.ptr 8 0))(h5:lk T 5=some (.ptr 9 0))(k8:H[8]? =some (.cells [.p (.str t)] 9))(k9:H[9]? =some (.cells [.p (.int .i64 e)] 41)):eX Tryz.prog N fn T H (.p (.tuple [.str t,.int .i64 e])):=
 eX.many (vs:=[.p (.str t),.p (.int .i64 e)]) hfn ⟨_,_,rfl,⟨_,_,_,h4,an,C4 k8 rfl⟩,⟨_,_,rfl,⟨_,_,_,h5,an,C4 k9 rfl⟩,rfl⟩⟩
theorem Az{H:List ai}{b:bI}{p:Di.bJ}{um:V}{e:Int}(h:9<H.length):(gF H b p um e)[8]? =some (.cells [.p (.str (sB []))] 9):=by
 unfold gF
 exact bQ (by decide) (fO (x:=((H++[ai.cells [.p (.int .i64 e)] 94]).set 0 (cB b p um 13 12 14 15 16))[8]'(by simp;omega)) (Zb _))
theorem AB{H:List ai}{b:bI}{p:Di.bJ}{um:V}{e:Int}(h:9<H.length):(gF H b p um e)[9]? =some (.cells [.p (.int .i64 e)] 41):=by
 unfold gF
 exact fO (x:=(((H++[ai.cells [.p (.int .i64 e)] 94]).set 0 (cB b p um 13 12 14 15 16)).set 8 (.cells [.p (.str (sB []))] 9))[9]'(by simp;omega)) (Zb _)
theorem pO{N:Nat}{T:Tm}{H:List ai}{o:Oper}(s:Bs)(v:Vb)(hv:jH s=some v){x y:Operand}{t:TypeId}{z:PV}(ho:o.op= .lookup t x y true)(hx:ev T x=some (.p (lW PV.str kn nv)))(hy:ev T y=some (.p (.str (sB s))))(ht:oW Tryz.prog t=some (.string,z)):aa Tryz.prog N o T H (.p (.tuple [.agg [.int .i64 (v.many:Int),.func (.func (kC v)) [] []],.bool true])) H:=by
 have h:=Su (N:=N) (H:=H) s ho hx hy ht
 rw[hv] at h
 exact h
theorem FA{N:Nat}{T:Tm}{H:List ai}{o:Oper}(s:Bs)(hv:jH s=none){x y:Operand}{t:TypeId}{z:PV}(ho:o.op= .lookup t x y true)(hx:ev T x=some (.p (lW PV.str kn nv)))(hy:ev T y=some (.p (.str (sB s))))(ht:oW Tryz.prog t=some (.string,z)):aa Tryz.prog N o T H (.p (.tuple [z,.bool false])) H:=by
 have h:=Su (N:=N) (H:=H) s ho hx hy ht
 rw[hv] at h
 exact h
theorem Hi(w:Bs)(l:List Bs):(((w::l).flatMap je).drop (1*1)).take ((l.length+1 - 1)*1)=l.flatMap je:=by
 show(l.flatMap je).take _=_
 rw[Ks,Nat.add_sub_cancel]
 have e:(l.flatMap je).length=l.length:=by rw[AF.cy (c:=1) (fun _=>rfl),Ks]
 exact O4 (Pa e)
theorem H9(b:bI)(p:Di.bJ)(um:V)(M:ai)(hu:∀ σ:Nat->Option Nat,(M.live=true->σ 6=some 6)->aY σ um=um)(hM:∀ σ,aH σ M=M):(LH b p um M).map (aH (sg 18 []))=LH b p um M:=by
 unfold LH
 simp only[ZD,C5,c7,cY,c8,bu,bC,fA,hM,bR,F1 (n0:=18) (um:=um) (ms:=[]) (hu _ fun _=>rfl) (show 1<18 by decide) (show 2<18 by decide) (show 3<18 by decide) (show 4<18 by decide) (show 5<18 by decide),ke (n0:=18) (show 13<18 by decide) (show 12<18 by decide) (show 14<18 by decide) (show 15<18 by decide) (show 16<18 by decide),bK,b8,dV]
 rfl
theorem IM{H:List ai}{Hq:List ai->Prop}(hH:Hq H):x6 Tryz.prog 37 [.ptr 17 0,.ptr 7 0,.ptr 8 0,.ptr 9 0] H none Hq:=by
 refine x6.start (N:=24) Tryz.func37 rfl rfl Kn (Z3 rfl) rfl rfl rfl rfl rfl rfl rfl rfl ?_
 iterate 3 refine af ?_
 refine Kc (aa.HC rfl rfl S3) ?_
 refine af ?_
 refine Ki (fun hc0=> ?_) fun hc0=> ?_
 ·cases hc0
 ·refine af ?_
  exact⟨.inl rfl,hH⟩
theorem rZ{H:List ai}{Hq:List ai->Prop}{cs:List V}(b:bI)(p:Di.bJ)(um:V)(e:Int)(h0:H[0]? =some (.cells (cs++p.cells.map .p++[um,.p (.bool true)]) 87))(hc:cs.length=7)(h7:H[7]? =some (.cells [.ptr 0 0] 30))(h8:H[8]? =some (.cells [.p (.str (sB []))] 9))(h9:H[9]? =some (.cells [.p (.int .i64 0)] 41))(h17:H[17]? =some (.cells (di 13 12 14 15 16 b) 83))(hH:Hq (gF H b p um e)):x6 Tryz.prog 37 [.ptr 17 0,.ptr 7 0,.ptr 8 0,.ptr 9 0] H (some (.iface 94 (.agg [.int .i64 e]))) Hq:=by
 refine x6.start (N:=24) Tryz.func37 rfl rfl Kn (Z3 rfl) rfl rfl rfl rfl rfl rfl rfl rfl ?_
 iterate 3 refine af ?_
 refine Kc (aa.aai rfl rfl S3) ?_
 refine af ?_
 refine Ki (fun hc0=> ?_) fun hc0=> ?_
 ·iterate 3 refine af ?_
  refine Kc (aa.taG rfl rfl SV (⟨94,_,rfl,.inl ⟨rfl,rfl⟩⟩)) ?_
  iterate 4 refine af ?_
  refine Kz (aa.store (H':=H++[.cells [.p (.int .i64 e)] 94]) rfl rfl rfl rfl rfl an rfl ((BL (H:=H++[ai.cells [.p (.int .i64 0)] 94]) (i:=H.length) (cs:=[.p (.int .i64 0)]) (ws:=[.p (.int .i64 e)]) HL rfl).trans (congrArg some Qg))) ?_
  iterate 4 refine af ?_
  have g0:=og (X:=[ai.cells [.p (.int .i64 e)] 94]) h0
  have g7:=og (X:=[ai.cells [.p (.int .i64 e)] 94]) h7
  have g8:=og (X:=[ai.cells [.p (.int .i64 e)] 94]) h8
  have g9:=og (X:=[ai.cells [.p (.int .i64 e)] 94]) h9
  have g17:=og (X:=[ai.cells [.p (.int .i64 e)] 94]) h17
  have gm1:=HL (H:=H) (x:=ai.cells [.p (.int .i64 e)] 94)
  obtain⟨H1,Sw⟩:∃ X,X=H++[ai.cells [.p (.int .i64 e)] 94]:=⟨_,rfl⟩
  refine aF.xO (H':=H1) Sw ?_
  rw[<- Sw] at g0 g7 g8 g9 g17 gm1
  have hL:=(Za.1 h17).1
  iterate 4 refine af ?_
  refine Ki (fun cK=> ?_) fun cK=> ?_
  ·cases cK
  ·iterate 3 refine af ?_
   refine Kc (aa.load (v:= .ptr 0 0) rfl rfl an (C4 g7 rfl)) ?_
   refine Kc (aa.load (v:= .agg (di 13 12 14 15 16 b)) rfl rfl an ((UB g17 rfl).trans (congrArg some (x9 _ _ _ _ _ b)))) ?_
   iterate 2 refine af ?_
   refine Kz (aa.store rfl rfl rfl rfl (pZ _ _ _ _ _ b) an rfl (TR (t:=p.cells.map .p++[um,.p (.bool true)]) (by rw[<- ZQ];exact g0) hc)) ?_
   refine af ?_
   have g82:=bQ (j:=0) (y:=cB b p um 13 12 14 15 16) (by decide) g8
   have g92:=bQ (j:=0) (y:=cB b p um 13 12 14 15 16) (by decide) g9
   have gm:=bQ (j:=0) (y:=cB b p um 13 12 14 15 16) (by omega) gm1
   obtain⟨H2,eH2⟩:∃ X,X=H1.set 0 (cB b p um 13 12 14 15 16):=⟨_,rfl⟩
   refine aF.xO (H':=H2) (by rw[eH2];unfold cB;rw[ZQ];rfl) ?_
   rw[<- eH2] at g82 g92 gm
   have gm3:=bQ (j:=8) (y:=ai.cells [.p (.str (sB []))] 9) (by omega) gm
   have g93:=bQ (j:=8) (y:=ai.cells [.p (.str (sB []))] 9) (by decide) g92
   refine aF.iT 3 (H2.set 8 (.cells [.p (.str (sB []))] 9)) mixed (by kernel_rfl) (by decide) ?_
   refine aA.cons 22 rfl rfl rfl (aa.fieldAddr rfl rfl an rfl) (aa.fieldAddr rfl rfl an rfl) ?_
   refine aA.cons 23 rfl rfl rfl (aa.load (v:= .p (.int .i64 e)) rfl rfl an (C4 (by first | exact gm | exact gm3) rfl)) (aa.load (v:= .p (.int .i64 e)) rfl rfl an (C4 (by first | exact gm | exact gm3) rfl)) ?_
   refine aA.put rfl rfl (aa.store rfl rfl rfl rfl rfl an rfl (BL g82 rfl)) ?_
   refine aA.nil ?_
   refine Kz (aa.store rfl rfl rfl rfl rfl an rfl (BL g93 rfl)) ?_
   refine af ?_
   subst eH2 Sw
   exact⟨.inl rfl,hH⟩
 ·cases hc0
abbrev y6:TypeId:=83
structure bW (H H2:List ai):Prop where
 len:7<=H2.length
 dead:∀(j:Nat) (x y:ai),j<7->H[j]? =some x->x.live=false->H2[j]? =some y->y.live=false
theorem bW.k{H H2 H3:List ai}(h:bW H H2)(hd:∀ j,j<7->∃ x,H[j]? =some x∧(H3.getD j .dead).live=x.live):fQ H3 [0,1,2,3,4,5,6] H2:=by
 refine⟨h.len,fun j i y hk hl hy=> ?_⟩
 have hj:j<7:=(Za.1 hk).1
 have hji:i=j:=by
  have:([0,1,2,3,4,5,6]:List Nat)[j]? =some j:=by
   match j,hj with
   | 0,_=>rfl
   | 1,_=>rfl
   | 2,_=>rfl
   | 3,_=>rfl
   | 4,_=>rfl
   | 5,_=>rfl
   | 6,_=>rfl
  rw[this] at hk
  exact(Zy hk).symm
 subst hji
 obtain⟨x,h1,h2⟩:=hd i hj
 exact h.dead i x y hj h1 (by rw[<- h2];exact hl) hy
theorem wm(b:bI)(p:Di.bJ)(um:V)(M x:ai):∀ j,j<7->∃ y,(fq b p um M)[j]? =some y∧((LH b p um M++[x]).getD j .dead).live=y.live:=fun j hj=>by
 match j,hj with
 | 0,_=>exact⟨_,rfl,rfl⟩
 | 1,_=>exact⟨_,rfl,rfl⟩
 | 2,_=>exact⟨_,rfl,rfl⟩
 | 3,_=>exact⟨_,rfl,rfl⟩
 | 4,_=>exact⟨_,rfl,rfl⟩
 | 5,_=>exact⟨_,rfl,rfl⟩
 | 6,_=>exact⟨_,rfl,rfl⟩
theorem gB{H:List ai}{ks:List Nat}{i j n:Nat}{cs:List V}{e:TypeId}(hp:pl ks i=some j)(hx:H.getD i .dead=dA cs e n):aY (oD H ks) (aW i n)=aW j n:=by
 cases n with
 | zero=>rfl
 | succ n=>exact cC (by unfold oD;rw[hx];exact hp)
theorem VU(b:bI)(p:Di.bJ)(um:V)(M:ai)(hu:∀ σ:Nat->Option Nat,(M.live=true->σ 6=some 6)->aY σ um=um)(hM:∀ σ,aH σ M=M)(x:ai):(([0,1,2,3,4,5,6]:List Nat).map fun i=>aH (oD (LH b p um M++[x]) [0,1,2,3,4,5,6]) ((LH b p um M++[x]).getD i .dead))=fq b p um M:=by
 have h0:aH (oD (LH b p um M++[x]) [0,1,2,3,4,5,6]) (cB b p um 1 2 3 4 5)=cB b p um 1 2 3 4 5:=by
  unfold cB di
  rw[bR,bF,bF,aX]
  simp only[bK,b8,dV]
  rw[gB (j:=1) rfl rfl,gB (j:=2) rfl rfl,gB (j:=3) rfl rfl,gB (j:=4) rfl rfl,gB (j:=5) rfl rfl,hu _ (fun h=>by unfold oD;exact if_pos h)]
 show[aH _ (cB b p um 1 2 3 4 5),aH _ (c7 b.aq),aH _ (cY b.ag),aH _ (c8 b.au),aH _ (bu b.plan),aH _ (bu b.b9),aH _ M]=_
 rw[h0,hM]
 simp only[c7,cY,c8,bu,bC]
 rfl
theorem Tr(b:bI)(p:Di.bJ)(um:V)(M x:ai):M.live=true->dR (LH b p um M++[x]) [0,1,2,3,4,5,6] 6=some 6:=fun h=>by
 show(if ((LH b p um M++[x]).getD 6 .dead).live=true then some 6 else none)=some 6
 exact if_pos h
theorem dy(σ:Nat->Option Nat):∀ l:List V,(bw σ l).length=l.length
 | []=>rfl
 | v::l=>by rw[bK,Zo,Zo,dy σ l]
theorem vc{σ:Nat->Option Nat}{cs:List V}{p:Di.bJ}{um:V}{e:TypeId}(hu:aY σ um=um):aH σ (.cells (cs++p.cells.map .p++[um,.p (.bool true)]) e)= .cells (bw σ cs++p.cells.map .p++[um,.p (.bool true)]) e:=by
 rw[bR,bF,bF,aX]
 simp only[bK,b8,dV,hu]
theorem Pk(v:Vb):ak Tryz.prog (kC v)=true:=by
 cases v <;> kernel_rfl
theorem Jr(b:bI)(p:Di.bJ)(um:V)(M:ai)(hu:∀ σ:Nat->Option Nat,(M.live=true->σ 6=some 6)->aY σ um=um)(hM:∀ σ,aH σ M=M)(h1:b.aq.length<=1000)(h2:b.ag.length<=1000)(h3:b.au.length<=1000)(h4:b.plan.length<=1000)(h5:b.b9.length<=1000)(s:Bs)(hs:120<s.length):az Tryz.prog 13 [.ptr 0 0,.p (.str (sB s))] (fq b p um M) (fun v H2=>v= .p (.tuple [.str (sB []),.int .i64 3])∧H2=fq b p um M++[.cells [.ptr 0 0] 30,.cells [.p (.str (sB []))] 9,.cells [.p (.int .i64 3)] 41]):=by
 refine az.start (N:=58) Tryz.func13 rfl rfl Kn ?_
 iterate 2 refine af ?_
 refine Kc (aa.jf rfl rfl rfl) ?_
 iterate 8 refine af ?_
 refine Kc (aa.si rfl rfl rfl an) ?_
 refine af ?_
 refine Kg 14 13 2 rfl (fun h=>(aa.load rfl rfl an rfl)) ?_
 refine Kh 15 13 14 rfl rfl rfl rfl (fun h=>(aa.nilCheck rfl rfl)) ?_
 refine Kh 16 13 15 rfl rfl rfl rfl (fun h=>(aa.fieldAddr rfl rfl an rfl)) ?_
 refine Kh 17 13 16 rfl rfl rfl rfl (fun h=>(Kl (.p (.bool true)))) ?_
 refine Kh 18 13 17 rfl rfl rfl rfl (fun h=>(aa.gW rfl rfl)) ?_
 refine Kc (aa.kA rfl rfl rfl ?_) ?_
 ·exact ax
 iterate 2 refine af ?_
 refine Ki (fun hc0=> ?_) fun hc0=> ?_
 ·exact absurd hc0 (by decide)
 ·iterate 3 refine af ?_
  refine Kc (aa.gw rfl rfl EV) ?_
  iterate 3 refine af ?_
  refine Ki (fun cK=> ?_) fun cK=> ?_
  ·iterate 6 refine af ?_
   exact⟨.inr rfl,_,ML rfl rfl rfl rfl rfl,rfl,rfl⟩
  ·exfalso
   have h:=Zk cK
   rw[cU] at h
   omega
theorem Vs(b:bI)(p:Di.bJ)(um:V)(M:ai)(hu:∀ σ:Nat->Option Nat,(M.live=true->σ 6=some 6)->aY σ um=um)(hM:∀ σ,aH σ M=M)(h1:b.aq.length<=1000)(h2:b.ag.length<=1000)(h3:b.au.length<=1000)(h4:b.plan.length<=1000)(h5:b.b9.length<=1000)(s:Bs)(hs:s.length<=120)(w:Bs)(l:List Bs)(hw:bf s=w::l)(hv:jH w=none):az Tryz.prog 13 [.ptr 0 0,.p (.str (sB s))] (fq b p um M) (fun x H2=>x= .p (.tuple [.str (sB []),.int .i64 8])∧H2=gF (LH b p um M++[ai.cells [.p (.int .i64 0),.p .nilFunc] 99]) b p um 8):=by
 have nA:(w::l).length=l.length+1:=rfl
 have hsp:=ry s (by omega)
 rw[hw] at hsp
 have F0:=(iH 32 s []).2
 rw[show c5 32 [] s=w::l from hw,Zo] at F0
 have YX:l.length<=1000000:=by omega
 have O7:∀ x∈l,x.length<=1000000:=fun x hx=>by have h6:=lY 32 s [] x (by rw[show c5 32 [] s=w::l from hw];exact Zl _ hx);rw[Km] at h6;omega
 refine az.uc (N:=58) (g:=37) (dm:=29) (T1:=[(1,.p (.str (sB s))),(2,.ptr 7 0),(4,.ptr 8 0),(5,.ptr 9 0),(6,.ptr 17 0)]) (H1:=LH b p um M) (caps:=[.ptr 17 0,.ptr 7 0,.ptr 8 0,.ptr 9 0]) Tryz.func13 rfl rfl Kn ?_ (aa.makeFunc (fi:=[]) (ca:=[.ptr 17 0,.ptr 7 0,.ptr 8 0,.ptr 9 0]) rfl rfl rfl) rfl rfl rfl rfl rfl rfl an ?_
 ·exact rN
 ·iterate 3 refine af ?_
  refine Kc (Kp (hsp)) ?_
  iterate 3 refine af ?_
  refine aF.bU 10 1 [18] [([],false),([],false),([],false),([],false),([],false),([],false),([],false),([],false),([18],true),([18],true)] mixed (by kernel_rfl) (by decide) (by kernel_rfl) rfl (H9 b p um M hu hM) ?_
  refine bA.cons 33 rfl rfl rfl (fun _=>(Kp (ri))) rfl ?_
  refine af ?_
  refine bA.cons 35 rfl rfl rfl (fun _=>(aa.aP (g:=Di.gt [] (w::l)) (k:=0) (Di.aE _) rfl rfl rfl an qh rfl (fun _=>rfl) (by decide) (Tu _))) rfl ?_
  refine bA.cons 36 rfl rfl rfl (fun _=>(Kl (.p (.str (sB w))))) rfl ?_
  refine bA.cons 37 rfl rfl rfl (fun _=>(FA w hv rfl rfl rfl iU)) rfl ?_
  refine af ?_
  refine bA.cons 38 rfl rfl rfl (fun _=>(aa.extract rfl rfl rfl)) rfl ?_
  refine bA.cons 39 rfl rfl rfl (fun _=>(aa.extract rfl rfl rfl)) rfl ?_
  refine bA.lay (v0:= .ptr 19 0) 8 18 rfl rfl rfl rfl rfl rfl rfl rfl (fun _=>(aa.aO rfl an rfl)) rfl rfl rfl ?_
  refine bA.put (blk:= .cells [.p (.int .i64 0),.p .nilFunc] 99) 18 rfl rfl rfl rfl (fun _=>(aa.store rfl rfl rfl rfl rfl an rfl rfl)) rfl rfl ?_
  refine bA.nil ?_
  iterate 3 refine af ?_
  refine aF.xO (H':=LH b p um M++[ai.cells [.p (.int .i64 0),.p .nilFunc] 99]) rfl ?_
  iterate 3 refine af ?_
  refine Kg 42 41 7 rfl (fun h=>(aa.move rfl rfl)) ?_
  refine Kh 43 41 42 rfl rfl rfl rfl (fun h=>(aa.bD rfl rfl an rfl)) ?_
  refine Kh 44 41 43 rfl rfl rfl rfl (fun h=>(aa.fN (m:=((l.length:Nat):Int)) rfl rfl rfl ((aI (by omega)).trans (by omega)))) ?_
  refine Kg 45 41 8 rfl (fun h=>(aa.fieldAddr rfl rfl an rfl)) ?_
  refine Kh 46 41 45 rfl rfl rfl rfl (fun h=>(Kl (.p (.int .i64 0)))) ?_
  refine aj.g 47 41 rfl rfl rfl rfl rfl rfl rfl [(44,_),(46,_)] (fun h=>And.intro (.inr ⟨_,rfl,h⟩) (And.intro (.inr ⟨_,rfl,h⟩) (trivial))) (fun h=>(aa.eql rfl rfl rfl)) ?_
  refine Kc (aa.ec rfl rfl rfl ?_) ?_
  ·exact ax
  refine aj.ct 49 (b:=_) (dn _ 8) (dj _ 8) rfl rfl rfl rfl rfl rfl rfl an (fun hb=> ?_) (fun hb=> ?_)
  ·exact CR
  simp at hb
theorem UK(b:bI)(p:Di.bJ)(um:V)(M:ai)(hu:∀ σ:Nat->Option Nat,(M.live=true->σ 6=some 6)->aY σ um=um)(hM:∀ σ,aH σ M=M)(h1:b.aq.length<=1000)(h2:b.ag.length<=1000)(h3:b.au.length<=1000)(h4:b.plan.length<=1000)(h5:b.b9.length<=1000)(s:Bs)(hs:s.length<=120)(w:Bs)(l:List Bs)(hw:bf s=w::l)(v:Vb)(hv:jH w=some v)(hm:l.length≠v.many):az Tryz.prog 13 [.ptr 0 0,.p (.str (sB s))] (fq b p um M) (fun x H2=>x= .p (.tuple [.str (sB []),.int .i64 8])∧H2=gF (LH b p um M++[ai.cells [.p (.int .i64 (v.many:Int)),.p (.func (.func (kC v)) [] [])] 99]) b p um 8):=by
 have nA:(w::l).length=l.length+1:=rfl
 have hsp:=ry s (by omega)
 rw[hw] at hsp
 have F0:=(iH 32 s []).2
 rw[show c5 32 [] s=w::l from hw,Zo] at F0
 have YX:l.length<=1000000:=by omega
 have O7:∀ x∈l,x.length<=1000000:=fun x hx=>by have h6:=lY 32 s [] x (by rw[show c5 32 [] s=w::l from hw];exact Zl _ hx);rw[Km] at h6;omega
 refine az.uc (N:=58) (g:=37) (dm:=29) (T1:=[(1,.p (.str (sB s))),(2,.ptr 7 0),(4,.ptr 8 0),(5,.ptr 9 0),(6,.ptr 17 0)]) (H1:=LH b p um M) (caps:=[.ptr 17 0,.ptr 7 0,.ptr 8 0,.ptr 9 0]) Tryz.func13 rfl rfl Kn ?_ (aa.makeFunc (fi:=[]) (ca:=[.ptr 17 0,.ptr 7 0,.ptr 8 0,.ptr 9 0]) rfl rfl rfl) rfl rfl rfl rfl rfl rfl an ?_
 ·exact rN
 ·iterate 3 refine af ?_
  refine Kc (Kp (hsp)) ?_
  iterate 3 refine af ?_
  refine aF.bU 10 1 [18] [([],false),([],false),([],false),([],false),([],false),([],false),([],false),([],false),([18],true),([18],true)] mixed (by kernel_rfl) (by decide) (by kernel_rfl) rfl (H9 b p um M hu hM) ?_
  refine bA.cons 33 rfl rfl rfl (fun _=>(Kp (ri))) rfl ?_
  refine af ?_
  refine bA.cons 35 rfl rfl rfl (fun _=>(aa.aP (g:=Di.gt [] (w::l)) (k:=0) (Di.aE _) rfl rfl rfl an qh rfl (fun _=>rfl) (by decide) (Tu _))) rfl ?_
  refine bA.cons 36 rfl rfl rfl (fun _=>(Kl (.p (.str (sB w))))) rfl ?_
  refine bA.cons 37 rfl rfl rfl (fun _=>(pO w v hv rfl rfl rfl iU)) rfl ?_
  refine af ?_
  refine bA.cons 38 rfl rfl rfl (fun _=>(aa.extract rfl rfl rfl)) rfl ?_
  refine bA.cons 39 rfl rfl rfl (fun _=>(aa.extract rfl rfl rfl)) rfl ?_
  refine bA.lay (v0:= .ptr 19 0) 8 18 rfl rfl rfl rfl rfl rfl rfl rfl (fun _=>(aa.aO rfl an rfl)) rfl rfl rfl ?_
  refine bA.put (blk:= .cells [.p (.int .i64 (v.many:Int)),.p (.func (.func (kC v)) [] [])] 99) 18 rfl rfl rfl rfl (fun _=>(aa.store rfl rfl rfl rfl rfl an rfl rfl)) rfl rfl ?_
  refine bA.nil ?_
  iterate 3 refine af ?_
  refine aF.xO (H':=LH b p um M++[ai.cells [.p (.int .i64 (v.many:Int)),.p (.func (.func (kC v)) [] [])] 99]) rfl ?_
  iterate 3 refine af ?_
  refine Kg 42 41 7 rfl (fun h=>(aa.move rfl rfl)) ?_
  refine Kh 43 41 42 rfl rfl rfl rfl (fun h=>(aa.bD rfl rfl an rfl)) ?_
  refine Kh 44 41 43 rfl rfl rfl rfl (fun h=>(aa.fN (m:=((l.length:Nat):Int)) rfl rfl rfl ((aI (by omega)).trans (by omega)))) ?_
  refine Kg 45 41 8 rfl (fun h=>(aa.fieldAddr rfl rfl an rfl)) ?_
  refine Kh 46 41 45 rfl rfl rfl rfl (fun h=>(Kl (.p (.int .i64 (v.many:Int))))) ?_
  refine aj.g 47 41 rfl rfl rfl rfl rfl rfl rfl [(44,_),(46,_)] (fun h=>And.intro (.inr ⟨_,rfl,h⟩) (And.intro (.inr ⟨_,rfl,h⟩) (trivial))) (fun h=>(aa.eql rfl rfl rfl)) ?_
  refine Kc (aa.ec rfl rfl rfl ?_) ?_
  ·exact ax
  refine aj.ct 49 (b:=_) (dn _ 8) (dj _ 8) rfl rfl rfl rfl rfl rfl rfl an (fun hb=> ?_) (fun hb=> ?_)
  ·exact CR
  exfalso
  simp at hb
  omega
theorem TS(b:bI)(p:Di.bJ)(um:V)(M:ai)(hu:∀ σ:Nat->Option Nat,(M.live=true->σ 6=some 6)->aY σ um=um)(hM:∀ σ,aH σ M=M)(h1:b.aq.length<=1000)(h2:b.ag.length<=1000)(h3:b.au.length<=1000)(h4:b.plan.length<=1000)(h5:b.b9.length<=1000)(s:Bs)(hs:s.length<=120)(w:Bs)(l:List Bs)(hw:bf s=w::l)(v:Vb)(hv:jH w=some v)(hm:l.length=v.many)(hC:¬ ∀ x∈l,gV x):az Tryz.prog 13 [.ptr 0 0,.p (.str (sB s))] (fq b p um M) (fun x H2=>x= .p (.tuple [.str (sB []),.int .i64 8])∧H2=gF (LH b p um M++[ai.cells [.p (.int .i64 (v.many:Int)),.p (.func (.func (kC v)) [] [])] 99]) b p um 8):=by
 have nA:(w::l).length=l.length+1:=rfl
 have hsp:=ry s (by omega)
 rw[hw] at hsp
 have F0:=(iH 32 s []).2
 rw[show c5 32 [] s=w::l from hw,Zo] at F0
 have YX:l.length<=1000000:=by omega
 have O7:∀ x∈l,x.length<=1000000:=fun x hx=>by have h6:=lY 32 s [] x (by rw[show c5 32 [] s=w::l from hw];exact Zl _ hx);rw[Km] at h6;omega
 refine az.uc (N:=58) (g:=37) (dm:=29) (T1:=[(1,.p (.str (sB s))),(2,.ptr 7 0),(4,.ptr 8 0),(5,.ptr 9 0),(6,.ptr 17 0)]) (H1:=LH b p um M) (caps:=[.ptr 17 0,.ptr 7 0,.ptr 8 0,.ptr 9 0]) Tryz.func13 rfl rfl Kn ?_ (aa.makeFunc (fi:=[]) (ca:=[.ptr 17 0,.ptr 7 0,.ptr 8 0,.ptr 9 0]) rfl rfl rfl) rfl rfl rfl rfl rfl rfl an ?_
 ·exact rN
 ·iterate 3 refine af ?_
  refine Kc (Kp (hsp)) ?_
  iterate 3 refine af ?_
  refine aF.bU 10 1 [18] [([],false),([],false),([],false),([],false),([],false),([],false),([],false),([],false),([18],true),([18],true)] mixed (by kernel_rfl) (by decide) (by kernel_rfl) rfl (H9 b p um M hu hM) ?_
  refine bA.cons 33 rfl rfl rfl (fun _=>(Kp (ri))) rfl ?_
  refine af ?_
  refine bA.cons 35 rfl rfl rfl (fun _=>(aa.aP (g:=Di.gt [] (w::l)) (k:=0) (Di.aE _) rfl rfl rfl an qh rfl (fun _=>rfl) (by decide) (Tu _))) rfl ?_
  refine bA.cons 36 rfl rfl rfl (fun _=>(Kl (.p (.str (sB w))))) rfl ?_
  refine bA.cons 37 rfl rfl rfl (fun _=>(pO w v hv rfl rfl rfl iU)) rfl ?_
  refine af ?_
  refine bA.cons 38 rfl rfl rfl (fun _=>(aa.extract rfl rfl rfl)) rfl ?_
  refine bA.cons 39 rfl rfl rfl (fun _=>(aa.extract rfl rfl rfl)) rfl ?_
  refine bA.lay (v0:= .ptr 19 0) 8 18 rfl rfl rfl rfl rfl rfl rfl rfl (fun _=>(aa.aO rfl an rfl)) rfl rfl rfl ?_
  refine bA.put (blk:= .cells [.p (.int .i64 (v.many:Int)),.p (.func (.func (kC v)) [] [])] 99) 18 rfl rfl rfl rfl (fun _=>(aa.store rfl rfl rfl rfl rfl an rfl rfl)) rfl rfl ?_
  refine bA.nil ?_
  iterate 3 refine af ?_
  refine aF.xO (H':=LH b p um M++[ai.cells [.p (.int .i64 (v.many:Int)),.p (.func (.func (kC v)) [] [])] 99]) rfl ?_
  iterate 3 refine af ?_
  refine Kg 42 41 7 rfl (fun h=>(aa.move rfl rfl)) ?_
  refine Kh 43 41 42 rfl rfl rfl rfl (fun h=>(aa.bD rfl rfl an rfl)) ?_
  refine Kh 44 41 43 rfl rfl rfl rfl (fun h=>(aa.fN (m:=((l.length:Nat):Int)) rfl rfl rfl ((aI (by omega)).trans (by omega)))) ?_
  refine Kg 45 41 8 rfl (fun h=>(aa.fieldAddr rfl rfl an rfl)) ?_
  refine Kh 46 41 45 rfl rfl rfl rfl (fun h=>(Kl (.p (.int .i64 (v.many:Int))))) ?_
  refine aj.g 47 41 rfl rfl rfl rfl rfl rfl rfl [(44,_),(46,_)] (fun h=>And.intro (.inr ⟨_,rfl,h⟩) (And.intro (.inr ⟨_,rfl,h⟩) (trivial))) (fun h=>(aa.eql rfl rfl rfl)) ?_
  refine Kc (aa.ec rfl rfl rfl ?_) ?_
  ·exact ax
  refine aj.ct 49 (b:=_) (dn _ 8) (dj _ 8) rfl rfl rfl rfl rfl rfl rfl an (fun hb=> ?_) (fun hb=> ?_)
  ·exfalso
   simp at hb
   omega
  iterate 2 refine af ?_
  refine aF.Dl 6 ([(4,.ptr 8 0),(5,.ptr 9 0)]) rfl rfl mixed (by kernel_rfl) KS rfl ?_
  refine af ?_
  refine Kq (Kl (.p (.func (.func (kC v)) [] []))) ?_
  iterate 2 refine af ?_
  refine Kq (aa.gI (l:=1) (h:=(l.length+1)) (r:=(l.flatMap je)) rfl rfl an qh ⟨_,rfl⟩ rfl (by omega) (by omega) (Hi w l)) ?_
  refine Kq (Kp (uU l)) ?_
  refine av.nil ?_
  refine aj.vC 56 (Jw l YX O7 hC) rfl rfl rfl rfl rfl rfl rfl an ⟨⟨_,rfl⟩,⟨_,rfl,rZ (cs:=di 1 2 3 4 5 b) b p um 8 rfl rfl rfl rfl rfl rfl ⟨_,ML rfl rfl rfl (Az Kn) (AB Kn),rfl,rfl⟩⟩⟩
theorem Hw(b:bI)(p:Di.bJ)(um:V)(M:ai)(hu:∀ σ:Nat->Option Nat,(M.live=true->σ 6=some 6)->aY σ um=um)(hM:∀ σ,aH σ M=M)(h1:b.aq.length<=1000)(h2:b.ag.length<=1000)(h3:b.au.length<=1000)(h4:b.plan.length<=1000)(h5:b.b9.length<=1000)(s:Bs)(hs:s.length<=120)(w:Bs)(l:List Bs)(hw:bf s=w::l)(v:Vb)(hv:jH w=some v)(hm:l.length=v.many)(hC:∀ x∈l,gV x)(t:Bs)(e:Int)(Qr:V->List ai->Prop)(Qp:PV->List ai->Prop)(hd:ay Tryz.prog (kC v) [.ptr 0 0,.p (Di.bh (l.map fJ))] (fq b p um M) Qr Qp)(hr:∀ r H2,Qr r H2->r= .p (.str (sB t))∧bW (fq b p um M) H2)(hp:∀ y H2,Qp y H2->y=(.iface 94 (.agg [.int .i64 e]))∧bW (fq b p um M) H2∧∃ cs,cs.length=7∧H2[0]? =some (.cells (cs++p.cells.map .p++[um,.p (.bool true)]) 87)):az Tryz.prog 13 [.ptr 0 0,.p (.str (sB s))] (fq b p um M) (fun x H2=>(x= .p (.tuple [.str (sB t),.int .i64 0])∧∃ H0,Qr (.p (.str (sB t))) H0∧H2=(((bg (LH b p um M++[ai.cells [.p (.int .i64 (v.many:Int)),.p (.func (.func (kC v)) [] [])] 99]) [0,1,2,3,4,5,6] H0).set 8 (.cells [.p (.str (sB t))] 9)).set 9 (.cells [.p (.int .i64 0)] 41)))∨(x= .p (.tuple [.str (sB []),.int .i64 e])∧∃ H0,Qp (.iface 94 (.agg [.int .i64 e])) H0∧H2=gF (bg (LH b p um M++[ai.cells [.p (.int .i64 (v.many:Int)),.p (.func (.func (kC v)) [] [])] 99]) [0,1,2,3,4,5,6] H0) b p um e)):=by
 have nA:(w::l).length=l.length+1:=rfl
 have hsp:=ry s (by omega)
 rw[hw] at hsp
 have F0:=(iH 32 s []).2
 rw[show c5 32 [] s=w::l from hw,Zo] at F0
 have YX:l.length<=1000000:=by omega
 have O7:∀ x∈l,x.length<=1000000:=fun x hx=>by have h6:=lY 32 s [] x (by rw[show c5 32 [] s=w::l from hw];exact Zl _ hx);rw[Km] at h6;omega
 refine az.uc (N:=58) (g:=37) (dm:=29) (T1:=[(1,.p (.str (sB s))),(2,.ptr 7 0),(4,.ptr 8 0),(5,.ptr 9 0),(6,.ptr 17 0)]) (H1:=LH b p um M) (caps:=[.ptr 17 0,.ptr 7 0,.ptr 8 0,.ptr 9 0]) Tryz.func13 rfl rfl Kn ?_ (aa.makeFunc (fi:=[]) (ca:=[.ptr 17 0,.ptr 7 0,.ptr 8 0,.ptr 9 0]) rfl rfl rfl) rfl rfl rfl rfl rfl rfl an ?_
 ·exact rN
 ·iterate 3 refine af ?_
  refine Kc (Kp (hsp)) ?_
  iterate 3 refine af ?_
  refine aF.bU 10 1 [18] [([],false),([],false),([],false),([],false),([],false),([],false),([],false),([],false),([18],true),([18],true)] mixed (by kernel_rfl) (by decide) (by kernel_rfl) rfl (H9 b p um M hu hM) ?_
  refine bA.cons 33 rfl rfl rfl (fun _=>(Kp (ri))) rfl ?_
  refine af ?_
  refine bA.cons 35 rfl rfl rfl (fun _=>(aa.aP (g:=Di.gt [] (w::l)) (k:=0) (Di.aE _) rfl rfl rfl an qh rfl (fun _=>rfl) (by decide) (Tu _))) rfl ?_
  refine bA.cons 36 rfl rfl rfl (fun _=>(Kl (.p (.str (sB w))))) rfl ?_
  refine bA.cons 37 rfl rfl rfl (fun _=>(pO w v hv rfl rfl rfl iU)) rfl ?_
  refine af ?_
  refine bA.cons 38 rfl rfl rfl (fun _=>(aa.extract rfl rfl rfl)) rfl ?_
  refine bA.cons 39 rfl rfl rfl (fun _=>(aa.extract rfl rfl rfl)) rfl ?_
  refine bA.lay (v0:= .ptr 19 0) 8 18 rfl rfl rfl rfl rfl rfl rfl rfl (fun _=>(aa.aO rfl an rfl)) rfl rfl rfl ?_
  refine bA.put (blk:= .cells [.p (.int .i64 (v.many:Int)),.p (.func (.func (kC v)) [] [])] 99) 18 rfl rfl rfl rfl (fun _=>(aa.store rfl rfl rfl rfl rfl an rfl rfl)) rfl rfl ?_
  refine bA.nil ?_
  iterate 3 refine af ?_
  refine aF.xO (H':=LH b p um M++[ai.cells [.p (.int .i64 (v.many:Int)),.p (.func (.func (kC v)) [] [])] 99]) rfl ?_
  iterate 3 refine af ?_
  refine Kg 42 41 7 rfl (fun h=>(aa.move rfl rfl)) ?_
  refine Kh 43 41 42 rfl rfl rfl rfl (fun h=>(aa.bD rfl rfl an rfl)) ?_
  refine Kh 44 41 43 rfl rfl rfl rfl (fun h=>(aa.fN (m:=((l.length:Nat):Int)) rfl rfl rfl ((aI (by omega)).trans (by omega)))) ?_
  refine Kg 45 41 8 rfl (fun h=>(aa.fieldAddr rfl rfl an rfl)) ?_
  refine Kh 46 41 45 rfl rfl rfl rfl (fun h=>(Kl (.p (.int .i64 (v.many:Int))))) ?_
  refine aj.g 47 41 rfl rfl rfl rfl rfl rfl rfl [(44,_),(46,_)] (fun h=>And.intro (.inr ⟨_,rfl,h⟩) (And.intro (.inr ⟨_,rfl,h⟩) (trivial))) (fun h=>(aa.eql rfl rfl rfl)) ?_
  refine Kc (aa.ec rfl rfl rfl ?_) ?_
  ·exact ax
  refine aj.ct 49 (b:=_) (dn _ 8) (dj _ 8) rfl rfl rfl rfl rfl rfl rfl an (fun hb=> ?_) (fun hb=> ?_)
  ·exfalso
   simp at hb
   omega
  iterate 2 refine af ?_
  refine aF.aB 7 mixed (by kernel_rfl) (by decide) ?_
  refine af ?_
  refine Kq (Kl (.p (.func (.func (kC v)) [] []))) ?_
  iterate 2 refine af ?_
  refine Kq (aa.gI (l:=1) (h:=(l.length+1)) (r:=(l.flatMap je)) rfl rfl an qh ⟨_,rfl⟩ rfl (by omega) (by omega) (Hi w l)) ?_
  refine Kq (Kp (uU l)) ?_
  refine Kq (Kp (I4 l YX O7 hC)) ?_
  refine av.nil ?_
  refine aj.GW 57 [0,1,2,3,4,5,6] hd rfl (VU b p um M hu hM _) rfl (fun r H2 h=>((hr r H2 h).2).k (by exact wm b p um M _)) (fun y H2 h=>((hp y H2 h).2.1).k (by exact wm b p um M _)) rfl rfl rfl rfl rfl rfl rfl (Pk v) (fun y H0 hy=> ?_) (fun r H0 hq=> ?_)
  ·obtain⟨rfl,hk,cs,hc,g0⟩:=hp y H0 hy
   have rP:7<=H0.length:=hk.1
   have k8:=dz (H:=(LH b p um M++[ai.cells [.p (.int .i64 (v.many:Int)),.p (.func (.func (kC v)) [] [])] 99])) (ks:=[0,1,2,3,4,5,6]) (i:=8) (by decide) rP Kn (by decide)
   have k0:=fk (H:=(LH b p um M++[ai.cells [.p (.int .i64 (v.many:Int)),.p (.func (.func (kC v)) [] [])] 99])) (ks:=[0,1,2,3,4,5,6]) (j:=0) (i:=0) (by decide) rP rfl Kn g0
   rw[vc (hu _ (Tr b p um M _))] at k0
   have hL9:9<(bg (LH b p um M++[ai.cells [.p (.int .i64 (v.many:Int)),.p (.func (.func (kC v)) [] [])] 99]) [0,1,2,3,4,5,6] H0).length:=by rw[rY (ks:=[0,1,2,3,4,5,6]) rP];exact Nat.lt_add_right _ Kn
   exact⟨_,rfl,rZ b p um e k0 (by rw[dy];exact hc) (dz (i:=7) (by decide) rP Kn (by decide)) (dz (i:=8) (by decide) rP Kn (by decide)) (dz (i:=9) (by decide) rP Kn (by decide)) (dz (i:=17) (by decide) rP Kn (by decide)) ⟨_,ML rfl rfl rfl (Az hL9) (AB hL9),.inr ⟨rfl,H0,hy,rfl⟩⟩⟩
  obtain⟨rfl,hk⟩:=hr r H0 hq
  have rP:7<=H0.length:=hk.1
  have k8:(bg (LH b p um M++[ai.cells [.p (.int .i64 (v.many:Int)),.p (.func (.func (kC v)) [] [])] 99]) [0,1,2,3,4,5,6] H0)[8]? =some (.cells [.p (.str (sB []))] 9):=dz (i:=8) (by decide) rP Kn (by decide)
  have k9:(bg (LH b p um M++[ai.cells [.p (.int .i64 (v.many:Int)),.p (.func (.func (kC v)) [] [])] 99]) [0,1,2,3,4,5,6] H0)[9]? =some (.cells [.p (.int .i64 0)] 41):=dz (i:=9) (by decide) rP Kn (by decide)
  have k92:=bQ (j:=8) (y:=ai.cells [.p (.str (sB t))] 9) (by decide) k9
  refine Kz (aa.store rfl rfl rfl rfl rfl an rfl (BL k8 rfl)) ?_
  refine Kz (aa.store rfl rfl rfl rfl rfl an rfl (BL k92 rfl)) ?_
  iterate 2 refine af ?_
  exact IM ⟨_,ML rfl rfl rfl (bQ (by decide) (fO k8)) (fO k92),.inl ⟨rfl,H0,hq,rfl⟩⟩
end Go.Proofs.YtibffijhebobmaaGreatDoor
end
