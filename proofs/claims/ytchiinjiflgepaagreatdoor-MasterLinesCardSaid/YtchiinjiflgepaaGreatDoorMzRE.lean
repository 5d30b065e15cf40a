/-
 The program of chapter 15: marks (laid upon each other, taken away).
 The program of chapter 15: what verbs do (marks).
 The program of chapter 15: all verbs.
 Chapter 15, the program: what a line says, word by word; cells that are written anew.
 The program of chapter 15: what is recovered.
 The program of chapter 15: a line.
-/
import Derived.Test.YtchiinjiflgepaaGreatDoorMzRF
import Derived.Test.YtchiinjiflgepaaGreatDoorMzRB
import Derived.Test.YtchiinjiflgepaaGreatDoorFaRF
import Derived.Test.YtchiinjiflgepaaGreatDoorMzRZ
theorem KB{A:Prop}(h:A:=by
 refine af ?_
 refine Kc (aa.cP rfl rfl rfl) ?_
 iterate 7 refine af ?_
 refine Kc (aa.zb rfl rfl rfl ai) ?_
 refine af ?_
 refine Kg 14 13 2 rfl (fun h=>(aa.load rfl rfl ai rfl)) ?_
 refine Kh 15 13 14 rfl rfl rfl rfl (fun h=>(aa.nilCheck rfl rfl)) ?_
 refine Kh 16 13 15 rfl rfl rfl rfl (fun h=>(aa.fieldAddr rfl rfl ai rfl)) ?_
 refine Kh 17 13 16 rfl rfl rfl rfl (fun h=>(Kl (.p (.bool true)))) ?_
 refine Kh 18 13 17 rfl rfl rfl rfl (fun h=>(aa.fI rfl rfl)) ?_
 refine Kc (aa.lE rfl rfl rfl ?_) ?_
 ·first | (intro h;rw[h];rfl) | (intro h;simp_all)
 iterate 2 refine af ?_
 refine Ki (fun hc0=> ?_) fun hc0=> ?_
 ·exact absurd hc0 (by decide)
 ·iterate 3 refine af ?_
  refine Kc (aa.eF rfl rfl w9) ?_
  iterate 3 refine af ?_
  refine Ki (fun bw=> ?_) fun bw=> ?_
  ·exfalso
   have h:=Ze bw
   rw[cF] at h
   omega
  ·iterate 5 refine af ?_
   refine Kc (aa.load (v:= .agg (dR 1 2 3 4 5 b)) rfl rfl ai (show di _ _ _ _=_ from congrArg some (xo 1 2 3 4 5 b))) ?_
   refine Kc (uA 4 10 b h1 h2 h3 h4 h5 rfl rfl rfl rfl rfl (Ng rfl rfl rfl rfl rfl) ai) ?_
   refine af ?_
   refine Kz (aa.store (H':=LH b p um M) rfl rfl rfl rfl (qG _ _ _ _ _ b) ai rfl rfl) ?_
   refine af ?_
   exact⟨KS,rfl⟩):A:=h
theorem FR{A:Prop}(h:A:=by
 refine jt.one rfl rfl ⟨by rw[hd],?_,rfl⟩
 rw[hd,fW]
 rfl):A:=h
theorem Xc{A:Prop}(h:A:=by
 exact⟨_,rfl,sn (cs:=dR 1 2 3 4 5 b) b p um 8 rfl rfl rfl rfl rfl rfl ⟨_,Kt rfl rfl rfl (zh Kn) (y8 Kn),rfl,rfl⟩⟩):A:=h
set_option linter.unusedSimpArgs false
set_option linter.unusedVariables false
section
set_option maxRecDepth 100000
set_option maxHeartbeats 4000000
namespace Go.Proofs.YtchiinjiflgepaaGreatDoor
open Go.AF
structure RS where
 a:Option Addr
 n:Nat
 c:Nat
def RS.v(s:RS):V:= .raw s.a s.n s.c
structure RB where
 s1:RS
 s2:RS
 s3:RS
 s4:RS
 bad:Int
 good:Int
 s5:RS
def RB.cells(r:RB):List V:=[r.s1.v,r.s2.v,r.s3.v,r.s4.v,.p (.int .i64 r.bad),.p (.int .i64 r.good),r.s5.v]
def nO(l:List RB):List V:=l.flatMap RB.cells
def dF(l:List RB):ak:= .row (nO l) 59
theorem qR(l:List RB):(nO l).length=l.length*7:=by
 unfold nO
 induction l with
 | nil=>rfl
 | cons x l ih=>rw[ZJ,Zc,ih,Zp];show 7+_=_;omega
theorem uy(σ:Nat->Option Nat)(l:List RB):bE σ (nO l)=nO l:=by
 unfold nO
 induction l with
 | nil=>rfl
 | cons x l ih=>rw[ZJ,bI,ih];rfl
theorem iQ(σ:Nat->Option Nat)(l:List RB):aM σ (dF l)=dF l:=by
 unfold dF
 show ak.row (bE σ _) _=_
 rw[uy]
def fQ(b:bU)(p:Di.bX)(um:V)(M:ak):List ak:=[cI b p um 1 2 3 4 5,dD b.au,dj b.ag,dI b.ax,bL b.plan,bL b.bH,M]
theorem Pk{H:List ak}{l:List RB}{r:RB}(h:H[6]? =some (dF (l++[r]))):di H true 7 (.ptr 6 (l.length*7))=some (.agg r.cells):=by
 simp only[di,h]
 show(if l.length*7+7<=(nO (l++[r])).length then some (gL (((nO (l++[r])).drop (l.length*7)).take 7)) else none)=_
 rw[qR,Zc,ZbN,if_pos (by omega)]
 have e0:nO (l++[r])=nO l++r.cells:=by unfold nO;rw[ZX];simp
 rw[e0,List.drop_append_of_le_length (NY (qR l).symm),ZbI (NY (qR l))]
 rfl
theorem kT{xs:List PV}{e n:Nat}(h:jK (xs.map .p)=true):XA (dG (xs.map .p) e n)=true:=by
 cases n with
 | zero=>rfl
 | succ n=>exact h
theorem Ng{H:List ak}{k:Nat}{b:bU}{i1 i2 i3 i4 i5:Nat}(h1:H[i1]? =some (dD b.au))(h2:H[i2]? =some (dj b.ag))(h3:H[i3]? =some (dI b.ax))(h4:H[i4]? =some (bL b.plan))(h5:H[i5]? =some (bL b.bH)):c9 (ct H (k+2)) [.agg (dR i1 i2 i3 i4 i5 b)]=some [.agg (G0 b)]:=by
 have e:ct H (k+2) (.agg (dR i1 i2 i3 i4 i5 b))=some (.agg (G0 b)):=by
  show(c9 (ct H (k+1)) (dR i1 i2 i3 i4 i5 b)).map PV.agg=_
  simp only[dR,c9,QN h1,OD h2,OZ h3,GJ h4,GJ h5,Kb]
  rfl
 simp only[c9,e]
theorem uA{N:Nat}{T:Tm}{H:List ak}{o:Oper}(m k:Nat)(b:bU)(h1:b.au.length<=1000)(h2:b.ag.length<=1000)(h3:b.ax.length<=1000)(h4:b.plan.length<=1000)(h5:b.bH.length<=1000)(hk:H.length=k){f:Operand}{ys:Array Operand}{ts:Array TypeId}{fv:V}{vs all:List V}(ho:o.op= .call {callee:= .value f,args:=ys,argTypes:=ts})(hf:ev T f=some fv)
    (hxs:lG T ys.toList=some vs)(hc:callee vs fv=some (49,all))(hb:c9 (ct H m) all=some [.agg (G0 b)])(hg:an Tryz.prog 49=true):aa Tryz.prog N o T H (.agg (dR (k+3) (k+2) (k+4) (k+5) (k+6) b)) (H++[.dead,.dead,dj b.ag,dD b.au,dI b.ax,bL b.plan,bL b.bH]):=by
 have:=aa.zE (N:=N) (T:=T) (H:=H) m (HI b h1 h2 h3 h4 h5) (by simp only[KX,dR,jK,uq];rfl) (by
  simp only[P1,XH,dD,dj,dI,bL,kT (fz (f:=Ck.Sk.cells) (fun _=>rfl) _),kT (fz (f:=Rx.bF.cells) (fun _=>rfl) _),kT (fz (f:=Di.b7.cells) (fun _=>rfl) _),kT (fz (f:=Di.bG) (fun _=>rfl) _)]
  rfl) ho hf hxs hc hb hg
 have e1:aZ (CQ H.length) (.agg (dR 3 2 4 5 6 b))= .agg (dR (k+3) (k+2) (k+4) (k+5) (k+6) b):=by
  show V.agg (bE (CQ H.length) (dR 3 2 4 5 6 b))=_
  have up:∀ i n,aZ (CQ H.length) (bg i n)=bg (k+i) n:=fun i n=>cM (by unfold CQ;rw[hk])
  simp only[dR,bY,cD,up,eZ]
 have e2:([.dead,.dead,dj b.ag,dD b.au,dI b.ax,bL b.plan,bL b.bH]:List ak).map (aM (CQ H.length))=[.dead,.dead,dj b.ag,dD b.au,dI b.ax,bL b.plan,bL b.bH]:=by
  simp only[ZE,zF,fX,dD,dj,dI,bL,bS]
 rw[e1,e2] at this
 exact this
theorem lA{n0:Nat}{ms:List Nat}{i1 i2 i3 i4 i5:Nat}{b:bU}(h1:i1<n0)(h2:i2<n0)(h3:i3<n0)(h4:i4<n0)(h5:i5<n0):bE (sg n0 ms) (dR i1 i2 i3 i4 i5 b)=dR i1 i2 i3 i4 i5 b:=by
 simp only[dR,bY,cD,eZ,dc h1,dc h2,dc h3,dc h4,dc h5]
theorem B4(b:bU)(p:Di.bX)(l:List RB)(r:RB)(h8:l.length<=8):aE Tryz.prog 108 [.ptr 0 11] (fQ b p (.row 6 (l.length+1)) (dF (l++[r]))) (fun v H2=>v= .tuple [.agg r.cells,.p (.bool true)]∧H2=[cI b p (.row 6 l.length) 1 2 3 4 5,dD b.au,dj b.ag,dI b.ax,bL b.plan,bL b.bH,dF (l++[r]),.cells r.cells 59]):=by
 refine aE.start (N:=28) Tryz.func108 rfl rfl Kn ?_
 iterate 9 refine af ?_
 refine Kc (Kl (.row 6 (l.length+1))) ?_
 iterate 9 refine af ?_
 refine Ki (fun hc0=> ?_) fun hc0=> ?_
 ·exfalso
  have h:=Ze hc0
  omega
 ·iterate 5 refine af ?_
  refine Kc (Kl (.row 6 (l.length+1))) ?_
  refine af ?_
  refine Kc (aa.ec (m:=((l.length:Nat):Int)) rfl rfl rfl ((aA ?_).trans ?_)) ?_
  ·omega
  ·omega
  refine Kc (aa.vA rfl rfl rfl ai YV (by omega)) ?_
  refine Kc (aa.load (v:= .agg r.cells) rfl rfl ai (Pk rfl)) ?_
  refine Kz (aa.store (H':=[cI b p (.row 6 (l.length+1)) 1 2 3 4 5,dD b.au,dj b.ag,dI b.ax,bL b.plan,bL b.bH,dF (l++[r]),.cells r.cells 59]) rfl rfl rfl rfl rfl ai rfl rfl) ?_
  iterate 6 refine af ?_
  refine Kc (Kl (.row 6 (l.length+1))) ?_
  refine af ?_
  refine Kc (aa.ec (m:=((l.length:Nat):Int)) rfl rfl rfl ((aA ?_).trans ?_)) ?_
  ·omega
  ·omega
  refine Kc (aa.Gm (h:=l.length) rfl rfl rfl ai YV (by omega)) ?_
  refine af ?_
  refine Kz (aa.store (H':=[cI b p (.row 6 l.length) 1 2 3 4 5,dD b.au,dj b.ag,dI b.ax,bL b.plan,bL b.bH,dF (l++[r]),.cells r.cells 59]) rfl rfl rfl rfl rfl ai rfl rfl) ?_
  iterate 3 refine af ?_
  refine Kc (Kl (.agg r.cells)) ?_
  refine Kz (aa.store (H':=[cI b p (.row 6 l.length) 1 2 3 4 5,dD b.au,dj b.ag,dI b.ax,bL b.plan,bL b.bH,dF (l++[r]),.cells r.cells 59]) rfl rfl rfl rfl rfl ai rfl rfl) ?_
  iterate 3 refine af ?_
  exact⟨.inr rfl,_,fE.many (vs:=[.agg r.cells,.p (.bool true)]) rfl ⟨_,_,rfl,⟨_,_,_,rfl,ai,rfl⟩,⟨_,_,rfl,rfl,rfl⟩⟩,rfl,rfl⟩
theorem CE(b:bU)(p:Di.bX)(um:V)(M:ak)(hu:Ds um=some 0):aE Tryz.prog 108 [.ptr 0 11] (fQ b p um M) (fun v H2=>v= .p (.tuple [.agg [.nilSlice,.nilSlice,.nilSlice,.nilSlice,.int .i64 0,.int .i64 0,.nilSlice],.bool false])∧H2=[cI b p um 1 2 3 4 5,dD b.au,dj b.ag,dI b.ax,bL b.plan,bL b.bH,M,.cells ([.nilSlice,.nilSlice,.nilSlice,.nilSlice,.int .i64 0,.int .i64 0,.nilSlice].map .p) 59]):=by
 refine aE.start (N:=28) Tryz.func108 rfl rfl Kn ?_
 iterate 9 refine af ?_
 refine Kc (Kl (um)) ?_
 refine Kc (aa.bJ rfl rfl ai hu) ?_
 iterate 8 refine af ?_
 refine Ki (fun hc0=> ?_) fun hc0=> ?_
 ·iterate 3 refine af ?_
  refine Kz (aa.store (H':=[cI b p um 1 2 3 4 5,dD b.au,dj b.ag,dI b.ax,bL b.plan,bL b.bH,M,.cells ([.nilSlice,.nilSlice,.nilSlice,.nilSlice,.int .i64 0,.int .i64 0,.nilSlice].map .p) 59]) rfl rfl rfl rfl rfl ai rfl rfl) ?_
  iterate 3 refine af ?_
  exact⟨.inr rfl,_,fE.many (vs:=[.p (.agg [.nilSlice,.nilSlice,.nilSlice,.nilSlice,.int .i64 0,.int .i64 0,.nilSlice]),.p (.bool false)]) rfl ⟨_,_,rfl,⟨_,_,_,rfl,ai,rfl⟩,⟨_,_,rfl,rfl,rfl⟩⟩,rfl,rfl⟩
 ·exfalso
  have h:=Zf hc0
  exact h rfl
theorem DO{b:bU}{p:Di.bX}{n0 i1 i2 i3 i4 i5:Nat}{um:V}{ms:List Nat}(hu:aZ (sg n0 ms) um=um)(h1:i1<n0)(h2:i2<n0)(h3:i3<n0)(h4:i4<n0)(h5:i5<n0):aM (sg n0 ms) (cI b p um i1 i2 i3 i4 i5)=cI b p um i1 i2 i3 i4 i5:=by
 unfold cI
 show ak.cells (bE _ (_++_++_)) _=_
 rw[bI,bI,lA h1 h2 h3 h4 h5,aP]
 simp only[bY,cD,hu,eZ]
theorem Iz(b:bU)(p:Di.bX):([cI b p .z0 1 2 3 4 5,dD b.au,dj b.ag,dI b.ax,bL b.plan,bL b.bH,.dead,.dead,.dead,dj b.ag,dD b.au,dI b.ax,bL b.plan,bL b.bH]++[ak.cells (dR 10 9 11 12 13 b) 59]).map (aM (sg 15 []))=[cI b p .z0 1 2 3 4 5,dD b.au,dj b.ag,dI b.ax,bL b.plan,bL b.bH,.dead,.dead,.dead,dj b.ag,dD b.au,dI b.ax,bL b.plan,bL b.bH]++[ak.cells (dR 10 9 11 12 13 b) 59]:=by
 simp only[Zy,ZE,zF,dD,dj,dI,bL,bS,fX,cj,DO (n0:=15) (um:= .z0) rfl (show 1<15 by decide) (show 2<15 by decide) (show 3<15 by decide) (show 4<15 by decide) (show 5<15 by decide),lA (n0:=15) (show 10<15 by decide) (show 9<15 by decide) (show 11<15 by decide) (show 12<15 by decide) (show 13<15 by decide)]
theorem Mt(b:bU)(p:Di.bX)(l:List RB):([cI b p (.row 6 l.length) 1 2 3 4 5,dD b.au,dj b.ag,dI b.ax,bL b.plan,bL b.bH,dF l,.dead,.dead,dj b.ag,dD b.au,dI b.ax,bL b.plan,bL b.bH]++[ak.cells (dR 10 9 11 12 13 b) 59]).map (aM (sg 15 []))=[cI b p (.row 6 l.length) 1 2 3 4 5,dD b.au,dj b.ag,dI b.ax,bL b.plan,bL b.bH,dF l,.dead,.dead,dj b.ag,dD b.au,dI b.ax,bL b.plan,bL b.bH]++[ak.cells (dR 10 9 11 12 13 b) 59]:=by
 simp only[Zy,ZE,zF,dD,dj,dI,bL,bS,fX,iQ,cj,DO (n0:=15) (um:=(.row 6 l.length)) rfl (show 1<15 by decide) (show 2<15 by decide) (show 3<15 by decide) (show 4<15 by decide) (show 5<15 by decide),lA (n0:=15) (show 10<15 by decide) (show 9<15 by decide) (show 11<15 by decide) (show 12<15 by decide) (show 13<15 by decide)]
theorem Ww(b:bU)(p:Di.bX):aE Tryz.prog 106 [.ptr 0 11,.agg (dR 10 9 11 12 13 b)] [cI b p .z0 1 2 3 4 5,dD b.au,dj b.ag,dI b.ax,bL b.plan,bL b.bH,.dead,.dead,.dead,dj b.ag,dD b.au,dI b.ax,bL b.plan,bL b.bH] (fun v H2=>v= .p (.tuple [])∧H2=[cI b p (.row 16 1) 1 2 3 4 5,dD b.au,dj b.ag,dI b.ax,bL b.plan,bL b.bH,.dead,.dead,.dead,dj b.ag,dD b.au,dI b.ax,bL b.plan,bL b.bH,.cells (dR 10 9 11 12 13 b) 59,.row (dR 10 9 11 12 13 b) 59,.row (dR 10 9 11 12 13 b) 59]):=by
 refine aE.start (N:=12) Tryz.func106 rfl rfl Kn ?_
 iterate 2 refine af ?_
 refine Kc (aa.cP rfl rfl rfl) ?_
 refine af ?_
 refine aC.uG (H':=[cI b p .z0 1 2 3 4 5,dD b.au,dj b.ag,dI b.ax,bL b.plan,bL b.bH,.dead,.dead,.dead,dj b.ag,dD b.au,dI b.ax,bL b.plan,bL b.bH]++[.cells (dR 10 9 11 12 13 b) 59]) rfl ?_
 refine aC.bz 7 2 [15,16] [([],false),([],false),([],false),([],false),([],false),([15],true),([16,15],true)] mixed (by kernel_rfl) (by decide) (by kernel_rfl) rfl (Iz b p) ?_
 iterate 2 refine af ?_
 refine aX.cons 6 rfl rfl rfl (fun _=>(aa.nilCheck rfl rfl)) rfl ?_
 refine aX.cons 7 rfl rfl rfl (fun _=>(Kl (.z0))) rfl ?_
 refine aX.cons 8 rfl rfl rfl (fun _=>(aa.load (v:= .agg (dR 10 9 11 12 13 b)) rfl rfl ai (show di _ _ _ _=_ from congrArg some (xo 10 9 11 12 13 b)))) (by show V.agg (bE _ _)=_;rw[lA Kn Kn Kn Kn Kn]) ?_
 refine aX.lay (blk:= .row (dR 10 9 11 12 13 b) 59) (v0:= .row 17 _) 9 15 rfl rfl rfl rfl rfl rfl rfl rfl (fun _=>(aa.jA rfl ai (by decide) rfl rfl)) rfl rfl (by show ak.row (bE _ _) _=_;rw[lA Kn Kn Kn Kn Kn]) ?_
 refine aX.lay (blk:= .row (dR 10 9 11 12 13 b) 59) (v0:= .row 17 1) 10 16 rfl rfl rfl rfl rfl rfl rfl rfl (fun _=>(aa.zT (n:=1) (ys:=(dR 10 9 11 12 13 b)) rfl rfl rfl ai ai (AQ rfl rfl) (by decide) (qG 10 9 11 12 13 b) ai (by decide) (by decide))) rfl rfl (by show ak.row (bE _ _) _=_;rw[lA Kn Kn Kn Kn Kn]) ?_
 refine aX.nil ?_
 refine af ?_
 refine Kz (aa.store (H':=[cI b p (.row 16 1) 1 2 3 4 5,dD b.au,dj b.ag,dI b.ax,bL b.plan,bL b.bH,.dead,.dead,.dead,dj b.ag,dD b.au,dI b.ax,bL b.plan,bL b.bH,.cells (dR 10 9 11 12 13 b) 59,.row (dR 10 9 11 12 13 b) 59,.row (dR 10 9 11 12 13 b) 59]) rfl rfl rfl rfl rfl ai rfl rfl) ?_
 refine af ?_
 exact FQ
theorem Iw(b:bU)(p:Di.bX)(l:List RB)(hl:l.length<=8):aE Tryz.prog 106 [.ptr 0 11,.agg (dR 10 9 11 12 13 b)] [cI b p (.row 6 l.length) 1 2 3 4 5,dD b.au,dj b.ag,dI b.ax,bL b.plan,bL b.bH,dF l,.dead,.dead,dj b.ag,dD b.au,dI b.ax,bL b.plan,bL b.bH] (fun v H2=>v= .p (.tuple [])∧H2=[cI b p (.row 16 (l.length+1)) 1 2 3 4 5,dD b.au,dj b.ag,dI b.ax,bL b.plan,bL b.bH,.dead,.dead,.dead,dj b.ag,dD b.au,dI b.ax,bL b.plan,bL b.bH,.cells (dR 10 9 11 12 13 b) 59,.row (dR 10 9 11 12 13 b) 59,.row (nO l++dR 10 9 11 12 13 b) 59]):=by
 refine aE.start (N:=12) Tryz.func106 rfl rfl Kn ?_
 iterate 2 refine af ?_
 refine Kc (aa.cP rfl rfl rfl) ?_
 refine af ?_
 refine aC.uG (H':=[cI b p (.row 6 l.length) 1 2 3 4 5,dD b.au,dj b.ag,dI b.ax,bL b.plan,bL b.bH,dF l,.dead,.dead,dj b.ag,dD b.au,dI b.ax,bL b.plan,bL b.bH]++[.cells (dR 10 9 11 12 13 b) 59]) rfl ?_
 refine aC.bz 7 2 [6,15,16] [([],false),([],false),([],false),([],false),([],false),([15],true),([16,6,15],true)] mixed (by kernel_rfl) (by decide) (by kernel_rfl) rfl (Mt b p l) ?_
 iterate 2 refine af ?_
 refine aX.cons 6 rfl rfl rfl (fun _=>(aa.nilCheck rfl rfl)) rfl ?_
 refine aX.cons 7 rfl rfl rfl (fun _=>(Kl ((.row 6 l.length)))) rfl ?_
 refine aX.cons 8 rfl rfl rfl (fun _=>(aa.load (v:= .agg (dR 10 9 11 12 13 b)) rfl rfl ai (show di _ _ _ _=_ from congrArg some (xo 10 9 11 12 13 b)))) (by show V.agg (bE _ _)=_;rw[lA Kn Kn Kn Kn Kn]) ?_
 refine aX.lay (blk:= .row (dR 10 9 11 12 13 b) 59) (v0:= .row 17 _) 9 15 rfl rfl rfl rfl rfl rfl rfl rfl (fun _=>(aa.jA rfl ai (by decide) rfl rfl)) rfl rfl (by show ak.row (bE _ _) _=_;rw[lA Kn Kn Kn Kn Kn]) ?_
 refine aX.xD (blk:= .row (nO l++dR 10 9 11 12 13 b) 59) (v0:= .row 17 _) 10 16 6 rfl rfl rfl rfl rfl rfl rfl rfl rfl rfl (fun _=>(aa.c6 (i:=6) (len:=l.length) (cs:=nO l) (ys:=(dR 10 9 11 12 13 b)) (n:=1) rfl rfl rfl ai ai rfl (qR l) (AQ rfl rfl) (qG 10 9 11 12 13 b) ai (by decide) (by show(2*(l.length+1)+192)*136<=281474976710656;omega))) rfl rfl (by show ak.row (bE _ (_++_)) _=_;rw[bI,uy,lA Kn Kn Kn Kn Kn]) ?_
 refine aX.nil ?_
 refine af ?_
 refine Kz (aa.store (H':=[cI b p (.row 16 (l.length+1)) 1 2 3 4 5,dD b.au,dj b.ag,dI b.ax,bL b.plan,bL b.bH,.dead,.dead,.dead,dj b.ag,dD b.au,dI b.ax,bL b.plan,bL b.bH,.cells (dR 10 9 11 12 13 b) 59,.row (dR 10 9 11 12 13 b) 59,.row (nO l++dR 10 9 11 12 13 b) 59]) rfl rfl rfl rfl rfl ai rfl rfl) ?_
 refine af ?_
 exact FQ
theorem VG(F:c7)(n:List Int)(hF:kK F)(hl:0=F.marks.length):aD Tryz.prog 105 [.ptr 0 0,.p (Di.aQ n)] (fQ F.b F.aT .z0 .dead) (fun v H2=>(bp F .mark n).2.2=0∧v= .p (.str (sB (bp F .mark n).2.1))∧H2=[cI F.b F.aT (.row 16 1) 1 2 3 4 5,dD F.b.au,dj F.b.ag,dI F.b.ax,bL F.b.plan,bL F.b.bH,.dead,.dead,.dead,dj F.b.ag,dD F.b.au,dI F.b.ax,bL F.b.plan,bL F.b.bH,.cells (dR 10 9 11 12 13 F.b) 59,.row (dR 10 9 11 12 13 F.b) 59,.row (dR 10 9 11 12 13 F.b) 59]) (fun y H2=>(bp F .mark n).2.2≠0∧y= .iface 106 (.agg [.int .i64 (bp F .mark n).2.2])∧H2=fQ F.b F.aT .z0 .dead):=by
 have en:=Rx.bM hF.b.cd
 have tT:=hF.b.sk
 have sN:=hF.b.dr
 have Z0:=hF.b.ck
 obtain⟨u0,NF⟩:=hF.b.EI
 have QG:=ia NF
 have OI:=hF.mm
 refine aD.start (N:=30) Tryz.func105 rfl rfl Kn ?_
 iterate 9 refine af ?_
 refine Kc (Kl (.z0)) ?_
 iterate 2 refine af ?_
 refine aq.cG 11 (b:=_) (dQ _ 9) (dU _ 9) rfl rfl rfl rfl rfl rfl rfl ai (fun hb=> ?_) (fun hb=> ?_)
 ·exact absurd hb (by decide)
 iterate 2 refine af ?_
 refine aC.kQ 8 ([cI F.b F.aT .z0 1 2 3 4 5,dD F.b.au,dj F.b.ag,dI F.b.ax,bL F.b.plan,bL F.b.bH,.dead,.dead,.dead,dj F.b.ag,dD F.b.au,dI F.b.ax,bL F.b.plan,bL F.b.bH]) mixed (by kernel_rfl) (by decide) ?_
 refine aN.cons 12 rfl rfl rfl (aa.move rfl rfl) (aa.move rfl rfl) ?_
 refine aN.cons 13 rfl rfl rfl (aa.nilCheck rfl rfl) (aa.nilCheck rfl rfl) ?_
 refine aN.cons 14 rfl rfl rfl (aa.fieldAddr rfl rfl ai rfl) (aa.fieldAddr rfl rfl ai rfl) ?_
 refine aN.cons 15 rfl rfl rfl (aa.move rfl rfl) (aa.move rfl rfl) ?_
 refine aN.cons 16 rfl rfl rfl (aa.nilCheck rfl rfl) (aa.nilCheck rfl rfl) ?_
 refine aN.cons 17 rfl rfl rfl (aa.fieldAddr rfl rfl ai rfl) (aa.fieldAddr rfl rfl ai rfl) ?_
 refine aN.cons 18 rfl rfl rfl (aa.load (v:= .agg (dR 1 2 3 4 5 F.b)) rfl rfl ai (show di _ _ _ _=_ from congrArg some (xo 1 2 3 4 5 F.b))) (aa.load (v:= .agg (dR 1 2 3 4 5 F.b)) rfl rfl ai (show di _ _ _ _=_ from congrArg some (xo 1 2 3 4 5 F.b))) ?_
 refine aN.lay 19 rfl rfl rfl (uA 4 7 F.b (by omega) (by omega) (by omega) (by omega) (by omega) rfl rfl rfl rfl rfl (Ng rfl rfl rfl rfl rfl) ai) ?_
 refine aN.nil ?_
 refine Kc (aa.ir rfl rfl rfl rfl ai (Ww F.b F.aT)) ?_
 iterate 3 refine af ?_
 refine Kc (aa.aJ rfl rfl mO) ?_
 iterate 3 refine af ?_
 refine Kc (Kl (.row 16 1)) ?_
 refine af ?_
 refine Kc (aa.aJ rfl rfl lD) ?_
 refine Kc (aa.aF rfl ai (by decide) rfl rfl rfl) ?_
 refine Kc (Kp (dJ [.str (Vb.t .mark),.num ((1:Nat):Int)] Kn Kn (gq (by decide) (fA (by omega) gM)))) ?_
 iterate 3 refine af ?_
 have hd:bp F .mark n=({F with marks:=F.marks++[F.b]},br (Vb.t .mark) [((1:Nat):Int)],0):=by unfold bp;dsimp only;rw[if_neg (by omega),<- hl];rfl
 exact FR
theorem WC(F:c7)(n:List Int)(l:List RB)(hF:kK F)(hl:l.length=F.marks.length):aD Tryz.prog 105 [.ptr 0 0,.p (Di.aQ n)] (fQ F.b F.aT (.row 6 l.length) (dF l)) (fun v H2=>(bp F .mark n).2.2=0∧v= .p (.str (sB (bp F .mark n).2.1))∧H2=[cI F.b F.aT (.row 16 (l.length+1)) 1 2 3 4 5,dD F.b.au,dj F.b.ag,dI F.b.ax,bL F.b.plan,bL F.b.bH,.dead,.dead,.dead,dj F.b.ag,dD F.b.au,dI F.b.ax,bL F.b.plan,bL F.b.bH,.cells (dR 10 9 11 12 13 F.b) 59,.row (dR 10 9 11 12 13 F.b) 59,.row (nO l++dR 10 9 11 12 13 F.b) 59]) (fun y H2=>(bp F .mark n).2.2≠0∧y= .iface 106 (.agg [.int .i64 (bp F .mark n).2.2])∧H2=fQ F.b F.aT (.row 6 l.length) (dF l)):=by
 have en:=Rx.bM hF.b.cd
 have tT:=hF.b.sk
 have sN:=hF.b.dr
 have Z0:=hF.b.ck
 obtain⟨u0,NF⟩:=hF.b.EI
 have QG:=ia NF
 have OI:=hF.mm
 refine aD.start (N:=30) Tryz.func105 rfl rfl Kn ?_
 iterate 9 refine af ?_
 refine Kc (Kl ((.row 6 l.length))) ?_
 iterate 2 refine af ?_
 refine aq.cG 11 (b:=_) (dQ _ 9) (dU _ 9) rfl rfl rfl rfl rfl rfl rfl ai (fun hb=> ?_) (fun hb=> ?_)
 ·have h9:(bp F .mark n).2.2=9:=by unfold bp;dsimp only;rw[if_pos (by have h:=Zf hb;omega)]
  exact⟨_,rfl,by rw[h9];decide,by rw[h9],rfl⟩
 have h8:l.length<8:=by have h:=Ze hb;omega
 iterate 2 refine af ?_
 refine aC.kQ 8 ([cI F.b F.aT (.row 6 l.length) 1 2 3 4 5,dD F.b.au,dj F.b.ag,dI F.b.ax,bL F.b.plan,bL F.b.bH,(dF l),.dead,.dead,dj F.b.ag,dD F.b.au,dI F.b.ax,bL F.b.plan,bL F.b.bH]) mixed (by kernel_rfl) (by decide) ?_
 refine aN.cons 12 rfl rfl rfl (aa.move rfl rfl) (aa.move rfl rfl) ?_
 refine aN.cons 13 rfl rfl rfl (aa.nilCheck rfl rfl) (aa.nilCheck rfl rfl) ?_
 refine aN.cons 14 rfl rfl rfl (aa.fieldAddr rfl rfl ai rfl) (aa.fieldAddr rfl rfl ai rfl) ?_
 refine aN.cons 15 rfl rfl rfl (aa.move rfl rfl) (aa.move rfl rfl) ?_
 refine aN.cons 16 rfl rfl rfl (aa.nilCheck rfl rfl) (aa.nilCheck rfl rfl) ?_
 refine aN.cons 17 rfl rfl rfl (aa.fieldAddr rfl rfl ai rfl) (aa.fieldAddr rfl rfl ai rfl) ?_
 refine aN.cons 18 rfl rfl rfl (aa.load (v:= .agg (dR 1 2 3 4 5 F.b)) rfl rfl ai (show di _ _ _ _=_ from congrArg some (xo 1 2 3 4 5 F.b))) (aa.load (v:= .agg (dR 1 2 3 4 5 F.b)) rfl rfl ai (show di _ _ _ _=_ from congrArg some (xo 1 2 3 4 5 F.b))) ?_
 refine aN.lay 19 rfl rfl rfl (uA 4 7 F.b (by omega) (by omega) (by omega) (by omega) (by omega) rfl rfl rfl rfl rfl (Ng rfl rfl rfl rfl rfl) ai) ?_
 refine aN.nil ?_
 refine Kc (aa.ir rfl rfl rfl rfl ai (Iw F.b F.aT l (by omega))) ?_
 iterate 3 refine af ?_
 refine Kc (aa.aJ rfl rfl mO) ?_
 iterate 3 refine af ?_
 refine Kc (Kl (.row 16 (l.length+1))) ?_
 refine af ?_
 refine Kc (aa.aJ rfl rfl lD) ?_
 refine Kc (aa.aF rfl ai (by decide) rfl rfl rfl) ?_
 refine Kc (Kp (dJ [.str (Vb.t .mark),.num ((l.length+1:Nat):Int)] Kn Kn (gq (by decide) (fA (by omega) gM)))) ?_
 iterate 3 refine af ?_
 have hd:bp F .mark n=({F with marks:=F.marks++[F.b]},br (Vb.t .mark) [((l.length+1:Nat):Int)],0):=by unfold bp;dsimp only;rw[if_neg (by omega),<- hl];rfl
 exact FR
theorem HA(F:c7)(n:List Int)(l:List RB)(r:RB)(fs:List bU)(x:bU)(hm:F.marks=fs++[x])(hl:l.length=fs.length)(h8:l.length<=8):aD Tryz.prog 107 [.ptr 0 0,.p (Di.aQ n)] (fQ F.b F.aT (.row 6 (l.length+1)) (dF (l++[r]))) (fun v H2=>(bp F .back n).2.2=0∧v= .p (.str (sB (bp F .back n).2.1))∧H2=[.cells (r.cells++F.aT.cells.map .p++[.row 6 l.length,.p (.bool true)]) 63,dD F.b.au,dj F.b.ag,dI F.b.ax,bL F.b.plan,bL F.b.bH,dF (l++[r]),.cells r.cells 59,.cells r.cells 59]) (fun _ _=>False):=by
 refine aD.start (N:=29) Tryz.func107 rfl rfl Kn ?_
 iterate 9 refine af ?_
 refine Kc (aa.ir rfl rfl rfl rfl ai (B4 F.b F.aT l r h8)) ?_
 iterate 4 refine af ?_
 refine Kz (aa.store (H':=[cI F.b F.aT (.row 6 l.length) 1 2 3 4 5,dD F.b.au,dj F.b.ag,dI F.b.ax,bL F.b.plan,bL F.b.bH,dF (l++[r]),.cells r.cells 59,.cells r.cells 59]) rfl rfl rfl rfl rfl ai rfl rfl) ?_
 iterate 5 refine af ?_
 refine Kc (Kp (vL 4)) ?_
 iterate 4 refine af ?_
 refine Kc (Kl (.agg r.cells)) ?_
 iterate 2 refine af ?_
 refine Kz (aa.store (H':=[.cells (r.cells++F.aT.cells.map .p++[.row 6 l.length,.p (.bool true)]) 63,dD F.b.au,dj F.b.ag,dI F.b.ax,bL F.b.plan,bL F.b.bH,dF (l++[r]),.cells r.cells 59,.cells r.cells 59]) rfl rfl rfl rfl rfl ai rfl rfl) ?_
 iterate 3 refine af ?_
 refine Kc (aa.aJ rfl rfl mO) ?_
 iterate 3 refine af ?_
 refine Kc (Kl (.row 6 l.length)) ?_
 refine af ?_
 refine Kc (aa.aJ rfl rfl lD) ?_
 refine Kc (aa.aF rfl ai (by decide) rfl rfl rfl) ?_
 refine Kc (Kp (dJ [.str (Vb.t .back),.num ((l.length:Nat):Int)] Kn Kn (gq (by decide) (fA (by omega) gM)))) ?_
 iterate 3 refine af ?_
 have hd:bp F .back n=({F with b:=x,marks:=fs},br (Vb.t .back) [((l.length:Nat):Int)],0):=by unfold bp;rw[hm];simp[hl]
 exact FR
theorem GI(F:c7)(n:List Int)(um:V)(M:ak)(hm:F.marks=[])(hu:Ds um=some 0):aD Tryz.prog 107 [.ptr 0 0,.p (Di.aQ n)] (fQ F.b F.aT um M) (fun _ _=>False) (fun y H2=>(bp F .back n).2.2≠0∧y= .iface 106 (.agg [.int .i64 (bp F .back n).2.2])∧H2=[cI F.b F.aT um 1 2 3 4 5,dD F.b.au,dj F.b.ag,dI F.b.ax,bL F.b.plan,bL F.b.bH,M,.cells ([.nilSlice,.nilSlice,.nilSlice,.nilSlice,.int .i64 0,.int .i64 0,.nilSlice].map .p) 59,.cells ([.nilSlice,.nilSlice,.nilSlice,.nilSlice,.int .i64 0,.int .i64 0,.nilSlice].map .p) 59]):=by
 refine aD.start (N:=29) Tryz.func107 rfl rfl Kn ?_
 iterate 9 refine af ?_
 refine Kc (aa.ir rfl rfl rfl rfl ai (CE F.b F.aT um M hu)) ?_
 iterate 4 refine af ?_
 refine Kz (aa.store (H':=[cI F.b F.aT um 1 2 3 4 5,dD F.b.au,dj F.b.ag,dI F.b.ax,bL F.b.plan,bL F.b.bH,M,.cells ([.nilSlice,.nilSlice,.nilSlice,.nilSlice,.int .i64 0,.int .i64 0,.nilSlice].map .p) 59,.cells ([.nilSlice,.nilSlice,.nilSlice,.nilSlice,.int .i64 0,.int .i64 0,.nilSlice].map .p) 59]) rfl rfl rfl rfl rfl ai rfl rfl) ?_
 iterate 5 refine af ?_
 refine aq.cG 15 (b:=false) (dQ false 4) (dU false 4) rfl rfl rfl rfl rfl rfl rfl ai (fun hb=> ?_) (fun hb=> ?_)
 ·have h4:(bp F .back n).2.2=4:=by unfold bp;rw[hm];rfl
  exact⟨_,rfl,by rw[h4];decide,by rw[h4],rfl⟩
 cases hb
theorem Gh(F:c7)(n:List Int)(l:List RB)(r:RB)(fs:List bU)(x:bU)(hm:F.marks=fs++[x])(hl:l.length=fs.length)(h8:l.length<=8):aD Tryz.prog 109 [.ptr 0 0,.p (Di.aQ n)] (fQ F.b F.aT (.row 6 (l.length+1)) (dF (l++[r]))) (fun v H2=>(bp F .keep n).2.2=0∧v= .p (.str (sB (bp F .keep n).2.1))∧H2=[cI F.b F.aT (.row 6 l.length) 1 2 3 4 5,dD F.b.au,dj F.b.ag,dI F.b.ax,bL F.b.plan,bL F.b.bH,dF (l++[r]),.cells r.cells 59,.cells r.cells 59]) (fun _ _=>False):=by
 refine aD.start (N:=25) Tryz.func109 rfl rfl Kn ?_
 iterate 9 refine af ?_
 refine Kc (aa.ir rfl rfl rfl rfl ai (B4 F.b F.aT l r h8)) ?_
 iterate 4 refine af ?_
 refine Kz (aa.store (H':=[cI F.b F.aT (.row 6 l.length) 1 2 3 4 5,dD F.b.au,dj F.b.ag,dI F.b.ax,bL F.b.plan,bL F.b.bH,dF (l++[r]),.cells r.cells 59,.cells r.cells 59]) rfl rfl rfl rfl rfl ai rfl rfl) ?_
 iterate 5 refine af ?_
 refine Kc (Kp (vL 4)) ?_
 iterate 3 refine af ?_
 refine Kc (aa.aJ rfl rfl mO) ?_
 iterate 3 refine af ?_
 refine Kc (Kl (.row 6 l.length)) ?_
 refine af ?_
 refine Kc (aa.aJ rfl rfl lD) ?_
 refine Kc (aa.aF rfl ai (by decide) rfl rfl rfl) ?_
 refine Kc (Kp (dJ [.str (Vb.t .keep),.num ((l.length:Nat):Int)] Kn Kn (gq (by decide) (fA (by omega) gM)))) ?_
 iterate 3 refine af ?_
 have hd:bp F .keep n=({F with marks:=fs},br (Vb.t .keep) [((l.length:Nat):Int)],0):=by unfold bp;rw[hm];simp[hl]
 exact FR
theorem HS(F:c7)(n:List Int)(um:V)(M:ak)(hm:F.marks=[])(hu:Ds um=some 0):aD Tryz.prog 109 [.ptr 0 0,.p (Di.aQ n)] (fQ F.b F.aT um M) (fun _ _=>False) (fun y H2=>(bp F .keep n).2.2≠0∧y= .iface 106 (.agg [.int .i64 (bp F .keep n).2.2])∧H2=[cI F.b F.aT um 1 2 3 4 5,dD F.b.au,dj F.b.ag,dI F.b.ax,bL F.b.plan,bL F.b.bH,M,.cells ([.nilSlice,.nilSlice,.nilSlice,.nilSlice,.int .i64 0,.int .i64 0,.nilSlice].map .p) 59,.cells ([.nilSlice,.nilSlice,.nilSlice,.nilSlice,.int .i64 0,.int .i64 0,.nilSlice].map .p) 59]):=by
 refine aD.start (N:=25) Tryz.func109 rfl rfl Kn ?_
 iterate 9 refine af ?_
 refine Kc (aa.ir rfl rfl rfl rfl ai (CE F.b F.aT um M hu)) ?_
 iterate 4 refine af ?_
 refine Kz (aa.store (H':=[cI F.b F.aT um 1 2 3 4 5,dD F.b.au,dj F.b.ag,dI F.b.ax,bL F.b.plan,bL F.b.bH,M,.cells ([.nilSlice,.nilSlice,.nilSlice,.nilSlice,.int .i64 0,.int .i64 0,.nilSlice].map .p) 59,.cells ([.nilSlice,.nilSlice,.nilSlice,.nilSlice,.int .i64 0,.int .i64 0,.nilSlice].map .p) 59]) rfl rfl rfl rfl rfl ai rfl rfl) ?_
 iterate 5 refine af ?_
 refine aq.cG 15 (b:=false) (dQ false 4) (dU false 4) rfl rfl rfl rfl rfl rfl rfl ai (fun hb=> ?_) (fun hb=> ?_)
 ·have h4:(bp F .keep n).2.2=4:=by unfold bp;rw[hm];rfl
  exact⟨_,rfl,by rw[h4];decide,by rw[h4],rfl⟩
 cases hb
def lu(x:Int×FuncId):PV:= .agg [.int .i64 x.1,.func (.func x.2) [] []]
def mu:Vb->FuncId
 | .lF=>90
 | .slat=>91
 | .lead=>93
 | .pencil=>94
 | .bad=>95
 | .good=>97
 | .blame=>98
 | .call=>101
 | .from_=>102
 | .wear=>103
 | .mark=>105
 | .back=>107
 | .keep=>109
def nH:List (ByteArray×(Int×FuncId)):=(bh (sB [107,101,101,112]) ((0:Int),(109:FuncId)) (bh (sB [98,97,99,107]) ((0:Int),(107:FuncId)) (bh (sB [109,97,114,107]) ((0:Int),(105:FuncId)) (bh (sB [119,101,97,114]) ((1:Int),(103:FuncId)) (bh (sB [102,114,111,109]) ((1:Int),(102:FuncId)) (bh (sB [99,97,108,108]) ((0:Int),(101:FuncId)) (bh (sB [98,108,97,109,101]) ((0:Int),(98:FuncId)) (bh (sB [103,111,111,100]) ((1:Int),(97:FuncId)) (bh (sB [98,97,100]) ((1:Int),(95:FuncId)) (bh (sB [112,101,110,99,105,108]) ((3:Int),(94:FuncId)) (bh (sB [108,101,97,100]) ((8:Int),(93:FuncId)) (bh (sB [115,108,97,116]) ((0:Int),(91:FuncId)) (bh (sB [115,97,99,107]) ((6:Int),(90:FuncId)) [])))))))))))))
theorem YR{a b:Bs}:sB a=sB b↔a=b:=⟨fun h=>by rw[<- j5 a,h,j5],fun h=>by rw[h]⟩
theorem GR(s:Bs):cQ (sB s) nH=(kD s).map fun v=>((v.many:Int),mu v):=by
 unfold nH
 simp only[lS,YR]
 cases h:kD s with
 | some v=>
  have e:=sQ h
  subst e
  cases v <;> rfl
 | none=>
  have hn:=HE h
  simp only[if_neg (show ¬ s=[115,97,99,107] from fun e=>hn .lF e.symm),if_neg (show ¬ s=[115,108,97,116] from fun e=>hn .slat e.symm),if_neg (show ¬ s=[108,101,97,100] from fun e=>hn .lead e.symm),if_neg (show ¬ s=[112,101,110,99,105,108] from fun e=>hn .pencil e.symm),if_neg (show ¬ s=[98,97,100] from fun e=>hn .bad e.symm),if_neg (show ¬ s=[103,111,111,100] from fun e=>hn .good e.symm),if_neg (show ¬ s=[98,108,97,109,101] from fun e=>hn .blame e.symm),if_neg (show ¬ s=[99,97,108,108] from fun e=>hn .call e.symm),if_neg (show ¬ s=[102,114,111,109] from fun e=>hn .from_ e.symm),if_neg (show ¬ s=[119,101,97,114] from fun e=>hn .wear e.symm),if_neg (show ¬ s=[109,97,114,107] from fun e=>hn .mark e.symm),if_neg (show ¬ s=[98,97,99,107] from fun e=>hn .back e.symm),if_neg (show ¬ s=[107,101,101,112] from fun e=>hn .keep e.symm)]
  rfl
theorem RD{N:Nat}{T:Tm}{H:List ak}{o:Oper}(s:Bs){x y:Operand}{t:TypeId}{z:PV}(ho:o.op= .lookup t x y true)(hx:ev T x=some (.p (mF PV.str lu nH)))(hy:ev T y=some (.p (.str (sB s))))(ht:pg Tryz.prog t=some (.string,z)):aa Tryz.prog N o T H (ki [(((kD s).map fun v=>V.p (lu ((v.many:Int),mu v))).getD (.p z)),.p (.bool (kD s).isSome)]) H:=by
 have h:=aa.B3 (N:=N) (H:=H) dV.str (gp:=lu) (ms:=nH) (n:=sB s) (ok:=true) ho hx hy ht
 rw[GR s] at h
 unfold BA at h
 rw[if_pos rfl,Option.map_map,Option.isSome_map] at h
 exact h
theorem rC:Pure Tryz.prog 52 [] (mF PV.str lu nH):=by
 refine Kf (N:=16) Tryz.func52 ?_
 iterate 6 refine af ?_
 refine Kc (aa.makeMap (enc:=PV.str) (g:=fun x=>V.p (lu x)) rfl) ?_
 refine af ?_
 refine Kz (aa.mapUpdate (enc:=PV.str) (g:=fun x=>V.p (lu x)) (ms:=[]) (n:=sB [115,97,99,107]) (c:=((6:Int),(90:FuncId))) dV.str (.inr rfl) rfl rfl rfl rfl jm) ?_
 refine af ?_
 refine Kz (aa.mapUpdate (enc:=PV.str) (g:=fun x=>V.p (lu x)) (ms:=(bh (sB [115,97,99,107]) ((6:Int),(90:FuncId)) [])) (n:=sB [115,108,97,116]) (c:=((0:Int),(91:FuncId))) dV.str (.inr rfl) rfl rfl rfl rfl jm) ?_
 refine af ?_
 refine Kz (aa.mapUpdate (enc:=PV.str) (g:=fun x=>V.p (lu x)) (ms:=(bh (sB [115,108,97,116]) ((0:Int),(91:FuncId)) (bh (sB [115,97,99,107]) ((6:Int),(90:FuncId)) []))) (n:=sB [108,101,97,100]) (c:=((8:Int),(93:FuncId))) dV.str (.inr rfl) rfl rfl rfl rfl jm) ?_
 refine af ?_
 refine Kz (aa.mapUpdate (enc:=PV.str) (g:=fun x=>V.p (lu x)) (ms:=(bh (sB [108,101,97,100]) ((8:Int),(93:FuncId)) (bh (sB [115,108,97,116]) ((0:Int),(91:FuncId)) (bh (sB [115,97,99,107]) ((6:Int),(90:FuncId)) [])))) (n:=sB [112,101,110,99,105,108]) (c:=((3:Int),(94:FuncId))) dV.str (.inr rfl) rfl rfl rfl rfl jm) ?_
 refine af ?_
 refine Kz (aa.mapUpdate (enc:=PV.str) (g:=fun x=>V.p (lu x)) (ms:=(bh (sB [112,101,110,99,105,108]) ((3:Int),(94:FuncId)) (bh (sB [108,101,97,100]) ((8:Int),(93:FuncId)) (bh (sB [115,108,97,116]) ((0:Int),(91:FuncId)) (bh (sB [115,97,99,107]) ((6:Int),(90:FuncId)) []))))) (n:=sB [98,97,100]) (c:=((1:Int),(95:FuncId))) dV.str (.inr rfl) rfl rfl rfl rfl jm) ?_
 refine af ?_
 refine Kz (aa.mapUpdate (enc:=PV.str) (g:=fun x=>V.p (lu x)) (ms:=(bh (sB [98,97,100]) ((1:Int),(95:FuncId)) (bh (sB [112,101,110,99,105,108]) ((3:Int),(94:FuncId)) (bh (sB [108,101,97,100]) ((8:Int),(93:FuncId)) (bh (sB [115,108,97,116]) ((0:Int),(91:FuncId)) (bh (sB [115,97,99,107]) ((6:Int),(90:FuncId)) [])))))) (n:=sB [103,111,111,100]) (c:=((1:Int),(97:FuncId))) dV.str (.inr rfl) rfl rfl rfl rfl jm) ?_
 refine af ?_
 refine Kz (aa.mapUpdate (enc:=PV.str) (g:=fun x=>V.p (lu x)) (ms:=(bh (sB [103,111,111,100]) ((1:Int),(97:FuncId)) (bh (sB [98,97,100]) ((1:Int),(95:FuncId)) (bh (sB [112,101,110,99,105,108]) ((3:Int),(94:FuncId)) (bh (sB [108,101,97,100]) ((8:Int),(93:FuncId)) (bh (sB [115,108,97,116]) ((0:Int),(91:FuncId)) (bh (sB [115,97,99,107]) ((6:Int),(90:FuncId)) []))))))) (n:=sB [98,108,97,109,101]) (c:=((0:Int),(98:FuncId))) dV.str (.inr rfl) rfl rfl rfl rfl jm) ?_
 refine af ?_
 refine Kz (aa.mapUpdate (enc:=PV.str) (g:=fun x=>V.p (lu x)) (ms:=(bh (sB [98,108,97,109,101]) ((0:Int),(98:FuncId)) (bh (sB [103,111,111,100]) ((1:Int),(97:FuncId)) (bh (sB [98,97,100]) ((1:Int),(95:FuncId)) (bh (sB [112,101,110,99,105,108]) ((3:Int),(94:FuncId)) (bh (sB [108,101,97,100]) ((8:Int),(93:FuncId)) (bh (sB [115,108,97,116]) ((0:Int),(91:FuncId)) (bh (sB [115,97,99,107]) ((6:Int),(90:FuncId)) [])))))))) (n:=sB [99,97,108,108]) (c:=((0:Int),(101:FuncId))) dV.str (.inr rfl) rfl rfl rfl rfl jm) ?_
 refine af ?_
 refine Kz (aa.mapUpdate (enc:=PV.str) (g:=fun x=>V.p (lu x)) (ms:=(bh (sB [99,97,108,108]) ((0:Int),(101:FuncId)) (bh (sB [98,108,97,109,101]) ((0:Int),(98:FuncId)) (bh (sB [103,111,111,100]) ((1:Int),(97:FuncId)) (bh (sB [98,97,100]) ((1:Int),(95:FuncId)) (bh (sB [112,101,110,99,105,108]) ((3:Int),(94:FuncId)) (bh (sB [108,101,97,100]) ((8:Int),(93:FuncId)) (bh (sB [115,108,97,116]) ((0:Int),(91:FuncId)) (bh (sB [115,97,99,107]) ((6:Int),(90:FuncId)) []))))))))) (n:=sB [102,114,111,109]) (c:=((1:Int),(102:FuncId))) dV.str (.inr rfl) rfl rfl rfl rfl jm) ?_
 refine af ?_
 refine Kz (aa.mapUpdate (enc:=PV.str) (g:=fun x=>V.p (lu x)) (ms:=(bh (sB [102,114,111,109]) ((1:Int),(102:FuncId)) (bh (sB [99,97,108,108]) ((0:Int),(101:FuncId)) (bh (sB [98,108,97,109,101]) ((0:Int),(98:FuncId)) (bh (sB [103,111,111,100]) ((1:Int),(97:FuncId)) (bh (sB [98,97,100]) ((1:Int),(95:FuncId)) (bh (sB [112,101,110,99,105,108]) ((3:Int),(94:FuncId)) (bh (sB [108,101,97,100]) ((8:Int),(93:FuncId)) (bh (sB [115,108,97,116]) ((0:Int),(91:FuncId)) (bh (sB [115,97,99,107]) ((6:Int),(90:FuncId)) [])))))))))) (n:=sB [119,101,97,114]) (c:=((1:Int),(103:FuncId))) dV.str (.inr rfl) rfl rfl rfl rfl jm) ?_
 refine af ?_
 refine Kz (aa.mapUpdate (enc:=PV.str) (g:=fun x=>V.p (lu x)) (ms:=(bh (sB [119,101,97,114]) ((1:Int),(103:FuncId)) (bh (sB [102,114,111,109]) ((1:Int),(102:FuncId)) (bh (sB [99,97,108,108]) ((0:Int),(101:FuncId)) (bh (sB [98,108,97,109,101]) ((0:Int),(98:FuncId)) (bh (sB [103,111,111,100]) ((1:Int),(97:FuncId)) (bh (sB [98,97,100]) ((1:Int),(95:FuncId)) (bh (sB [112,101,110,99,105,108]) ((3:Int),(94:FuncId)) (bh (sB [108,101,97,100]) ((8:Int),(93:FuncId)) (bh (sB [115,108,97,116]) ((0:Int),(91:FuncId)) (bh (sB [115,97,99,107]) ((6:Int),(90:FuncId)) []))))))))))) (n:=sB [109,97,114,107]) (c:=((0:Int),(105:FuncId))) dV.str (.inr rfl) rfl rfl rfl rfl jm) ?_
 refine af ?_
 refine Kz (aa.mapUpdate (enc:=PV.str) (g:=fun x=>V.p (lu x)) (ms:=(bh (sB [109,97,114,107]) ((0:Int),(105:FuncId)) (bh (sB [119,101,97,114]) ((1:Int),(103:FuncId)) (bh (sB [102,114,111,109]) ((1:Int),(102:FuncId)) (bh (sB [99,97,108,108]) ((0:Int),(101:FuncId)) (bh (sB [98,108,97,109,101]) ((0:Int),(98:FuncId)) (bh (sB [103,111,111,100]) ((1:Int),(97:FuncId)) (bh (sB [98,97,100]) ((1:Int),(95:FuncId)) (bh (sB [112,101,110,99,105,108]) ((3:Int),(94:FuncId)) (bh (sB [108,101,97,100]) ((8:Int),(93:FuncId)) (bh (sB [115,108,97,116]) ((0:Int),(91:FuncId)) (bh (sB [115,97,99,107]) ((6:Int),(90:FuncId)) [])))))))))))) (n:=sB [98,97,99,107]) (c:=((0:Int),(107:FuncId))) dV.str (.inr rfl) rfl rfl rfl rfl jm) ?_
 refine af ?_
 refine Kz (aa.mapUpdate (enc:=PV.str) (g:=fun x=>V.p (lu x)) (ms:=(bh (sB [98,97,99,107]) ((0:Int),(107:FuncId)) (bh (sB [109,97,114,107]) ((0:Int),(105:FuncId)) (bh (sB [119,101,97,114]) ((1:Int),(103:FuncId)) (bh (sB [102,114,111,109]) ((1:Int),(102:FuncId)) (bh (sB [99,97,108,108]) ((0:Int),(101:FuncId)) (bh (sB [98,108,97,109,101]) ((0:Int),(98:FuncId)) (bh (sB [103,111,111,100]) ((1:Int),(97:FuncId)) (bh (sB [98,97,100]) ((1:Int),(95:FuncId)) (bh (sB [112,101,110,99,105,108]) ((3:Int),(94:FuncId)) (bh (sB [108,101,97,100]) ((8:Int),(93:FuncId)) (bh (sB [115,108,97,116]) ((0:Int),(91:FuncId)) (bh (sB [115,97,99,107]) ((6:Int),(90:FuncId)) []))))))))))))) (n:=sB [107,101,101,112]) (c:=((0:Int),(109:FuncId))) dV.str (.inr rfl) rfl rfl rfl rfl jm) ?_
 iterate 3 refine af ?_
 refine aC.to (To.su 0 (enc:=PV.str) (gp:=lu) (ms:=nH) rfl) ?_
 refine af ?_
 exact C8
theorem yE{s w:Bs}{l:List Bs}(hw:bW s=w::l)(h:kD w=none):cV s=none:=by
 unfold cV
 rw[hw]
 simp only[h]
theorem yM{s w:Bs}{l:List Bs}{v:Vb}(hw:bW s=w::l)(hv:kD w=some v)(h:l.length≠v.many):cV s=none:=by
 unfold cV
 rw[hw]
 simp only[hv]
 rw[if_neg h]
theorem Rh{x:Bs}:rP x=true↔iK x:=by
 unfold rP
 constructor
 ·intro h
  by_cases hc:iK x
  ·exact hc
  ·rw[Aj hc] at h;cases h
 ·intro h
  rw[uh h];rfl
theorem xR{s w:Bs}{l:List Bs}{v:Vb}(hw:bW s=w::l)(hv:kD w=some v)(h:¬ ∀ x∈l,iK x):cV s=none:=by
 unfold cV
 rw[hw]
 simp only[hv]
 have h2:l.all rP=false:=by
  cases hb:l.all rP with
  | false=>rfl
  | true=>exact absurd (fun x hx=>Rh.1 (ZC.1 hb x hx)) h
 rw[mapM_none l h2]
 split <;> rfl
theorem yU{s w:Bs}{l:List Bs}{v:Vb}(hw:bW s=w::l)(hv:kD w=some v)(hl:l.length=v.many)(h:∀ x∈l,iK x):cV s=some (v,l.map gh):=by
 unfold cV
 rw[hw]
 simp only[hv]
 rw[if_pos hl,wM l (ZC.2 fun x hx=>Rh.2 (h x hx))]
 rfl
theorem wE(s:Bs):∃ w l,bW s=w::l:=by
 have h:=o7 s
 cases hw:bW s with
 | nil=>rw[hw] at h;cases h
 | cons w l=>exact⟨w,l,rfl⟩
theorem xW:∀(ws cs pre t:List V),cs.length=ws.length->setAt (pre++cs++t) pre.length ws=pre++ws++t
 | [],cs,pre,t,h=>by
  rw[ZD h];rfl
 | w::ws,[],pre,t,h=>by cases h
 | w::ws,c::cs,pre,t,h=>by
  show setAt ((pre++c::cs++t).set pre.length w) (pre.length+1) ws=_
  have e:(pre++c::cs++t).set pre.length w=(pre++[w])++cs++t:=by
   rw[ZM,List.set_append_right _ _ (Zg _),NQ]
   simp
  rw[e]
  have:=xW ws cs (pre++[w]) t (by simpa using h)
  rw[Zc,ZbN] at this
  rw[this]
  simp
theorem Mx{ws cs t:List V}(h:cs.length=ws.length):setAt (cs++t) 0 ws=ws++t:=xW ws cs [] t h
theorem Cr{H:List ak}{i k:Nat}{cs:List V}{e:TypeId}{v:V}(h:H[i]? =some (.cells cs e))(hk:cs[k]? =some v):di H false 1 (.ptr i k)=some v:=by
 simp only[di,h]
 exact hk
theorem Vr{H:List ak}{i n:Nat}{cs:List V}{e:TypeId}(h:H[i]? =some (.cells cs e))(hn:cs.length=n):di H true n (.ptr i 0)=some (gL cs):=by
 simp only[di,h]
 show(if 0+n<=cs.length then some (gL ((cs.drop 0).take n)) else none)=_
 rw[if_pos (by omega),Xj,NP (by omega)]
theorem BP{H:List ak}{i:Nat}{cs ws:List V}{e:TypeId}(h:H[i]? =some (.cells cs e))(hn:cs.length=ws.length):gU H i 0 ws=some (H.set i (.cells ws e)):=by
 simp only[gU,h]
 rw[if_pos (by omega)]
 have:=Mx (t:=[]) hn
 rw[ZY,ZY] at this
 rw[this]
theorem VQ{H:List ak}{i:Nat}{cs ws t:List V}{e:TypeId}(h:H[i]? =some (.cells (cs++t) e))(hn:cs.length=ws.length):gU H i 0 ws=some (H.set i (.cells (ws++t) e)):=by
 simp only[gU,h]
 rw[if_pos (by rw[Zc];omega),Mx hn]
theorem Qg{H:List ak}{x y:ak}:(H++[x]).set H.length y=H++[y]:=by
 rw[List.set_append_right _ _ (Zg _),NQ];rfl
theorem FM{H:List ak}{x:ak}:(H++[x])[H.length]? =some x:=by
 rw[Zj (Zg _),NQ];rfl
theorem oL{H X:List ak}{i:Nat}{x:ak}(h:H[i]? =some x):(H++X)[i]? =some x:=by
 rw[Zd (Za.1 h).1];exact h
theorem b9{H:List ak}{i j:Nat}{x y:ak}(hij:j≠i)(h:H[i]? =some x):(H.set j y)[i]? =some x:=by
 rw[Zu,if_neg hij];exact h
theorem gD{H:List ak}{i:Nat}{x y:ak}(h:H[i]? =some x):(H.set i y)[i]? =some y:=by
 rw[Zu,if_pos rfl,if_pos (Za.1 h).1]
def LH(b:bU)(p:Di.bX)(um:V)(M:ak):List ak:=[cI b p um 1 2 3 4 5,dD b.au,dj b.ag,dI b.ax,bL b.plan,bL b.bH,M,.cells [.ptr 0 0] 33,.cells [.p (.str (sB []))] 9,.cells [.p (.int .i64 0)] 28,.dead,.dead,dj b.ag,dD b.au,dI b.ax,bL b.plan,bL b.bH,.cells (dR 13 12 14 15 16 b) 59]
def gY(H:List ak)(b:bU)(p:Di.bX)(um:V)(e:Int):List ak:=((((H++[ak.cells [.p (.int .i64 e)] 106]).set 0 (cI b p um 13 12 14 15 16)).set 8 (.cells [.p (.str (sB []))] 9)).set 9 (.cells [.p (.int .i64 e)] 28))
theorem Kt{N:Nat}{fn:Func}{T:Tm}{H:List ak}{t:ByteArray}{e:Int}(hfn:fn.results=[ResultVar.cell 4 9,.cell 5 28].toArray)(h4:lk T 4=some (.ptr 8 0))(h5:lk T 5=some (.ptr 9 0))(k8:H[8]? =some (.cells [.p (.str t)] 9))(k9:H[9]? =some (.cells [.p (.int .i64 e)] 28)):fE Tryz.prog N fn T H (.p (.tuple [.str t,.int .i64 e])):=
 fE.many (vs:=[.p (.str t),.p (.int .i64 e)]) hfn ⟨_,_,rfl,⟨_,_,_,h4,ai,Cr k8 rfl⟩,⟨_,_,rfl,⟨_,_,_,h5,ai,Cr k9 rfl⟩,rfl⟩⟩
theorem zh{H:List ak}{b:bU}{p:Di.bX}{um:V}{e:Int}(h:9<H.length):(gY H b p um e)[8]? =some (.cells [.p (.str (sB []))] 9):=by
 unfold gY
 exact b9 (by decide) (gD (x:=((H++[ak.cells [.p (.int .i64 e)] 106]).set 0 (cI b p um 13 12 14 15 16))[8]'(by simp;omega)) (Zb _))
theorem y8{H:List ak}{b:bU}{p:Di.bX}{um:V}{e:Int}(h:9<H.length):(gY H b p um e)[9]? =some (.cells [.p (.int .i64 e)] 28):=by
 unfold gY
 exact gD (x:=(((H++[ak.cells [.p (.int .i64 e)] 106]).set 0 (cI b p um 13 12 14 15 16)).set 8 (.cells [.p (.str (sB []))] 9))[9]'(by simp;omega)) (Zb _)
theorem qd{N:Nat}{T:Tm}{H:List ak}{o:Oper}(s:Bs)(v:Vb)(hv:kD s=some v){x y:Operand}{t:TypeId}{z:PV}(ho:o.op= .lookup t x y true)(hx:ev T x=some (.p (mF PV.str lu nH)))(hy:ev T y=some (.p (.str (sB s))))(ht:pg Tryz.prog t=some (.string,z)):aa Tryz.prog N o T H (.p (.tuple [.agg [.int .i64 (v.many:Int),.func (.func (mu v)) [] []],.bool true])) H:=by
 have h:=RD (N:=N) (H:=H) s ho hx hy ht
 rw[hv] at h
 exact h
theorem DD{N:Nat}{T:Tm}{H:List ak}{o:Oper}(s:Bs)(hv:kD s=none){x y:Operand}{t:TypeId}{z:PV}(ho:o.op= .lookup t x y true)(hx:ev T x=some (.p (mF PV.str lu nH)))(hy:ev T y=some (.p (.str (sB s))))(ht:pg Tryz.prog t=some (.string,z)):aa Tryz.prog N o T H (.p (.tuple [z,.bool false])) H:=by
 have h:=RD (N:=N) (H:=H) s ho hx hy ht
 rw[hv] at h
 exact h
theorem Ea(w:Bs)(l:List Bs):(((w::l).flatMap jB).drop (1*1)).take ((l.length+1 - 1)*1)=l.flatMap jB:=by
 show(l.flatMap jB).take _=_
 rw[Ig,Nat.add_sub_cancel]
 have e:(l.flatMap jB).length=l.length:=by rw[AF.bD (c:=1) (fun _=>rfl),Ig]
 exact NP (NY e)
theorem Ev(b:bU)(p:Di.bX)(um:V)(M:ak)(hu:∀ σ:Nat->Option Nat,(M.live=true->σ 6=some 6)->aZ σ um=um)(hM:∀ σ,aM σ M=M):(LH b p um M).map (aM (sg 18 []))=LH b p um M:=by
 unfold LH
 simp only[ZE,zF,dD,dj,dI,bL,bS,fX,hM,cj,DO (n0:=18) (um:=um) (ms:=[]) (hu _ fun _=>rfl) (show 1<18 by decide) (show 2<18 by decide) (show 3<18 by decide) (show 4<18 by decide) (show 5<18 by decide),lA (n0:=18) (show 13<18 by decide) (show 12<18 by decide) (show 14<18 by decide) (show 15<18 by decide) (show 16<18 by decide),bY,cD,eZ]
 rfl
theorem Gu{H:List ak}{Hq:List ak->Prop}(hH:Hq H):xw Tryz.prog 50 [.ptr 17 0,.ptr 7 0,.ptr 8 0,.ptr 9 0] H none Hq:=by
 refine xw.start (N:=24) Tryz.func50 rfl rfl Kn (Yq rfl) rfl rfl rfl rfl rfl rfl rfl rfl ?_
 iterate 3 refine af ?_
 refine Kc (aa.Qy rfl rfl SF) ?_
 refine af ?_
 refine Ki (fun hc0=> ?_) fun hc0=> ?_
 ·cases hc0
 ·refine af ?_
  exact⟨.inl rfl,hH⟩
theorem sn{H:List ak}{Hq:List ak->Prop}{cs:List V}(b:bU)(p:Di.bX)(um:V)(e:Int)(h0:H[0]? =some (.cells (cs++p.cells.map .p++[um,.p (.bool true)]) 63))(hc:cs.length=7)(h7:H[7]? =some (.cells [.ptr 0 0] 33))(h8:H[8]? =some (.cells [.p (.str (sB []))] 9))(h9:H[9]? =some (.cells [.p (.int .i64 0)] 28))(h17:H[17]? =some (.cells (dR 13 12 14 15 16 b) 59))(hH:Hq (gY H b p um e)):xw Tryz.prog 50 [.ptr 17 0,.ptr 7 0,.ptr 8 0,.ptr 9 0] H (some (.iface 106 (.agg [.int .i64 e]))) Hq:=by
 refine xw.start (N:=24) Tryz.func50 rfl rfl Kn (Yq rfl) rfl rfl rfl rfl rfl rfl rfl rfl ?_
 iterate 3 refine af ?_
 refine Kc (aa.acF rfl rfl SF) ?_
 refine af ?_
 refine Ki (fun hc0=> ?_) fun hc0=> ?_
 ·iterate 3 refine af ?_
  refine Kc (aa.taG rfl rfl Mk (⟨106,_,rfl,.inl ⟨rfl,rfl⟩⟩)) ?_
  iterate 4 refine af ?_
  refine Kz (aa.store (H':=H++[.cells [.p (.int .i64 e)] 106]) rfl rfl rfl rfl rfl ai rfl ((BP (H:=H++[ak.cells [.p (.int .i64 0)] 106]) (i:=H.length) (cs:=[.p (.int .i64 0)]) (ws:=[.p (.int .i64 e)]) FM rfl).trans (congrArg some Qg))) ?_
  iterate 4 refine af ?_
  have g0:=oL (X:=[ak.cells [.p (.int .i64 e)] 106]) h0
  have g7:=oL (X:=[ak.cells [.p (.int .i64 e)] 106]) h7
  have g8:=oL (X:=[ak.cells [.p (.int .i64 e)] 106]) h8
  have g9:=oL (X:=[ak.cells [.p (.int .i64 e)] 106]) h9
  have g17:=oL (X:=[ak.cells [.p (.int .i64 e)] 106]) h17
  have gm1:=FM (H:=H) (x:=ak.cells [.p (.int .i64 e)] 106)
  obtain⟨H1,TN⟩:∃ X,X=H++[ak.cells [.p (.int .i64 e)] 106]:=⟨_,rfl⟩
  refine aC.uG (H':=H1) TN ?_
  rw[<- TN] at g0 g7 g8 g9 g17 gm1
  have hL:=(Za.1 h17).1
  iterate 4 refine af ?_
  refine Ki (fun bw=> ?_) fun bw=> ?_
  ·cases bw
  ·iterate 3 refine af ?_
   refine Kc (aa.load (v:= .ptr 0 0) rfl rfl ai (Cr g7 rfl)) ?_
   refine Kc (aa.load (v:= .agg (dR 13 12 14 15 16 b)) rfl rfl ai ((Vr g17 rfl).trans (congrArg some (xo _ _ _ _ _ b)))) ?_
   iterate 2 refine af ?_
   refine Kz (aa.store rfl rfl rfl rfl (qG _ _ _ _ _ b) ai rfl (VQ (t:=p.cells.map .p++[um,.p (.bool true)]) (by rw[<- ZM];exact g0) hc)) ?_
   refine af ?_
   have g82:=b9 (j:=0) (y:=cI b p um 13 12 14 15 16) (by decide) g8
   have g92:=b9 (j:=0) (y:=cI b p um 13 12 14 15 16) (by decide) g9
   have gm:=b9 (j:=0) (y:=cI b p um 13 12 14 15 16) (by omega) gm1
   obtain⟨H2,eH2⟩:∃ X,X=H1.set 0 (cI b p um 13 12 14 15 16):=⟨_,rfl⟩
   refine aC.uG (H':=H2) (by rw[eH2];unfold cI;rw[ZM];rfl) ?_
   rw[<- eH2] at g82 g92 gm
   have gm3:=b9 (j:=8) (y:=ak.cells [.p (.str (sB []))] 9) (by omega) gm
   have g93:=b9 (j:=8) (y:=ak.cells [.p (.str (sB []))] 9) (by decide) g92
   refine aC.kQ 3 (H2.set 8 (.cells [.p (.str (sB []))] 9)) mixed (by kernel_rfl) (by decide) ?_
   refine aN.cons 22 rfl rfl rfl (aa.fieldAddr rfl rfl ai rfl) (aa.fieldAddr rfl rfl ai rfl) ?_
   refine aN.cons 23 rfl rfl rfl (aa.load (v:= .p (.int .i64 e)) rfl rfl ai (Cr (by first | exact gm | exact gm3) rfl)) (aa.load (v:= .p (.int .i64 e)) rfl rfl ai (Cr (by first | exact gm | exact gm3) rfl)) ?_
   refine aN.put rfl rfl (aa.store rfl rfl rfl rfl rfl ai rfl (BP g82 rfl)) ?_
   refine aN.nil ?_
   refine Kz (aa.store rfl rfl rfl rfl rfl ai rfl (BP g93 rfl)) ?_
   refine af ?_
   subst eH2 TN
   exact⟨.inl rfl,hH⟩
 ·cases hc0
abbrev yb:TypeId:=59
structure cx (H H2:List ak):Prop where
 len:7<=H2.length
 dead:∀(j:Nat) (x y:ak),j<7->H[j]? =some x->x.live=false->H2[j]? =some y->y.live=false
theorem cx.k{H H2 H3:List ak}(h:cx H H2)(hd:∀ j,j<7->∃ x,H[j]? =some x∧(H3.getD j .dead).live=x.live):gC H3 [0,1,2,3,4,5,6] H2:=by
 refine⟨h.len,fun j i y hk hl hy=> ?_⟩
 have hj:j<7:=(Za.1 hk).1
 have hji:i=j:=by
  have:([0,1,2,3,4,5,6]:List Nat)[j]? =some j:=by
   match j,hj with
   | 0,_=>rfl
   | 1,_=>rfl
   | 2,_=>rfl
   | 3,_=>rfl
   | 4,_=>rfl
   | 5,_=>rfl
   | 6,_=>rfl
  rw[this] at hk
  exact(ZB hk).symm
 subst hji
 obtain⟨x,h1,h2⟩:=hd i hj
 exact h.dead i x y hj h1 (by rw[<- h2];exact hl) hy
theorem vm(b:bU)(p:Di.bX)(um:V)(M x:ak):∀ j,j<7->∃ y,(fQ b p um M)[j]? =some y∧((LH b p um M++[x]).getD j .dead).live=y.live:=fun j hj=>by
 match j,hj with
 | 0,_=>exact⟨_,rfl,rfl⟩
 | 1,_=>exact⟨_,rfl,rfl⟩
 | 2,_=>exact⟨_,rfl,rfl⟩
 | 3,_=>exact⟨_,rfl,rfl⟩
 | 4,_=>exact⟨_,rfl,rfl⟩
 | 5,_=>exact⟨_,rfl,rfl⟩
 | 6,_=>exact⟨_,rfl,rfl⟩
theorem gZ{H:List ak}{ks:List Nat}{i j n:Nat}{cs:List V}{e:TypeId}(hp:pl ks i=some j)(hx:H.getD i .dead=dG cs e n):aZ (oX H ks) (bg i n)=bg j n:=by
 cases n with
 | zero=>rfl
 | succ n=>exact cM (by unfold oX;rw[hx];exact hp)
theorem Vj(b:bU)(p:Di.bX)(um:V)(M:ak)(hu:∀ σ:Nat->Option Nat,(M.live=true->σ 6=some 6)->aZ σ um=um)(hM:∀ σ,aM σ M=M)(x:ak):(([0,1,2,3,4,5,6]:List Nat).map fun i=>aM (oX (LH b p um M++[x]) [0,1,2,3,4,5,6]) ((LH b p um M++[x]).getD i .dead))=fQ b p um M:=by
 have h0:aM (oX (LH b p um M++[x]) [0,1,2,3,4,5,6]) (cI b p um 1 2 3 4 5)=cI b p um 1 2 3 4 5:=by
  unfold cI dR
  rw[cj,bI,bI,aP]
  simp only[bY,cD,eZ]
  rw[gZ (j:=1) rfl rfl,gZ (j:=2) rfl rfl,gZ (j:=3) rfl rfl,gZ (j:=4) rfl rfl,gZ (j:=5) rfl rfl,hu _ (fun h=>by unfold oX;exact if_pos h)]
 show[aM _ (cI b p um 1 2 3 4 5),aM _ (dD b.au),aM _ (dj b.ag),aM _ (dI b.ax),aM _ (bL b.plan),aM _ (bL b.bH),aM _ M]=_
 rw[h0,hM]
 simp only[dD,dj,dI,bL,bS]
 rfl
theorem U6(b:bU)(p:Di.bX)(um:V)(M x:ak):M.live=true->eV (LH b p um M++[x]) [0,1,2,3,4,5,6] 6=some 6:=fun h=>by
 show(if ((LH b p um M++[x]).getD 6 .dead).live=true then some 6 else none)=some 6
 exact if_pos h
theorem dW(σ:Nat->Option Nat):∀ l:List V,(bE σ l).length=l.length
 | []=>rfl
 | v::l=>by rw[bY,Zp,Zp,dW σ l]
theorem vz{σ:Nat->Option Nat}{cs:List V}{p:Di.bX}{um:V}{e:TypeId}(hu:aZ σ um=um):aM σ (.cells (cs++p.cells.map .p++[um,.p (.bool true)]) e)= .cells (bE σ cs++p.cells.map .p++[um,.p (.bool true)]) e:=by
 rw[cj,bI,bI,aP]
 simp only[bY,cD,eZ,hu]
theorem QD(v:Vb):an Tryz.prog (mu v)=true:=by
 cases v <;> kernel_rfl
theorem HO(b:bU)(p:Di.bX)(um:V)(M:ak)(hu:∀ σ:Nat->Option Nat,(M.live=true->σ 6=some 6)->aZ σ um=um)(hM:∀ σ,aM σ M=M)(h1:b.au.length<=1000)(h2:b.ag.length<=1000)(h3:b.ax.length<=1000)(h4:b.plan.length<=1000)(h5:b.bH.length<=1000)(s:Bs)(hs:120<s.length):aE Tryz.prog 15 [.ptr 0 0,.p (.str (sB s))] (fQ b p um M) (fun v H2=>v= .p (.tuple [.str (sB []),.int .i64 3])∧H2=fQ b p um M++[.cells [.ptr 0 0] 33,.cells [.p (.str (sB []))] 9,.cells [.p (.int .i64 3)] 28]):=by
 refine aE.start (N:=58) Tryz.func15 rfl rfl Kn ?_
 iterate 2 refine af ?_
 refine Kc (aa.cP rfl rfl rfl) ?_
 iterate 8 refine af ?_
 refine Kc (aa.zb rfl rfl rfl ai) ?_
 refine af ?_
 refine Kg 14 13 2 rfl (fun h=>(aa.load rfl rfl ai rfl)) ?_
 refine Kh 15 13 14 rfl rfl rfl rfl (fun h=>(aa.nilCheck rfl rfl)) ?_
 refine Kh 16 13 15 rfl rfl rfl rfl (fun h=>(aa.fieldAddr rfl rfl ai rfl)) ?_
 refine Kh 17 13 16 rfl rfl rfl rfl (fun h=>(Kl (.p (.bool true)))) ?_
 refine Kh 18 13 17 rfl rfl rfl rfl (fun h=>(aa.fI rfl rfl)) ?_
 refine Kc (aa.lE rfl rfl rfl ?_) ?_
 ·exact fO
 iterate 2 refine af ?_
 refine Ki (fun hc0=> ?_) fun hc0=> ?_
 ·exact absurd hc0 (by decide)
 ·iterate 3 refine af ?_
  refine Kc (aa.eF rfl rfl w9) ?_
  iterate 3 refine af ?_
  refine Ki (fun bw=> ?_) fun bw=> ?_
  ·iterate 6 refine af ?_
   exact⟨.inr rfl,_,Kt rfl rfl rfl rfl rfl,rfl,rfl⟩
  ·exfalso
   have h:=Zf bw
   rw[cF] at h
   omega
theorem Vz(b:bU)(p:Di.bX)(um:V)(M:ak)(hu:∀ σ:Nat->Option Nat,(M.live=true->σ 6=some 6)->aZ σ um=um)(hM:∀ σ,aM σ M=M)(h1:b.au.length<=1000)(h2:b.ag.length<=1000)(h3:b.ax.length<=1000)(h4:b.plan.length<=1000)(h5:b.bH.length<=1000)(s:Bs)(hs:s.length<=120)(w:Bs)(l:List Bs)(hw:bW s=w::l)(hv:kD w=none):aE Tryz.prog 15 [.ptr 0 0,.p (.str (sB s))] (fQ b p um M) (fun x H2=>x= .p (.tuple [.str (sB []),.int .i64 8])∧H2=gY (LH b p um M++[ak.cells [.p (.int .i64 0),.p .nilFunc] 111]) b p um 8):=by
 have C4:(w::l).length=l.length+1:=rfl
 have hsp:=rq s (by omega)
 rw[hw] at hsp
 have CV:=(ig 32 s []).2
 rw[show cU 32 [] s=w::l from hw,Zp] at CV
 have Y6:l.length<=1000000:=by omega
 have hlw:∀ x∈l,x.length<=1000000:=fun x hx=>by have h6:=nc 32 s [] x (by rw[show cU 32 [] s=w::l from hw];exact Zk _ hx);rw[CP] at h6;omega
 refine aE.ur (N:=58) (g:=50) (dm:=29) (T1:=[(1,.p (.str (sB s))),(2,.ptr 7 0),(4,.ptr 8 0),(5,.ptr 9 0),(6,.ptr 17 0)]) (H1:=LH b p um M) (caps:=[.ptr 17 0,.ptr 7 0,.ptr 8 0,.ptr 9 0]) Tryz.func15 rfl rfl Kn ?_ (aa.makeFunc (fi:=[]) (ca:=[.ptr 17 0,.ptr 7 0,.ptr 8 0,.ptr 9 0]) rfl rfl rfl) rfl rfl rfl rfl rfl rfl ai ?_
 ·exact KB
 ·iterate 3 refine af ?_
  refine Kc (Kp (hsp)) ?_
  iterate 3 refine af ?_
  refine aC.bz 10 1 [18] [([],false),([],false),([],false),([],false),([],false),([],false),([],false),([],false),([18],true),([18],true)] mixed (by kernel_rfl) (by decide) (by kernel_rfl) rfl (Ev b p um M hu hM) ?_
  refine aX.cons 33 rfl rfl rfl (fun _=>(Kp (rC))) rfl ?_
  refine af ?_
  refine aX.cons 35 rfl rfl rfl (fun _=>(aa.aB (g:=Di.gt [] (w::l)) (k:=0) (Di.av _) rfl rfl rfl ai nY rfl (fun _=>rfl) (by decide) (Wo _))) rfl ?_
  refine aX.cons 36 rfl rfl rfl (fun _=>(Kl (.p (.str (sB w))))) rfl ?_
  refine aX.cons 37 rfl rfl rfl (fun _=>(DD w hv rfl rfl rfl jm)) rfl ?_
  refine af ?_
  refine aX.cons 38 rfl rfl rfl (fun _=>(aa.extract rfl rfl rfl)) rfl ?_
  refine aX.cons 39 rfl rfl rfl (fun _=>(aa.extract rfl rfl rfl)) rfl ?_
  refine aX.lay (v0:= .ptr 19 0) 8 18 rfl rfl rfl rfl rfl rfl rfl rfl (fun _=>(aa.aI rfl ai rfl)) rfl rfl rfl ?_
  refine aX.put (blk:= .cells [.p (.int .i64 0),.p .nilFunc] 111) 18 rfl rfl rfl rfl (fun _=>(aa.store rfl rfl rfl rfl rfl ai rfl rfl)) rfl rfl ?_
  refine aX.nil ?_
  iterate 3 refine af ?_
  refine aC.uG (H':=LH b p um M++[ak.cells [.p (.int .i64 0),.p .nilFunc] 111]) rfl ?_
  iterate 3 refine af ?_
  refine Kg 42 41 7 rfl (fun h=>(aa.move rfl rfl)) ?_
  refine Kh 43 41 42 rfl rfl rfl rfl (fun h=>(aa.bJ rfl rfl ai rfl)) ?_
  refine Kh 44 41 43 rfl rfl rfl rfl (fun h=>(aa.ec (m:=((l.length:Nat):Int)) rfl rfl rfl ((aA (by omega)).trans (by omega)))) ?_
  refine Kg 45 41 8 rfl (fun h=>(aa.fieldAddr rfl rfl ai rfl)) ?_
  refine Kh 46 41 45 rfl rfl rfl rfl (fun h=>(Kl (.p (.int .i64 0)))) ?_
  refine aq.g 47 41 rfl rfl rfl rfl rfl rfl rfl [(44,_),(46,_)] (fun h=>And.intro (.inr ⟨_,rfl,h⟩) (And.intro (.inr ⟨_,rfl,h⟩) (trivial))) (fun h=>(aa.eql rfl rfl rfl)) ?_
  refine Kc (aa.gy rfl rfl rfl ?_) ?_
  ·exact fO
  refine aq.cG 49 (b:=_) (dQ _ 8) (dU _ 8) rfl rfl rfl rfl rfl rfl rfl ai (fun hb=> ?_) (fun hb=> ?_)
  ·exact Xc
  simp at hb
theorem U1(b:bU)(p:Di.bX)(um:V)(M:ak)(hu:∀ σ:Nat->Option Nat,(M.live=true->σ 6=some 6)->aZ σ um=um)(hM:∀ σ,aM σ M=M)(h1:b.au.length<=1000)(h2:b.ag.length<=1000)(h3:b.ax.length<=1000)(h4:b.plan.length<=1000)(h5:b.bH.length<=1000)(s:Bs)(hs:s.length<=120)(w:Bs)(l:List Bs)(hw:bW s=w::l)(v:Vb)(hv:kD w=some v)(hm:l.length≠v.many):aE Tryz.prog 15 [.ptr 0 0,.p (.str (sB s))] (fQ b p um M) (fun x H2=>x= .p (.tuple [.str (sB []),.int .i64 8])∧H2=gY (LH b p um M++[ak.cells [.p (.int .i64 (v.many:Int)),.p (.func (.func (mu v)) [] [])] 111]) b p um 8):=by
 have C4:(w::l).length=l.length+1:=rfl
 have hsp:=rq s (by omega)
 rw[hw] at hsp
 have CV:=(ig 32 s []).2
 rw[show cU 32 [] s=w::l from hw,Zp] at CV
 have Y6:l.length<=1000000:=by omega
 have hlw:∀ x∈l,x.length<=1000000:=fun x hx=>by have h6:=nc 32 s [] x (by rw[show cU 32 [] s=w::l from hw];exact Zk _ hx);rw[CP] at h6;omega
 refine aE.ur (N:=58) (g:=50) (dm:=29) (T1:=[(1,.p (.str (sB s))),(2,.ptr 7 0),(4,.ptr 8 0),(5,.ptr 9 0),(6,.ptr 17 0)]) (H1:=LH b p um M) (caps:=[.ptr 17 0,.ptr 7 0,.ptr 8 0,.ptr 9 0]) Tryz.func15 rfl rfl Kn ?_ (aa.makeFunc (fi:=[]) (ca:=[.ptr 17 0,.ptr 7 0,.ptr 8 0,.ptr 9 0]) rfl rfl rfl) rfl rfl rfl rfl rfl rfl ai ?_
 ·exact KB
 ·iterate 3 refine af ?_
  refine Kc (Kp (hsp)) ?_
  iterate 3 refine af ?_
  refine aC.bz 10 1 [18] [([],false),([],false),([],false),([],false),([],false),([],false),([],false),([],false),([18],true),([18],true)] mixed (by kernel_rfl) (by decide) (by kernel_rfl) rfl (Ev b p um M hu hM) ?_
  refine aX.cons 33 rfl rfl rfl (fun _=>(Kp (rC))) rfl ?_
  refine af ?_
  refine aX.cons 35 rfl rfl rfl (fun _=>(aa.aB (g:=Di.gt [] (w::l)) (k:=0) (Di.av _) rfl rfl rfl ai nY rfl (fun _=>rfl) (by decide) (Wo _))) rfl ?_
  refine aX.cons 36 rfl rfl rfl (fun _=>(Kl (.p (.str (sB w))))) rfl ?_
  refine aX.cons 37 rfl rfl rfl (fun _=>(qd w v hv rfl rfl rfl jm)) rfl ?_
  refine af ?_
  refine aX.cons 38 rfl rfl rfl (fun _=>(aa.extract rfl rfl rfl)) rfl ?_
  refine aX.cons 39 rfl rfl rfl (fun _=>(aa.extract rfl rfl rfl)) rfl ?_
  refine aX.lay (v0:= .ptr 19 0) 8 18 rfl rfl rfl rfl rfl rfl rfl rfl (fun _=>(aa.aI rfl ai rfl)) rfl rfl rfl ?_
  refine aX.put (blk:= .cells [.p (.int .i64 (v.many:Int)),.p (.func (.func (mu v)) [] [])] 111) 18 rfl rfl rfl rfl (fun _=>(aa.store rfl rfl rfl rfl rfl ai rfl rfl)) rfl rfl ?_
  refine aX.nil ?_
  iterate 3 refine af ?_
  refine aC.uG (H':=LH b p um M++[ak.cells [.p (.int .i64 (v.many:Int)),.p (.func (.func (mu v)) [] [])] 111]) rfl ?_
  iterate 3 refine af ?_
  refine Kg 42 41 7 rfl (fun h=>(aa.move rfl rfl)) ?_
  refine Kh 43 41 42 rfl rfl rfl rfl (fun h=>(aa.bJ rfl rfl ai rfl)) ?_
  refine Kh 44 41 43 rfl rfl rfl rfl (fun h=>(aa.ec (m:=((l.length:Nat):Int)) rfl rfl rfl ((aA (by omega)).trans (by omega)))) ?_
  refine Kg 45 41 8 rfl (fun h=>(aa.fieldAddr rfl rfl ai rfl)) ?_
  refine Kh 46 41 45 rfl rfl rfl rfl (fun h=>(Kl (.p (.int .i64 (v.many:Int))))) ?_
  refine aq.g 47 41 rfl rfl rfl rfl rfl rfl rfl [(44,_),(46,_)] (fun h=>And.intro (.inr ⟨_,rfl,h⟩) (And.intro (.inr ⟨_,rfl,h⟩) (trivial))) (fun h=>(aa.eql rfl rfl rfl)) ?_
  refine Kc (aa.gy rfl rfl rfl ?_) ?_
  ·exact fO
  refine aq.cG 49 (b:=_) (dQ _ 8) (dU _ 8) rfl rfl rfl rfl rfl rfl rfl ai (fun hb=> ?_) (fun hb=> ?_)
  ·exact Xc
  exfalso
  simp at hb
  omega
theorem Xb(b:bU)(p:Di.bX)(um:V)(M:ak)(hu:∀ σ:Nat->Option Nat,(M.live=true->σ 6=some 6)->aZ σ um=um)(hM:∀ σ,aM σ M=M)(h1:b.au.length<=1000)(h2:b.ag.length<=1000)(h3:b.ax.length<=1000)(h4:b.plan.length<=1000)(h5:b.bH.length<=1000)(s:Bs)(hs:s.length<=120)(w:Bs)(l:List Bs)(hw:bW s=w::l)(v:Vb)(hv:kD w=some v)(hm:l.length=v.many)(hC:¬ ∀ x∈l,iK x):aE Tryz.prog 15 [.ptr 0 0,.p (.str (sB s))] (fQ b p um M) (fun x H2=>x= .p (.tuple [.str (sB []),.int .i64 8])∧H2=gY (LH b p um M++[ak.cells [.p (.int .i64 (v.many:Int)),.p (.func (.func (mu v)) [] [])] 111]) b p um 8):=by
 have C4:(w::l).length=l.length+1:=rfl
 have hsp:=rq s (by omega)
 rw[hw] at hsp
 have CV:=(ig 32 s []).2
 rw[show cU 32 [] s=w::l from hw,Zp] at CV
 have Y6:l.length<=1000000:=by omega
 have hlw:∀ x∈l,x.length<=1000000:=fun x hx=>by have h6:=nc 32 s [] x (by rw[show cU 32 [] s=w::l from hw];exact Zk _ hx);rw[CP] at h6;omega
 refine aE.ur (N:=58) (g:=50) (dm:=29) (T1:=[(1,.p (.str (sB s))),(2,.ptr 7 0),(4,.ptr 8 0),(5,.ptr 9 0),(6,.ptr 17 0)]) (H1:=LH b p um M) (caps:=[.ptr 17 0,.ptr 7 0,.ptr 8 0,.ptr 9 0]) Tryz.func15 rfl rfl Kn ?_ (aa.makeFunc (fi:=[]) (ca:=[.ptr 17 0,.ptr 7 0,.ptr 8 0,.ptr 9 0]) rfl rfl rfl) rfl rfl rfl rfl rfl rfl ai ?_
 ·exact KB
 ·iterate 3 refine af ?_
  refine Kc (Kp (hsp)) ?_
  iterate 3 refine af ?_
  refine aC.bz 10 1 [18] [([],false),([],false),([],false),([],false),([],false),([],false),([],false),([],false),([18],true),([18],true)] mixed (by kernel_rfl) (by decide) (by kernel_rfl) rfl (Ev b p um M hu hM) ?_
  refine aX.cons 33 rfl rfl rfl (fun _=>(Kp (rC))) rfl ?_
  refine af ?_
  refine aX.cons 35 rfl rfl rfl (fun _=>(aa.aB (g:=Di.gt [] (w::l)) (k:=0) (Di.av _) rfl rfl rfl ai nY rfl (fun _=>rfl) (by decide) (Wo _))) rfl ?_
  refine aX.cons 36 rfl rfl rfl (fun _=>(Kl (.p (.str (sB w))))) rfl ?_
  refine aX.cons 37 rfl rfl rfl (fun _=>(qd w v hv rfl rfl rfl jm)) rfl ?_
  refine af ?_
  refine aX.cons 38 rfl rfl rfl (fun _=>(aa.extract rfl rfl rfl)) rfl ?_
  refine aX.cons 39 rfl rfl rfl (fun _=>(aa.extract rfl rfl rfl)) rfl ?_
  refine aX.lay (v0:= .ptr 19 0) 8 18 rfl rfl rfl rfl rfl rfl rfl rfl (fun _=>(aa.aI rfl ai rfl)) rfl rfl rfl ?_
  refine aX.put (blk:= .cells [.p (.int .i64 (v.many:Int)),.p (.func (.func (mu v)) [] [])] 111) 18 rfl rfl rfl rfl (fun _=>(aa.store rfl rfl rfl rfl rfl ai rfl rfl)) rfl rfl ?_
  refine aX.nil ?_
  iterate 3 refine af ?_
  refine aC.uG (H':=LH b p um M++[ak.cells [.p (.int .i64 (v.many:Int)),.p (.func (.func (mu v)) [] [])] 111]) rfl ?_
  iterate 3 refine af ?_
  refine Kg 42 41 7 rfl (fun h=>(aa.move rfl rfl)) ?_
  refine Kh 43 41 42 rfl rfl rfl rfl (fun h=>(aa.bJ rfl rfl ai rfl)) ?_
  refine Kh 44 41 43 rfl rfl rfl rfl (fun h=>(aa.ec (m:=((l.length:Nat):Int)) rfl rfl rfl ((aA (by omega)).trans (by omega)))) ?_
  refine Kg 45 41 8 rfl (fun h=>(aa.fieldAddr rfl rfl ai rfl)) ?_
  refine Kh 46 41 45 rfl rfl rfl rfl (fun h=>(Kl (.p (.int .i64 (v.many:Int))))) ?_
  refine aq.g 47 41 rfl rfl rfl rfl rfl rfl rfl [(44,_),(46,_)] (fun h=>And.intro (.inr ⟨_,rfl,h⟩) (And.intro (.inr ⟨_,rfl,h⟩) (trivial))) (fun h=>(aa.eql rfl rfl rfl)) ?_
  refine Kc (aa.gy rfl rfl rfl ?_) ?_
  ·exact fO
  refine aq.cG 49 (b:=_) (dQ _ 8) (dU _ 8) rfl rfl rfl rfl rfl rfl rfl ai (fun hb=> ?_) (fun hb=> ?_)
  ·exfalso
   simp at hb
   omega
  iterate 2 refine af ?_
  refine aC.BD 6 ([(4,.ptr 8 0),(5,.ptr 9 0)]) rfl rfl mixed (by kernel_rfl) KS rfl ?_
  refine af ?_
  refine Kq (Kl (.p (.func (.func (mu v)) [] []))) ?_
  iterate 2 refine af ?_
  refine Kq (aa.kS (l:=1) (h:=(l.length+1)) (r:=(l.flatMap jB)) rfl rfl ai nY ⟨_,rfl⟩ rfl (by omega) (by omega) (Ea w l)) ?_
  refine Kq (Kp (uT l)) ?_
  refine ay.nil ?_
  refine aq.wA 56 (HB l Y6 hlw hC) rfl rfl rfl rfl rfl rfl rfl ai ⟨⟨_,rfl⟩,⟨_,rfl,sn (cs:=dR 1 2 3 4 5 b) b p um 8 rfl rfl rfl rfl rfl rfl ⟨_,Kt rfl rfl rfl (zh Kn) (y8 Kn),rfl,rfl⟩⟩⟩
theorem Ek(b:bU)(p:Di.bX)(um:V)(M:ak)(hu:∀ σ:Nat->Option Nat,(M.live=true->σ 6=some 6)->aZ σ um=um)(hM:∀ σ,aM σ M=M)(h1:b.au.length<=1000)(h2:b.ag.length<=1000)(h3:b.ax.length<=1000)(h4:b.plan.length<=1000)(h5:b.bH.length<=1000)(s:Bs)(hs:s.length<=120)(w:Bs)(l:List Bs)(hw:bW s=w::l)(v:Vb)(hv:kD w=some v)(hm:l.length=v.many)(hC:∀ x∈l,iK x)(t:Bs)(e:Int)(Qr:V->List ak->Prop)(Qp:PV->List ak->Prop)(hd:aD Tryz.prog (mu v) [.ptr 0 0,.p (Di.aQ (l.map gh))] (fQ b p um M) Qr Qp)(hr:∀ r H2,Qr r H2->r= .p (.str (sB t))∧cx (fQ b p um M) H2)(hp:∀ y H2,Qp y H2->y=(.iface 106 (.agg [.int .i64 e]))∧cx (fQ b p um M) H2∧∃ cs,cs.length=7∧H2[0]? =some (.cells (cs++p.cells.map .p++[um,.p (.bool true)]) 63)):aE Tryz.prog 15 [.ptr 0 0,.p (.str (sB s))] (fQ b p um M) (fun x H2=>(x= .p (.tuple [.str (sB t),.int .i64 0])∧∃ H0,Qr (.p (.str (sB t))) H0∧H2=(((bA (LH b p um M++[ak.cells [.p (.int .i64 (v.many:Int)),.p (.func (.func (mu v)) [] [])] 111]) [0,1,2,3,4,5,6] H0).set 8 (.cells [.p (.str (sB t))] 9)).set 9 (.cells [.p (.int .i64 0)] 28)))∨(x= .p (.tuple [.str (sB []),.int .i64 e])∧∃ H0,Qp (.iface 106 (.agg [.int .i64 e])) H0∧H2=gY (bA (LH b p um M++[ak.cells [.p (.int .i64 (v.many:Int)),.p (.func (.func (mu v)) [] [])] 111]) [0,1,2,3,4,5,6] H0) b p um e)):=by
 have C4:(w::l).length=l.length+1:=rfl
 have hsp:=rq s (by omega)
 rw[hw] at hsp
 have CV:=(ig 32 s []).2
 rw[show cU 32 [] s=w::l from hw,Zp] at CV
 have Y6:l.length<=1000000:=by omega
 have hlw:∀ x∈l,x.length<=1000000:=fun x hx=>by have h6:=nc 32 s [] x (by rw[show cU 32 [] s=w::l from hw];exact Zk _ hx);rw[CP] at h6;omega
 refine aE.ur (N:=58) (g:=50) (dm:=29) (T1:=[(1,.p (.str (sB s))),(2,.ptr 7 0),(4,.ptr 8 0),(5,.ptr 9 0),(6,.ptr 17 0)]) (H1:=LH b p um M) (caps:=[.ptr 17 0,.ptr 7 0,.ptr 8 0,.ptr 9 0]) Tryz.func15 rfl rfl Kn ?_ (aa.makeFunc (fi:=[]) (ca:=[.ptr 17 0,.ptr 7 0,.ptr 8 0,.ptr 9 0]) rfl rfl rfl) rfl rfl rfl rfl rfl rfl ai ?_
 ·exact KB
 ·iterate 3 refine af ?_
  refine Kc (Kp (hsp)) ?_
  iterate 3 refine af ?_
  refine aC.bz 10 1 [18] [([],false),([],false),([],false),([],false),([],false),([],false),([],false),([],false),([18],true),([18],true)] mixed (by kernel_rfl) (by decide) (by kernel_rfl) rfl (Ev b p um M hu hM) ?_
  refine aX.cons 33 rfl rfl rfl (fun _=>(Kp (rC))) rfl ?_
  refine af ?_
  refine aX.cons 35 rfl rfl rfl (fun _=>(aa.aB (g:=Di.gt [] (w::l)) (k:=0) (Di.av _) rfl rfl rfl ai nY rfl (fun _=>rfl) (by decide) (Wo _))) rfl ?_
  refine aX.cons 36 rfl rfl rfl (fun _=>(Kl (.p (.str (sB w))))) rfl ?_
  refine aX.cons 37 rfl rfl rfl (fun _=>(qd w v hv rfl rfl rfl jm)) rfl ?_
  refine af ?_
  refine aX.cons 38 rfl rfl rfl (fun _=>(aa.extract rfl rfl rfl)) rfl ?_
  refine aX.cons 39 rfl rfl rfl (fun _=>(aa.extract rfl rfl rfl)) rfl ?_
  refine aX.lay (v0:= .ptr 19 0) 8 18 rfl rfl rfl rfl rfl rfl rfl rfl (fun _=>(aa.aI rfl ai rfl)) rfl rfl rfl ?_
  refine aX.put (blk:= .cells [.p (.int .i64 (v.many:Int)),.p (.func (.func (mu v)) [] [])] 111) 18 rfl rfl rfl rfl (fun _=>(aa.store rfl rfl rfl rfl rfl ai rfl rfl)) rfl rfl ?_
  refine aX.nil ?_
  iterate 3 refine af ?_
  refine aC.uG (H':=LH b p um M++[ak.cells [.p (.int .i64 (v.many:Int)),.p (.func (.func (mu v)) [] [])] 111]) rfl ?_
  iterate 3 refine af ?_
  refine Kg 42 41 7 rfl (fun h=>(aa.move rfl rfl)) ?_
  refine Kh 43 41 42 rfl rfl rfl rfl (fun h=>(aa.bJ rfl rfl ai rfl)) ?_
  refine Kh 44 41 43 rfl rfl rfl rfl (fun h=>(aa.ec (m:=((l.length:Nat):Int)) rfl rfl rfl ((aA (by omega)).trans (by omega)))) ?_
  refine Kg 45 41 8 rfl (fun h=>(aa.fieldAddr rfl rfl ai rfl)) ?_
  refine Kh 46 41 45 rfl rfl rfl rfl (fun h=>(Kl (.p (.int .i64 (v.many:Int))))) ?_
  refine aq.g 47 41 rfl rfl rfl rfl rfl rfl rfl [(44,_),(46,_)] (fun h=>And.intro (.inr ⟨_,rfl,h⟩) (And.intro (.inr ⟨_,rfl,h⟩) (trivial))) (fun h=>(aa.eql rfl rfl rfl)) ?_
  refine Kc (aa.gy rfl rfl rfl ?_) ?_
  ·exact fO
  refine aq.cG 49 (b:=_) (dQ _ 8) (dU _ 8) rfl rfl rfl rfl rfl rfl rfl ai (fun hb=> ?_) (fun hb=> ?_)
  ·exfalso
   simp at hb
   omega
  iterate 2 refine af ?_
  refine aC.az 7 mixed (by kernel_rfl) (by decide) ?_
  refine af ?_
  refine Kq (Kl (.p (.func (.func (mu v)) [] []))) ?_
  iterate 2 refine af ?_
  refine Kq (aa.kS (l:=1) (h:=(l.length+1)) (r:=(l.flatMap jB)) rfl rfl ai nY ⟨_,rfl⟩ rfl (by omega) (by omega) (Ea w l)) ?_
  refine Kq (Kp (uT l)) ?_
  refine Kq (Kp (Gq l Y6 hlw hC)) ?_
  refine ay.nil ?_
  refine aq.ES 57 [0,1,2,3,4,5,6] hd rfl (Vj b p um M hu hM _) rfl (fun r H2 h=>((hr r H2 h).2).k (by exact vm b p um M _)) (fun y H2 h=>((hp y H2 h).2.1).k (by exact vm b p um M _)) rfl rfl rfl rfl rfl rfl rfl (QD v) (fun y H0 hy=> ?_) (fun r H0 hq=> ?_)
  ·obtain⟨rfl,hk,cs,hc,g0⟩:=hp y H0 hy
   have rS:7<=H0.length:=hk.1
   have k8:=dX (H:=(LH b p um M++[ak.cells [.p (.int .i64 (v.many:Int)),.p (.func (.func (mu v)) [] [])] 111])) (ks:=[0,1,2,3,4,5,6]) (i:=8) (by decide) rS Kn (by decide)
   have k0:=fP (H:=(LH b p um M++[ak.cells [.p (.int .i64 (v.many:Int)),.p (.func (.func (mu v)) [] [])] 111])) (ks:=[0,1,2,3,4,5,6]) (j:=0) (i:=0) (by decide) rS rfl Kn g0
   rw[vz (hu _ (U6 b p um M _))] at k0
   have hL9:9<(bA (LH b p um M++[ak.cells [.p (.int .i64 (v.many:Int)),.p (.func (.func (mu v)) [] [])] 111]) [0,1,2,3,4,5,6] H0).length:=by rw[sI (ks:=[0,1,2,3,4,5,6]) rS];exact Nat.lt_add_right _ Kn
   exact⟨_,rfl,sn b p um e k0 (by rw[dW];exact hc) (dX (i:=7) (by decide) rS Kn (by decide)) (dX (i:=8) (by decide) rS Kn (by decide)) (dX (i:=9) (by decide) rS Kn (by decide)) (dX (i:=17) (by decide) rS Kn (by decide)) ⟨_,Kt rfl rfl rfl (zh hL9) (y8 hL9),.inr ⟨rfl,H0,hy,rfl⟩⟩⟩
  obtain⟨rfl,hk⟩:=hr r H0 hq
  have rS:7<=H0.length:=hk.1
  have k8:(bA (LH b p um M++[ak.cells [.p (.int .i64 (v.many:Int)),.p (.func (.func (mu v)) [] [])] 111]) [0,1,2,3,4,5,6] H0)[8]? =some (.cells [.p (.str (sB []))] 9):=dX (i:=8) (by decide) rS Kn (by decide)
  have k9:(bA (LH b p um M++[ak.cells [.p (.int .i64 (v.many:Int)),.p (.func (.func (mu v)) [] [])] 111]) [0,1,2,3,4,5,6] H0)[9]? =some (.cells [.p (.int .i64 0)] 28):=dX (i:=9) (by decide) rS Kn (by decide)
  have k92:=b9 (j:=8) (y:=ak.cells [.p (.str (sB t))] 9) (by decide) k9
  refine Kz (aa.store rfl rfl rfl rfl rfl ai rfl (BP k8 rfl)) ?_
  refine Kz (aa.store rfl rfl rfl rfl rfl ai rfl (BP k92 rfl)) ?_
  iterate 2 refine af ?_
  exact Gu ⟨_,Kt rfl rfl rfl (b9 (by decide) (gD k8)) (gD k92),.inl ⟨rfl,H0,hq,rfl⟩⟩
end Go.Proofs.YtchiinjiflgepaaGreatDoor
end
