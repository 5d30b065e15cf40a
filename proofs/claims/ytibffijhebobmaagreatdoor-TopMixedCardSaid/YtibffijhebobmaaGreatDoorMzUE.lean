/-
 The program of chapter 15: marks (laid upon each other, taken away).
 The program of chapter 15: what verbs do (marks).
 The program of chapter 15: all verbs.
 Chapter 15, the program: what a line says, word by word; cells that are written anew.
 The program of chapter 15: what is recovered.
 The program of chapter 15: a line.
-/
import Derived.Test.YtibffijhebobmaaGreatDoorMzUF
import Derived.Test.YtibffijhebobmaaGreatDoorMzUB
import Derived.Test.YtibffijhebobmaaGreatDoorFaUF
import Derived.Test.YtibffijhebobmaaGreatDoorMzUZ
theorem qG{A:Prop}(h:A:=by
 refine af ?_
 refine Kc (aa.j7 rfl rfl rfl) ?_
 iterate 7 refine af ?_
 refine Kc (aa.Gi rfl rfl rfl an) ?_
 refine af ?_
 refine Kg 14 13 2 rfl (fun h=>(aa.load rfl rfl an rfl)) ?_
 refine Kh 15 13 14 rfl rfl rfl rfl (fun h=>(aa.nilCheck rfl rfl)) ?_
 refine Kh 16 13 15 rfl rfl rfl rfl (fun h=>(aa.fieldAddr rfl rfl an rfl)) ?_
 refine Kh 17 13 16 rfl rfl rfl rfl (fun h=>(Kl (.p (.bool true)))) ?_
 refine Kh 18 13 17 rfl rfl rfl rfl (fun h=>(aa.gH rfl rfl)) ?_
 refine Kc (aa.pG rfl rfl rfl ?_) ?_
 ·first | (intro h;rw[h];rfl) | (intro h;simp_all)
 iterate 2 refine af ?_
 refine Ki (fun hc0=> ?_) fun hc0=> ?_
 ·exact absurd hc0 (by decide)
 ·iterate 3 refine af ?_
  refine Kc (aa.lY rfl rfl Qh) ?_
  iterate 3 refine af ?_
  refine Ki (fun c8=> ?_) fun c8=> ?_
  ·exfalso
   have h:=Zm c8
   rw[eX] at h
   omega
  ·iterate 5 refine af ?_
   refine Kc (aa.load (v:= .agg (dn 1 2 3 4 5 b)) rfl rfl an (show c7 _ _ _ _=_ from congrArg some (xI 1 2 3 4 5 b))) ?_
   refine Kc (zc 4 10 b h1 h2 h3 h4 h5 rfl rfl rfl rfl rfl (NN rfl rfl rfl rfl rfl) an) ?_
   refine af ?_
   refine Kz (aa.store (H':=LH b p um M) rfl rfl rfl rfl (pV _ _ _ _ _ b) an rfl rfl) ?_
   refine af ?_
   exact⟨KS,rfl⟩):A:=h
theorem qO{A:Prop}(h:A:=by
 refine iy.one rfl rfl ⟨by rw[hd],?_,rfl⟩
 rw[hd,eD]
 rfl):A:=h
theorem Eu{A:Prop}(h:A:=by
 exact⟨_,rfl,sI (cs:=dn 1 2 3 4 5 b) b p um 8 rfl rfl rfl rfl rfl rfl ⟨_,Oh rfl rfl rfl (zN Kn) (z6 Kn),rfl,rfl⟩⟩):A:=h
set_option linter.unusedSimpArgs false
set_option linter.unusedVariables false
section
set_option maxRecDepth 100000
set_option maxHeartbeats 4000000
namespace Go.Proofs.YtibffijhebobmaaGreatDoor
open Go.AF
structure RS where
 a:Option Addr
 n:Nat
 c:Nat
def RS.v(s:RS):V:= .raw s.a s.n s.c
structure RB where
 s1:RS
 s2:RS
 s3:RS
 s4:RS
 bad:Int
 good:Int
 s5:RS
def RB.cells(r:RB):List V:=[r.s1.v,r.s2.v,r.s3.v,r.s4.v,.p (.int .i64 r.bad),.p (.int .i64 r.good),r.s5.v]
def nG(l:List RB):List V:=l.flatMap RB.cells
def cX(l:List RB):ai:= .row (nG l) 83
theorem qo(l:List RB):(nG l).length=l.length*7:=by
 unfold nG
 induction l with
 | nil=>rfl
 | cons x l ih=>rw[ZL,Zd,ih,Zn];show 7+_=_;omega
theorem tZ(σ:Nat->Option Nat)(l:List RB):bq σ (nG l)=nG l:=by
 unfold nG
 induction l with
 | nil=>rfl
 | cons x l ih=>rw[ZL,bA,ih];rfl
theorem gV(σ:Nat->Option Nat)(l:List RB):aD σ (cX l)=cX l:=by
 unfold cX
 show ai.row (bq σ _) _=_
 rw[tZ]
def e9(b:bK)(p:Di.bO)(um:V)(M:ai):List ai:=[cz b p um 1 2 3 4 5,dh b.aq,cY b.ah,dj b.av,bw b.plan,bw b.bX,M]
theorem PL{H:List ai}{l:List RB}{r:RB}(h:H[6]? =some (cX (l++[r]))):c7 H true 7 (.ptr 6 (l.length*7))=some (.agg r.cells):=by
 simp only[c7,h]
 show(if l.length*7+7<=(nG (l++[r])).length then some (gD (((nG (l++[r])).drop (l.length*7)).take 7)) else none)=_
 rw[qo,Zd,Yr,if_pos (by omega)]
 have e0:nG (l++[r])=nG l++r.cells:=by unfold nG;rw[JP];simp
 rw[e0,List.drop_append_of_le_length (Oz (qo l).symm),YH (Oz (qo l))]
 rfl
theorem tX{xs:List PV}{e n:Nat}(h:kK (xs.map .p)=true):scB (dL (xs.map .p) e n)=true:=by
 cases n with
 | zero=>rfl
 | succ n=>exact h
theorem NN{H:List ai}{k:Nat}{b:bK}{i1 i2 i3 i4 i5:Nat}(h1:H[i1]? =some (dh b.aq))(h2:H[i2]? =some (cY b.ah))(h3:H[i3]? =some (dj b.av))(h4:H[i4]? =some (bw b.plan))(h5:H[i5]? =some (bw b.bX)):fN (dy H (k+2)) [.agg (dn i1 i2 i3 i4 i5 b)]=some [.agg (U5 b)]:=by
 have e:dy H (k+2) (.agg (dn i1 i2 i3 i4 i5 b))=some (.agg (U5 b)):=by
  show(fN (dy H (k+1)) (dn i1 i2 i3 i4 i5 b)).map PV.agg=_
  simp only[dn,fN,Xh h1,V9 h2,Wk h3,SR h4,SR h5,WJ]
  rfl
 simp only[fN,e]
theorem zc{N:Nat}{T:Tm}{H:List ai}{o:Oper}(m k:Nat)(b:bK)(h1:b.aq.length<=1000)(h2:b.ah.length<=1000)(h3:b.av.length<=1000)(h4:b.plan.length<=1000)(h5:b.bX.length<=1000)(hk:H.length=k){f:Operand}{ys:Array Operand}{ts:Array TypeId}{fv:V}{vs all:List V}(ho:o.op= .call {callee:= .value f,args:=ys,argTypes:=ts})(hf:ev T f=some fv)
    (hxs:kR T ys.toList=some vs)(hc:callee vs fv=some (35,all))(hb:fN (dy H m) all=some [.agg (U5 b)])(hg:ak Tryz.prog 35=true):aa Tryz.prog N o T H (.agg (dn (k+3) (k+2) (k+4) (k+5) (k+6) b)) (H++[.dead,.dead,cY b.ah,dh b.aq,dj b.av,bw b.plan,bw b.bX]):=by
 have:=aa.zM (N:=N) (T:=T) (H:=H) m (Jv b h1 h2 h3 h4 h5) (by simp only[Ut,dn,kK,HC];rfl) (by
  simp only[Sv,List.all_nil,dh,cY,dj,bw,tX (gM (f:=Ck.Sk.cells) (fun _=>rfl) _),tX (gM (f:=Rx.b6.cells) (fun _=>rfl) _),tX (gM (f:=Di.cU.cells) (fun _=>rfl) _),tX (gM (f:=Di.cK) (fun _=>rfl) _)]
  rfl) ho hf hxs hc hb hg
 have e1:aW (EY H.length) (.agg (dn 3 2 4 5 6 b))= .agg (dn (k+3) (k+2) (k+4) (k+5) (k+6) b):=by
  show V.agg (bq (EY H.length) (dn 3 2 4 5 6 b))=_
  have up:∀ i n,aW (EY H.length) (aY i n)=aY (k+i) n:=fun i n=>cC (by unfold EY;rw[hk])
  simp only[dn,bF,b8,up,dS]
 have e2:([.dead,.dead,cY b.ah,dh b.aq,dj b.av,bw b.plan,bw b.bX]:List ai).map (aD (EY H.length))=[.dead,.dead,cY b.ah,dh b.aq,dj b.av,bw b.plan,bw b.bX]:=by
  simp only[Zx,xo,fc,dh,cY,dj,bw,bz]
 rw[e1,e2] at this
 exact this
theorem j4{n0:Nat}{ms:List Nat}{i1 i2 i3 i4 i5:Nat}{b:bK}(h1:i1<n0)(h2:i2<n0)(h3:i3<n0)(h4:i4<n0)(h5:i5<n0):bq (sg n0 ms) (dn i1 i2 i3 i4 i5 b)=dn i1 i2 i3 i4 i5 b:=by
 simp only[dn,bF,b8,dS,cM h1,cM h2,cM h3,cM h4,cM h5]
theorem BA(b:bK)(p:Di.bO)(l:List RB)(r:RB)(h8:l.length<=8):ax Tryz.prog 106 [.ptr 0 11] (e9 b p (.row 6 (l.length+1)) (cX (l++[r]))) (fun v H2=>v= .tuple [.agg r.cells,.p (.bool true)]∧H2=[cz b p (.row 6 l.length) 1 2 3 4 5,dh b.aq,cY b.ah,dj b.av,bw b.plan,bw b.bX,cX (l++[r]),.cells r.cells 83]):=by
 refine ax.start (N:=28) Tryz.func106 rfl rfl Kn ?_
 iterate 9 refine af ?_
 refine Kc (Kl (.row 6 (l.length+1))) ?_
 iterate 9 refine af ?_
 refine Ki (fun hc0=> ?_) fun hc0=> ?_
 ·exfalso
  have h:=Zm hc0
  omega
 ·iterate 5 refine af ?_
  refine Kc (Kl (.row 6 (l.length+1))) ?_
  refine af ?_
  refine Kc (aa.fE (m:=((l.length:Nat):Int)) rfl rfl rfl ((aG ?_).trans ?_)) ?_
  ·omega
  ·omega
  refine Kc (aa.CV rfl rfl rfl an WW (by omega)) ?_
  refine Kc (aa.load (v:= .agg r.cells) rfl rfl an (PL rfl)) ?_
  refine Kz (aa.store (H':=[cz b p (.row 6 (l.length+1)) 1 2 3 4 5,dh b.aq,cY b.ah,dj b.av,bw b.plan,bw b.bX,cX (l++[r]),.cells r.cells 83]) rfl rfl rfl rfl rfl an rfl rfl) ?_
  iterate 6 refine af ?_
  refine Kc (Kl (.row 6 (l.length+1))) ?_
  refine af ?_
  refine Kc (aa.fE (m:=((l.length:Nat):Int)) rfl rfl rfl ((aG ?_).trans ?_)) ?_
  ·omega
  ·omega
  refine Kc (aa.JY (h:=l.length) rfl rfl rfl an WW (by omega)) ?_
  refine af ?_
  refine Kz (aa.store (H':=[cz b p (.row 6 l.length) 1 2 3 4 5,dh b.aq,cY b.ah,dj b.av,bw b.plan,bw b.bX,cX (l++[r]),.cells r.cells 83]) rfl rfl rfl rfl rfl an rfl rfl) ?_
  iterate 3 refine af ?_
  refine Kc (Kl (.agg r.cells)) ?_
  refine Kz (aa.store (H':=[cz b p (.row 6 l.length) 1 2 3 4 5,dh b.aq,cY b.ah,dj b.av,bw b.plan,bw b.bX,cX (l++[r]),.cells r.cells 83]) rfl rfl rfl rfl rfl an rfl rfl) ?_
  iterate 3 refine af ?_
  exact⟨.inr rfl,_,eT.many (vs:=[.agg r.cells,.p (.bool true)]) rfl ⟨_,_,rfl,⟨_,_,_,rfl,an,rfl⟩,⟨_,_,rfl,rfl,rfl⟩⟩,rfl,rfl⟩
theorem BW(b:bK)(p:Di.bO)(um:V)(M:ai)(hu:FM um=some 0):ax Tryz.prog 106 [.ptr 0 11] (e9 b p um M) (fun v H2=>v= .p (.tuple [.agg [.nilSlice,.nilSlice,.nilSlice,.nilSlice,.int .i64 0,.int .i64 0,.nilSlice],.bool false])∧H2=[cz b p um 1 2 3 4 5,dh b.aq,cY b.ah,dj b.av,bw b.plan,bw b.bX,M,.cells ([.nilSlice,.nilSlice,.nilSlice,.nilSlice,.int .i64 0,.int .i64 0,.nilSlice].map .p) 83]):=by
 refine ax.start (N:=28) Tryz.func106 rfl rfl Kn ?_
 iterate 9 refine af ?_
 refine Kc (Kl (um)) ?_
 refine Kc (aa.cD rfl rfl an hu) ?_
 iterate 8 refine af ?_
 refine Ki (fun hc0=> ?_) fun hc0=> ?_
 ·iterate 3 refine af ?_
  refine Kz (aa.store (H':=[cz b p um 1 2 3 4 5,dh b.aq,cY b.ah,dj b.av,bw b.plan,bw b.bX,M,.cells ([.nilSlice,.nilSlice,.nilSlice,.nilSlice,.int .i64 0,.int .i64 0,.nilSlice].map .p) 83]) rfl rfl rfl rfl rfl an rfl rfl) ?_
  iterate 3 refine af ?_
  exact⟨.inr rfl,_,eT.many (vs:=[.p (.agg [.nilSlice,.nilSlice,.nilSlice,.nilSlice,.int .i64 0,.int .i64 0,.nilSlice]),.p (.bool false)]) rfl ⟨_,_,rfl,⟨_,_,_,rfl,an,rfl⟩,⟨_,_,rfl,rfl,rfl⟩⟩,rfl,rfl⟩
 ·exfalso
  have h:=Zs hc0
  exact h rfl
theorem F1{b:bK}{p:Di.bO}{n0 i1 i2 i3 i4 i5:Nat}{um:V}{ms:List Nat}(hu:aW (sg n0 ms) um=um)(h1:i1<n0)(h2:i2<n0)(h3:i3<n0)(h4:i4<n0)(h5:i5<n0):aD (sg n0 ms) (cz b p um i1 i2 i3 i4 i5)=cz b p um i1 i2 i3 i4 i5:=by
 unfold cz
 show ai.cells (bq _ (_++_++_)) _=_
 rw[bA,bA,j4 h1 h2 h3 h4 h5,aX]
 simp only[bF,b8,hu,dS]
theorem KR(b:bK)(p:Di.bO):([cz b p .z0 1 2 3 4 5,dh b.aq,cY b.ah,dj b.av,bw b.plan,bw b.bX,.dead,.dead,.dead,cY b.ah,dh b.aq,dj b.av,bw b.plan,bw b.bX]++[ai.cells (dn 10 9 11 12 13 b) 83]).map (aD (sg 15 []))=[cz b p .z0 1 2 3 4 5,dh b.aq,cY b.ah,dj b.av,bw b.plan,bw b.bX,.dead,.dead,.dead,cY b.ah,dh b.aq,dj b.av,bw b.plan,bw b.bX]++[ai.cells (dn 10 9 11 12 13 b) 83]:=by
 simp only[ZG,Zx,xo,dh,cY,dj,bw,bz,fc,bL,F1 (n0:=15) (um:= .z0) rfl (show 1<15 by decide) (show 2<15 by decide) (show 3<15 by decide) (show 4<15 by decide) (show 5<15 by decide),j4 (n0:=15) (show 10<15 by decide) (show 9<15 by decide) (show 11<15 by decide) (show 12<15 by decide) (show 13<15 by decide)]
theorem Nn(b:bK)(p:Di.bO)(l:List RB):([cz b p (.row 6 l.length) 1 2 3 4 5,dh b.aq,cY b.ah,dj b.av,bw b.plan,bw b.bX,cX l,.dead,.dead,cY b.ah,dh b.aq,dj b.av,bw b.plan,bw b.bX]++[ai.cells (dn 10 9 11 12 13 b) 83]).map (aD (sg 15 []))=[cz b p (.row 6 l.length) 1 2 3 4 5,dh b.aq,cY b.ah,dj b.av,bw b.plan,bw b.bX,cX l,.dead,.dead,cY b.ah,dh b.aq,dj b.av,bw b.plan,bw b.bX]++[ai.cells (dn 10 9 11 12 13 b) 83]:=by
 simp only[ZG,Zx,xo,dh,cY,dj,bw,bz,fc,gV,bL,F1 (n0:=15) (um:=(.row 6 l.length)) rfl (show 1<15 by decide) (show 2<15 by decide) (show 3<15 by decide) (show 4<15 by decide) (show 5<15 by decide),j4 (n0:=15) (show 10<15 by decide) (show 9<15 by decide) (show 11<15 by decide) (show 12<15 by decide) (show 13<15 by decide)]
theorem TF(b:bK)(p:Di.bO):ax Tryz.prog 104 [.ptr 0 11,.agg (dn 10 9 11 12 13 b)] [cz b p .z0 1 2 3 4 5,dh b.aq,cY b.ah,dj b.av,bw b.plan,bw b.bX,.dead,.dead,.dead,cY b.ah,dh b.aq,dj b.av,bw b.plan,bw b.bX] (fun v H2=>v= .p (.tuple [])∧H2=[cz b p (.row 16 1) 1 2 3 4 5,dh b.aq,cY b.ah,dj b.av,bw b.plan,bw b.bX,.dead,.dead,.dead,cY b.ah,dh b.aq,dj b.av,bw b.plan,bw b.bX,.cells (dn 10 9 11 12 13 b) 83,.row (dn 10 9 11 12 13 b) 83,.row (dn 10 9 11 12 13 b) 83]):=by
 refine ax.start (N:=12) Tryz.func104 rfl rfl Kn ?_
 iterate 2 refine af ?_
 refine Kc (aa.j7 rfl rfl rfl) ?_
 refine af ?_
 refine aI.xj (H':=[cz b p .z0 1 2 3 4 5,dh b.aq,cY b.ah,dj b.av,bw b.plan,bw b.bX,.dead,.dead,.dead,cY b.ah,dh b.aq,dj b.av,bw b.plan,bw b.bX]++[.cells (dn 10 9 11 12 13 b) 83]) rfl ?_
 refine aI.bN 7 2 [15,16] [([],false),([],false),([],false),([],false),([],false),([15],true),([16,15],true)] mixed (by kernel_rfl) (by decide) (by kernel_rfl) rfl (KR b p) ?_
 iterate 2 refine af ?_
 refine bu.cons 6 rfl rfl rfl (fun _=>(aa.nilCheck rfl rfl)) rfl ?_
 refine bu.cons 7 rfl rfl rfl (fun _=>(Kl (.z0))) rfl ?_
 refine bu.cons 8 rfl rfl rfl (fun _=>(aa.load (v:= .agg (dn 10 9 11 12 13 b)) rfl rfl an (show c7 _ _ _ _=_ from congrArg some (xI 10 9 11 12 13 b)))) (by show V.agg (bq _ _)=_;rw[j4 Kn Kn Kn Kn Kn]) ?_
 refine bu.lay (blk:= .row (dn 10 9 11 12 13 b) 83) (v0:= .row 17 _) 9 15 rfl rfl rfl rfl rfl rfl rfl rfl (fun _=>(aa.Bw rfl an (by decide) rfl rfl)) rfl rfl (by show ai.row (bq _ _) _=_;rw[j4 Kn Kn Kn Kn Kn]) ?_
 refine bu.lay (blk:= .row (dn 10 9 11 12 13 b) 83) (v0:= .row 17 1) 10 16 rfl rfl rfl rfl rfl rfl rfl rfl (fun _=>(aa.Ai (n:=1) (ys:=(dn 10 9 11 12 13 b)) rfl rfl rfl an an (Bk rfl rfl) (by decide) (pV 10 9 11 12 13 b) an (by decide) (by decide))) rfl rfl (by show ai.row (bq _ _) _=_;rw[j4 Kn Kn Kn Kn Kn]) ?_
 refine bu.nil ?_
 refine af ?_
 refine Kz (aa.store (H':=[cz b p (.row 16 1) 1 2 3 4 5,dh b.aq,cY b.ah,dj b.av,bw b.plan,bw b.bX,.dead,.dead,.dead,cY b.ah,dh b.aq,dj b.av,bw b.plan,bw b.bX,.cells (dn 10 9 11 12 13 b) 83,.row (dn 10 9 11 12 13 b) 83,.row (dn 10 9 11 12 13 b) 83]) rfl rfl rfl rfl rfl an rfl rfl) ?_
 refine af ?_
 exact qU
theorem Md(b:bK)(p:Di.bO)(l:List RB)(hl:l.length<=8):ax Tryz.prog 104 [.ptr 0 11,.agg (dn 10 9 11 12 13 b)] [cz b p (.row 6 l.length) 1 2 3 4 5,dh b.aq,cY b.ah,dj b.av,bw b.plan,bw b.bX,cX l,.dead,.dead,cY b.ah,dh b.aq,dj b.av,bw b.plan,bw b.bX] (fun v H2=>v= .p (.tuple [])∧H2=[cz b p (.row 16 (l.length+1)) 1 2 3 4 5,dh b.aq,cY b.ah,dj b.av,bw b.plan,bw b.bX,.dead,.dead,.dead,cY b.ah,dh b.aq,dj b.av,bw b.plan,bw b.bX,.cells (dn 10 9 11 12 13 b) 83,.row (dn 10 9 11 12 13 b) 83,.row (nG l++dn 10 9 11 12 13 b) 83]):=by
 refine ax.start (N:=12) Tryz.func104 rfl rfl Kn ?_
 iterate 2 refine af ?_
 refine Kc (aa.j7 rfl rfl rfl) ?_
 refine af ?_
 refine aI.xj (H':=[cz b p (.row 6 l.length) 1 2 3 4 5,dh b.aq,cY b.ah,dj b.av,bw b.plan,bw b.bX,cX l,.dead,.dead,cY b.ah,dh b.aq,dj b.av,bw b.plan,bw b.bX]++[.cells (dn 10 9 11 12 13 b) 83]) rfl ?_
 refine aI.bN 7 2 [6,15,16] [([],false),([],false),([],false),([],false),([],false),([15],true),([16,6,15],true)] mixed (by kernel_rfl) (by decide) (by kernel_rfl) rfl (Nn b p l) ?_
 iterate 2 refine af ?_
 refine bu.cons 6 rfl rfl rfl (fun _=>(aa.nilCheck rfl rfl)) rfl ?_
 refine bu.cons 7 rfl rfl rfl (fun _=>(Kl ((.row 6 l.length)))) rfl ?_
 refine bu.cons 8 rfl rfl rfl (fun _=>(aa.load (v:= .agg (dn 10 9 11 12 13 b)) rfl rfl an (show c7 _ _ _ _=_ from congrArg some (xI 10 9 11 12 13 b)))) (by show V.agg (bq _ _)=_;rw[j4 Kn Kn Kn Kn Kn]) ?_
 refine bu.lay (blk:= .row (dn 10 9 11 12 13 b) 83) (v0:= .row 17 _) 9 15 rfl rfl rfl rfl rfl rfl rfl rfl (fun _=>(aa.Bw rfl an (by decide) rfl rfl)) rfl rfl (by show ai.row (bq _ _) _=_;rw[j4 Kn Kn Kn Kn Kn]) ?_
 refine bu.Nf (blk:= .row (nG l++dn 10 9 11 12 13 b) 83) (v0:= .row 17 _) 10 16 6 rfl rfl rfl rfl rfl rfl rfl rfl rfl rfl (fun _=>(aa.rE (i:=6) (len:=l.length) (cs:=nG l) (ys:=(dn 10 9 11 12 13 b)) (n:=1) rfl rfl rfl an an rfl (qo l) (Bk rfl rfl) (pV 10 9 11 12 13 b) an (by decide) (by show(2*(l.length+1)+192)*136<=281474976710656;omega))) rfl rfl (by show ai.row (bq _ (_++_)) _=_;rw[bA,tZ,j4 Kn Kn Kn Kn Kn]) ?_
 refine bu.nil ?_
 refine af ?_
 refine Kz (aa.store (H':=[cz b p (.row 16 (l.length+1)) 1 2 3 4 5,dh b.aq,cY b.ah,dj b.av,bw b.plan,bw b.bX,.dead,.dead,.dead,cY b.ah,dh b.aq,dj b.av,bw b.plan,bw b.bX,.cells (dn 10 9 11 12 13 b) 83,.row (dn 10 9 11 12 13 b) 83,.row (nG l++dn 10 9 11 12 13 b) 83]) rfl rfl rfl rfl rfl an rfl rfl) ?_
 refine af ?_
 exact qU
theorem T4(F:cT)(n:List Int)(hF:oN F)(hl:0=F.marks.length):au Tryz.prog 103 [.ptr 0 0,.p (Di.cg n)] (e9 F.b F.aV .z0 .dead) (fun v H2=>(bG F .mark n).2.2=0∧v= .p (.str (sB (bG F .mark n).2.1))∧H2=[cz F.b F.aV (.row 16 1) 1 2 3 4 5,dh F.b.aq,cY F.b.ah,dj F.b.av,bw F.b.plan,bw F.b.bX,.dead,.dead,.dead,cY F.b.ah,dh F.b.aq,dj F.b.av,bw F.b.plan,bw F.b.bX,.cells (dn 10 9 11 12 13 F.b) 83,.row (dn 10 9 11 12 13 F.b) 83,.row (dn 10 9 11 12 13 F.b) 83]) (fun y H2=>(bG F .mark n).2.2≠0∧y= .iface 94 (.agg [.int .i64 (bG F .mark n).2.2])∧H2=e9 F.b F.aV .z0 .dead):=by
 have jr:=Rx.c6 hF.b.cd
 have tC:=hF.b.sk
 have ry:=hF.b.dr
 have Y5:=hF.b.ck
 obtain⟨u0,OA⟩:=hF.b.Oq
 have Pu:=kE OA
 have QU:=hF.mm
 refine au.start (N:=30) Tryz.func103 rfl rfl Kn ?_
 iterate 9 refine af ?_
 refine Kc (Kl (.z0)) ?_
 iterate 2 refine af ?_
 refine aj.ct 11 (b:=_) (de _ 9) (dc _ 9) rfl rfl rfl rfl rfl rfl rfl an (fun hb=> ?_) (fun hb=> ?_)
 ·exact absurd hb (by decide)
 iterate 2 refine af ?_
 refine aI.jO 8 ([cz F.b F.aV .z0 1 2 3 4 5,dh F.b.aq,cY F.b.ah,dj F.b.av,bw F.b.plan,bw F.b.bX,.dead,.dead,.dead,cY F.b.ah,dh F.b.aq,dj F.b.av,bw F.b.plan,bw F.b.bX]) mixed (by kernel_rfl) (by decide) ?_
 refine ay.cons 12 rfl rfl rfl (aa.move rfl rfl) (aa.move rfl rfl) ?_
 refine ay.cons 13 rfl rfl rfl (aa.nilCheck rfl rfl) (aa.nilCheck rfl rfl) ?_
 refine ay.cons 14 rfl rfl rfl (aa.fieldAddr rfl rfl an rfl) (aa.fieldAddr rfl rfl an rfl) ?_
 refine ay.cons 15 rfl rfl rfl (aa.move rfl rfl) (aa.move rfl rfl) ?_
 refine ay.cons 16 rfl rfl rfl (aa.nilCheck rfl rfl) (aa.nilCheck rfl rfl) ?_
 refine ay.cons 17 rfl rfl rfl (aa.fieldAddr rfl rfl an rfl) (aa.fieldAddr rfl rfl an rfl) ?_
 refine ay.cons 18 rfl rfl rfl (aa.load (v:= .agg (dn 1 2 3 4 5 F.b)) rfl rfl an (show c7 _ _ _ _=_ from congrArg some (xI 1 2 3 4 5 F.b))) (aa.load (v:= .agg (dn 1 2 3 4 5 F.b)) rfl rfl an (show c7 _ _ _ _=_ from congrArg some (xI 1 2 3 4 5 F.b))) ?_
 refine ay.lay 19 rfl rfl rfl (zc 4 7 F.b (by omega) (by omega) (by omega) (by omega) (by omega) rfl rfl rfl rfl rfl (NN rfl rfl rfl rfl rfl) an) ?_
 refine ay.nil ?_
 refine Kc (aa.gq rfl rfl rfl rfl an (TF F.b F.aV)) ?_
 iterate 3 refine af ?_
 refine Kc (aa.aA rfl rfl lI) ?_
 iterate 3 refine af ?_
 refine Kc (Kl (.row 16 1)) ?_
 refine af ?_
 refine Kc (aa.aA rfl rfl j3) ?_
 refine Kc (aa.aQ rfl an (by decide) rfl rfl rfl) ?_
 refine Kc (Kp (c9 [.str (Vb.t .mark),.num ((1:Nat):Int)] Kn Kn (fk (by decide) (eC (by omega) fR)))) ?_
 iterate 3 refine af ?_
 have hd:bG F .mark n=({F with marks:=F.marks++[F.b]},aH (Vb.t .mark) [((1:Nat):Int)],0):=by unfold bG;dsimp only;rw[if_neg (by omega),<- hl];rfl
 exact qO
theorem UP(F:cT)(n:List Int)(l:List RB)(hF:oN F)(hl:l.length=F.marks.length):au Tryz.prog 103 [.ptr 0 0,.p (Di.cg n)] (e9 F.b F.aV (.row 6 l.length) (cX l)) (fun v H2=>(bG F .mark n).2.2=0∧v= .p (.str (sB (bG F .mark n).2.1))∧H2=[cz F.b F.aV (.row 16 (l.length+1)) 1 2 3 4 5,dh F.b.aq,cY F.b.ah,dj F.b.av,bw F.b.plan,bw F.b.bX,.dead,.dead,.dead,cY F.b.ah,dh F.b.aq,dj F.b.av,bw F.b.plan,bw F.b.bX,.cells (dn 10 9 11 12 13 F.b) 83,.row (dn 10 9 11 12 13 F.b) 83,.row (nG l++dn 10 9 11 12 13 F.b) 83]) (fun y H2=>(bG F .mark n).2.2≠0∧y= .iface 94 (.agg [.int .i64 (bG F .mark n).2.2])∧H2=e9 F.b F.aV (.row 6 l.length) (cX l)):=by
 have jr:=Rx.c6 hF.b.cd
 have tC:=hF.b.sk
 have ry:=hF.b.dr
 have Y5:=hF.b.ck
 obtain⟨u0,OA⟩:=hF.b.Oq
 have Pu:=kE OA
 have QU:=hF.mm
 refine au.start (N:=30) Tryz.func103 rfl rfl Kn ?_
 iterate 9 refine af ?_
 refine Kc (Kl ((.row 6 l.length))) ?_
 iterate 2 refine af ?_
 refine aj.ct 11 (b:=_) (de _ 9) (dc _ 9) rfl rfl rfl rfl rfl rfl rfl an (fun hb=> ?_) (fun hb=> ?_)
 ·have h9:(bG F .mark n).2.2=9:=by unfold bG;dsimp only;rw[if_pos (by have h:=Zs hb;omega)]
  exact⟨_,rfl,by rw[h9];decide,by rw[h9],rfl⟩
 have h8:l.length<8:=by have h:=Zm hb;omega
 iterate 2 refine af ?_
 refine aI.jO 8 ([cz F.b F.aV (.row 6 l.length) 1 2 3 4 5,dh F.b.aq,cY F.b.ah,dj F.b.av,bw F.b.plan,bw F.b.bX,(cX l),.dead,.dead,cY F.b.ah,dh F.b.aq,dj F.b.av,bw F.b.plan,bw F.b.bX]) mixed (by kernel_rfl) (by decide) ?_
 refine ay.cons 12 rfl rfl rfl (aa.move rfl rfl) (aa.move rfl rfl) ?_
 refine ay.cons 13 rfl rfl rfl (aa.nilCheck rfl rfl) (aa.nilCheck rfl rfl) ?_
 refine ay.cons 14 rfl rfl rfl (aa.fieldAddr rfl rfl an rfl) (aa.fieldAddr rfl rfl an rfl) ?_
 refine ay.cons 15 rfl rfl rfl (aa.move rfl rfl) (aa.move rfl rfl) ?_
 refine ay.cons 16 rfl rfl rfl (aa.nilCheck rfl rfl) (aa.nilCheck rfl rfl) ?_
 refine ay.cons 17 rfl rfl rfl (aa.fieldAddr rfl rfl an rfl) (aa.fieldAddr rfl rfl an rfl) ?_
 refine ay.cons 18 rfl rfl rfl (aa.load (v:= .agg (dn 1 2 3 4 5 F.b)) rfl rfl an (show c7 _ _ _ _=_ from congrArg some (xI 1 2 3 4 5 F.b))) (aa.load (v:= .agg (dn 1 2 3 4 5 F.b)) rfl rfl an (show c7 _ _ _ _=_ from congrArg some (xI 1 2 3 4 5 F.b))) ?_
 refine ay.lay 19 rfl rfl rfl (zc 4 7 F.b (by omega) (by omega) (by omega) (by omega) (by omega) rfl rfl rfl rfl rfl (NN rfl rfl rfl rfl rfl) an) ?_
 refine ay.nil ?_
 refine Kc (aa.gq rfl rfl rfl rfl an (Md F.b F.aV l (by omega))) ?_
 iterate 3 refine af ?_
 refine Kc (aa.aA rfl rfl lI) ?_
 iterate 3 refine af ?_
 refine Kc (Kl (.row 16 (l.length+1))) ?_
 refine af ?_
 refine Kc (aa.aA rfl rfl j3) ?_
 refine Kc (aa.aQ rfl an (by decide) rfl rfl rfl) ?_
 refine Kc (Kp (c9 [.str (Vb.t .mark),.num ((l.length+1:Nat):Int)] Kn Kn (fk (by decide) (eC (by omega) fR)))) ?_
 iterate 3 refine af ?_
 have hd:bG F .mark n=({F with marks:=F.marks++[F.b]},aH (Vb.t .mark) [((l.length+1:Nat):Int)],0):=by unfold bG;dsimp only;rw[if_neg (by omega),<- hl];rfl
 exact qO
theorem JH(F:cT)(n:List Int)(l:List RB)(r:RB)(fs:List bK)(x:bK)(hm:F.marks=fs++[x])(hl:l.length=fs.length)(h8:l.length<=8):au Tryz.prog 105 [.ptr 0 0,.p (Di.cg n)] (e9 F.b F.aV (.row 6 (l.length+1)) (cX (l++[r]))) (fun v H2=>(bG F .back n).2.2=0∧v= .p (.str (sB (bG F .back n).2.1))∧H2=[.cells (r.cells++F.aV.cells.map .p++[.row 6 l.length,.p (.bool true)]) 87,dh F.b.aq,cY F.b.ah,dj F.b.av,bw F.b.plan,bw F.b.bX,cX (l++[r]),.cells r.cells 83,.cells r.cells 83]) (fun _ _=>False):=by
 refine au.start (N:=29) Tryz.func105 rfl rfl Kn ?_
 iterate 9 refine af ?_
 refine Kc (aa.gq rfl rfl rfl rfl an (BA F.b F.aV l r h8)) ?_
 iterate 4 refine af ?_
 refine Kz (aa.store (H':=[cz F.b F.aV (.row 6 l.length) 1 2 3 4 5,dh F.b.aq,cY F.b.ah,dj F.b.av,bw F.b.plan,bw F.b.bX,cX (l++[r]),.cells r.cells 83,.cells r.cells 83]) rfl rfl rfl rfl rfl an rfl rfl) ?_
 iterate 5 refine af ?_
 refine Kc (Kp (u5 4)) ?_
 iterate 4 refine af ?_
 refine Kc (Kl (.agg r.cells)) ?_
 iterate 2 refine af ?_
 refine Kz (aa.store (H':=[.cells (r.cells++F.aV.cells.map .p++[.row 6 l.length,.p (.bool true)]) 87,dh F.b.aq,cY F.b.ah,dj F.b.av,bw F.b.plan,bw F.b.bX,cX (l++[r]),.cells r.cells 83,.cells r.cells 83]) rfl rfl rfl rfl rfl an rfl rfl) ?_
 iterate 3 refine af ?_
 refine Kc (aa.aA rfl rfl lI) ?_
 iterate 3 refine af ?_
 refine Kc (Kl (.row 6 l.length)) ?_
 refine af ?_
 refine Kc (aa.aA rfl rfl j3) ?_
 refine Kc (aa.aQ rfl an (by decide) rfl rfl rfl) ?_
 refine Kc (Kp (c9 [.str (Vb.t .back),.num ((l.length:Nat):Int)] Kn Kn (fk (by decide) (eC (by omega) fR)))) ?_
 iterate 3 refine af ?_
 have hd:bG F .back n=({F with b:=x,marks:=fs},aH (Vb.t .back) [((l.length:Nat):Int)],0):=by unfold bG;rw[hm];simp[hl]
 exact qO
theorem JA(F:cT)(n:List Int)(um:V)(M:ai)(hm:F.marks=[])(hu:FM um=some 0):au Tryz.prog 105 [.ptr 0 0,.p (Di.cg n)] (e9 F.b F.aV um M) (fun _ _=>False) (fun y H2=>(bG F .back n).2.2≠0∧y= .iface 94 (.agg [.int .i64 (bG F .back n).2.2])∧H2=[cz F.b F.aV um 1 2 3 4 5,dh F.b.aq,cY F.b.ah,dj F.b.av,bw F.b.plan,bw F.b.bX,M,.cells ([.nilSlice,.nilSlice,.nilSlice,.nilSlice,.int .i64 0,.int .i64 0,.nilSlice].map .p) 83,.cells ([.nilSlice,.nilSlice,.nilSlice,.nilSlice,.int .i64 0,.int .i64 0,.nilSlice].map .p) 83]):=by
 refine au.start (N:=29) Tryz.func105 rfl rfl Kn ?_
 iterate 9 refine af ?_
 refine Kc (aa.gq rfl rfl rfl rfl an (BW F.b F.aV um M hu)) ?_
 iterate 4 refine af ?_
 refine Kz (aa.store (H':=[cz F.b F.aV um 1 2 3 4 5,dh F.b.aq,cY F.b.ah,dj F.b.av,bw F.b.plan,bw F.b.bX,M,.cells ([.nilSlice,.nilSlice,.nilSlice,.nilSlice,.int .i64 0,.int .i64 0,.nilSlice].map .p) 83,.cells ([.nilSlice,.nilSlice,.nilSlice,.nilSlice,.int .i64 0,.int .i64 0,.nilSlice].map .p) 83]) rfl rfl rfl rfl rfl an rfl rfl) ?_
 iterate 5 refine af ?_
 refine aj.ct 15 (b:=false) (de false 4) (dc false 4) rfl rfl rfl rfl rfl rfl rfl an (fun hb=> ?_) (fun hb=> ?_)
 ·have h4:(bG F .back n).2.2=4:=by unfold bG;rw[hm];rfl
  exact⟨_,rfl,by rw[h4];decide,by rw[h4],rfl⟩
 cases hb
theorem JC(F:cT)(n:List Int)(l:List RB)(r:RB)(fs:List bK)(x:bK)(hm:F.marks=fs++[x])(hl:l.length=fs.length)(h8:l.length<=8):au Tryz.prog 107 [.ptr 0 0,.p (Di.cg n)] (e9 F.b F.aV (.row 6 (l.length+1)) (cX (l++[r]))) (fun v H2=>(bG F .keep n).2.2=0∧v= .p (.str (sB (bG F .keep n).2.1))∧H2=[cz F.b F.aV (.row 6 l.length) 1 2 3 4 5,dh F.b.aq,cY F.b.ah,dj F.b.av,bw F.b.plan,bw F.b.bX,cX (l++[r]),.cells r.cells 83,.cells r.cells 83]) (fun _ _=>False):=by
 refine au.start (N:=25) Tryz.func107 rfl rfl Kn ?_
 iterate 9 refine af ?_
 refine Kc (aa.gq rfl rfl rfl rfl an (BA F.b F.aV l r h8)) ?_
 iterate 4 refine af ?_
 refine Kz (aa.store (H':=[cz F.b F.aV (.row 6 l.length) 1 2 3 4 5,dh F.b.aq,cY F.b.ah,dj F.b.av,bw F.b.plan,bw F.b.bX,cX (l++[r]),.cells r.cells 83,.cells r.cells 83]) rfl rfl rfl rfl rfl an rfl rfl) ?_
 iterate 5 refine af ?_
 refine Kc (Kp (u5 4)) ?_
 iterate 3 refine af ?_
 refine Kc (aa.aA rfl rfl lI) ?_
 iterate 3 refine af ?_
 refine Kc (Kl (.row 6 l.length)) ?_
 refine af ?_
 refine Kc (aa.aA rfl rfl j3) ?_
 refine Kc (aa.aQ rfl an (by decide) rfl rfl rfl) ?_
 refine Kc (Kp (c9 [.str (Vb.t .keep),.num ((l.length:Nat):Int)] Kn Kn (fk (by decide) (eC (by omega) fR)))) ?_
 iterate 3 refine af ?_
 have hd:bG F .keep n=({F with marks:=fs},aH (Vb.t .keep) [((l.length:Nat):Int)],0):=by unfold bG;rw[hm];simp[hl]
 exact qO
theorem IC(F:cT)(n:List Int)(um:V)(M:ai)(hm:F.marks=[])(hu:FM um=some 0):au Tryz.prog 107 [.ptr 0 0,.p (Di.cg n)] (e9 F.b F.aV um M) (fun _ _=>False) (fun y H2=>(bG F .keep n).2.2≠0∧y= .iface 94 (.agg [.int .i64 (bG F .keep n).2.2])∧H2=[cz F.b F.aV um 1 2 3 4 5,dh F.b.aq,cY F.b.ah,dj F.b.av,bw F.b.plan,bw F.b.bX,M,.cells ([.nilSlice,.nilSlice,.nilSlice,.nilSlice,.int .i64 0,.int .i64 0,.nilSlice].map .p) 83,.cells ([.nilSlice,.nilSlice,.nilSlice,.nilSlice,.int .i64 0,.int .i64 0,.nilSlice].map .p) 83]):=by
 refine au.start (N:=25) Tryz.func107 rfl rfl Kn ?_
 iterate 9 refine af ?_
 refine Kc (aa.gq rfl rfl rfl rfl an (BW F.b F.aV um M hu)) ?_
 iterate 4 refine af ?_
 refine Kz (aa.store (H':=[cz F.b F.aV um 1 2 3 4 5,dh F.b.aq,cY F.b.ah,dj F.b.av,bw F.b.plan,bw F.b.bX,M,.cells ([.nilSlice,.nilSlice,.nilSlice,.nilSlice,.int .i64 0,.int .i64 0,.nilSlice].map .p) 83,.cells ([.nilSlice,.nilSlice,.nilSlice,.nilSlice,.int .i64 0,.int .i64 0,.nilSlice].map .p) 83]) rfl rfl rfl rfl rfl an rfl rfl) ?_
 iterate 5 refine af ?_
 refine aj.ct 15 (b:=false) (de false 4) (dc false 4) rfl rfl rfl rfl rfl rfl rfl an (fun hb=> ?_) (fun hb=> ?_)
 ·have h4:(bG F .keep n).2.2=4:=by unfold bG;rw[hm];rfl
  exact⟨_,rfl,by rw[h4];decide,by rw[h4],rfl⟩
 cases hb
def jW(x:Int×FuncId):PV:= .agg [.int .i64 x.1,.func (.func x.2) [] []]
def kC:Vb->FuncId
 | .nC=>85
 | .slat=>86
 | .lead=>88
 | .pencil=>89
 | .bad=>90
 | .good=>92
 | .blame=>93
 | .call=>97
 | .from_=>99
 | .wear=>101
 | .mark=>103
 | .back=>105
 | .keep=>107
def nu:List (ByteArray×(Int×FuncId)):=(aS (sB [107,101,101,112]) ((0:Int),(107:FuncId)) (aS (sB [98,97,99,107]) ((0:Int),(105:FuncId)) (aS (sB [109,97,114,107]) ((0:Int),(103:FuncId)) (aS (sB [119,101,97,114]) ((1:Int),(101:FuncId)) (aS (sB [102,114,111,109]) ((1:Int),(99:FuncId)) (aS (sB [99,97,108,108]) ((0:Int),(97:FuncId)) (aS (sB [98,108,97,109,101]) ((0:Int),(93:FuncId)) (aS (sB [103,111,111,100]) ((1:Int),(92:FuncId)) (aS (sB [98,97,100]) ((1:Int),(90:FuncId)) (aS (sB [112,101,110,99,105,108]) ((3:Int),(89:FuncId)) (aS (sB [108,101,97,100]) ((8:Int),(88:FuncId)) (aS (sB [115,108,97,116]) ((0:Int),(86:FuncId)) (aS (sB [115,97,99,107]) ((6:Int),(85:FuncId)) [])))))))))))))
theorem VD{a b:Bs}:sB a=sB b↔a=b:=⟨fun h=>by rw[<- jc a,h,jc],fun h=>by rw[h]⟩
theorem Jw(s:Bs):cB (sB s) nu=(jG s).map fun v=>((v.many:Int),kC v):=by
 unfold nu
 simp only[kD,VD]
 cases h:jG s with
 | some v=>
  have e:=xM h
  subst e
  cases v <;> rfl
 | none=>
  have hn:=Jc h
  simp only[if_neg (show ¬ s=[115,97,99,107] from fun e=>hn .nC e.symm),if_neg (show ¬ s=[115,108,97,116] from fun e=>hn .slat e.symm),if_neg (show ¬ s=[108,101,97,100] from fun e=>hn .lead e.symm),if_neg (show ¬ s=[112,101,110,99,105,108] from fun e=>hn .pencil e.symm),if_neg (show ¬ s=[98,97,100] from fun e=>hn .bad e.symm),if_neg (show ¬ s=[103,111,111,100] from fun e=>hn .good e.symm),if_neg (show ¬ s=[98,108,97,109,101] from fun e=>hn .blame e.symm),if_neg (show ¬ s=[99,97,108,108] from fun e=>hn .call e.symm),if_neg (show ¬ s=[102,114,111,109] from fun e=>hn .from_ e.symm),if_neg (show ¬ s=[119,101,97,114] from fun e=>hn .wear e.symm),if_neg (show ¬ s=[109,97,114,107] from fun e=>hn .mark e.symm),if_neg (show ¬ s=[98,97,99,107] from fun e=>hn .back e.symm),if_neg (show ¬ s=[107,101,101,112] from fun e=>hn .keep e.symm)]
  rfl
theorem Rm{N:Nat}{T:Tm}{H:List ai}{o:Oper}(s:Bs){x y:Operand}{t:TypeId}{z:PV}(ho:o.op= .lookup t x y true)(hx:ev T x=some (.p (jZ PV.str jW nu)))(hy:ev T y=some (.p (.str (sB s))))(ht:oy Tryz.prog t=some (.string,z)):aa Tryz.prog N o T H (jv [(((jG s).map fun v=>V.p (jW ((v.many:Int),kC v))).getD (.p z)),.p (.bool (jG s).isSome)]) H:=by
 have h:=aa.CM (N:=N) (H:=H) cV.str (gp:=jW) (ms:=nu) (n:=sB s) (ok:=true) ho hx hy ht
 rw[Jw s] at h
 unfold AH at h
 rw[if_pos rfl,Option.map_map,Option.isSome_map] at h
 exact h
theorem qj:Pure Tryz.prog 39 [] (jZ PV.str jW nu):=by
 refine Kf (N:=16) Tryz.func39 ?_
 iterate 6 refine af ?_
 refine Kc (aa.makeMap (enc:=PV.str) (g:=fun x=>V.p (jW x)) rfl) ?_
 refine af ?_
 refine Kz (aa.mapUpdate (enc:=PV.str) (g:=fun x=>V.p (jW x)) (ms:=[]) (n:=sB [115,97,99,107]) (c:=((6:Int),(85:FuncId))) cV.str (.inr rfl) rfl rfl rfl rfl iB) ?_
 refine af ?_
 refine Kz (aa.mapUpdate (enc:=PV.str) (g:=fun x=>V.p (jW x)) (ms:=(aS (sB [115,97,99,107]) ((6:Int),(85:FuncId)) [])) (n:=sB [115,108,97,116]) (c:=((0:Int),(86:FuncId))) cV.str (.inr rfl) rfl rfl rfl rfl iB) ?_
 refine af ?_
 refine Kz (aa.mapUpdate (enc:=PV.str) (g:=fun x=>V.p (jW x)) (ms:=(aS (sB [115,108,97,116]) ((0:Int),(86:FuncId)) (aS (sB [115,97,99,107]) ((6:Int),(85:FuncId)) []))) (n:=sB [108,101,97,100]) (c:=((8:Int),(88:FuncId))) cV.str (.inr rfl) rfl rfl rfl rfl iB) ?_
 refine af ?_
 refine Kz (aa.mapUpdate (enc:=PV.str) (g:=fun x=>V.p (jW x)) (ms:=(aS (sB [108,101,97,100]) ((8:Int),(88:FuncId)) (aS (sB [115,108,97,116]) ((0:Int),(86:FuncId)) (aS (sB [115,97,99,107]) ((6:Int),(85:FuncId)) [])))) (n:=sB [112,101,110,99,105,108]) (c:=((3:Int),(89:FuncId))) cV.str (.inr rfl) rfl rfl rfl rfl iB) ?_
 refine af ?_
 refine Kz (aa.mapUpdate (enc:=PV.str) (g:=fun x=>V.p (jW x)) (ms:=(aS (sB [112,101,110,99,105,108]) ((3:Int),(89:FuncId)) (aS (sB [108,101,97,100]) ((8:Int),(88:FuncId)) (aS (sB [115,108,97,116]) ((0:Int),(86:FuncId)) (aS (sB [115,97,99,107]) ((6:Int),(85:FuncId)) []))))) (n:=sB [98,97,100]) (c:=((1:Int),(90:FuncId))) cV.str (.inr rfl) rfl rfl rfl rfl iB) ?_
 refine af ?_
 refine Kz (aa.mapUpdate (enc:=PV.str) (g:=fun x=>V.p (jW x)) (ms:=(aS (sB [98,97,100]) ((1:Int),(90:FuncId)) (aS (sB [112,101,110,99,105,108]) ((3:Int),(89:FuncId)) (aS (sB [108,101,97,100]) ((8:Int),(88:FuncId)) (aS (sB [115,108,97,116]) ((0:Int),(86:FuncId)) (aS (sB [115,97,99,107]) ((6:Int),(85:FuncId)) [])))))) (n:=sB [103,111,111,100]) (c:=((1:Int),(92:FuncId))) cV.str (.inr rfl) rfl rfl rfl rfl iB) ?_
 refine af ?_
 refine Kz (aa.mapUpdate (enc:=PV.str) (g:=fun x=>V.p (jW x)) (ms:=(aS (sB [103,111,111,100]) ((1:Int),(92:FuncId)) (aS (sB [98,97,100]) ((1:Int),(90:FuncId)) (aS (sB [112,101,110,99,105,108]) ((3:Int),(89:FuncId)) (aS (sB [108,101,97,100]) ((8:Int),(88:FuncId)) (aS (sB [115,108,97,116]) ((0:Int),(86:FuncId)) (aS (sB [115,97,99,107]) ((6:Int),(85:FuncId)) []))))))) (n:=sB [98,108,97,109,101]) (c:=((0:Int),(93:FuncId))) cV.str (.inr rfl) rfl rfl rfl rfl iB) ?_
 refine af ?_
 refine Kz (aa.mapUpdate (enc:=PV.str) (g:=fun x=>V.p (jW x)) (ms:=(aS (sB [98,108,97,109,101]) ((0:Int),(93:FuncId)) (aS (sB [103,111,111,100]) ((1:Int),(92:FuncId)) (aS (sB [98,97,100]) ((1:Int),(90:FuncId)) (aS (sB [112,101,110,99,105,108]) ((3:Int),(89:FuncId)) (aS (sB [108,101,97,100]) ((8:Int),(88:FuncId)) (aS (sB [115,108,97,116]) ((0:Int),(86:FuncId)) (aS (sB [115,97,99,107]) ((6:Int),(85:FuncId)) [])))))))) (n:=sB [99,97,108,108]) (c:=((0:Int),(97:FuncId))) cV.str (.inr rfl) rfl rfl rfl rfl iB) ?_
 refine af ?_
 refine Kz (aa.mapUpdate (enc:=PV.str) (g:=fun x=>V.p (jW x)) (ms:=(aS (sB [99,97,108,108]) ((0:Int),(97:FuncId)) (aS (sB [98,108,97,109,101]) ((0:Int),(93:FuncId)) (aS (sB [103,111,111,100]) ((1:Int),(92:FuncId)) (aS (sB [98,97,100]) ((1:Int),(90:FuncId)) (aS (sB [112,101,110,99,105,108]) ((3:Int),(89:FuncId)) (aS (sB [108,101,97,100]) ((8:Int),(88:FuncId)) (aS (sB [115,108,97,116]) ((0:Int),(86:FuncId)) (aS (sB [115,97,99,107]) ((6:Int),(85:FuncId)) []))))))))) (n:=sB [102,114,111,109]) (c:=((1:Int),(99:FuncId))) cV.str (.inr rfl) rfl rfl rfl rfl iB) ?_
 refine af ?_
 refine Kz (aa.mapUpdate (enc:=PV.str) (g:=fun x=>V.p (jW x)) (ms:=(aS (sB [102,114,111,109]) ((1:Int),(99:FuncId)) (aS (sB [99,97,108,108]) ((0:Int),(97:FuncId)) (aS (sB [98,108,97,109,101]) ((0:Int),(93:FuncId)) (aS (sB [103,111,111,100]) ((1:Int),(92:FuncId)) (aS (sB [98,97,100]) ((1:Int),(90:FuncId)) (aS (sB [112,101,110,99,105,108]) ((3:Int),(89:FuncId)) (aS (sB [108,101,97,100]) ((8:Int),(88:FuncId)) (aS (sB [115,108,97,116]) ((0:Int),(86:FuncId)) (aS (sB [115,97,99,107]) ((6:Int),(85:FuncId)) [])))))))))) (n:=sB [119,101,97,114]) (c:=((1:Int),(101:FuncId))) cV.str (.inr rfl) rfl rfl rfl rfl iB) ?_
 refine af ?_
 refine Kz (aa.mapUpdate (enc:=PV.str) (g:=fun x=>V.p (jW x)) (ms:=(aS (sB [119,101,97,114]) ((1:Int),(101:FuncId)) (aS (sB [102,114,111,109]) ((1:Int),(99:FuncId)) (aS (sB [99,97,108,108]) ((0:Int),(97:FuncId)) (aS (sB [98,108,97,109,101]) ((0:Int),(93:FuncId)) (aS (sB [103,111,111,100]) ((1:Int),(92:FuncId)) (aS (sB [98,97,100]) ((1:Int),(90:FuncId)) (aS (sB [112,101,110,99,105,108]) ((3:Int),(89:FuncId)) (aS (sB [108,101,97,100]) ((8:Int),(88:FuncId)) (aS (sB [115,108,97,116]) ((0:Int),(86:FuncId)) (aS (sB [115,97,99,107]) ((6:Int),(85:FuncId)) []))))))))))) (n:=sB [109,97,114,107]) (c:=((0:Int),(103:FuncId))) cV.str (.inr rfl) rfl rfl rfl rfl iB) ?_
 refine af ?_
 refine Kz (aa.mapUpdate (enc:=PV.str) (g:=fun x=>V.p (jW x)) (ms:=(aS (sB [109,97,114,107]) ((0:Int),(103:FuncId)) (aS (sB [119,101,97,114]) ((1:Int),(101:FuncId)) (aS (sB [102,114,111,109]) ((1:Int),(99:FuncId)) (aS (sB [99,97,108,108]) ((0:Int),(97:FuncId)) (aS (sB [98,108,97,109,101]) ((0:Int),(93:FuncId)) (aS (sB [103,111,111,100]) ((1:Int),(92:FuncId)) (aS (sB [98,97,100]) ((1:Int),(90:FuncId)) (aS (sB [112,101,110,99,105,108]) ((3:Int),(89:FuncId)) (aS (sB [108,101,97,100]) ((8:Int),(88:FuncId)) (aS (sB [115,108,97,116]) ((0:Int),(86:FuncId)) (aS (sB [115,97,99,107]) ((6:Int),(85:FuncId)) [])))))))))))) (n:=sB [98,97,99,107]) (c:=((0:Int),(105:FuncId))) cV.str (.inr rfl) rfl rfl rfl rfl iB) ?_
 refine af ?_
 refine Kz (aa.mapUpdate (enc:=PV.str) (g:=fun x=>V.p (jW x)) (ms:=(aS (sB [98,97,99,107]) ((0:Int),(105:FuncId)) (aS (sB [109,97,114,107]) ((0:Int),(103:FuncId)) (aS (sB [119,101,97,114]) ((1:Int),(101:FuncId)) (aS (sB [102,114,111,109]) ((1:Int),(99:FuncId)) (aS (sB [99,97,108,108]) ((0:Int),(97:FuncId)) (aS (sB [98,108,97,109,101]) ((0:Int),(93:FuncId)) (aS (sB [103,111,111,100]) ((1:Int),(92:FuncId)) (aS (sB [98,97,100]) ((1:Int),(90:FuncId)) (aS (sB [112,101,110,99,105,108]) ((3:Int),(89:FuncId)) (aS (sB [108,101,97,100]) ((8:Int),(88:FuncId)) (aS (sB [115,108,97,116]) ((0:Int),(86:FuncId)) (aS (sB [115,97,99,107]) ((6:Int),(85:FuncId)) []))))))))))))) (n:=sB [107,101,101,112]) (c:=((0:Int),(107:FuncId))) cV.str (.inr rfl) rfl rfl rfl rfl iB) ?_
 iterate 3 refine af ?_
 refine aI.to (To.nW 0 (enc:=PV.str) (gp:=jW) (ms:=nu) rfl) ?_
 refine af ?_
 exact nH
theorem yp{s w:Bs}{l:List Bs}(hw:bT s=w::l)(h:jG w=none):cJ s=none:=by
 unfold cJ
 rw[hw]
 simp only[h]
theorem yK{s w:Bs}{l:List Bs}{v:Vb}(hw:bT s=w::l)(hv:jG w=some v)(h:l.length≠v.many):cJ s=none:=by
 unfold cJ
 rw[hw]
 simp only[hv]
 rw[if_neg h]
theorem RG{x:Bs}:xw x=true↔gP x:=by
 unfold xw
 constructor
 ·intro h
  by_cases hc:gP x
  ·exact hc
  ·rw[KC hc] at h;cases h
 ·intro h
  rw[tR h];rfl
theorem yD{s w:Bs}{l:List Bs}{v:Vb}(hw:bT s=w::l)(hv:jG w=some v)(h:¬ ∀ x∈l,gP x):cJ s=none:=by
 unfold cJ
 rw[hw]
 simp only[hv]
 have h2:l.all xw=false:=by
  cases hb:l.all xw with
  | false=>rfl
  | true=>exact absurd (fun x hx=>RG.1 (Zz.1 hb x hx)) h
 rw[mapM_none l h2]
 split <;> rfl
theorem yo{s w:Bs}{l:List Bs}{v:Vb}(hw:bT s=w::l)(hv:jG w=some v)(hl:l.length=v.many)(h:∀ x∈l,gP x):cJ s=some (v,l.map gv):=by
 unfold cJ
 rw[hw]
 simp only[hv]
 rw[if_pos hl,vq l (Zz.2 fun x hx=>RG.2 (h x hx))]
 rfl
theorem uD(s:Bs):∃ w l,bT s=w::l:=by
 have h:=rY s
 cases hw:bT s with
 | nil=>rw[hw] at h;cases h
 | cons w l=>exact⟨w,l,rfl⟩
theorem xN:∀(ws cs pre t:List V),cs.length=ws.length->setAt (pre++cs++t) pre.length ws=pre++ws++t
 | [],cs,pre,t,h=>by
  rw[ZA h];rfl
 | w::ws,[],pre,t,h=>by cases h
 | w::ws,c::cs,pre,t,h=>by
  show setAt ((pre++c::cs++t).set pre.length w) (pre.length+1) ws=_
  have e:(pre++c::cs++t).set pre.length w=(pre++[w])++cs++t:=by
   rw[ZH,List.set_append_right _ _ (Ze _),OX]
   simp
  rw[e]
  have:=xN ws cs (pre++[w]) t (by simpa using h)
  rw[Zd,Yr] at this
  rw[this]
  simp
theorem Lf{ws cs t:List V}(h:cs.length=ws.length):setAt (cs++t) 0 ws=ws++t:=xN ws cs [] t h
theorem CD{H:List ai}{i k:Nat}{cs:List V}{e:TypeId}{v:V}(h:H[i]? =some (.cells cs e))(hk:cs[k]? =some v):c7 H false 1 (.ptr i k)=some v:=by
 simp only[c7,h]
 exact hk
theorem UB{H:List ai}{i n:Nat}{cs:List V}{e:TypeId}(h:H[i]? =some (.cells cs e))(hn:cs.length=n):c7 H true n (.ptr i 0)=some (gD cs):=by
 simp only[c7,h]
 show(if 0+n<=cs.length then some (gD ((cs.drop 0).take n)) else none)=_
 rw[if_pos (by omega),List.drop_zero,OB (by omega)]
theorem DQ{H:List ai}{i:Nat}{cs ws:List V}{e:TypeId}(h:H[i]? =some (.cells cs e))(hn:cs.length=ws.length):gu H i 0 ws=some (H.set i (.cells ws e)):=by
 simp only[gu,h]
 rw[if_pos (by omega)]
 have:=Lf (t:=[]) hn
 rw[ZU,ZU] at this
 rw[this]
theorem Ud{H:List ai}{i:Nat}{cs ws t:List V}{e:TypeId}(h:H[i]? =some (.cells (cs++t) e))(hn:cs.length=ws.length):gu H i 0 ws=some (H.set i (.cells (ws++t) e)):=by
 simp only[gu,h]
 rw[if_pos (by rw[Zd];omega),Lf hn]
theorem QK{H:List ai}{x y:ai}:(H++[x]).set H.length y=H++[y]:=by
 rw[List.set_append_right _ _ (Ze _),OX];rfl
theorem G6{H:List ai}{x:ai}:(H++[x])[H.length]? =some x:=by
 rw[Zi (Ze _),OX];rfl
theorem ot{H X:List ai}{i:Nat}{x:ai}(h:H[i]? =some x):(H++X)[i]? =some x:=by
 rw[Zc (Za.1 h).1];exact h
theorem bI{H:List ai}{i j:Nat}{x y:ai}(hij:j≠i)(h:H[i]? =some x):(H.set j y)[i]? =some x:=by
 rw[Zu,if_neg hij];exact h
theorem fA{H:List ai}{i:Nat}{x y:ai}(h:H[i]? =some x):(H.set i y)[i]? =some y:=by
 rw[Zu,if_pos rfl,if_pos (Za.1 h).1]
def LH(b:bK)(p:Di.bO)(um:V)(M:ai):List ai:=[cz b p um 1 2 3 4 5,dh b.aq,cY b.ah,dj b.av,bw b.plan,bw b.bX,M,.cells [.ptr 0 0] 30,.cells [.p (.str (sB []))] 9,.cells [.p (.int .i64 0)] 41,.dead,.dead,cY b.ah,dh b.aq,dj b.av,bw b.plan,bw b.bX,.cells (dn 13 12 14 15 16 b) 83]
def fZ(H:List ai)(b:bK)(p:Di.bO)(um:V)(e:Int):List ai:=((((H++[ai.cells [.p (.int .i64 e)] 94]).set 0 (cz b p um 13 12 14 15 16)).set 8 (.cells [.p (.str (sB []))] 9)).set 9 (.cells [.p (.int .i64 e)] 41))
theorem Oh{N:Nat}{fn:Func}{T:Tm}{H:List ai}{t:ByteArray}{e:Int}(hfn:fn.results=[ResultVar.cell 4 9,.cell 5 41].toArray)(h4:lk T 4=some (.ptr 8 0))(h5:lk T 5=some (.ptr 9 0))(k8:H[8]? =some (.cells [.p (.str t)] 9))(k9:H[9]? =some (.cells [.p (.int .i64 e)] 41)):eT Tryz.prog N fn T H (.p (.tuple [.str t,.int .i64 e])):=
 eT.many (vs:=[.p (.str t),.p (.int .i64 e)]) hfn ⟨_,_,rfl,⟨_,_,_,h4,an,CD k8 rfl⟩,⟨_,_,rfl,⟨_,_,_,h5,an,CD k9 rfl⟩,rfl⟩⟩
theorem zN{H:List ai}{b:bK}{p:Di.bO}{um:V}{e:Int}(h:9<H.length):(fZ H b p um e)[8]? =some (.cells [.p (.str (sB []))] 9):=by
 unfold fZ
 exact bI (by decide) (fA (x:=((H++[ai.cells [.p (.int .i64 e)] 94]).set 0 (cz b p um 13 12 14 15 16))[8]'(by simp;omega)) (Zb _))
theorem z6{H:List ai}{b:bK}{p:Di.bO}{um:V}{e:Int}(h:9<H.length):(fZ H b p um e)[9]? =some (.cells [.p (.int .i64 e)] 41):=by
 unfold fZ
 exact fA (x:=(((H++[ai.cells [.p (.int .i64 e)] 94]).set 0 (cz b p um 13 12 14 15 16)).set 8 (.cells [.p (.str (sB []))] 9))[9]'(by simp;omega)) (Zb _)
theorem pn{N:Nat}{T:Tm}{H:List ai}{o:Oper}(s:Bs)(v:Vb)(hv:jG s=some v){x y:Operand}{t:TypeId}{z:PV}(ho:o.op= .lookup t x y true)(hx:ev T x=some (.p (jZ PV.str jW nu)))(hy:ev T y=some (.p (.str (sB s))))(ht:oy Tryz.prog t=some (.string,z)):aa Tryz.prog N o T H (.p (.tuple [.agg [.int .i64 (v.many:Int),.func (.func (kC v)) [] []],.bool true])) H:=by
 have h:=Rm (N:=N) (H:=H) s ho hx hy ht
 rw[hv] at h
 exact h
theorem Gf{N:Nat}{T:Tm}{H:List ai}{o:Oper}(s:Bs)(hv:jG s=none){x y:Operand}{t:TypeId}{z:PV}(ho:o.op= .lookup t x y true)(hx:ev T x=some (.p (jZ PV.str jW nu)))(hy:ev T y=some (.p (.str (sB s))))(ht:oy Tryz.prog t=some (.string,z)):aa Tryz.prog N o T H (.p (.tuple [z,.bool false])) H:=by
 have h:=Rm (N:=N) (H:=H) s ho hx hy ht
 rw[hv] at h
 exact h
theorem H9(w:Bs)(l:List Bs):(((w::l).flatMap lG).drop (1*1)).take ((l.length+1 - 1)*1)=l.flatMap lG:=by
 show(l.flatMap lG).take _=_
 rw[Ku,Nat.add_sub_cancel]
 have e:(l.flatMap lG).length=l.length:=by rw[AF.cx (c:=1) (fun _=>rfl),Ku]
 exact OB (Oz e)
theorem Hw(b:bK)(p:Di.bO)(um:V)(M:ai)(hu:∀ σ:Nat->Option Nat,(M.live=true->σ 6=some 6)->aW σ um=um)(hM:∀ σ,aD σ M=M):(LH b p um M).map (aD (sg 18 []))=LH b p um M:=by
 unfold LH
 simp only[Zx,xo,dh,cY,dj,bw,bz,fc,hM,bL,F1 (n0:=18) (um:=um) (ms:=[]) (hu _ fun _=>rfl) (show 1<18 by decide) (show 2<18 by decide) (show 3<18 by decide) (show 4<18 by decide) (show 5<18 by decide),j4 (n0:=18) (show 13<18 by decide) (show 12<18 by decide) (show 14<18 by decide) (show 15<18 by decide) (show 16<18 by decide),bF,b8,dS]
 rfl
theorem Iw{H:List ai}{Hq:List ai->Prop}(hH:Hq H):xB Tryz.prog 37 [.ptr 17 0,.ptr 7 0,.ptr 8 0,.ptr 9 0] H none Hq:=by
 refine xB.start (N:=24) Tryz.func37 rfl rfl Kn (XE rfl) rfl rfl rfl rfl rfl rfl rfl rfl ?_
 iterate 3 refine af ?_
 refine Kc (aa.Ar rfl rfl Rs) ?_
 refine af ?_
 refine Ki (fun hc0=> ?_) fun hc0=> ?_
 ·cases hc0
 ·refine af ?_
  exact⟨.inl rfl,hH⟩
theorem sI{H:List ai}{Hq:List ai->Prop}{cs:List V}(b:bK)(p:Di.bO)(um:V)(e:Int)(h0:H[0]? =some (.cells (cs++p.cells.map .p++[um,.p (.bool true)]) 87))(hc:cs.length=7)(h7:H[7]? =some (.cells [.ptr 0 0] 30))(h8:H[8]? =some (.cells [.p (.str (sB []))] 9))(h9:H[9]? =some (.cells [.p (.int .i64 0)] 41))(h17:H[17]? =some (.cells (dn 13 12 14 15 16 b) 83))(hH:Hq (fZ H b p um e)):xB Tryz.prog 37 [.ptr 17 0,.ptr 7 0,.ptr 8 0,.ptr 9 0] H (some (.iface 94 (.agg [.int .i64 e]))) Hq:=by
 refine xB.start (N:=24) Tryz.func37 rfl rfl Kn (XE rfl) rfl rfl rfl rfl rfl rfl rfl rfl ?_
 iterate 3 refine af ?_
 refine Kc (aa.aaj rfl rfl Rs) ?_
 refine af ?_
 refine Ki (fun hc0=> ?_) fun hc0=> ?_
 ·iterate 3 refine af ?_
  refine Kc (aa.YK rfl rfl Ro (⟨94,_,rfl,.inl ⟨rfl,rfl⟩⟩)) ?_
  iterate 4 refine af ?_
  refine Kz (aa.store (H':=H++[.cells [.p (.int .i64 e)] 94]) rfl rfl rfl rfl rfl an rfl ((DQ (H:=H++[ai.cells [.p (.int .i64 0)] 94]) (i:=H.length) (cs:=[.p (.int .i64 0)]) (ws:=[.p (.int .i64 e)]) G6 rfl).trans (congrArg some QK))) ?_
  iterate 4 refine af ?_
  have g0:=ot (X:=[ai.cells [.p (.int .i64 e)] 94]) h0
  have g7:=ot (X:=[ai.cells [.p (.int .i64 e)] 94]) h7
  have g8:=ot (X:=[ai.cells [.p (.int .i64 e)] 94]) h8
  have g9:=ot (X:=[ai.cells [.p (.int .i64 e)] 94]) h9
  have g17:=ot (X:=[ai.cells [.p (.int .i64 e)] 94]) h17
  have gm1:=G6 (H:=H) (x:=ai.cells [.p (.int .i64 e)] 94)
  obtain⟨H1,RR⟩:∃ X,X=H++[ai.cells [.p (.int .i64 e)] 94]:=⟨_,rfl⟩
  refine aI.xj (H':=H1) RR ?_
  rw[<- RR] at g0 g7 g8 g9 g17 gm1
  have hL:=(Za.1 h17).1
  iterate 4 refine af ?_
  refine Ki (fun c8=> ?_) fun c8=> ?_
  ·cases c8
  ·iterate 3 refine af ?_
   refine Kc (aa.load (v:= .ptr 0 0) rfl rfl an (CD g7 rfl)) ?_
   refine Kc (aa.load (v:= .agg (dn 13 12 14 15 16 b)) rfl rfl an ((UB g17 rfl).trans (congrArg some (xI _ _ _ _ _ b)))) ?_
   iterate 2 refine af ?_
   refine Kz (aa.store rfl rfl rfl rfl (pV _ _ _ _ _ b) an rfl (Ud (t:=p.cells.map .p++[um,.p (.bool true)]) (by rw[<- ZH];exact g0) hc)) ?_
   refine af ?_
   have g82:=bI (j:=0) (y:=cz b p um 13 12 14 15 16) (by decide) g8
   have g92:=bI (j:=0) (y:=cz b p um 13 12 14 15 16) (by decide) g9
   have gm:=bI (j:=0) (y:=cz b p um 13 12 14 15 16) (by omega) gm1
   obtain⟨H2,eH2⟩:∃ X,X=H1.set 0 (cz b p um 13 12 14 15 16):=⟨_,rfl⟩
   refine aI.xj (H':=H2) (by rw[eH2];unfold cz;rw[ZH];rfl) ?_
   rw[<- eH2] at g82 g92 gm
   have gm3:=bI (j:=8) (y:=ai.cells [.p (.str (sB []))] 9) (by omega) gm
   have g93:=bI (j:=8) (y:=ai.cells [.p (.str (sB []))] 9) (by decide) g92
   refine aI.jO 3 (H2.set 8 (.cells [.p (.str (sB []))] 9)) mixed (by kernel_rfl) (by decide) ?_
   refine ay.cons 22 rfl rfl rfl (aa.fieldAddr rfl rfl an rfl) (aa.fieldAddr rfl rfl an rfl) ?_
   refine ay.cons 23 rfl rfl rfl (aa.load (v:= .p (.int .i64 e)) rfl rfl an (CD (by first | exact gm | exact gm3) rfl)) (aa.load (v:= .p (.int .i64 e)) rfl rfl an (CD (by first | exact gm | exact gm3) rfl)) ?_
   refine ay.put rfl rfl (aa.store rfl rfl rfl rfl rfl an rfl (DQ g82 rfl)) ?_
   refine ay.nil ?_
   refine Kz (aa.store rfl rfl rfl rfl rfl an rfl (DQ g93 rfl)) ?_
   refine af ?_
   subst eH2 RR
   exact⟨.inl rfl,hH⟩
 ·cases hc0
abbrev yz:TypeId:=83
structure bQ (H H2:List ai):Prop where
 len:7<=H2.length
 dead:∀(j:Nat) (x y:ai),j<7->H[j]? =some x->x.live=false->H2[j]? =some y->y.live=false
theorem bQ.k{H H2 H3:List ai}(h:bQ H H2)(hd:∀ j,j<7->∃ x,H[j]? =some x∧(H3.getD j .dead).live=x.live):fB H3 [0,1,2,3,4,5,6] H2:=by
 refine⟨h.len,fun j i y hk hl hy=> ?_⟩
 have hj:j<7:=(Za.1 hk).1
 have hji:i=j:=by
  have:([0,1,2,3,4,5,6]:List Nat)[j]? =some j:=by
   match j,hj with
   | 0,_=>rfl
   | 1,_=>rfl
   | 2,_=>rfl
   | 3,_=>rfl
   | 4,_=>rfl
   | 5,_=>rfl
   | 6,_=>rfl
  rw[this] at hk
  exact(ZB hk).symm
 subst hji
 obtain⟨x,h1,h2⟩:=hd i hj
 exact h.dead i x y hj h1 (by rw[<- h2];exact hl) hy
theorem uQ(b:bK)(p:Di.bO)(um:V)(M x:ai):∀ j,j<7->∃ y,(e9 b p um M)[j]? =some y∧((LH b p um M++[x]).getD j .dead).live=y.live:=fun j hj=>by
 match j,hj with
 | 0,_=>exact⟨_,rfl,rfl⟩
 | 1,_=>exact⟨_,rfl,rfl⟩
 | 2,_=>exact⟨_,rfl,rfl⟩
 | 3,_=>exact⟨_,rfl,rfl⟩
 | 4,_=>exact⟨_,rfl,rfl⟩
 | 5,_=>exact⟨_,rfl,rfl⟩
 | 6,_=>exact⟨_,rfl,rfl⟩
theorem fX{H:List ai}{ks:List Nat}{i j n:Nat}{cs:List V}{e:TypeId}(hp:pl ks i=some j)(hx:H.getD i .dead=dL cs e n):aW (nU H ks) (aY i n)=aY j n:=by
 cases n with
 | zero=>rfl
 | succ n=>exact cC (by unfold nU;rw[hx];exact hp)
theorem UA(b:bK)(p:Di.bO)(um:V)(M:ai)(hu:∀ σ:Nat->Option Nat,(M.live=true->σ 6=some 6)->aW σ um=um)(hM:∀ σ,aD σ M=M)(x:ai):(([0,1,2,3,4,5,6]:List Nat).map fun i=>aD (nU (LH b p um M++[x]) [0,1,2,3,4,5,6]) ((LH b p um M++[x]).getD i .dead))=e9 b p um M:=by
 have h0:aD (nU (LH b p um M++[x]) [0,1,2,3,4,5,6]) (cz b p um 1 2 3 4 5)=cz b p um 1 2 3 4 5:=by
  unfold cz dn
  rw[bL,bA,bA,aX]
  simp only[bF,b8,dS]
  rw[fX (j:=1) rfl rfl,fX (j:=2) rfl rfl,fX (j:=3) rfl rfl,fX (j:=4) rfl rfl,fX (j:=5) rfl rfl,hu _ (fun h=>by unfold nU;exact if_pos h)]
 show[aD _ (cz b p um 1 2 3 4 5),aD _ (dh b.aq),aD _ (cY b.ah),aD _ (dj b.av),aD _ (bw b.plan),aD _ (bw b.bX),aD _ M]=_
 rw[h0,hM]
 simp only[dh,cY,dj,bw,bz]
 rfl
theorem T7(b:bK)(p:Di.bO)(um:V)(M x:ai):M.live=true->dK (LH b p um M++[x]) [0,1,2,3,4,5,6] 6=some 6:=fun h=>by
 show(if ((LH b p um M++[x]).getD 6 .dead).live=true then some 6 else none)=some 6
 exact if_pos h
theorem di(σ:Nat->Option Nat):∀ l:List V,(bq σ l).length=l.length
 | []=>rfl
 | v::l=>by rw[bF,Zn,Zn,di σ l]
theorem vg{σ:Nat->Option Nat}{cs:List V}{p:Di.bO}{um:V}{e:TypeId}(hu:aW σ um=um):aD σ (.cells (cs++p.cells.map .p++[um,.p (.bool true)]) e)= .cells (bq σ cs++p.cells.map .p++[um,.p (.bool true)]) e:=by
 rw[bL,bA,bA,aX]
 simp only[bF,b8,dS,hu]
theorem OP(v:Vb):ak Tryz.prog (kC v)=true:=by
 cases v <;> kernel_rfl
theorem JZ(b:bK)(p:Di.bO)(um:V)(M:ai)(hu:∀ σ:Nat->Option Nat,(M.live=true->σ 6=some 6)->aW σ um=um)(hM:∀ σ,aD σ M=M)(h1:b.aq.length<=1000)(h2:b.ah.length<=1000)(h3:b.av.length<=1000)(h4:b.plan.length<=1000)(h5:b.bX.length<=1000)(s:Bs)(hs:120<s.length):ax Tryz.prog 13 [.ptr 0 0,.p (.str (sB s))] (e9 b p um M) (fun v H2=>v= .p (.tuple [.str (sB []),.int .i64 3])∧H2=e9 b p um M++[.cells [.ptr 0 0] 30,.cells [.p (.str (sB []))] 9,.cells [.p (.int .i64 3)] 41]):=by
 refine ax.start (N:=58) Tryz.func13 rfl rfl Kn ?_
 iterate 2 refine af ?_
 refine Kc (aa.j7 rfl rfl rfl) ?_
 iterate 8 refine af ?_
 refine Kc (aa.Gi rfl rfl rfl an) ?_
 refine af ?_
 refine Kg 14 13 2 rfl (fun h=>(aa.load rfl rfl an rfl)) ?_
 refine Kh 15 13 14 rfl rfl rfl rfl (fun h=>(aa.nilCheck rfl rfl)) ?_
 refine Kh 16 13 15 rfl rfl rfl rfl (fun h=>(aa.fieldAddr rfl rfl an rfl)) ?_
 refine Kh 17 13 16 rfl rfl rfl rfl (fun h=>(Kl (.p (.bool true)))) ?_
 refine Kh 18 13 17 rfl rfl rfl rfl (fun h=>(aa.gH rfl rfl)) ?_
 refine Kc (aa.pG rfl rfl rfl ?_) ?_
 ·exact aC
 iterate 2 refine af ?_
 refine Ki (fun hc0=> ?_) fun hc0=> ?_
 ·exact absurd hc0 (by decide)
 ·iterate 3 refine af ?_
  refine Kc (aa.lY rfl rfl Qh) ?_
  iterate 3 refine af ?_
  refine Ki (fun c8=> ?_) fun c8=> ?_
  ·iterate 6 refine af ?_
   exact⟨.inr rfl,_,Oh rfl rfl rfl rfl rfl,rfl,rfl⟩
  ·exfalso
   have h:=Zs c8
   rw[eX] at h
   omega
theorem Tj(b:bK)(p:Di.bO)(um:V)(M:ai)(hu:∀ σ:Nat->Option Nat,(M.live=true->σ 6=some 6)->aW σ um=um)(hM:∀ σ,aD σ M=M)(h1:b.aq.length<=1000)(h2:b.ah.length<=1000)(h3:b.av.length<=1000)(h4:b.plan.length<=1000)(h5:b.bX.length<=1000)(s:Bs)(hs:s.length<=120)(w:Bs)(l:List Bs)(hw:bT s=w::l)(hv:jG w=none):ax Tryz.prog 13 [.ptr 0 0,.p (.str (sB s))] (e9 b p um M) (fun x H2=>x= .p (.tuple [.str (sB []),.int .i64 8])∧H2=fZ (LH b p um M++[ai.cells [.p (.int .i64 0),.p .nilFunc] 99]) b p um 8):=by
 have X0:(w::l).length=l.length+1:=rfl
 have hsp:=pL s (by omega)
 rw[hw] at hsp
 have FN:=(iU 32 s []).2
 rw[show dQ 32 [] s=w::l from hw,Zn] at FN
 have XR:l.length<=1000000:=by omega
 have Vq:∀ x∈l,x.length<=1000000:=fun x hx=>by have h6:=ow 32 s [] x (by rw[show dQ 32 [] s=w::l from hw];exact Zg _ hx);rw[IN] at h6;omega
 refine ax.tF (N:=58) (g:=37) (dm:=29) (T1:=[(1,.p (.str (sB s))),(2,.ptr 7 0),(4,.ptr 8 0),(5,.ptr 9 0),(6,.ptr 17 0)]) (H1:=LH b p um M) (caps:=[.ptr 17 0,.ptr 7 0,.ptr 8 0,.ptr 9 0]) Tryz.func13 rfl rfl Kn ?_ (aa.makeFunc (fi:=[]) (ca:=[.ptr 17 0,.ptr 7 0,.ptr 8 0,.ptr 9 0]) rfl rfl rfl) rfl rfl rfl rfl rfl rfl an ?_
 ·exact qG
 ·iterate 3 refine af ?_
  refine Kc (Kp (hsp)) ?_
  iterate 3 refine af ?_
  refine aI.bN 10 1 [18] [([],false),([],false),([],false),([],false),([],false),([],false),([],false),([],false),([18],true),([18],true)] mixed (by kernel_rfl) (by decide) (by kernel_rfl) rfl (Hw b p um M hu hM) ?_
  refine bu.cons 33 rfl rfl rfl (fun _=>(Kp (qj))) rfl ?_
  refine af ?_
  refine bu.cons 35 rfl rfl rfl (fun _=>(aa.bg (g:=Di.gt [] (w::l)) (k:=0) (Di.aL _) rfl rfl rfl an xy rfl (fun _=>rfl) (by decide) (TJ _))) rfl ?_
  refine bu.cons 36 rfl rfl rfl (fun _=>(Kl (.p (.str (sB w))))) rfl ?_
  refine bu.cons 37 rfl rfl rfl (fun _=>(Gf w hv rfl rfl rfl iB)) rfl ?_
  refine af ?_
  refine bu.cons 38 rfl rfl rfl (fun _=>(aa.extract rfl rfl rfl)) rfl ?_
  refine bu.cons 39 rfl rfl rfl (fun _=>(aa.extract rfl rfl rfl)) rfl ?_
  refine bu.lay (v0:= .ptr 19 0) 8 18 rfl rfl rfl rfl rfl rfl rfl rfl (fun _=>(aa.aO rfl an rfl)) rfl rfl rfl ?_
  refine bu.put (blk:= .cells [.p (.int .i64 0),.p .nilFunc] 99) 18 rfl rfl rfl rfl (fun _=>(aa.store rfl rfl rfl rfl rfl an rfl rfl)) rfl rfl ?_
  refine bu.nil ?_
  iterate 3 refine af ?_
  refine aI.xj (H':=LH b p um M++[ai.cells [.p (.int .i64 0),.p .nilFunc] 99]) rfl ?_
  iterate 3 refine af ?_
  refine Kg 42 41 7 rfl (fun h=>(aa.move rfl rfl)) ?_
  refine Kh 43 41 42 rfl rfl rfl rfl (fun h=>(aa.cD rfl rfl an rfl)) ?_
  refine Kh 44 41 43 rfl rfl rfl rfl (fun h=>(aa.fE (m:=((l.length:Nat):Int)) rfl rfl rfl ((aG (by omega)).trans (by omega)))) ?_
  refine Kg 45 41 8 rfl (fun h=>(aa.fieldAddr rfl rfl an rfl)) ?_
  refine Kh 46 41 45 rfl rfl rfl rfl (fun h=>(Kl (.p (.int .i64 0)))) ?_
  refine aj.g 47 41 rfl rfl rfl rfl rfl rfl rfl [(44,_),(46,_)] (fun h=>And.intro (.inr ⟨_,rfl,h⟩) (And.intro (.inr ⟨_,rfl,h⟩) (trivial))) (fun h=>(aa.eql rfl rfl rfl)) ?_
  refine Kc (aa.gG rfl rfl rfl ?_) ?_
  ·exact aC
  refine aj.ct 49 (b:=_) (de _ 8) (dc _ 8) rfl rfl rfl rfl rfl rfl rfl an (fun hb=> ?_) (fun hb=> ?_)
  ·exact Eu
  simp at hb
theorem TO(b:bK)(p:Di.bO)(um:V)(M:ai)(hu:∀ σ:Nat->Option Nat,(M.live=true->σ 6=some 6)->aW σ um=um)(hM:∀ σ,aD σ M=M)(h1:b.aq.length<=1000)(h2:b.ah.length<=1000)(h3:b.av.length<=1000)(h4:b.plan.length<=1000)(h5:b.bX.length<=1000)(s:Bs)(hs:s.length<=120)(w:Bs)(l:List Bs)(hw:bT s=w::l)(v:Vb)(hv:jG w=some v)(hm:l.length≠v.many):ax Tryz.prog 13 [.ptr 0 0,.p (.str (sB s))] (e9 b p um M) (fun x H2=>x= .p (.tuple [.str (sB []),.int .i64 8])∧H2=fZ (LH b p um M++[ai.cells [.p (.int .i64 (v.many:Int)),.p (.func (.func (kC v)) [] [])] 99]) b p um 8):=by
 have X0:(w::l).length=l.length+1:=rfl
 have hsp:=pL s (by omega)
 rw[hw] at hsp
 have FN:=(iU 32 s []).2
 rw[show dQ 32 [] s=w::l from hw,Zn] at FN
 have XR:l.length<=1000000:=by omega
 have Vq:∀ x∈l,x.length<=1000000:=fun x hx=>by have h6:=ow 32 s [] x (by rw[show dQ 32 [] s=w::l from hw];exact Zg _ hx);rw[IN] at h6;omega
 refine ax.tF (N:=58) (g:=37) (dm:=29) (T1:=[(1,.p (.str (sB s))),(2,.ptr 7 0),(4,.ptr 8 0),(5,.ptr 9 0),(6,.ptr 17 0)]) (H1:=LH b p um M) (caps:=[.ptr 17 0,.ptr 7 0,.ptr 8 0,.ptr 9 0]) Tryz.func13 rfl rfl Kn ?_ (aa.makeFunc (fi:=[]) (ca:=[.ptr 17 0,.ptr 7 0,.ptr 8 0,.ptr 9 0]) rfl rfl rfl) rfl rfl rfl rfl rfl rfl an ?_
 ·exact qG
 ·iterate 3 refine af ?_
  refine Kc (Kp (hsp)) ?_
  iterate 3 refine af ?_
  refine aI.bN 10 1 [18] [([],false),([],false),([],false),([],false),([],false),([],false),([],false),([],false),([18],true),([18],true)] mixed (by kernel_rfl) (by decide) (by kernel_rfl) rfl (Hw b p um M hu hM) ?_
  refine bu.cons 33 rfl rfl rfl (fun _=>(Kp (qj))) rfl ?_
  refine af ?_
  refine bu.cons 35 rfl rfl rfl (fun _=>(aa.bg (g:=Di.gt [] (w::l)) (k:=0) (Di.aL _) rfl rfl rfl an xy rfl (fun _=>rfl) (by decide) (TJ _))) rfl ?_
  refine bu.cons 36 rfl rfl rfl (fun _=>(Kl (.p (.str (sB w))))) rfl ?_
  refine bu.cons 37 rfl rfl rfl (fun _=>(pn w v hv rfl rfl rfl iB)) rfl ?_
  refine af ?_
  refine bu.cons 38 rfl rfl rfl (fun _=>(aa.extract rfl rfl rfl)) rfl ?_
  refine bu.cons 39 rfl rfl rfl (fun _=>(aa.extract rfl rfl rfl)) rfl ?_
  refine bu.lay (v0:= .ptr 19 0) 8 18 rfl rfl rfl rfl rfl rfl rfl rfl (fun _=>(aa.aO rfl an rfl)) rfl rfl rfl ?_
  refine bu.put (blk:= .cells [.p (.int .i64 (v.many:Int)),.p (.func (.func (kC v)) [] [])] 99) 18 rfl rfl rfl rfl (fun _=>(aa.store rfl rfl rfl rfl rfl an rfl rfl)) rfl rfl ?_
  refine bu.nil ?_
  iterate 3 refine af ?_
  refine aI.xj (H':=LH b p um M++[ai.cells [.p (.int .i64 (v.many:Int)),.p (.func (.func (kC v)) [] [])] 99]) rfl ?_
  iterate 3 refine af ?_
  refine Kg 42 41 7 rfl (fun h=>(aa.move rfl rfl)) ?_
  refine Kh 43 41 42 rfl rfl rfl rfl (fun h=>(aa.cD rfl rfl an rfl)) ?_
  refine Kh 44 41 43 rfl rfl rfl rfl (fun h=>(aa.fE (m:=((l.length:Nat):Int)) rfl rfl rfl ((aG (by omega)).trans (by omega)))) ?_
  refine Kg 45 41 8 rfl (fun h=>(aa.fieldAddr rfl rfl an rfl)) ?_
  refine Kh 46 41 45 rfl rfl rfl rfl (fun h=>(Kl (.p (.int .i64 (v.many:Int))))) ?_
  refine aj.g 47 41 rfl rfl rfl rfl rfl rfl rfl [(44,_),(46,_)] (fun h=>And.intro (.inr ⟨_,rfl,h⟩) (And.intro (.inr ⟨_,rfl,h⟩) (trivial))) (fun h=>(aa.eql rfl rfl rfl)) ?_
  refine Kc (aa.gG rfl rfl rfl ?_) ?_
  ·exact aC
  refine aj.ct 49 (b:=_) (de _ 8) (dc _ 8) rfl rfl rfl rfl rfl rfl rfl an (fun hb=> ?_) (fun hb=> ?_)
  ·exact Eu
  exfalso
  simp at hb
  omega
theorem S0(b:bK)(p:Di.bO)(um:V)(M:ai)(hu:∀ σ:Nat->Option Nat,(M.live=true->σ 6=some 6)->aW σ um=um)(hM:∀ σ,aD σ M=M)(h1:b.aq.length<=1000)(h2:b.ah.length<=1000)(h3:b.av.length<=1000)(h4:b.plan.length<=1000)(h5:b.bX.length<=1000)(s:Bs)(hs:s.length<=120)(w:Bs)(l:List Bs)(hw:bT s=w::l)(v:Vb)(hv:jG w=some v)(hm:l.length=v.many)(hC:¬ ∀ x∈l,gP x):ax Tryz.prog 13 [.ptr 0 0,.p (.str (sB s))] (e9 b p um M) (fun x H2=>x= .p (.tuple [.str (sB []),.int .i64 8])∧H2=fZ (LH b p um M++[ai.cells [.p (.int .i64 (v.many:Int)),.p (.func (.func (kC v)) [] [])] 99]) b p um 8):=by
 have X0:(w::l).length=l.length+1:=rfl
 have hsp:=pL s (by omega)
 rw[hw] at hsp
 have FN:=(iU 32 s []).2
 rw[show dQ 32 [] s=w::l from hw,Zn] at FN
 have XR:l.length<=1000000:=by omega
 have Vq:∀ x∈l,x.length<=1000000:=fun x hx=>by have h6:=ow 32 s [] x (by rw[show dQ 32 [] s=w::l from hw];exact Zg _ hx);rw[IN] at h6;omega
 refine ax.tF (N:=58) (g:=37) (dm:=29) (T1:=[(1,.p (.str (sB s))),(2,.ptr 7 0),(4,.ptr 8 0),(5,.ptr 9 0),(6,.ptr 17 0)]) (H1:=LH b p um M) (caps:=[.ptr 17 0,.ptr 7 0,.ptr 8 0,.ptr 9 0]) Tryz.func13 rfl rfl Kn ?_ (aa.makeFunc (fi:=[]) (ca:=[.ptr 17 0,.ptr 7 0,.ptr 8 0,.ptr 9 0]) rfl rfl rfl) rfl rfl rfl rfl rfl rfl an ?_
 ·exact qG
 ·iterate 3 refine af ?_
  refine Kc (Kp (hsp)) ?_
  iterate 3 refine af ?_
  refine aI.bN 10 1 [18] [([],false),([],false),([],false),([],false),([],false),([],false),([],false),([],false),([18],true),([18],true)] mixed (by kernel_rfl) (by decide) (by kernel_rfl) rfl (Hw b p um M hu hM) ?_
  refine bu.cons 33 rfl rfl rfl (fun _=>(Kp (qj))) rfl ?_
  refine af ?_
  refine bu.cons 35 rfl rfl rfl (fun _=>(aa.bg (g:=Di.gt [] (w::l)) (k:=0) (Di.aL _) rfl rfl rfl an xy rfl (fun _=>rfl) (by decide) (TJ _))) rfl ?_
  refine bu.cons 36 rfl rfl rfl (fun _=>(Kl (.p (.str (sB w))))) rfl ?_
  refine bu.cons 37 rfl rfl rfl (fun _=>(pn w v hv rfl rfl rfl iB)) rfl ?_
  refine af ?_
  refine bu.cons 38 rfl rfl rfl (fun _=>(aa.extract rfl rfl rfl)) rfl ?_
  refine bu.cons 39 rfl rfl rfl (fun _=>(aa.extract rfl rfl rfl)) rfl ?_
  refine bu.lay (v0:= .ptr 19 0) 8 18 rfl rfl rfl rfl rfl rfl rfl rfl (fun _=>(aa.aO rfl an rfl)) rfl rfl rfl ?_
  refine bu.put (blk:= .cells [.p (.int .i64 (v.many:Int)),.p (.func (.func (kC v)) [] [])] 99) 18 rfl rfl rfl rfl (fun _=>(aa.store rfl rfl rfl rfl rfl an rfl rfl)) rfl rfl ?_
  refine bu.nil ?_
  iterate 3 refine af ?_
  refine aI.xj (H':=LH b p um M++[ai.cells [.p (.int .i64 (v.many:Int)),.p (.func (.func (kC v)) [] [])] 99]) rfl ?_
  iterate 3 refine af ?_
  refine Kg 42 41 7 rfl (fun h=>(aa.move rfl rfl)) ?_
  refine Kh 43 41 42 rfl rfl rfl rfl (fun h=>(aa.cD rfl rfl an rfl)) ?_
  refine Kh 44 41 43 rfl rfl rfl rfl (fun h=>(aa.fE (m:=((l.length:Nat):Int)) rfl rfl rfl ((aG (by omega)).trans (by omega)))) ?_
  refine Kg 45 41 8 rfl (fun h=>(aa.fieldAddr rfl rfl an rfl)) ?_
  refine Kh 46 41 45 rfl rfl rfl rfl (fun h=>(Kl (.p (.int .i64 (v.many:Int))))) ?_
  refine aj.g 47 41 rfl rfl rfl rfl rfl rfl rfl [(44,_),(46,_)] (fun h=>And.intro (.inr ⟨_,rfl,h⟩) (And.intro (.inr ⟨_,rfl,h⟩) (trivial))) (fun h=>(aa.eql rfl rfl rfl)) ?_
  refine Kc (aa.gG rfl rfl rfl ?_) ?_
  ·exact aC
  refine aj.ct 49 (b:=_) (de _ 8) (dc _ 8) rfl rfl rfl rfl rfl rfl rfl an (fun hb=> ?_) (fun hb=> ?_)
  ·exfalso
   simp at hb
   omega
  iterate 2 refine af ?_
  refine aI.CC 6 ([(4,.ptr 8 0),(5,.ptr 9 0)]) rfl rfl mixed (by kernel_rfl) KS rfl ?_
  refine af ?_
  refine Kq (Kl (.p (.func (.func (kC v)) [] []))) ?_
  iterate 2 refine af ?_
  refine Kq (aa.ox (l:=1) (h:=(l.length+1)) (r:=(l.flatMap lG)) rfl rfl an xy ⟨_,rfl⟩ rfl (by omega) (by omega) (H9 w l)) ?_
  refine Kq (Kp (wH l)) ?_
  refine aE.nil ?_
  refine aj.vo 56 (JN l XR Vq hC) rfl rfl rfl rfl rfl rfl rfl an ⟨⟨_,rfl⟩,⟨_,rfl,sI (cs:=dn 1 2 3 4 5 b) b p um 8 rfl rfl rfl rfl rfl rfl ⟨_,Oh rfl rfl rfl (zN Kn) (z6 Kn),rfl,rfl⟩⟩⟩
theorem GL(b:bK)(p:Di.bO)(um:V)(M:ai)(hu:∀ σ:Nat->Option Nat,(M.live=true->σ 6=some 6)->aW σ um=um)(hM:∀ σ,aD σ M=M)(h1:b.aq.length<=1000)(h2:b.ah.length<=1000)(h3:b.av.length<=1000)(h4:b.plan.length<=1000)(h5:b.bX.length<=1000)(s:Bs)(hs:s.length<=120)(w:Bs)(l:List Bs)(hw:bT s=w::l)(v:Vb)(hv:jG w=some v)(hm:l.length=v.many)(hC:∀ x∈l,gP x)(t:Bs)(e:Int)(Qr:V->List ai->Prop)(Qp:PV->List ai->Prop)(hd:au Tryz.prog (kC v) [.ptr 0 0,.p (Di.cg (l.map gv))] (e9 b p um M) Qr Qp)(hr:∀ r H2,Qr r H2->r= .p (.str (sB t))∧bQ (e9 b p um M) H2)(hp:∀ y H2,Qp y H2->y=(.iface 94 (.agg [.int .i64 e]))∧bQ (e9 b p um M) H2∧∃ cs,cs.length=7∧H2[0]? =some (.cells (cs++p.cells.map .p++[um,.p (.bool true)]) 87)):ax Tryz.prog 13 [.ptr 0 0,.p (.str (sB s))] (e9 b p um M) (fun x H2=>(x= .p (.tuple [.str (sB t),.int .i64 0])∧∃ H0,Qr (.p (.str (sB t))) H0∧H2=(((bh (LH b p um M++[ai.cells [.p (.int .i64 (v.many:Int)),.p (.func (.func (kC v)) [] [])] 99]) [0,1,2,3,4,5,6] H0).set 8 (.cells [.p (.str (sB t))] 9)).set 9 (.cells [.p (.int .i64 0)] 41)))∨(x= .p (.tuple [.str (sB []),.int .i64 e])∧∃ H0,Qp (.iface 94 (.agg [.int .i64 e])) H0∧H2=fZ (bh (LH b p um M++[ai.cells [.p (.int .i64 (v.many:Int)),.p (.func (.func (kC v)) [] [])] 99]) [0,1,2,3,4,5,6] H0) b p um e)):=by
 have X0:(w::l).length=l.length+1:=rfl
 have hsp:=pL s (by omega)
 rw[hw] at hsp
 have FN:=(iU 32 s []).2
 rw[show dQ 32 [] s=w::l from hw,Zn] at FN
 have XR:l.length<=1000000:=by omega
 have Vq:∀ x∈l,x.length<=1000000:=fun x hx=>by have h6:=ow 32 s [] x (by rw[show dQ 32 [] s=w::l from hw];exact Zg _ hx);rw[IN] at h6;omega
 refine ax.tF (N:=58) (g:=37) (dm:=29) (T1:=[(1,.p (.str (sB s))),(2,.ptr 7 0),(4,.ptr 8 0),(5,.ptr 9 0),(6,.ptr 17 0)]) (H1:=LH b p um M) (caps:=[.ptr 17 0,.ptr 7 0,.ptr 8 0,.ptr 9 0]) Tryz.func13 rfl rfl Kn ?_ (aa.makeFunc (fi:=[]) (ca:=[.ptr 17 0,.ptr 7 0,.ptr 8 0,.ptr 9 0]) rfl rfl rfl) rfl rfl rfl rfl rfl rfl an ?_
 ·exact qG
 ·iterate 3 refine af ?_
  refine Kc (Kp (hsp)) ?_
  iterate 3 refine af ?_
  refine aI.bN 10 1 [18] [([],false),([],false),([],false),([],false),([],false),([],false),([],false),([],false),([18],true),([18],true)] mixed (by kernel_rfl) (by decide) (by kernel_rfl) rfl (Hw b p um M hu hM) ?_
  refine bu.cons 33 rfl rfl rfl (fun _=>(Kp (qj))) rfl ?_
  refine af ?_
  refine bu.cons 35 rfl rfl rfl (fun _=>(aa.bg (g:=Di.gt [] (w::l)) (k:=0) (Di.aL _) rfl rfl rfl an xy rfl (fun _=>rfl) (by decide) (TJ _))) rfl ?_
  refine bu.cons 36 rfl rfl rfl (fun _=>(Kl (.p (.str (sB w))))) rfl ?_
  refine bu.cons 37 rfl rfl rfl (fun _=>(pn w v hv rfl rfl rfl iB)) rfl ?_
  refine af ?_
  refine bu.cons 38 rfl rfl rfl (fun _=>(aa.extract rfl rfl rfl)) rfl ?_
  refine bu.cons 39 rfl rfl rfl (fun _=>(aa.extract rfl rfl rfl)) rfl ?_
  refine bu.lay (v0:= .ptr 19 0) 8 18 rfl rfl rfl rfl rfl rfl rfl rfl (fun _=>(aa.aO rfl an rfl)) rfl rfl rfl ?_
  refine bu.put (blk:= .cells [.p (.int .i64 (v.many:Int)),.p (.func (.func (kC v)) [] [])] 99) 18 rfl rfl rfl rfl (fun _=>(aa.store rfl rfl rfl rfl rfl an rfl rfl)) rfl rfl ?_
  refine bu.nil ?_
  iterate 3 refine af ?_
  refine aI.xj (H':=LH b p um M++[ai.cells [.p (.int .i64 (v.many:Int)),.p (.func (.func (kC v)) [] [])] 99]) rfl ?_
  iterate 3 refine af ?_
  refine Kg 42 41 7 rfl (fun h=>(aa.move rfl rfl)) ?_
  refine Kh 43 41 42 rfl rfl rfl rfl (fun h=>(aa.cD rfl rfl an rfl)) ?_
  refine Kh 44 41 43 rfl rfl rfl rfl (fun h=>(aa.fE (m:=((l.length:Nat):Int)) rfl rfl rfl ((aG (by omega)).trans (by omega)))) ?_
  refine Kg 45 41 8 rfl (fun h=>(aa.fieldAddr rfl rfl an rfl)) ?_
  refine Kh 46 41 45 rfl rfl rfl rfl (fun h=>(Kl (.p (.int .i64 (v.many:Int))))) ?_
  refine aj.g 47 41 rfl rfl rfl rfl rfl rfl rfl [(44,_),(46,_)] (fun h=>And.intro (.inr ⟨_,rfl,h⟩) (And.intro (.inr ⟨_,rfl,h⟩) (trivial))) (fun h=>(aa.eql rfl rfl rfl)) ?_
  refine Kc (aa.gG rfl rfl rfl ?_) ?_
  ·exact aC
  refine aj.ct 49 (b:=_) (de _ 8) (dc _ 8) rfl rfl rfl rfl rfl rfl rfl an (fun hb=> ?_) (fun hb=> ?_)
  ·exfalso
   simp at hb
   omega
  iterate 2 refine af ?_
  refine aI.aB 7 mixed (by kernel_rfl) (by decide) ?_
  refine af ?_
  refine Kq (Kl (.p (.func (.func (kC v)) [] []))) ?_
  iterate 2 refine af ?_
  refine Kq (aa.ox (l:=1) (h:=(l.length+1)) (r:=(l.flatMap lG)) rfl rfl an xy ⟨_,rfl⟩ rfl (by omega) (by omega) (H9 w l)) ?_
  refine Kq (Kp (wH l)) ?_
  refine Kq (Kp (J1 l XR Vq hC)) ?_
  refine aE.nil ?_
  refine aj.HA 57 [0,1,2,3,4,5,6] hd rfl (UA b p um M hu hM _) rfl (fun r H2 h=>((hr r H2 h).2).k (by exact uQ b p um M _)) (fun y H2 h=>((hp y H2 h).2.1).k (by exact uQ b p um M _)) rfl rfl rfl rfl rfl rfl rfl (OP v) (fun y H0 hy=> ?_) (fun r H0 hq=> ?_)
  ·obtain⟨rfl,hk,cs,hc,g0⟩:=hp y H0 hy
   have qE:7<=H0.length:=hk.1
   have k8:=dw (H:=(LH b p um M++[ai.cells [.p (.int .i64 (v.many:Int)),.p (.func (.func (kC v)) [] [])] 99])) (ks:=[0,1,2,3,4,5,6]) (i:=8) (by decide) qE Kn (by decide)
   have k0:=eZ (H:=(LH b p um M++[ai.cells [.p (.int .i64 (v.many:Int)),.p (.func (.func (kC v)) [] [])] 99])) (ks:=[0,1,2,3,4,5,6]) (j:=0) (i:=0) (by decide) qE rfl Kn g0
   rw[vg (hu _ (T7 b p um M _))] at k0
   have hL9:9<(bh (LH b p um M++[ai.cells [.p (.int .i64 (v.many:Int)),.p (.func (.func (kC v)) [] [])] 99]) [0,1,2,3,4,5,6] H0).length:=by rw[rT (ks:=[0,1,2,3,4,5,6]) qE];exact Nat.lt_add_right _ Kn
   exact⟨_,rfl,sI b p um e k0 (by rw[di];exact hc) (dw (i:=7) (by decide) qE Kn (by decide)) (dw (i:=8) (by decide) qE Kn (by decide)) (dw (i:=9) (by decide) qE Kn (by decide)) (dw (i:=17) (by decide) qE Kn (by decide)) ⟨_,Oh rfl rfl rfl (zN hL9) (z6 hL9),.inr ⟨rfl,H0,hy,rfl⟩⟩⟩
  obtain⟨rfl,hk⟩:=hr r H0 hq
  have qE:7<=H0.length:=hk.1
  have k8:(bh (LH b p um M++[ai.cells [.p (.int .i64 (v.many:Int)),.p (.func (.func (kC v)) [] [])] 99]) [0,1,2,3,4,5,6] H0)[8]? =some (.cells [.p (.str (sB []))] 9):=dw (i:=8) (by decide) qE Kn (by decide)
  have k9:(bh (LH b p um M++[ai.cells [.p (.int .i64 (v.many:Int)),.p (.func (.func (kC v)) [] [])] 99]) [0,1,2,3,4,5,6] H0)[9]? =some (.cells [.p (.int .i64 0)] 41):=dw (i:=9) (by decide) qE Kn (by decide)
  have k92:=bI (j:=8) (y:=ai.cells [.p (.str (sB t))] 9) (by decide) k9
  refine Kz (aa.store rfl rfl rfl rfl rfl an rfl (DQ k8 rfl)) ?_
  refine Kz (aa.store rfl rfl rfl rfl rfl an rfl (DQ k92 rfl)) ?_
  iterate 2 refine af ?_
  exact Iw ⟨_,Oh rfl rfl rfl (bI (by decide) (fA k8)) (fA k92),.inl ⟨rfl,H0,hq,rfl⟩⟩
end Go.Proofs.YtibffijhebobmaaGreatDoor
end
