/-
 The program of chapter 15: marks (laid upon each other, taken away).
 The program of chapter 15: what verbs do (marks).
 The program of chapter 15: all verbs.
 Chapter 15, the program: what a line says, word by word; cells that are written anew.
 The program of chapter 15: what is recovered.
 The program of chapter 15: a line.
-/
import Derived.Test.YtchiinjiflgepaaGreatDoorMzQF
import Derived.Test.YtchiinjiflgepaaGreatDoorMzQB
import Derived.Test.YtchiinjiflgepaaGreatDoorFaQF
import Derived.Test.YtchiinjiflgepaaGreatDoorMzQZ
theorem Hl{A:Prop}(h:A:=by
 refine af ?_
 refine Kc (aa.iK rfl rfl rfl) ?_
 iterate 7 refine af ?_
 refine Kc (aa.y5 rfl rfl rfl an) ?_
 refine af ?_
 refine Kg 14 13 2 rfl (fun h=>(aa.load rfl rfl an rfl)) ?_
 refine Kh 15 13 14 rfl rfl rfl rfl (fun h=>(aa.nilCheck rfl rfl)) ?_
 refine Kh 16 13 15 rfl rfl rfl rfl (fun h=>(aa.fieldAddr rfl rfl an rfl)) ?_
 refine Kh 17 13 16 rfl rfl rfl rfl (fun h=>(Kl (.p (.bool true)))) ?_
 refine Kh 18 13 17 rfl rfl rfl rfl (fun h=>(aa.iZ rfl rfl)) ?_
 refine Kc (aa.me rfl rfl rfl ?_) ?_
 ·first | (intro h;rw[h];rfl) | (intro h;simp_all)
 iterate 2 refine af ?_
 refine Ki (fun hc0=> ?_) fun hc0=> ?_
 ·exact absurd hc0 (by decide)
 ·iterate 3 refine af ?_
  refine Kc (aa.iJ rfl rfl Gz) ?_
  iterate 3 refine af ?_
  refine Ki (fun cF=> ?_) fun cF=> ?_
  ·exfalso
   have h:=Zf cF
   rw[dO] at h
   omega
  ·iterate 5 refine af ?_
   refine Kc (aa.load (v:= .agg (dn 1 2 3 4 5 b)) rfl rfl an (show cW _ _ _ _=_ from congrArg some (wo 1 2 3 4 5 b))) ?_
   refine Kc (sX 4 10 b h1 h2 h3 h4 h5 rfl rfl rfl rfl rfl (G7 rfl rfl rfl rfl rfl) an) ?_
   refine af ?_
   refine Kz (aa.store (H':=LH b p um M) rfl rfl rfl rfl (pE _ _ _ _ _ b) an rfl rfl) ?_
   refine af ?_
   exact⟨KS,rfl⟩):A:=h
theorem IK{A:Prop}(h:A:=by
 refine iB.one rfl rfl ⟨by rw[hd],?_,rfl⟩
 rw[hd,fm]
 rfl):A:=h
theorem Pp{A:Prop}(h:A:=by
 exact⟨_,rfl,qN (cs:=dn 1 2 3 4 5 b) b p um 8 rfl rfl rfl rfl rfl rfl ⟨_,KQ rfl rfl rfl (zf Kn) (yQ Kn),rfl,rfl⟩⟩):A:=h
set_option linter.unusedSimpArgs false
set_option linter.unusedVariables false
section
set_option maxRecDepth 100000
set_option maxHeartbeats 4000000
namespace Go.Proofs.YtchiinjiflgepaaGreatDoor
open Go.AF
structure RS where
 a:Option Addr
 n:Nat
 c:Nat
def RS.v(s:RS):V:= .raw s.a s.n s.c
structure RB where
 s1:RS
 s2:RS
 s3:RS
 s4:RS
 bad:Int
 good:Int
 s5:RS
def RB.cells(r:RB):List V:=[r.s1.v,r.s2.v,r.s3.v,r.s4.v,.p (.int .i64 r.bad),.p (.int .i64 r.good),r.s5.v]
def mY(l:List RB):List V:=l.flatMap RB.cells
def c6(l:List RB):ai:= .row (mY l) 59
theorem qv(l:List RB):(mY l).length=l.length*7:=by
 unfold mY
 induction l with
 | nil=>rfl
 | cons x l ih=>rw[ZJ,Zb,ih,Zn];show 7+_=_;omega
theorem sY(σ:Nat->Option Nat)(l:List RB):bn σ (mY l)=mY l:=by
 unfold mY
 induction l with
 | nil=>rfl
 | cons x l ih=>rw[ZJ,bD,ih];rfl
theorem gP(σ:Nat->Option Nat)(l:List RB):aE σ (c6 l)=c6 l:=by
 unfold c6
 show ai.row (bn σ _) _=_
 rw[sY]
def ff(b:bG)(p:Di.bB)(um:V)(M:ai):List ai:=[cv b p um 1 2 3 4 5,c5 b.au,cU b.ag,c7 b.aq,bh b.plan,bh b.b6,M]
theorem MJ{H:List ai}{l:List RB}{r:RB}(h:H[6]? =some (c6 (l++[r]))):cW H true 7 (.ptr 6 (l.length*7))=some (.agg r.cells):=by
 simp only[cW,h]
 show(if l.length*7+7<=(mY (l++[r])).length then some (fP (((mY (l++[r])).drop (l.length*7)).take 7)) else none)=_
 rw[qv,Zb,Tb,if_pos (by omega)]
 have e0:mY (l++[r])=mY l++r.cells:=by unfold mY;rw[FQ];simp
 rw[e0,List.drop_append_of_le_length (LZ (qv l).symm),Z2 (LZ (qv l))]
 rfl
theorem jO{xs:List PV}{e n:Nat}(h:iS (xs.map .p)=true):UK (dN (xs.map .p) e n)=true:=by
 cases n with
 | zero=>rfl
 | succ n=>exact h
theorem G7{H:List ai}{k:Nat}{b:bG}{i1 i2 i3 i4 i5:Nat}(h1:H[i1]? =some (c5 b.au))(h2:H[i2]? =some (cU b.ag))(h3:H[i3]? =some (c7 b.aq))(h4:H[i4]? =some (bh b.plan))(h5:H[i5]? =some (bh b.b6)):cQ (bN H (k+2)) [.agg (dn i1 i2 i3 i4 i5 b)]=some [.agg (FI b)]:=by
 have e:bN H (k+2) (.agg (dn i1 i2 i3 i4 i5 b))=some (.agg (FI b)):=by
  show(cQ (bN H (k+1)) (dn i1 i2 i3 i4 i5 b)).map PV.agg=_
  simp only[dn,cQ,Ow h1,Mt h2,Mc h3,Ge h4,Ge h5,Ja]
  rfl
 simp only[cQ,e]
theorem sX{N:Nat}{T:Tm}{H:List ai}{o:Oper}(m k:Nat)(b:bG)(h1:b.au.length<=1000)(h2:b.ag.length<=1000)(h3:b.aq.length<=1000)(h4:b.plan.length<=1000)(h5:b.b6.length<=1000)(hk:H.length=k){f:Operand}{ys:Array Operand}{ts:Array TypeId}{fv:V}{vs all:List V}(ho:o.op= .call {callee:= .value f,args:=ys,argTypes:=ts})(hf:ev T f=some fv)
    (hxs:jR T ys.toList=some vs)(hc:callee vs fv=some (49,all))(hb:cQ (bN H m) all=some [.agg (FI b)])(hg:ak Tryz.prog 49=true):aa Tryz.prog N o T H (.agg (dn (k+3) (k+2) (k+4) (k+5) (k+6) b)) (H++[.dead,.dead,cU b.ag,c5 b.au,c7 b.aq,bh b.plan,bh b.b6]):=by
 have:=aa.tg (N:=N) (T:=T) (H:=H) m (FE b h1 h2 h3 h4 h5) (by simp only[Lc,dn,iS,sU];rfl) (by
  simp only[Rv,List.all_nil,c5,cU,c7,bh,jO (eB (f:=Ck.Sk.cells) (fun _=>rfl) _),jO (eB (f:=Rx.bM.cells) (fun _=>rfl) _),jO (eB (f:=Di.cO.cells) (fun _=>rfl) _),jO (eB (f:=Di.cE) (fun _=>rfl) _)]
  rfl) ho hf hxs hc hb hg
 have e1:aX (BO H.length) (.agg (dn 3 2 4 5 6 b))= .agg (dn (k+3) (k+2) (k+4) (k+5) (k+6) b):=by
  show V.agg (bn (BO H.length) (dn 3 2 4 5 6 b))=_
  have up:∀ i n,aX (BO H.length) (aV i n)=aV (k+i) n:=fun i n=>cz (by unfold BO;rw[hk])
  simp only[dn,bF,b8,up,dQ]
 have e2:([.dead,.dead,cU b.ag,c5 b.au,c7 b.aq,bh b.plan,bh b.b6]:List ai).map (aE (BO H.length))=[.dead,.dead,cU b.ag,c5 b.au,c7 b.aq,bh b.plan,bh b.b6]:=by
  simp only[ZD,zM,fq,c5,cU,c7,bh,bA]
 rw[e1,e2] at this
 exact this
theorem jZ{n0:Nat}{ms:List Nat}{i1 i2 i3 i4 i5:Nat}{b:bG}(h1:i1<n0)(h2:i2<n0)(h3:i3<n0)(h4:i4<n0)(h5:i5<n0):bn (sg n0 ms) (dn i1 i2 i3 i4 i5 b)=dn i1 i2 i3 i4 i5 b:=by
 simp only[dn,bF,b8,dQ,cP h1,cP h2,cP h3,cP h4,cP h5]
theorem AE(b:bG)(p:Di.bB)(l:List RB)(r:RB)(h8:l.length<=8):ax Tryz.prog 108 [.ptr 0 11] (ff b p (.row 6 (l.length+1)) (c6 (l++[r]))) (fun v H2=>v= .tuple [.agg r.cells,.p (.bool true)]∧H2=[cv b p (.row 6 l.length) 1 2 3 4 5,c5 b.au,cU b.ag,c7 b.aq,bh b.plan,bh b.b6,c6 (l++[r]),.cells r.cells 59]):=by
 refine ax.start (N:=28) Tryz.func108 rfl rfl Kn ?_
 iterate 9 refine af ?_
 refine Kc (Kl (.row 6 (l.length+1))) ?_
 iterate 9 refine af ?_
 refine Ki (fun hc0=> ?_) fun hc0=> ?_
 ·exfalso
  have h:=Zf hc0
  omega
 ·iterate 5 refine af ?_
  refine Kc (Kl (.row 6 (l.length+1))) ?_
  refine af ?_
  refine Kc (aa.iC (m:=((l.length:Nat):Int)) rfl rfl rfl ((aH ?_).trans ?_)) ?_
  ·omega
  ·omega
  refine Kc (aa.Bt rfl rfl rfl an Yb (by omega)) ?_
  refine Kc (aa.load (v:= .agg r.cells) rfl rfl an (MJ rfl)) ?_
  refine Kz (aa.store (H':=[cv b p (.row 6 (l.length+1)) 1 2 3 4 5,c5 b.au,cU b.ag,c7 b.aq,bh b.plan,bh b.b6,c6 (l++[r]),.cells r.cells 59]) rfl rfl rfl rfl rfl an rfl rfl) ?_
  iterate 6 refine af ?_
  refine Kc (Kl (.row 6 (l.length+1))) ?_
  refine af ?_
  refine Kc (aa.iC (m:=((l.length:Nat):Int)) rfl rfl rfl ((aH ?_).trans ?_)) ?_
  ·omega
  ·omega
  refine Kc (aa.Fq (h:=l.length) rfl rfl rfl an Yb (by omega)) ?_
  refine af ?_
  refine Kz (aa.store (H':=[cv b p (.row 6 l.length) 1 2 3 4 5,c5 b.au,cU b.ag,c7 b.aq,bh b.plan,bh b.b6,c6 (l++[r]),.cells r.cells 59]) rfl rfl rfl rfl rfl an rfl rfl) ?_
  iterate 3 refine af ?_
  refine Kc (Kl (.agg r.cells)) ?_
  refine Kz (aa.store (H':=[cv b p (.row 6 l.length) 1 2 3 4 5,c5 b.au,cU b.ag,c7 b.aq,bh b.plan,bh b.b6,c6 (l++[r]),.cells r.cells 59]) rfl rfl rfl rfl rfl an rfl rfl) ?_
  iterate 3 refine af ?_
  exact⟨.inr rfl,_,eK.many (vs:=[.agg r.cells,.p (.bool true)]) rfl ⟨_,_,rfl,⟨_,_,_,rfl,an,rfl⟩,⟨_,_,rfl,rfl,rfl⟩⟩,rfl,rfl⟩
theorem Bm(b:bG)(p:Di.bB)(um:V)(M:ai)(hu:B6 um=some 0):ax Tryz.prog 108 [.ptr 0 11] (ff b p um M) (fun v H2=>v= .p (.tuple [.agg [.nilSlice,.nilSlice,.nilSlice,.nilSlice,.int .i64 0,.int .i64 0,.nilSlice],.bool false])∧H2=[cv b p um 1 2 3 4 5,c5 b.au,cU b.ag,c7 b.aq,bh b.plan,bh b.b6,M,.cells ([.nilSlice,.nilSlice,.nilSlice,.nilSlice,.int .i64 0,.int .i64 0,.nilSlice].map .p) 59]):=by
 refine ax.start (N:=28) Tryz.func108 rfl rfl Kn ?_
 iterate 9 refine af ?_
 refine Kc (Kl (um)) ?_
 refine Kc (aa.aQ rfl rfl an hu) ?_
 iterate 8 refine af ?_
 refine Ki (fun hc0=> ?_) fun hc0=> ?_
 ·iterate 3 refine af ?_
  refine Kz (aa.store (H':=[cv b p um 1 2 3 4 5,c5 b.au,cU b.ag,c7 b.aq,bh b.plan,bh b.b6,M,.cells ([.nilSlice,.nilSlice,.nilSlice,.nilSlice,.int .i64 0,.int .i64 0,.nilSlice].map .p) 59]) rfl rfl rfl rfl rfl an rfl rfl) ?_
  iterate 3 refine af ?_
  exact⟨.inr rfl,_,eK.many (vs:=[.p (.agg [.nilSlice,.nilSlice,.nilSlice,.nilSlice,.int .i64 0,.int .i64 0,.nilSlice]),.p (.bool false)]) rfl ⟨_,_,rfl,⟨_,_,_,rfl,an,rfl⟩,⟨_,_,rfl,rfl,rfl⟩⟩,rfl,rfl⟩
 ·exfalso
  have h:=Zh hc0
  exact h rfl
theorem CU{b:bG}{p:Di.bB}{n0 i1 i2 i3 i4 i5:Nat}{um:V}{ms:List Nat}(hu:aX (sg n0 ms) um=um)(h1:i1<n0)(h2:i2<n0)(h3:i3<n0)(h4:i4<n0)(h5:i5<n0):aE (sg n0 ms) (cv b p um i1 i2 i3 i4 i5)=cv b p um i1 i2 i3 i4 i5:=by
 unfold cv
 show ai.cells (bn _ (_++_++_)) _=_
 rw[bD,bD,jZ h1 h2 h3 h4 h5,aY]
 simp only[bF,b8,hu,dQ]
theorem GY(b:bG)(p:Di.bB):([cv b p .z0 1 2 3 4 5,c5 b.au,cU b.ag,c7 b.aq,bh b.plan,bh b.b6,.dead,.dead,.dead,cU b.ag,c5 b.au,c7 b.aq,bh b.plan,bh b.b6]++[ai.cells (dn 10 9 11 12 13 b) 59]).map (aE (sg 15 []))=[cv b p .z0 1 2 3 4 5,c5 b.au,cU b.ag,c7 b.aq,bh b.plan,bh b.b6,.dead,.dead,.dead,cU b.ag,c5 b.au,c7 b.aq,bh b.plan,bh b.b6]++[ai.cells (dn 10 9 11 12 13 b) 59]:=by
 simp only[ZH,ZD,zM,c5,cU,c7,bh,bA,fq,bL,CU (n0:=15) (um:= .z0) rfl (show 1<15 by decide) (show 2<15 by decide) (show 3<15 by decide) (show 4<15 by decide) (show 5<15 by decide),jZ (n0:=15) (show 10<15 by decide) (show 9<15 by decide) (show 11<15 by decide) (show 12<15 by decide) (show 13<15 by decide)]
theorem KE(b:bG)(p:Di.bB)(l:List RB):([cv b p (.row 6 l.length) 1 2 3 4 5,c5 b.au,cU b.ag,c7 b.aq,bh b.plan,bh b.b6,c6 l,.dead,.dead,cU b.ag,c5 b.au,c7 b.aq,bh b.plan,bh b.b6]++[ai.cells (dn 10 9 11 12 13 b) 59]).map (aE (sg 15 []))=[cv b p (.row 6 l.length) 1 2 3 4 5,c5 b.au,cU b.ag,c7 b.aq,bh b.plan,bh b.b6,c6 l,.dead,.dead,cU b.ag,c5 b.au,c7 b.aq,bh b.plan,bh b.b6]++[ai.cells (dn 10 9 11 12 13 b) 59]:=by
 simp only[ZH,ZD,zM,c5,cU,c7,bh,bA,fq,gP,bL,CU (n0:=15) (um:=(.row 6 l.length)) rfl (show 1<15 by decide) (show 2<15 by decide) (show 3<15 by decide) (show 4<15 by decide) (show 5<15 by decide),jZ (n0:=15) (show 10<15 by decide) (show 9<15 by decide) (show 11<15 by decide) (show 12<15 by decide) (show 13<15 by decide)]
theorem RL(b:bG)(p:Di.bB):ax Tryz.prog 106 [.ptr 0 11,.agg (dn 10 9 11 12 13 b)] [cv b p .z0 1 2 3 4 5,c5 b.au,cU b.ag,c7 b.aq,bh b.plan,bh b.b6,.dead,.dead,.dead,cU b.ag,c5 b.au,c7 b.aq,bh b.plan,bh b.b6] (fun v H2=>v= .p (.tuple [])∧H2=[cv b p (.row 16 1) 1 2 3 4 5,c5 b.au,cU b.ag,c7 b.aq,bh b.plan,bh b.b6,.dead,.dead,.dead,cU b.ag,c5 b.au,c7 b.aq,bh b.plan,bh b.b6,.cells (dn 10 9 11 12 13 b) 59,.row (dn 10 9 11 12 13 b) 59,.row (dn 10 9 11 12 13 b) 59]):=by
 refine ax.start (N:=12) Tryz.func106 rfl rfl Kn ?_
 iterate 2 refine af ?_
 refine Kc (aa.iK rfl rfl rfl) ?_
 refine af ?_
 refine aB.wg (H':=[cv b p .z0 1 2 3 4 5,c5 b.au,cU b.ag,c7 b.aq,bh b.plan,bh b.b6,.dead,.dead,.dead,cU b.ag,c5 b.au,c7 b.aq,bh b.plan,bh b.b6]++[.cells (dn 10 9 11 12 13 b) 59]) rfl ?_
 refine aB.bU 7 2 [15,16] [([],false),([],false),([],false),([],false),([],false),([15],true),([16,15],true)] mixed (by kernel_rfl) (by decide) (by kernel_rfl) rfl (GY b p) ?_
 iterate 2 refine af ?_
 refine bu.cons 6 rfl rfl rfl (fun _=>(aa.nilCheck rfl rfl)) rfl ?_
 refine bu.cons 7 rfl rfl rfl (fun _=>(Kl (.z0))) rfl ?_
 refine bu.cons 8 rfl rfl rfl (fun _=>(aa.load (v:= .agg (dn 10 9 11 12 13 b)) rfl rfl an (show cW _ _ _ _=_ from congrArg some (wo 10 9 11 12 13 b)))) (by show V.agg (bn _ _)=_;rw[jZ Kn Kn Kn Kn Kn]) ?_
 refine bu.lay (blk:= .row (dn 10 9 11 12 13 b) 59) (v0:= .row 17 _) 9 15 rfl rfl rfl rfl rfl rfl rfl rfl (fun _=>(aa.zW rfl an (by decide) rfl rfl)) rfl rfl (by show ai.row (bn _ _) _=_;rw[jZ Kn Kn Kn Kn Kn]) ?_
 refine bu.lay (blk:= .row (dn 10 9 11 12 13 b) 59) (v0:= .row 17 1) 10 16 rfl rfl rfl rfl rfl rfl rfl rfl (fun _=>(aa.y4 (n:=1) (ys:=(dn 10 9 11 12 13 b)) rfl rfl rfl an an (Ae rfl rfl) (by decide) (pE 10 9 11 12 13 b) an (by decide) (by decide))) rfl rfl (by show ai.row (bn _ _) _=_;rw[jZ Kn Kn Kn Kn Kn]) ?_
 refine bu.nil ?_
 refine af ?_
 refine Kz (aa.store (H':=[cv b p (.row 16 1) 1 2 3 4 5,c5 b.au,cU b.ag,c7 b.aq,bh b.plan,bh b.b6,.dead,.dead,.dead,cU b.ag,c5 b.au,c7 b.aq,bh b.plan,bh b.b6,.cells (dn 10 9 11 12 13 b) 59,.row (dn 10 9 11 12 13 b) 59,.row (dn 10 9 11 12 13 b) 59]) rfl rfl rfl rfl rfl an rfl rfl) ?_
 refine af ?_
 exact I6
theorem Hj(b:bG)(p:Di.bB)(l:List RB)(hl:l.length<=8):ax Tryz.prog 106 [.ptr 0 11,.agg (dn 10 9 11 12 13 b)] [cv b p (.row 6 l.length) 1 2 3 4 5,c5 b.au,cU b.ag,c7 b.aq,bh b.plan,bh b.b6,c6 l,.dead,.dead,cU b.ag,c5 b.au,c7 b.aq,bh b.plan,bh b.b6] (fun v H2=>v= .p (.tuple [])∧H2=[cv b p (.row 16 (l.length+1)) 1 2 3 4 5,c5 b.au,cU b.ag,c7 b.aq,bh b.plan,bh b.b6,.dead,.dead,.dead,cU b.ag,c5 b.au,c7 b.aq,bh b.plan,bh b.b6,.cells (dn 10 9 11 12 13 b) 59,.row (dn 10 9 11 12 13 b) 59,.row (mY l++dn 10 9 11 12 13 b) 59]):=by
 refine ax.start (N:=12) Tryz.func106 rfl rfl Kn ?_
 iterate 2 refine af ?_
 refine Kc (aa.iK rfl rfl rfl) ?_
 refine af ?_
 refine aB.wg (H':=[cv b p (.row 6 l.length) 1 2 3 4 5,c5 b.au,cU b.ag,c7 b.aq,bh b.plan,bh b.b6,c6 l,.dead,.dead,cU b.ag,c5 b.au,c7 b.aq,bh b.plan,bh b.b6]++[.cells (dn 10 9 11 12 13 b) 59]) rfl ?_
 refine aB.bU 7 2 [6,15,16] [([],false),([],false),([],false),([],false),([],false),([15],true),([16,6,15],true)] mixed (by kernel_rfl) (by decide) (by kernel_rfl) rfl (KE b p l) ?_
 iterate 2 refine af ?_
 refine bu.cons 6 rfl rfl rfl (fun _=>(aa.nilCheck rfl rfl)) rfl ?_
 refine bu.cons 7 rfl rfl rfl (fun _=>(Kl ((.row 6 l.length)))) rfl ?_
 refine bu.cons 8 rfl rfl rfl (fun _=>(aa.load (v:= .agg (dn 10 9 11 12 13 b)) rfl rfl an (show cW _ _ _ _=_ from congrArg some (wo 10 9 11 12 13 b)))) (by show V.agg (bn _ _)=_;rw[jZ Kn Kn Kn Kn Kn]) ?_
 refine bu.lay (blk:= .row (dn 10 9 11 12 13 b) 59) (v0:= .row 17 _) 9 15 rfl rfl rfl rfl rfl rfl rfl rfl (fun _=>(aa.zW rfl an (by decide) rfl rfl)) rfl rfl (by show ai.row (bn _ _) _=_;rw[jZ Kn Kn Kn Kn Kn]) ?_
 refine bu.JD (blk:= .row (mY l++dn 10 9 11 12 13 b) 59) (v0:= .row 17 _) 10 16 6 rfl rfl rfl rfl rfl rfl rfl rfl rfl rfl (fun _=>(aa.qW (i:=6) (len:=l.length) (cs:=mY l) (ys:=(dn 10 9 11 12 13 b)) (n:=1) rfl rfl rfl an an rfl (qv l) (Ae rfl rfl) (pE 10 9 11 12 13 b) an (by decide) (by show(2*(l.length+1)+192)*136<=281474976710656;omega))) rfl rfl (by show ai.row (bn _ (_++_)) _=_;rw[bD,sY,jZ Kn Kn Kn Kn Kn]) ?_
 refine bu.nil ?_
 refine af ?_
 refine Kz (aa.store (H':=[cv b p (.row 16 (l.length+1)) 1 2 3 4 5,c5 b.au,cU b.ag,c7 b.aq,bh b.plan,bh b.b6,.dead,.dead,.dead,cU b.ag,c5 b.au,c7 b.aq,bh b.plan,bh b.b6,.cells (dn 10 9 11 12 13 b) 59,.row (dn 10 9 11 12 13 b) 59,.row (mY l++dn 10 9 11 12 13 b) 59]) rfl rfl rfl rfl rfl an rfl rfl) ?_
 refine af ?_
 exact I6
theorem SW(F:cK)(n:List Int)(hF:mo F)(hl:0=F.marks.length):av Tryz.prog 105 [.ptr 0 0,.p (Di.bI n)] (ff F.b F.aP .z0 .dead) (fun v H2=>(br F .mark n).2.2=0∧v= .p (.str (sB (br F .mark n).2.1))∧H2=[cv F.b F.aP (.row 16 1) 1 2 3 4 5,c5 F.b.au,cU F.b.ag,c7 F.b.aq,bh F.b.plan,bh F.b.b6,.dead,.dead,.dead,cU F.b.ag,c5 F.b.au,c7 F.b.aq,bh F.b.plan,bh F.b.b6,.cells (dn 10 9 11 12 13 F.b) 59,.row (dn 10 9 11 12 13 F.b) 59,.row (dn 10 9 11 12 13 F.b) 59]) (fun y H2=>(br F .mark n).2.2≠0∧y= .iface 106 (.agg [.int .i64 (br F .mark n).2.2])∧H2=ff F.b F.aP .z0 .dead):=by
 have js:=Rx.cx hF.b.cd
 have sP:=hF.b.sk
 have qZ:=hF.b.dr
 have YR:=hF.b.ck
 obtain⟨u0,LS⟩:=hF.b.Dd
 have Nq:=ew LS
 have N8:=hF.mm
 refine av.start (N:=30) Tryz.func105 rfl rfl Kn ?_
 iterate 9 refine af ?_
 refine Kc (Kl (.z0)) ?_
 iterate 2 refine af ?_
 refine aj.cg 11 (b:=_) (dh _ 9) (de _ 9) rfl rfl rfl rfl rfl rfl rfl an (fun hb=> ?_) (fun hb=> ?_)
 ·exact absurd hb (by decide)
 iterate 2 refine af ?_
 refine aB.jQ 8 ([cv F.b F.aP .z0 1 2 3 4 5,c5 F.b.au,cU F.b.ag,c7 F.b.aq,bh F.b.plan,bh F.b.b6,.dead,.dead,.dead,cU F.b.ag,c5 F.b.au,c7 F.b.aq,bh F.b.plan,bh F.b.b6]) mixed (by kernel_rfl) (by decide) ?_
 refine aF.cons 12 rfl rfl rfl (aa.move rfl rfl) (aa.move rfl rfl) ?_
 refine aF.cons 13 rfl rfl rfl (aa.nilCheck rfl rfl) (aa.nilCheck rfl rfl) ?_
 refine aF.cons 14 rfl rfl rfl (aa.fieldAddr rfl rfl an rfl) (aa.fieldAddr rfl rfl an rfl) ?_
 refine aF.cons 15 rfl rfl rfl (aa.move rfl rfl) (aa.move rfl rfl) ?_
 refine aF.cons 16 rfl rfl rfl (aa.nilCheck rfl rfl) (aa.nilCheck rfl rfl) ?_
 refine aF.cons 17 rfl rfl rfl (aa.fieldAddr rfl rfl an rfl) (aa.fieldAddr rfl rfl an rfl) ?_
 refine aF.cons 18 rfl rfl rfl (aa.load (v:= .agg (dn 1 2 3 4 5 F.b)) rfl rfl an (show cW _ _ _ _=_ from congrArg some (wo 1 2 3 4 5 F.b))) (aa.load (v:= .agg (dn 1 2 3 4 5 F.b)) rfl rfl an (show cW _ _ _ _=_ from congrArg some (wo 1 2 3 4 5 F.b))) ?_
 refine aF.lay 19 rfl rfl rfl (sX 4 7 F.b (by omega) (by omega) (by omega) (by omega) (by omega) rfl rfl rfl rfl rfl (G7 rfl rfl rfl rfl rfl) an) ?_
 refine aF.nil ?_
 refine Kc (aa.gr rfl rfl rfl rfl an (RL F.b F.aP)) ?_
 iterate 3 refine af ?_
 refine Kc (aa.aD rfl rfl lA) ?_
 iterate 3 refine af ?_
 refine Kc (Kl (.row 16 1)) ?_
 refine af ?_
 refine Kc (aa.aD rfl rfl jV) ?_
 refine Kc (aa.aU rfl an (by decide) rfl rfl rfl) ?_
 refine Kc (Kp (c8 [.str (Vb.t .mark),.num ((1:Nat):Int)] Kn Kn (fu (by decide) (eD (by omega) fS)))) ?_
 iterate 3 refine af ?_
 have hd:br F .mark n=({F with marks:=F.marks++[F.b]},aS (Vb.t .mark) [((1:Nat):Int)],0):=by unfold br;dsimp only;rw[if_neg (by omega),<- hl];rfl
 exact IK
theorem RU(F:cK)(n:List Int)(l:List RB)(hF:mo F)(hl:l.length=F.marks.length):av Tryz.prog 105 [.ptr 0 0,.p (Di.bI n)] (ff F.b F.aP (.row 6 l.length) (c6 l)) (fun v H2=>(br F .mark n).2.2=0∧v= .p (.str (sB (br F .mark n).2.1))∧H2=[cv F.b F.aP (.row 16 (l.length+1)) 1 2 3 4 5,c5 F.b.au,cU F.b.ag,c7 F.b.aq,bh F.b.plan,bh F.b.b6,.dead,.dead,.dead,cU F.b.ag,c5 F.b.au,c7 F.b.aq,bh F.b.plan,bh F.b.b6,.cells (dn 10 9 11 12 13 F.b) 59,.row (dn 10 9 11 12 13 F.b) 59,.row (mY l++dn 10 9 11 12 13 F.b) 59]) (fun y H2=>(br F .mark n).2.2≠0∧y= .iface 106 (.agg [.int .i64 (br F .mark n).2.2])∧H2=ff F.b F.aP (.row 6 l.length) (c6 l)):=by
 have js:=Rx.cx hF.b.cd
 have sP:=hF.b.sk
 have qZ:=hF.b.dr
 have YR:=hF.b.ck
 obtain⟨u0,LS⟩:=hF.b.Dd
 have Nq:=ew LS
 have N8:=hF.mm
 refine av.start (N:=30) Tryz.func105 rfl rfl Kn ?_
 iterate 9 refine af ?_
 refine Kc (Kl ((.row 6 l.length))) ?_
 iterate 2 refine af ?_
 refine aj.cg 11 (b:=_) (dh _ 9) (de _ 9) rfl rfl rfl rfl rfl rfl rfl an (fun hb=> ?_) (fun hb=> ?_)
 ·have h9:(br F .mark n).2.2=9:=by unfold br;dsimp only;rw[if_pos (by have h:=Zh hb;omega)]
  exact⟨_,rfl,by rw[h9];decide,by rw[h9],rfl⟩
 have h8:l.length<8:=by have h:=Zf hb;omega
 iterate 2 refine af ?_
 refine aB.jQ 8 ([cv F.b F.aP (.row 6 l.length) 1 2 3 4 5,c5 F.b.au,cU F.b.ag,c7 F.b.aq,bh F.b.plan,bh F.b.b6,(c6 l),.dead,.dead,cU F.b.ag,c5 F.b.au,c7 F.b.aq,bh F.b.plan,bh F.b.b6]) mixed (by kernel_rfl) (by decide) ?_
 refine aF.cons 12 rfl rfl rfl (aa.move rfl rfl) (aa.move rfl rfl) ?_
 refine aF.cons 13 rfl rfl rfl (aa.nilCheck rfl rfl) (aa.nilCheck rfl rfl) ?_
 refine aF.cons 14 rfl rfl rfl (aa.fieldAddr rfl rfl an rfl) (aa.fieldAddr rfl rfl an rfl) ?_
 refine aF.cons 15 rfl rfl rfl (aa.move rfl rfl) (aa.move rfl rfl) ?_
 refine aF.cons 16 rfl rfl rfl (aa.nilCheck rfl rfl) (aa.nilCheck rfl rfl) ?_
 refine aF.cons 17 rfl rfl rfl (aa.fieldAddr rfl rfl an rfl) (aa.fieldAddr rfl rfl an rfl) ?_
 refine aF.cons 18 rfl rfl rfl (aa.load (v:= .agg (dn 1 2 3 4 5 F.b)) rfl rfl an (show cW _ _ _ _=_ from congrArg some (wo 1 2 3 4 5 F.b))) (aa.load (v:= .agg (dn 1 2 3 4 5 F.b)) rfl rfl an (show cW _ _ _ _=_ from congrArg some (wo 1 2 3 4 5 F.b))) ?_
 refine aF.lay 19 rfl rfl rfl (sX 4 7 F.b (by omega) (by omega) (by omega) (by omega) (by omega) rfl rfl rfl rfl rfl (G7 rfl rfl rfl rfl rfl) an) ?_
 refine aF.nil ?_
 refine Kc (aa.gr rfl rfl rfl rfl an (Hj F.b F.aP l (by omega))) ?_
 iterate 3 refine af ?_
 refine Kc (aa.aD rfl rfl lA) ?_
 iterate 3 refine af ?_
 refine Kc (Kl (.row 16 (l.length+1))) ?_
 refine af ?_
 refine Kc (aa.aD rfl rfl jV) ?_
 refine Kc (aa.aU rfl an (by decide) rfl rfl rfl) ?_
 refine Kc (Kp (c8 [.str (Vb.t .mark),.num ((l.length+1:Nat):Int)] Kn Kn (fu (by decide) (eD (by omega) fS)))) ?_
 iterate 3 refine af ?_
 have hd:br F .mark n=({F with marks:=F.marks++[F.b]},aS (Vb.t .mark) [((l.length+1:Nat):Int)],0):=by unfold br;dsimp only;rw[if_neg (by omega),<- hl];rfl
 exact IK
theorem FH(F:cK)(n:List Int)(l:List RB)(r:RB)(fs:List bG)(x:bG)(hm:F.marks=fs++[x])(hl:l.length=fs.length)(h8:l.length<=8):av Tryz.prog 107 [.ptr 0 0,.p (Di.bI n)] (ff F.b F.aP (.row 6 (l.length+1)) (c6 (l++[r]))) (fun v H2=>(br F .back n).2.2=0∧v= .p (.str (sB (br F .back n).2.1))∧H2=[.cells (r.cells++F.aP.cells.map .p++[.row 6 l.length,.p (.bool true)]) 63,c5 F.b.au,cU F.b.ag,c7 F.b.aq,bh F.b.plan,bh F.b.b6,c6 (l++[r]),.cells r.cells 59,.cells r.cells 59]) (fun _ _=>False):=by
 refine av.start (N:=29) Tryz.func107 rfl rfl Kn ?_
 iterate 9 refine af ?_
 refine Kc (aa.gr rfl rfl rfl rfl an (AE F.b F.aP l r h8)) ?_
 iterate 4 refine af ?_
 refine Kz (aa.store (H':=[cv F.b F.aP (.row 6 l.length) 1 2 3 4 5,c5 F.b.au,cU F.b.ag,c7 F.b.aq,bh F.b.plan,bh F.b.b6,c6 (l++[r]),.cells r.cells 59,.cells r.cells 59]) rfl rfl rfl rfl rfl an rfl rfl) ?_
 iterate 5 refine af ?_
 refine Kc (Kp (uq 4)) ?_
 iterate 4 refine af ?_
 refine Kc (Kl (.agg r.cells)) ?_
 iterate 2 refine af ?_
 refine Kz (aa.store (H':=[.cells (r.cells++F.aP.cells.map .p++[.row 6 l.length,.p (.bool true)]) 63,c5 F.b.au,cU F.b.ag,c7 F.b.aq,bh F.b.plan,bh F.b.b6,c6 (l++[r]),.cells r.cells 59,.cells r.cells 59]) rfl rfl rfl rfl rfl an rfl rfl) ?_
 iterate 3 refine af ?_
 refine Kc (aa.aD rfl rfl lA) ?_
 iterate 3 refine af ?_
 refine Kc (Kl (.row 6 l.length)) ?_
 refine af ?_
 refine Kc (aa.aD rfl rfl jV) ?_
 refine Kc (aa.aU rfl an (by decide) rfl rfl rfl) ?_
 refine Kc (Kp (c8 [.str (Vb.t .back),.num ((l.length:Nat):Int)] Kn Kn (fu (by decide) (eD (by omega) fS)))) ?_
 iterate 3 refine af ?_
 have hd:br F .back n=({F with b:=x,marks:=fs},aS (Vb.t .back) [((l.length:Nat):Int)],0):=by unfold br;rw[hm];simp[hl]
 exact IK
theorem Gb(F:cK)(n:List Int)(um:V)(M:ai)(hm:F.marks=[])(hu:B6 um=some 0):av Tryz.prog 107 [.ptr 0 0,.p (Di.bI n)] (ff F.b F.aP um M) (fun _ _=>False) (fun y H2=>(br F .back n).2.2≠0∧y= .iface 106 (.agg [.int .i64 (br F .back n).2.2])∧H2=[cv F.b F.aP um 1 2 3 4 5,c5 F.b.au,cU F.b.ag,c7 F.b.aq,bh F.b.plan,bh F.b.b6,M,.cells ([.nilSlice,.nilSlice,.nilSlice,.nilSlice,.int .i64 0,.int .i64 0,.nilSlice].map .p) 59,.cells ([.nilSlice,.nilSlice,.nilSlice,.nilSlice,.int .i64 0,.int .i64 0,.nilSlice].map .p) 59]):=by
 refine av.start (N:=29) Tryz.func107 rfl rfl Kn ?_
 iterate 9 refine af ?_
 refine Kc (aa.gr rfl rfl rfl rfl an (Bm F.b F.aP um M hu)) ?_
 iterate 4 refine af ?_
 refine Kz (aa.store (H':=[cv F.b F.aP um 1 2 3 4 5,c5 F.b.au,cU F.b.ag,c7 F.b.aq,bh F.b.plan,bh F.b.b6,M,.cells ([.nilSlice,.nilSlice,.nilSlice,.nilSlice,.int .i64 0,.int .i64 0,.nilSlice].map .p) 59,.cells ([.nilSlice,.nilSlice,.nilSlice,.nilSlice,.int .i64 0,.int .i64 0,.nilSlice].map .p) 59]) rfl rfl rfl rfl rfl an rfl rfl) ?_
 iterate 5 refine af ?_
 refine aj.cg 15 (b:=false) (dh false 4) (de false 4) rfl rfl rfl rfl rfl rfl rfl an (fun hb=> ?_) (fun hb=> ?_)
 ·have h4:(br F .back n).2.2=4:=by unfold br;rw[hm];rfl
  exact⟨_,rfl,by rw[h4];decide,by rw[h4],rfl⟩
 cases hb
theorem Fz(F:cK)(n:List Int)(l:List RB)(r:RB)(fs:List bG)(x:bG)(hm:F.marks=fs++[x])(hl:l.length=fs.length)(h8:l.length<=8):av Tryz.prog 109 [.ptr 0 0,.p (Di.bI n)] (ff F.b F.aP (.row 6 (l.length+1)) (c6 (l++[r]))) (fun v H2=>(br F .keep n).2.2=0∧v= .p (.str (sB (br F .keep n).2.1))∧H2=[cv F.b F.aP (.row 6 l.length) 1 2 3 4 5,c5 F.b.au,cU F.b.ag,c7 F.b.aq,bh F.b.plan,bh F.b.b6,c6 (l++[r]),.cells r.cells 59,.cells r.cells 59]) (fun _ _=>False):=by
 refine av.start (N:=25) Tryz.func109 rfl rfl Kn ?_
 iterate 9 refine af ?_
 refine Kc (aa.gr rfl rfl rfl rfl an (AE F.b F.aP l r h8)) ?_
 iterate 4 refine af ?_
 refine Kz (aa.store (H':=[cv F.b F.aP (.row 6 l.length) 1 2 3 4 5,c5 F.b.au,cU F.b.ag,c7 F.b.aq,bh F.b.plan,bh F.b.b6,c6 (l++[r]),.cells r.cells 59,.cells r.cells 59]) rfl rfl rfl rfl rfl an rfl rfl) ?_
 iterate 5 refine af ?_
 refine Kc (Kp (uq 4)) ?_
 iterate 3 refine af ?_
 refine Kc (aa.aD rfl rfl lA) ?_
 iterate 3 refine af ?_
 refine Kc (Kl (.row 6 l.length)) ?_
 refine af ?_
 refine Kc (aa.aD rfl rfl jV) ?_
 refine Kc (aa.aU rfl an (by decide) rfl rfl rfl) ?_
 refine Kc (Kp (c8 [.str (Vb.t .keep),.num ((l.length:Nat):Int)] Kn Kn (fu (by decide) (eD (by omega) fS)))) ?_
 iterate 3 refine af ?_
 have hd:br F .keep n=({F with marks:=fs},aS (Vb.t .keep) [((l.length:Nat):Int)],0):=by unfold br;rw[hm];simp[hl]
 exact IK
theorem FB(F:cK)(n:List Int)(um:V)(M:ai)(hm:F.marks=[])(hu:B6 um=some 0):av Tryz.prog 109 [.ptr 0 0,.p (Di.bI n)] (ff F.b F.aP um M) (fun _ _=>False) (fun y H2=>(br F .keep n).2.2≠0∧y= .iface 106 (.agg [.int .i64 (br F .keep n).2.2])∧H2=[cv F.b F.aP um 1 2 3 4 5,c5 F.b.au,cU F.b.ag,c7 F.b.aq,bh F.b.plan,bh F.b.b6,M,.cells ([.nilSlice,.nilSlice,.nilSlice,.nilSlice,.int .i64 0,.int .i64 0,.nilSlice].map .p) 59,.cells ([.nilSlice,.nilSlice,.nilSlice,.nilSlice,.int .i64 0,.int .i64 0,.nilSlice].map .p) 59]):=by
 refine av.start (N:=25) Tryz.func109 rfl rfl Kn ?_
 iterate 9 refine af ?_
 refine Kc (aa.gr rfl rfl rfl rfl an (Bm F.b F.aP um M hu)) ?_
 iterate 4 refine af ?_
 refine Kz (aa.store (H':=[cv F.b F.aP um 1 2 3 4 5,c5 F.b.au,cU F.b.ag,c7 F.b.aq,bh F.b.plan,bh F.b.b6,M,.cells ([.nilSlice,.nilSlice,.nilSlice,.nilSlice,.int .i64 0,.int .i64 0,.nilSlice].map .p) 59,.cells ([.nilSlice,.nilSlice,.nilSlice,.nilSlice,.int .i64 0,.int .i64 0,.nilSlice].map .p) 59]) rfl rfl rfl rfl rfl an rfl rfl) ?_
 iterate 5 refine af ?_
 refine aj.cg 15 (b:=false) (dh false 4) (de false 4) rfl rfl rfl rfl rfl rfl rfl an (fun hb=> ?_) (fun hb=> ?_)
 ·have h4:(br F .keep n).2.2=4:=by unfold br;rw[hm];rfl
  exact⟨_,rfl,by rw[h4];decide,by rw[h4],rfl⟩
 cases hb
def j5(x:Int×FuncId):PV:= .agg [.int .i64 x.1,.func (.func x.2) [] []]
def kq:Vb->FuncId
 | .oS=>90
 | .slat=>91
 | .lead=>93
 | .pencil=>94
 | .bad=>95
 | .good=>97
 | .blame=>98
 | .call=>101
 | .from_=>102
 | .wear=>103
 | .mark=>105
 | .back=>107
 | .keep=>109
def mG:List (ByteArray×(Int×FuncId)):=(aW (sB [107,101,101,112]) ((0:Int),(109:FuncId)) (aW (sB [98,97,99,107]) ((0:Int),(107:FuncId)) (aW (sB [109,97,114,107]) ((0:Int),(105:FuncId)) (aW (sB [119,101,97,114]) ((1:Int),(103:FuncId)) (aW (sB [102,114,111,109]) ((1:Int),(102:FuncId)) (aW (sB [99,97,108,108]) ((0:Int),(101:FuncId)) (aW (sB [98,108,97,109,101]) ((0:Int),(98:FuncId)) (aW (sB [103,111,111,100]) ((1:Int),(97:FuncId)) (aW (sB [98,97,100]) ((1:Int),(95:FuncId)) (aW (sB [112,101,110,99,105,108]) ((3:Int),(94:FuncId)) (aW (sB [108,101,97,100]) ((8:Int),(93:FuncId)) (aW (sB [115,108,97,116]) ((0:Int),(91:FuncId)) (aW (sB [115,97,99,107]) ((6:Int),(90:FuncId)) [])))))))))))))
theorem XU{a b:Bs}:sB a=sB b↔a=b:=⟨fun h=>by rw[<- ji a,h,ji],fun h=>by rw[h]⟩
theorem F6(s:Bs):cD (sB s) mG=(jH s).map fun v=>((v.many:Int),kq v):=by
 unfold mG
 simp only[j9,XU]
 cases h:jH s with
 | some v=>
  have e:=xZ h
  subst e
  cases v <;> rfl
 | none=>
  have hn:=FZ h
  simp only[if_neg (show ¬ s=[115,97,99,107] from fun e=>hn .oS e.symm),if_neg (show ¬ s=[115,108,97,116] from fun e=>hn .slat e.symm),if_neg (show ¬ s=[108,101,97,100] from fun e=>hn .lead e.symm),if_neg (show ¬ s=[112,101,110,99,105,108] from fun e=>hn .pencil e.symm),if_neg (show ¬ s=[98,97,100] from fun e=>hn .bad e.symm),if_neg (show ¬ s=[103,111,111,100] from fun e=>hn .good e.symm),if_neg (show ¬ s=[98,108,97,109,101] from fun e=>hn .blame e.symm),if_neg (show ¬ s=[99,97,108,108] from fun e=>hn .call e.symm),if_neg (show ¬ s=[102,114,111,109] from fun e=>hn .from_ e.symm),if_neg (show ¬ s=[119,101,97,114] from fun e=>hn .wear e.symm),if_neg (show ¬ s=[109,97,114,107] from fun e=>hn .mark e.symm),if_neg (show ¬ s=[98,97,99,107] from fun e=>hn .back e.symm),if_neg (show ¬ s=[107,101,101,112] from fun e=>hn .keep e.symm)]
  rfl
theorem Rg{N:Nat}{T:Tm}{H:List ai}{o:Oper}(s:Bs){x y:Operand}{t:TypeId}{z:PV}(ho:o.op= .lookup t x y true)(hx:ev T x=some (.p (lG PV.str j5 mG)))(hy:ev T y=some (.p (.str (sB s))))(ht:oc Tryz.prog t=some (.string,z)):aa Tryz.prog N o T H (jC [(((jH s).map fun v=>V.p (j5 ((v.many:Int),kq v))).getD (.p z)),.p (.bool (jH s).isSome)]) H:=by
 have h:=aa.AB (N:=N) (H:=H) dx.str (gp:=j5) (ms:=mG) (n:=sB s) (ok:=true) ho hx hy ht
 rw[F6 s] at h
 unfold Am at h
 rw[if_pos rfl,Option.map_map,Option.isSome_map] at h
 exact h
theorem ql:Pure Tryz.prog 52 [] (lG PV.str j5 mG):=by
 refine Kf (N:=16) Tryz.func52 ?_
 iterate 6 refine af ?_
 refine Kc (aa.makeMap (enc:=PV.str) (g:=fun x=>V.p (j5 x)) rfl) ?_
 refine af ?_
 refine Kz (aa.mapUpdate (enc:=PV.str) (g:=fun x=>V.p (j5 x)) (ms:=[]) (n:=sB [115,97,99,107]) (c:=((6:Int),(90:FuncId))) dx.str (.inr rfl) rfl rfl rfl rfl iA) ?_
 refine af ?_
 refine Kz (aa.mapUpdate (enc:=PV.str) (g:=fun x=>V.p (j5 x)) (ms:=(aW (sB [115,97,99,107]) ((6:Int),(90:FuncId)) [])) (n:=sB [115,108,97,116]) (c:=((0:Int),(91:FuncId))) dx.str (.inr rfl) rfl rfl rfl rfl iA) ?_
 refine af ?_
 refine Kz (aa.mapUpdate (enc:=PV.str) (g:=fun x=>V.p (j5 x)) (ms:=(aW (sB [115,108,97,116]) ((0:Int),(91:FuncId)) (aW (sB [115,97,99,107]) ((6:Int),(90:FuncId)) []))) (n:=sB [108,101,97,100]) (c:=((8:Int),(93:FuncId))) dx.str (.inr rfl) rfl rfl rfl rfl iA) ?_
 refine af ?_
 refine Kz (aa.mapUpdate (enc:=PV.str) (g:=fun x=>V.p (j5 x)) (ms:=(aW (sB [108,101,97,100]) ((8:Int),(93:FuncId)) (aW (sB [115,108,97,116]) ((0:Int),(91:FuncId)) (aW (sB [115,97,99,107]) ((6:Int),(90:FuncId)) [])))) (n:=sB [112,101,110,99,105,108]) (c:=((3:Int),(94:FuncId))) dx.str (.inr rfl) rfl rfl rfl rfl iA) ?_
 refine af ?_
 refine Kz (aa.mapUpdate (enc:=PV.str) (g:=fun x=>V.p (j5 x)) (ms:=(aW (sB [112,101,110,99,105,108]) ((3:Int),(94:FuncId)) (aW (sB [108,101,97,100]) ((8:Int),(93:FuncId)) (aW (sB [115,108,97,116]) ((0:Int),(91:FuncId)) (aW (sB [115,97,99,107]) ((6:Int),(90:FuncId)) []))))) (n:=sB [98,97,100]) (c:=((1:Int),(95:FuncId))) dx.str (.inr rfl) rfl rfl rfl rfl iA) ?_
 refine af ?_
 refine Kz (aa.mapUpdate (enc:=PV.str) (g:=fun x=>V.p (j5 x)) (ms:=(aW (sB [98,97,100]) ((1:Int),(95:FuncId)) (aW (sB [112,101,110,99,105,108]) ((3:Int),(94:FuncId)) (aW (sB [108,101,97,100]) ((8:Int),(93:FuncId)) (aW (sB [115,108,97,116]) ((0:Int),(91:FuncId)) (aW (sB [115,97,99,107]) ((6:Int),(90:FuncId)) [])))))) (n:=sB [103,111,111,100]) (c:=((1:Int),(97:FuncId))) dx.str (.inr rfl) rfl rfl rfl rfl iA) ?_
 refine af ?_
 refine Kz (aa.mapUpdate (enc:=PV.str) (g:=fun x=>V.p (j5 x)) (ms:=(aW (sB [103,111,111,100]) ((1:Int),(97:FuncId)) (aW (sB [98,97,100]) ((1:Int),(95:FuncId)) (aW (sB [112,101,110,99,105,108]) ((3:Int),(94:FuncId)) (aW (sB [108,101,97,100]) ((8:Int),(93:FuncId)) (aW (sB [115,108,97,116]) ((0:Int),(91:FuncId)) (aW (sB [115,97,99,107]) ((6:Int),(90:FuncId)) []))))))) (n:=sB [98,108,97,109,101]) (c:=((0:Int),(98:FuncId))) dx.str (.inr rfl) rfl rfl rfl rfl iA) ?_
 refine af ?_
 refine Kz (aa.mapUpdate (enc:=PV.str) (g:=fun x=>V.p (j5 x)) (ms:=(aW (sB [98,108,97,109,101]) ((0:Int),(98:FuncId)) (aW (sB [103,111,111,100]) ((1:Int),(97:FuncId)) (aW (sB [98,97,100]) ((1:Int),(95:FuncId)) (aW (sB [112,101,110,99,105,108]) ((3:Int),(94:FuncId)) (aW (sB [108,101,97,100]) ((8:Int),(93:FuncId)) (aW (sB [115,108,97,116]) ((0:Int),(91:FuncId)) (aW (sB [115,97,99,107]) ((6:Int),(90:FuncId)) [])))))))) (n:=sB [99,97,108,108]) (c:=((0:Int),(101:FuncId))) dx.str (.inr rfl) rfl rfl rfl rfl iA) ?_
 refine af ?_
 refine Kz (aa.mapUpdate (enc:=PV.str) (g:=fun x=>V.p (j5 x)) (ms:=(aW (sB [99,97,108,108]) ((0:Int),(101:FuncId)) (aW (sB [98,108,97,109,101]) ((0:Int),(98:FuncId)) (aW (sB [103,111,111,100]) ((1:Int),(97:FuncId)) (aW (sB [98,97,100]) ((1:Int),(95:FuncId)) (aW (sB [112,101,110,99,105,108]) ((3:Int),(94:FuncId)) (aW (sB [108,101,97,100]) ((8:Int),(93:FuncId)) (aW (sB [115,108,97,116]) ((0:Int),(91:FuncId)) (aW (sB [115,97,99,107]) ((6:Int),(90:FuncId)) []))))))))) (n:=sB [102,114,111,109]) (c:=((1:Int),(102:FuncId))) dx.str (.inr rfl) rfl rfl rfl rfl iA) ?_
 refine af ?_
 refine Kz (aa.mapUpdate (enc:=PV.str) (g:=fun x=>V.p (j5 x)) (ms:=(aW (sB [102,114,111,109]) ((1:Int),(102:FuncId)) (aW (sB [99,97,108,108]) ((0:Int),(101:FuncId)) (aW (sB [98,108,97,109,101]) ((0:Int),(98:FuncId)) (aW (sB [103,111,111,100]) ((1:Int),(97:FuncId)) (aW (sB [98,97,100]) ((1:Int),(95:FuncId)) (aW (sB [112,101,110,99,105,108]) ((3:Int),(94:FuncId)) (aW (sB [108,101,97,100]) ((8:Int),(93:FuncId)) (aW (sB [115,108,97,116]) ((0:Int),(91:FuncId)) (aW (sB [115,97,99,107]) ((6:Int),(90:FuncId)) [])))))))))) (n:=sB [119,101,97,114]) (c:=((1:Int),(103:FuncId))) dx.str (.inr rfl) rfl rfl rfl rfl iA) ?_
 refine af ?_
 refine Kz (aa.mapUpdate (enc:=PV.str) (g:=fun x=>V.p (j5 x)) (ms:=(aW (sB [119,101,97,114]) ((1:Int),(103:FuncId)) (aW (sB [102,114,111,109]) ((1:Int),(102:FuncId)) (aW (sB [99,97,108,108]) ((0:Int),(101:FuncId)) (aW (sB [98,108,97,109,101]) ((0:Int),(98:FuncId)) (aW (sB [103,111,111,100]) ((1:Int),(97:FuncId)) (aW (sB [98,97,100]) ((1:Int),(95:FuncId)) (aW (sB [112,101,110,99,105,108]) ((3:Int),(94:FuncId)) (aW (sB [108,101,97,100]) ((8:Int),(93:FuncId)) (aW (sB [115,108,97,116]) ((0:Int),(91:FuncId)) (aW (sB [115,97,99,107]) ((6:Int),(90:FuncId)) []))))))))))) (n:=sB [109,97,114,107]) (c:=((0:Int),(105:FuncId))) dx.str (.inr rfl) rfl rfl rfl rfl iA) ?_
 refine af ?_
 refine Kz (aa.mapUpdate (enc:=PV.str) (g:=fun x=>V.p (j5 x)) (ms:=(aW (sB [109,97,114,107]) ((0:Int),(105:FuncId)) (aW (sB [119,101,97,114]) ((1:Int),(103:FuncId)) (aW (sB [102,114,111,109]) ((1:Int),(102:FuncId)) (aW (sB [99,97,108,108]) ((0:Int),(101:FuncId)) (aW (sB [98,108,97,109,101]) ((0:Int),(98:FuncId)) (aW (sB [103,111,111,100]) ((1:Int),(97:FuncId)) (aW (sB [98,97,100]) ((1:Int),(95:FuncId)) (aW (sB [112,101,110,99,105,108]) ((3:Int),(94:FuncId)) (aW (sB [108,101,97,100]) ((8:Int),(93:FuncId)) (aW (sB [115,108,97,116]) ((0:Int),(91:FuncId)) (aW (sB [115,97,99,107]) ((6:Int),(90:FuncId)) [])))))))))))) (n:=sB [98,97,99,107]) (c:=((0:Int),(107:FuncId))) dx.str (.inr rfl) rfl rfl rfl rfl iA) ?_
 refine af ?_
 refine Kz (aa.mapUpdate (enc:=PV.str) (g:=fun x=>V.p (j5 x)) (ms:=(aW (sB [98,97,99,107]) ((0:Int),(107:FuncId)) (aW (sB [109,97,114,107]) ((0:Int),(105:FuncId)) (aW (sB [119,101,97,114]) ((1:Int),(103:FuncId)) (aW (sB [102,114,111,109]) ((1:Int),(102:FuncId)) (aW (sB [99,97,108,108]) ((0:Int),(101:FuncId)) (aW (sB [98,108,97,109,101]) ((0:Int),(98:FuncId)) (aW (sB [103,111,111,100]) ((1:Int),(97:FuncId)) (aW (sB [98,97,100]) ((1:Int),(95:FuncId)) (aW (sB [112,101,110,99,105,108]) ((3:Int),(94:FuncId)) (aW (sB [108,101,97,100]) ((8:Int),(93:FuncId)) (aW (sB [115,108,97,116]) ((0:Int),(91:FuncId)) (aW (sB [115,97,99,107]) ((6:Int),(90:FuncId)) []))))))))))))) (n:=sB [107,101,101,112]) (c:=((0:Int),(109:FuncId))) dx.str (.inr rfl) rfl rfl rfl rfl iA) ?_
 iterate 3 refine af ?_
 refine aB.to (To.rM 0 (enc:=PV.str) (gp:=j5) (ms:=mG) rfl) ?_
 refine af ?_
 exact xQ
theorem xL{s w:Bs}{l:List Bs}(hw:cj s=w::l)(h:jH w=none):cB s=none:=by
 unfold cB
 rw[hw]
 simp only[h]
theorem wZ{s w:Bs}{l:List Bs}{v:Vb}(hw:cj s=w::l)(hv:jH w=some v)(h:l.length≠v.many):cB s=none:=by
 unfold cB
 rw[hw]
 simp only[hv]
 rw[if_neg h]
theorem OU{x:Bs}:wz x=true↔gS x:=by
 unfold wz
 constructor
 ·intro h
  by_cases hc:gS x
  ·exact hc
  ·rw[LM hc] at h;cases h
 ·intro h
  rw[y8 h];rfl
theorem xe{s w:Bs}{l:List Bs}{v:Vb}(hw:cj s=w::l)(hv:jH w=some v)(h:¬ ∀ x∈l,gS x):cB s=none:=by
 unfold cB
 rw[hw]
 simp only[hv]
 have h2:l.all wz=false:=by
  cases hb:l.all wz with
  | false=>rfl
  | true=>exact absurd (fun x hx=>OU.1 (ZA.1 hb x hx)) h
 rw[mapM_none l h2]
 split <;> rfl
theorem w6{s w:Bs}{l:List Bs}{v:Vb}(hw:cj s=w::l)(hv:jH w=some v)(hl:l.length=v.many)(h:∀ x∈l,gS x):cB s=some (v,l.map gz):=by
 unfold cB
 rw[hw]
 simp only[hv]
 rw[if_pos hl,uc l (ZA.2 fun x hx=>OU.2 (h x hx))]
 rfl
theorem vC(s:Bs):∃ w l,cj s=w::l:=by
 have h:=qK s
 cases hw:cj s with
 | nil=>rw[hw] at h;cases h
 | cons w l=>exact⟨w,l,rfl⟩
theorem xb:∀(ws cs pre t:List V),cs.length=ws.length->setAt (pre++cs++t) pre.length ws=pre++ws++t
 | [],cs,pre,t,h=>by
  rw[ZB h];rfl
 | w::ws,[],pre,t,h=>by cases h
 | w::ws,c::cs,pre,t,h=>by
  show setAt ((pre++c::cs++t).set pre.length w) (pre.length+1) ws=_
  have e:(pre++c::cs++t).set pre.length w=(pre++[w])++cs++t:=by
   rw[ZL,List.set_append_right _ _ (Zg _),Ox]
   simp
  rw[e]
  have:=xb ws cs (pre++[w]) t (by simpa using h)
  rw[Zb,Tb] at this
  rw[this]
  simp
theorem K3{ws cs t:List V}(h:cs.length=ws.length):setAt (cs++t) 0 ws=ws++t:=xb ws cs [] t h
theorem AP{H:List ai}{i k:Nat}{cs:List V}{e:TypeId}{v:V}(h:H[i]? =some (.cells cs e))(hk:cs[k]? =some v):cW H false 1 (.ptr i k)=some v:=by
 simp only[cW,h]
 exact hk
theorem TO{H:List ai}{i n:Nat}{cs:List V}{e:TypeId}(h:H[i]? =some (.cells cs e))(hn:cs.length=n):cW H true n (.ptr i 0)=some (fP cs):=by
 simp only[cW,h]
 show(if 0+n<=cs.length then some (fP ((cs.drop 0).take n)) else none)=_
 rw[if_pos (by omega),UL,L2 (by omega)]
theorem Bx{H:List ai}{i:Nat}{cs ws:List V}{e:TypeId}(h:H[i]? =some (.cells cs e))(hn:cs.length=ws.length):gy H i 0 ws=some (H.set i (.cells ws e)):=by
 simp only[gy,h]
 rw[if_pos (by omega)]
 have:=K3 (t:=[]) hn
 rw[ZR,ZR] at this
 rw[this]
theorem Up{H:List ai}{i:Nat}{cs ws t:List V}{e:TypeId}(h:H[i]? =some (.cells (cs++t) e))(hn:cs.length=ws.length):gy H i 0 ws=some (H.set i (.cells (ws++t) e)):=by
 simp only[gy,h]
 rw[if_pos (by rw[Zb];omega),K3 hn]
theorem NY{H:List ai}{x y:ai}:(H++[x]).set H.length y=H++[y]:=by
 rw[List.set_append_right _ _ (Zg _),Ox];rfl
theorem Es{H:List ai}{x:ai}:(H++[x])[H.length]? =some x:=by
 rw[Zk (Zg _),Ox];rfl
theorem nJ{H X:List ai}{i:Nat}{x:ai}(h:H[i]? =some x):(H++X)[i]? =some x:=by
 rw[Zc (Za.1 h).1];exact h
theorem bK{H:List ai}{i j:Nat}{x y:ai}(hij:j≠i)(h:H[i]? =some x):(H.set j y)[i]? =some x:=by
 rw[Zv,if_neg hij];exact h
theorem fI{H:List ai}{i:Nat}{x y:ai}(h:H[i]? =some x):(H.set i y)[i]? =some y:=by
 rw[Zv,if_pos rfl,if_pos (Za.1 h).1]
def LH(b:bG)(p:Di.bB)(um:V)(M:ai):List ai:=[cv b p um 1 2 3 4 5,c5 b.au,cU b.ag,c7 b.aq,bh b.plan,bh b.b6,M,.cells [.ptr 0 0] 33,.cells [.p (.str (sB []))] 9,.cells [.p (.int .i64 0)] 28,.dead,.dead,cU b.ag,c5 b.au,c7 b.aq,bh b.plan,bh b.b6,.cells (dn 13 12 14 15 16 b) 59]
def fX(H:List ai)(b:bG)(p:Di.bB)(um:V)(e:Int):List ai:=((((H++[ai.cells [.p (.int .i64 e)] 106]).set 0 (cv b p um 13 12 14 15 16)).set 8 (.cells [.p (.str (sB []))] 9)).set 9 (.cells [.p (.int .i64 e)] 28))
theorem KQ{N:Nat}{fn:Func}{T:Tm}{H:List ai}{t:ByteArray}{e:Int}(hfn:fn.results=[ResultVar.cell 4 9,.cell 5 28].toArray)(h4:lk T 4=some (.ptr 8 0))(h5:lk T 5=some (.ptr 9 0))(k8:H[8]? =some (.cells [.p (.str t)] 9))(k9:H[9]? =some (.cells [.p (.int .i64 e)] 28)):eK Tryz.prog N fn T H (.p (.tuple [.str t,.int .i64 e])):=
 eK.many (vs:=[.p (.str t),.p (.int .i64 e)]) hfn ⟨_,_,rfl,⟨_,_,_,h4,an,AP k8 rfl⟩,⟨_,_,rfl,⟨_,_,_,h5,an,AP k9 rfl⟩,rfl⟩⟩
theorem zf{H:List ai}{b:bG}{p:Di.bB}{um:V}{e:Int}(h:9<H.length):(fX H b p um e)[8]? =some (.cells [.p (.str (sB []))] 9):=by
 unfold fX
 exact bK (by decide) (fI (x:=((H++[ai.cells [.p (.int .i64 e)] 106]).set 0 (cv b p um 13 12 14 15 16))[8]'(by simp;omega)) (Zd _))
theorem yQ{H:List ai}{b:bG}{p:Di.bB}{um:V}{e:Int}(h:9<H.length):(fX H b p um e)[9]? =some (.cells [.p (.int .i64 e)] 28):=by
 unfold fX
 exact fI (x:=(((H++[ai.cells [.p (.int .i64 e)] 106]).set 0 (cv b p um 13 12 14 15 16)).set 8 (.cells [.p (.str (sB []))] 9))[9]'(by simp;omega)) (Zd _)
theorem oH{N:Nat}{T:Tm}{H:List ai}{o:Oper}(s:Bs)(v:Vb)(hv:jH s=some v){x y:Operand}{t:TypeId}{z:PV}(ho:o.op= .lookup t x y true)(hx:ev T x=some (.p (lG PV.str j5 mG)))(hy:ev T y=some (.p (.str (sB s))))(ht:oc Tryz.prog t=some (.string,z)):aa Tryz.prog N o T H (.p (.tuple [.agg [.int .i64 (v.many:Int),.func (.func (kq v)) [] []],.bool true])) H:=by
 have h:=Rg (N:=N) (H:=H) s ho hx hy ht
 rw[hv] at h
 exact h
theorem Cd{N:Nat}{T:Tm}{H:List ai}{o:Oper}(s:Bs)(hv:jH s=none){x y:Operand}{t:TypeId}{z:PV}(ho:o.op= .lookup t x y true)(hx:ev T x=some (.p (lG PV.str j5 mG)))(hy:ev T y=some (.p (.str (sB s))))(ht:oc Tryz.prog t=some (.string,z)):aa Tryz.prog N o T H (.p (.tuple [z,.bool false])) H:=by
 have h:=Rg (N:=N) (H:=H) s ho hx hy ht
 rw[hv] at h
 exact h
theorem DP(w:Bs)(l:List Bs):(((w::l).flatMap iF).drop (1*1)).take ((l.length+1 - 1)*1)=l.flatMap iF:=by
 show(l.flatMap iF).take _=_
 rw[Gv,Nat.add_sub_cancel]
 have e:(l.flatMap iF).length=l.length:=by rw[AF.ct (c:=1) (fun _=>rfl),Gv]
 exact L2 (LZ e)
theorem DN(b:bG)(p:Di.bB)(um:V)(M:ai)(hu:∀ σ:Nat->Option Nat,(M.live=true->σ 6=some 6)->aX σ um=um)(hM:∀ σ,aE σ M=M):(LH b p um M).map (aE (sg 18 []))=LH b p um M:=by
 unfold LH
 simp only[ZD,zM,c5,cU,c7,bh,bA,fq,hM,bL,CU (n0:=18) (um:=um) (ms:=[]) (hu _ fun _=>rfl) (show 1<18 by decide) (show 2<18 by decide) (show 3<18 by decide) (show 4<18 by decide) (show 5<18 by decide),jZ (n0:=18) (show 13<18 by decide) (show 12<18 by decide) (show 14<18 by decide) (show 15<18 by decide) (show 16<18 by decide),bF,b8,dQ]
 rfl
theorem E3{H:List ai}{Hq:List ai->Prop}(hH:Hq H):wJ Tryz.prog 50 [.ptr 17 0,.ptr 7 0,.ptr 8 0,.ptr 9 0] H none Hq:=by
 refine wJ.start (N:=24) Tryz.func50 rfl rfl Kn (Wb rfl) rfl rfl rfl rfl rfl rfl rfl rfl ?_
 iterate 3 refine af ?_
 refine Kc (aa.L7 rfl rfl PK) ?_
 refine af ?_
 refine Ki (fun hc0=> ?_) fun hc0=> ?_
 ·cases hc0
 ·refine af ?_
  exact⟨.inl rfl,hH⟩
theorem qN{H:List ai}{Hq:List ai->Prop}{cs:List V}(b:bG)(p:Di.bB)(um:V)(e:Int)(h0:H[0]? =some (.cells (cs++p.cells.map .p++[um,.p (.bool true)]) 63))(hc:cs.length=7)(h7:H[7]? =some (.cells [.ptr 0 0] 33))(h8:H[8]? =some (.cells [.p (.str (sB []))] 9))(h9:H[9]? =some (.cells [.p (.int .i64 0)] 28))(h17:H[17]? =some (.cells (dn 13 12 14 15 16 b) 59))(hH:Hq (fX H b p um e)):wJ Tryz.prog 50 [.ptr 17 0,.ptr 7 0,.ptr 8 0,.ptr 9 0] H (some (.iface 106 (.agg [.int .i64 e]))) Hq:=by
 refine wJ.start (N:=24) Tryz.func50 rfl rfl Kn (Wb rfl) rfl rfl rfl rfl rfl rfl rfl rfl ?_
 iterate 3 refine af ?_
 refine Kc (aa.aay rfl rfl PK) ?_
 refine af ?_
 refine Ki (fun hc0=> ?_) fun hc0=> ?_
 ·iterate 3 refine af ?_
  refine Kc (aa.Y3 rfl rfl Il (⟨106,_,rfl,.inl ⟨rfl,rfl⟩⟩)) ?_
  iterate 4 refine af ?_
  refine Kz (aa.store (H':=H++[.cells [.p (.int .i64 e)] 106]) rfl rfl rfl rfl rfl an rfl ((Bx (H:=H++[ai.cells [.p (.int .i64 0)] 106]) (i:=H.length) (cs:=[.p (.int .i64 0)]) (ws:=[.p (.int .i64 e)]) Es rfl).trans (congrArg some NY))) ?_
  iterate 4 refine af ?_
  have g0:=nJ (X:=[ai.cells [.p (.int .i64 e)] 106]) h0
  have g7:=nJ (X:=[ai.cells [.p (.int .i64 e)] 106]) h7
  have g8:=nJ (X:=[ai.cells [.p (.int .i64 e)] 106]) h8
  have g9:=nJ (X:=[ai.cells [.p (.int .i64 e)] 106]) h9
  have g17:=nJ (X:=[ai.cells [.p (.int .i64 e)] 106]) h17
  have gm1:=Es (H:=H) (x:=ai.cells [.p (.int .i64 e)] 106)
  obtain⟨H1,Ph⟩:∃ X,X=H++[ai.cells [.p (.int .i64 e)] 106]:=⟨_,rfl⟩
  refine aB.wg (H':=H1) Ph ?_
  rw[<- Ph] at g0 g7 g8 g9 g17 gm1
  have hL:=(Za.1 h17).1
  iterate 4 refine af ?_
  refine Ki (fun cF=> ?_) fun cF=> ?_
  ·cases cF
  ·iterate 3 refine af ?_
   refine Kc (aa.load (v:= .ptr 0 0) rfl rfl an (AP g7 rfl)) ?_
   refine Kc (aa.load (v:= .agg (dn 13 12 14 15 16 b)) rfl rfl an ((TO g17 rfl).trans (congrArg some (wo _ _ _ _ _ b)))) ?_
   iterate 2 refine af ?_
   refine Kz (aa.store rfl rfl rfl rfl (pE _ _ _ _ _ b) an rfl (Up (t:=p.cells.map .p++[um,.p (.bool true)]) (by rw[<- ZL];exact g0) hc)) ?_
   refine af ?_
   have g82:=bK (j:=0) (y:=cv b p um 13 12 14 15 16) (by decide) g8
   have g92:=bK (j:=0) (y:=cv b p um 13 12 14 15 16) (by decide) g9
   have gm:=bK (j:=0) (y:=cv b p um 13 12 14 15 16) (by omega) gm1
   obtain⟨H2,eH2⟩:∃ X,X=H1.set 0 (cv b p um 13 12 14 15 16):=⟨_,rfl⟩
   refine aB.wg (H':=H2) (by rw[eH2];unfold cv;rw[ZL];rfl) ?_
   rw[<- eH2] at g82 g92 gm
   have gm3:=bK (j:=8) (y:=ai.cells [.p (.str (sB []))] 9) (by omega) gm
   have g93:=bK (j:=8) (y:=ai.cells [.p (.str (sB []))] 9) (by decide) g92
   refine aB.jQ 3 (H2.set 8 (.cells [.p (.str (sB []))] 9)) mixed (by kernel_rfl) (by decide) ?_
   refine aF.cons 22 rfl rfl rfl (aa.fieldAddr rfl rfl an rfl) (aa.fieldAddr rfl rfl an rfl) ?_
   refine aF.cons 23 rfl rfl rfl (aa.load (v:= .p (.int .i64 e)) rfl rfl an (AP (by first | exact gm | exact gm3) rfl)) (aa.load (v:= .p (.int .i64 e)) rfl rfl an (AP (by first | exact gm | exact gm3) rfl)) ?_
   refine aF.put rfl rfl (aa.store rfl rfl rfl rfl rfl an rfl (Bx g82 rfl)) ?_
   refine aF.nil ?_
   refine Kz (aa.store rfl rfl rfl rfl rfl an rfl (Bx g93 rfl)) ?_
   refine af ?_
   subst eH2 Ph
   exact⟨.inl rfl,hH⟩
 ·cases hc0
abbrev xm:TypeId:=59
structure bX (H H2:List ai):Prop where
 len:7<=H2.length
 dead:∀(j:Nat) (x y:ai),j<7->H[j]? =some x->x.live=false->H2[j]? =some y->y.live=false
theorem bX.k{H H2 H3:List ai}(h:bX H H2)(hd:∀ j,j<7->∃ x,H[j]? =some x∧(H3.getD j .dead).live=x.live):fG H3 [0,1,2,3,4,5,6] H2:=by
 refine⟨h.len,fun j i y hk hl hy=> ?_⟩
 have hj:j<7:=(Za.1 hk).1
 have hji:i=j:=by
  have:([0,1,2,3,4,5,6]:List Nat)[j]? =some j:=by
   match j,hj with
   | 0,_=>rfl
   | 1,_=>rfl
   | 2,_=>rfl
   | 3,_=>rfl
   | 4,_=>rfl
   | 5,_=>rfl
   | 6,_=>rfl
  rw[this] at hk
  exact(Zw hk).symm
 subst hji
 obtain⟨x,h1,h2⟩:=hd i hj
 exact h.dead i x y hj h1 (by rw[<- h2];exact hl) hy
theorem uN(b:bG)(p:Di.bB)(um:V)(M x:ai):∀ j,j<7->∃ y,(ff b p um M)[j]? =some y∧((LH b p um M++[x]).getD j .dead).live=y.live:=fun j hj=>by
 match j,hj with
 | 0,_=>exact⟨_,rfl,rfl⟩
 | 1,_=>exact⟨_,rfl,rfl⟩
 | 2,_=>exact⟨_,rfl,rfl⟩
 | 3,_=>exact⟨_,rfl,rfl⟩
 | 4,_=>exact⟨_,rfl,rfl⟩
 | 5,_=>exact⟨_,rfl,rfl⟩
 | 6,_=>exact⟨_,rfl,rfl⟩
theorem fY{H:List ai}{ks:List Nat}{i j n:Nat}{cs:List V}{e:TypeId}(hp:pl ks i=some j)(hx:H.getD i .dead=dN cs e n):aX (ny H ks) (aV i n)=aV j n:=by
 cases n with
 | zero=>rfl
 | succ n=>exact cz (by unfold ny;rw[hx];exact hp)
theorem Rt(b:bG)(p:Di.bB)(um:V)(M:ai)(hu:∀ σ:Nat->Option Nat,(M.live=true->σ 6=some 6)->aX σ um=um)(hM:∀ σ,aE σ M=M)(x:ai):(([0,1,2,3,4,5,6]:List Nat).map fun i=>aE (ny (LH b p um M++[x]) [0,1,2,3,4,5,6]) ((LH b p um M++[x]).getD i .dead))=ff b p um M:=by
 have h0:aE (ny (LH b p um M++[x]) [0,1,2,3,4,5,6]) (cv b p um 1 2 3 4 5)=cv b p um 1 2 3 4 5:=by
  unfold cv dn
  rw[bL,bD,bD,aY]
  simp only[bF,b8,dQ]
  rw[fY (j:=1) rfl rfl,fY (j:=2) rfl rfl,fY (j:=3) rfl rfl,fY (j:=4) rfl rfl,fY (j:=5) rfl rfl,hu _ (fun h=>by unfold ny;exact if_pos h)]
 show[aE _ (cv b p um 1 2 3 4 5),aE _ (c5 b.au),aE _ (cU b.ag),aE _ (c7 b.aq),aE _ (bh b.plan),aE _ (bh b.b6),aE _ M]=_
 rw[h0,hM]
 simp only[c5,cU,c7,bh,bA]
 rfl
theorem Su(b:bG)(p:Di.bB)(um:V)(M x:ai):M.live=true->dF (LH b p um M++[x]) [0,1,2,3,4,5,6] 6=some 6:=fun h=>by
 show(if ((LH b p um M++[x]).getD 6 .dead).live=true then some 6 else none)=some 6
 exact if_pos h
theorem dw(σ:Nat->Option Nat):∀ l:List V,(bn σ l).length=l.length
 | []=>rfl
 | v::l=>by rw[bF,Zn,Zn,dw σ l]
theorem vW{σ:Nat->Option Nat}{cs:List V}{p:Di.bB}{um:V}{e:TypeId}(hu:aX σ um=um):aE σ (.cells (cs++p.cells.map .p++[um,.p (.bool true)]) e)= .cells (bn σ cs++p.cells.map .p++[um,.p (.bool true)]) e:=by
 rw[bL,bD,bD,aY]
 simp only[bF,b8,dQ,hu]
theorem Ml(v:Vb):ak Tryz.prog (kq v)=true:=by
 cases v <;> kernel_rfl
theorem F0(b:bG)(p:Di.bB)(um:V)(M:ai)(hu:∀ σ:Nat->Option Nat,(M.live=true->σ 6=some 6)->aX σ um=um)(hM:∀ σ,aE σ M=M)(h1:b.au.length<=1000)(h2:b.ag.length<=1000)(h3:b.aq.length<=1000)(h4:b.plan.length<=1000)(h5:b.b6.length<=1000)(s:Bs)(hs:120<s.length):ax Tryz.prog 15 [.ptr 0 0,.p (.str (sB s))] (ff b p um M) (fun v H2=>v= .p (.tuple [.str (sB []),.int .i64 3])∧H2=ff b p um M++[.cells [.ptr 0 0] 33,.cells [.p (.str (sB []))] 9,.cells [.p (.int .i64 3)] 28]):=by
 refine ax.start (N:=58) Tryz.func15 rfl rfl Kn ?_
 iterate 2 refine af ?_
 refine Kc (aa.iK rfl rfl rfl) ?_
 iterate 8 refine af ?_
 refine Kc (aa.y5 rfl rfl rfl an) ?_
 refine af ?_
 refine Kg 14 13 2 rfl (fun h=>(aa.load rfl rfl an rfl)) ?_
 refine Kh 15 13 14 rfl rfl rfl rfl (fun h=>(aa.nilCheck rfl rfl)) ?_
 refine Kh 16 13 15 rfl rfl rfl rfl (fun h=>(aa.fieldAddr rfl rfl an rfl)) ?_
 refine Kh 17 13 16 rfl rfl rfl rfl (fun h=>(Kl (.p (.bool true)))) ?_
 refine Kh 18 13 17 rfl rfl rfl rfl (fun h=>(aa.iZ rfl rfl)) ?_
 refine Kc (aa.me rfl rfl rfl ?_) ?_
 ·exact eM
 iterate 2 refine af ?_
 refine Ki (fun hc0=> ?_) fun hc0=> ?_
 ·exact absurd hc0 (by decide)
 ·iterate 3 refine af ?_
  refine Kc (aa.iJ rfl rfl Gz) ?_
  iterate 3 refine af ?_
  refine Ki (fun cF=> ?_) fun cF=> ?_
  ·iterate 6 refine af ?_
   exact⟨.inr rfl,_,KQ rfl rfl rfl rfl rfl,rfl,rfl⟩
  ·exfalso
   have h:=Zh cF
   rw[dO] at h
   omega
theorem SA(b:bG)(p:Di.bB)(um:V)(M:ai)(hu:∀ σ:Nat->Option Nat,(M.live=true->σ 6=some 6)->aX σ um=um)(hM:∀ σ,aE σ M=M)(h1:b.au.length<=1000)(h2:b.ag.length<=1000)(h3:b.aq.length<=1000)(h4:b.plan.length<=1000)(h5:b.b6.length<=1000)(s:Bs)(hs:s.length<=120)(w:Bs)(l:List Bs)(hw:cj s=w::l)(hv:jH w=none):ax Tryz.prog 15 [.ptr 0 0,.p (.str (sB s))] (ff b p um M) (fun x H2=>x= .p (.tuple [.str (sB []),.int .i64 8])∧H2=fX (LH b p um M++[ai.cells [.p (.int .i64 0),.p .nilFunc] 111]) b p um 8):=by
 have ku:(w::l).length=l.length+1:=rfl
 have hsp:=pg s (by omega)
 rw[hw] at hsp
 have Cx:=(ja 32 s []).2
 rw[show dG 32 [] s=w::l from hw,Zn] at Cx
 have VF:l.length<=1000000:=by omega
 have wD:∀ x∈l,x.length<=1000000:=fun x hx=>by have h6:=nL 32 s [] x (by rw[show dG 32 [] s=w::l from hw];exact Zj _ hx);rw[Gu] at h6;omega
 refine ax.sZ (N:=58) (g:=50) (dm:=29) (T1:=[(1,.p (.str (sB s))),(2,.ptr 7 0),(4,.ptr 8 0),(5,.ptr 9 0),(6,.ptr 17 0)]) (H1:=LH b p um M) (caps:=[.ptr 17 0,.ptr 7 0,.ptr 8 0,.ptr 9 0]) Tryz.func15 rfl rfl Kn ?_ (aa.makeFunc (fi:=[]) (ca:=[.ptr 17 0,.ptr 7 0,.ptr 8 0,.ptr 9 0]) rfl rfl rfl) rfl rfl rfl rfl rfl rfl an ?_
 ·exact Hl
 ·iterate 3 refine af ?_
  refine Kc (Kp (hsp)) ?_
  iterate 3 refine af ?_
  refine aB.bU 10 1 [18] [([],false),([],false),([],false),([],false),([],false),([],false),([],false),([],false),([18],true),([18],true)] mixed (by kernel_rfl) (by decide) (by kernel_rfl) rfl (DN b p um M hu hM) ?_
  refine bu.cons 33 rfl rfl rfl (fun _=>(Kp (ql))) rfl ?_
  refine af ?_
  refine bu.cons 35 rfl rfl rfl (fun _=>(aa.aJ (g:=Di.gt [] (w::l)) (k:=0) (Di.aC _) rfl rfl rfl an kr rfl (fun _=>rfl) (by decide) (Si _))) rfl ?_
  refine bu.cons 36 rfl rfl rfl (fun _=>(Kl (.p (.str (sB w))))) rfl ?_
  refine bu.cons 37 rfl rfl rfl (fun _=>(Cd w hv rfl rfl rfl iA)) rfl ?_
  refine af ?_
  refine bu.cons 38 rfl rfl rfl (fun _=>(aa.extract rfl rfl rfl)) rfl ?_
  refine bu.cons 39 rfl rfl rfl (fun _=>(aa.extract rfl rfl rfl)) rfl ?_
  refine bu.lay (v0:= .ptr 19 0) 8 18 rfl rfl rfl rfl rfl rfl rfl rfl (fun _=>(aa.aO rfl an rfl)) rfl rfl rfl ?_
  refine bu.put (blk:= .cells [.p (.int .i64 0),.p .nilFunc] 111) 18 rfl rfl rfl rfl (fun _=>(aa.store rfl rfl rfl rfl rfl an rfl rfl)) rfl rfl ?_
  refine bu.nil ?_
  iterate 3 refine af ?_
  refine aB.wg (H':=LH b p um M++[ai.cells [.p (.int .i64 0),.p .nilFunc] 111]) rfl ?_
  iterate 3 refine af ?_
  refine Kg 42 41 7 rfl (fun h=>(aa.move rfl rfl)) ?_
  refine Kh 43 41 42 rfl rfl rfl rfl (fun h=>(aa.aQ rfl rfl an rfl)) ?_
  refine Kh 44 41 43 rfl rfl rfl rfl (fun h=>(aa.iC (m:=((l.length:Nat):Int)) rfl rfl rfl ((aH (by omega)).trans (by omega)))) ?_
  refine Kg 45 41 8 rfl (fun h=>(aa.fieldAddr rfl rfl an rfl)) ?_
  refine Kh 46 41 45 rfl rfl rfl rfl (fun h=>(Kl (.p (.int .i64 0)))) ?_
  refine aj.g 47 41 rfl rfl rfl rfl rfl rfl rfl [(44,_),(46,_)] (fun h=>And.intro (.inr ⟨_,rfl,h⟩) (And.intro (.inr ⟨_,rfl,h⟩) (trivial))) (fun h=>(aa.eql rfl rfl rfl)) ?_
  refine Kc (aa.dM rfl rfl rfl ?_) ?_
  ·exact eM
  refine aj.cg 49 (b:=_) (dh _ 8) (de _ 8) rfl rfl rfl rfl rfl rfl rfl an (fun hb=> ?_) (fun hb=> ?_)
  ·exact Pp
  simp at hb
theorem RJ(b:bG)(p:Di.bB)(um:V)(M:ai)(hu:∀ σ:Nat->Option Nat,(M.live=true->σ 6=some 6)->aX σ um=um)(hM:∀ σ,aE σ M=M)(h1:b.au.length<=1000)(h2:b.ag.length<=1000)(h3:b.aq.length<=1000)(h4:b.plan.length<=1000)(h5:b.b6.length<=1000)(s:Bs)(hs:s.length<=120)(w:Bs)(l:List Bs)(hw:cj s=w::l)(v:Vb)(hv:jH w=some v)(hm:l.length≠v.many):ax Tryz.prog 15 [.ptr 0 0,.p (.str (sB s))] (ff b p um M) (fun x H2=>x= .p (.tuple [.str (sB []),.int .i64 8])∧H2=fX (LH b p um M++[ai.cells [.p (.int .i64 (v.many:Int)),.p (.func (.func (kq v)) [] [])] 111]) b p um 8):=by
 have ku:(w::l).length=l.length+1:=rfl
 have hsp:=pg s (by omega)
 rw[hw] at hsp
 have Cx:=(ja 32 s []).2
 rw[show dG 32 [] s=w::l from hw,Zn] at Cx
 have VF:l.length<=1000000:=by omega
 have wD:∀ x∈l,x.length<=1000000:=fun x hx=>by have h6:=nL 32 s [] x (by rw[show dG 32 [] s=w::l from hw];exact Zj _ hx);rw[Gu] at h6;omega
 refine ax.sZ (N:=58) (g:=50) (dm:=29) (T1:=[(1,.p (.str (sB s))),(2,.ptr 7 0),(4,.ptr 8 0),(5,.ptr 9 0),(6,.ptr 17 0)]) (H1:=LH b p um M) (caps:=[.ptr 17 0,.ptr 7 0,.ptr 8 0,.ptr 9 0]) Tryz.func15 rfl rfl Kn ?_ (aa.makeFunc (fi:=[]) (ca:=[.ptr 17 0,.ptr 7 0,.ptr 8 0,.ptr 9 0]) rfl rfl rfl) rfl rfl rfl rfl rfl rfl an ?_
 ·exact Hl
 ·iterate 3 refine af ?_
  refine Kc (Kp (hsp)) ?_
  iterate 3 refine af ?_
  refine aB.bU 10 1 [18] [([],false),([],false),([],false),([],false),([],false),([],false),([],false),([],false),([18],true),([18],true)] mixed (by kernel_rfl) (by decide) (by kernel_rfl) rfl (DN b p um M hu hM) ?_
  refine bu.cons 33 rfl rfl rfl (fun _=>(Kp (ql))) rfl ?_
  refine af ?_
  refine bu.cons 35 rfl rfl rfl (fun _=>(aa.aJ (g:=Di.gt [] (w::l)) (k:=0) (Di.aC _) rfl rfl rfl an kr rfl (fun _=>rfl) (by decide) (Si _))) rfl ?_
  refine bu.cons 36 rfl rfl rfl (fun _=>(Kl (.p (.str (sB w))))) rfl ?_
  refine bu.cons 37 rfl rfl rfl (fun _=>(oH w v hv rfl rfl rfl iA)) rfl ?_
  refine af ?_
  refine bu.cons 38 rfl rfl rfl (fun _=>(aa.extract rfl rfl rfl)) rfl ?_
  refine bu.cons 39 rfl rfl rfl (fun _=>(aa.extract rfl rfl rfl)) rfl ?_
  refine bu.lay (v0:= .ptr 19 0) 8 18 rfl rfl rfl rfl rfl rfl rfl rfl (fun _=>(aa.aO rfl an rfl)) rfl rfl rfl ?_
  refine bu.put (blk:= .cells [.p (.int .i64 (v.many:Int)),.p (.func (.func (kq v)) [] [])] 111) 18 rfl rfl rfl rfl (fun _=>(aa.store rfl rfl rfl rfl rfl an rfl rfl)) rfl rfl ?_
  refine bu.nil ?_
  iterate 3 refine af ?_
  refine aB.wg (H':=LH b p um M++[ai.cells [.p (.int .i64 (v.many:Int)),.p (.func (.func (kq v)) [] [])] 111]) rfl ?_
  iterate 3 refine af ?_
  refine Kg 42 41 7 rfl (fun h=>(aa.move rfl rfl)) ?_
  refine Kh 43 41 42 rfl rfl rfl rfl (fun h=>(aa.aQ rfl rfl an rfl)) ?_
  refine Kh 44 41 43 rfl rfl rfl rfl (fun h=>(aa.iC (m:=((l.length:Nat):Int)) rfl rfl rfl ((aH (by omega)).trans (by omega)))) ?_
  refine Kg 45 41 8 rfl (fun h=>(aa.fieldAddr rfl rfl an rfl)) ?_
  refine Kh 46 41 45 rfl rfl rfl rfl (fun h=>(Kl (.p (.int .i64 (v.many:Int))))) ?_
  refine aj.g 47 41 rfl rfl rfl rfl rfl rfl rfl [(44,_),(46,_)] (fun h=>And.intro (.inr ⟨_,rfl,h⟩) (And.intro (.inr ⟨_,rfl,h⟩) (trivial))) (fun h=>(aa.eql rfl rfl rfl)) ?_
  refine Kc (aa.dM rfl rfl rfl ?_) ?_
  ·exact eM
  refine aj.cg 49 (b:=_) (dh _ 8) (de _ 8) rfl rfl rfl rfl rfl rfl rfl an (fun hb=> ?_) (fun hb=> ?_)
  ·exact Pp
  exfalso
  simp at hb
  omega
theorem Rp(b:bG)(p:Di.bB)(um:V)(M:ai)(hu:∀ σ:Nat->Option Nat,(M.live=true->σ 6=some 6)->aX σ um=um)(hM:∀ σ,aE σ M=M)(h1:b.au.length<=1000)(h2:b.ag.length<=1000)(h3:b.aq.length<=1000)(h4:b.plan.length<=1000)(h5:b.b6.length<=1000)(s:Bs)(hs:s.length<=120)(w:Bs)(l:List Bs)(hw:cj s=w::l)(v:Vb)(hv:jH w=some v)(hm:l.length=v.many)(hC:¬ ∀ x∈l,gS x):ax Tryz.prog 15 [.ptr 0 0,.p (.str (sB s))] (ff b p um M) (fun x H2=>x= .p (.tuple [.str (sB []),.int .i64 8])∧H2=fX (LH b p um M++[ai.cells [.p (.int .i64 (v.many:Int)),.p (.func (.func (kq v)) [] [])] 111]) b p um 8):=by
 have ku:(w::l).length=l.length+1:=rfl
 have hsp:=pg s (by omega)
 rw[hw] at hsp
 have Cx:=(ja 32 s []).2
 rw[show dG 32 [] s=w::l from hw,Zn] at Cx
 have VF:l.length<=1000000:=by omega
 have wD:∀ x∈l,x.length<=1000000:=fun x hx=>by have h6:=nL 32 s [] x (by rw[show dG 32 [] s=w::l from hw];exact Zj _ hx);rw[Gu] at h6;omega
 refine ax.sZ (N:=58) (g:=50) (dm:=29) (T1:=[(1,.p (.str (sB s))),(2,.ptr 7 0),(4,.ptr 8 0),(5,.ptr 9 0),(6,.ptr 17 0)]) (H1:=LH b p um M) (caps:=[.ptr 17 0,.ptr 7 0,.ptr 8 0,.ptr 9 0]) Tryz.func15 rfl rfl Kn ?_ (aa.makeFunc (fi:=[]) (ca:=[.ptr 17 0,.ptr 7 0,.ptr 8 0,.ptr 9 0]) rfl rfl rfl) rfl rfl rfl rfl rfl rfl an ?_
 ·exact Hl
 ·iterate 3 refine af ?_
  refine Kc (Kp (hsp)) ?_
  iterate 3 refine af ?_
  refine aB.bU 10 1 [18] [([],false),([],false),([],false),([],false),([],false),([],false),([],false),([],false),([18],true),([18],true)] mixed (by kernel_rfl) (by decide) (by kernel_rfl) rfl (DN b p um M hu hM) ?_
  refine bu.cons 33 rfl rfl rfl (fun _=>(Kp (ql))) rfl ?_
  refine af ?_
  refine bu.cons 35 rfl rfl rfl (fun _=>(aa.aJ (g:=Di.gt [] (w::l)) (k:=0) (Di.aC _) rfl rfl rfl an kr rfl (fun _=>rfl) (by decide) (Si _))) rfl ?_
  refine bu.cons 36 rfl rfl rfl (fun _=>(Kl (.p (.str (sB w))))) rfl ?_
  refine bu.cons 37 rfl rfl rfl (fun _=>(oH w v hv rfl rfl rfl iA)) rfl ?_
  refine af ?_
  refine bu.cons 38 rfl rfl rfl (fun _=>(aa.extract rfl rfl rfl)) rfl ?_
  refine bu.cons 39 rfl rfl rfl (fun _=>(aa.extract rfl rfl rfl)) rfl ?_
  refine bu.lay (v0:= .ptr 19 0) 8 18 rfl rfl rfl rfl rfl rfl rfl rfl (fun _=>(aa.aO rfl an rfl)) rfl rfl rfl ?_
  refine bu.put (blk:= .cells [.p (.int .i64 (v.many:Int)),.p (.func (.func (kq v)) [] [])] 111) 18 rfl rfl rfl rfl (fun _=>(aa.store rfl rfl rfl rfl rfl an rfl rfl)) rfl rfl ?_
  refine bu.nil ?_
  iterate 3 refine af ?_
  refine aB.wg (H':=LH b p um M++[ai.cells [.p (.int .i64 (v.many:Int)),.p (.func (.func (kq v)) [] [])] 111]) rfl ?_
  iterate 3 refine af ?_
  refine Kg 42 41 7 rfl (fun h=>(aa.move rfl rfl)) ?_
  refine Kh 43 41 42 rfl rfl rfl rfl (fun h=>(aa.aQ rfl rfl an rfl)) ?_
  refine Kh 44 41 43 rfl rfl rfl rfl (fun h=>(aa.iC (m:=((l.length:Nat):Int)) rfl rfl rfl ((aH (by omega)).trans (by omega)))) ?_
  refine Kg 45 41 8 rfl (fun h=>(aa.fieldAddr rfl rfl an rfl)) ?_
  refine Kh 46 41 45 rfl rfl rfl rfl (fun h=>(Kl (.p (.int .i64 (v.many:Int))))) ?_
  refine aj.g 47 41 rfl rfl rfl rfl rfl rfl rfl [(44,_),(46,_)] (fun h=>And.intro (.inr ⟨_,rfl,h⟩) (And.intro (.inr ⟨_,rfl,h⟩) (trivial))) (fun h=>(aa.eql rfl rfl rfl)) ?_
  refine Kc (aa.dM rfl rfl rfl ?_) ?_
  ·exact eM
  refine aj.cg 49 (b:=_) (dh _ 8) (de _ 8) rfl rfl rfl rfl rfl rfl rfl an (fun hb=> ?_) (fun hb=> ?_)
  ·exfalso
   simp at hb
   omega
  iterate 2 refine af ?_
  refine aB.Bc 6 ([(4,.ptr 8 0),(5,.ptr 9 0)]) rfl rfl mixed (by kernel_rfl) KS rfl ?_
  refine af ?_
  refine Kq (Kl (.p (.func (.func (kq v)) [] []))) ?_
  iterate 2 refine af ?_
  refine Kq (aa.jI (l:=1) (h:=(l.length+1)) (r:=(l.flatMap iF)) rfl rfl an kr ⟨_,rfl⟩ rfl (by omega) (by omega) (DP w l)) ?_
  refine Kq (Kp (vb l)) ?_
  refine ay.nil ?_
  refine aj.uK 56 (EP l VF wD hC) rfl rfl rfl rfl rfl rfl rfl an ⟨⟨_,rfl⟩,⟨_,rfl,qN (cs:=dn 1 2 3 4 5 b) b p um 8 rfl rfl rfl rfl rfl rfl ⟨_,KQ rfl rfl rfl (zf Kn) (yQ Kn),rfl,rfl⟩⟩⟩
theorem DW(b:bG)(p:Di.bB)(um:V)(M:ai)(hu:∀ σ:Nat->Option Nat,(M.live=true->σ 6=some 6)->aX σ um=um)(hM:∀ σ,aE σ M=M)(h1:b.au.length<=1000)(h2:b.ag.length<=1000)(h3:b.aq.length<=1000)(h4:b.plan.length<=1000)(h5:b.b6.length<=1000)(s:Bs)(hs:s.length<=120)(w:Bs)(l:List Bs)(hw:cj s=w::l)(v:Vb)(hv:jH w=some v)(hm:l.length=v.many)(hC:∀ x∈l,gS x)(t:Bs)(e:Int)(Qr:V->List ai->Prop)(Qp:PV->List ai->Prop)(hd:av Tryz.prog (kq v) [.ptr 0 0,.p (Di.bI (l.map gz))] (ff b p um M) Qr Qp)(hr:∀ r H2,Qr r H2->r= .p (.str (sB t))∧bX (ff b p um M) H2)(hp:∀ y H2,Qp y H2->y=(.iface 106 (.agg [.int .i64 e]))∧bX (ff b p um M) H2∧∃ cs,cs.length=7∧H2[0]? =some (.cells (cs++p.cells.map .p++[um,.p (.bool true)]) 63)):ax Tryz.prog 15 [.ptr 0 0,.p (.str (sB s))] (ff b p um M) (fun x H2=>(x= .p (.tuple [.str (sB t),.int .i64 0])∧∃ H0,Qr (.p (.str (sB t))) H0∧H2=(((bf (LH b p um M++[ai.cells [.p (.int .i64 (v.many:Int)),.p (.func (.func (kq v)) [] [])] 111]) [0,1,2,3,4,5,6] H0).set 8 (.cells [.p (.str (sB t))] 9)).set 9 (.cells [.p (.int .i64 0)] 28)))∨(x= .p (.tuple [.str (sB []),.int .i64 e])∧∃ H0,Qp (.iface 106 (.agg [.int .i64 e])) H0∧H2=fX (bf (LH b p um M++[ai.cells [.p (.int .i64 (v.many:Int)),.p (.func (.func (kq v)) [] [])] 111]) [0,1,2,3,4,5,6] H0) b p um e)):=by
 have ku:(w::l).length=l.length+1:=rfl
 have hsp:=pg s (by omega)
 rw[hw] at hsp
 have Cx:=(ja 32 s []).2
 rw[show dG 32 [] s=w::l from hw,Zn] at Cx
 have VF:l.length<=1000000:=by omega
 have wD:∀ x∈l,x.length<=1000000:=fun x hx=>by have h6:=nL 32 s [] x (by rw[show dG 32 [] s=w::l from hw];exact Zj _ hx);rw[Gu] at h6;omega
 refine ax.sZ (N:=58) (g:=50) (dm:=29) (T1:=[(1,.p (.str (sB s))),(2,.ptr 7 0),(4,.ptr 8 0),(5,.ptr 9 0),(6,.ptr 17 0)]) (H1:=LH b p um M) (caps:=[.ptr 17 0,.ptr 7 0,.ptr 8 0,.ptr 9 0]) Tryz.func15 rfl rfl Kn ?_ (aa.makeFunc (fi:=[]) (ca:=[.ptr 17 0,.ptr 7 0,.ptr 8 0,.ptr 9 0]) rfl rfl rfl) rfl rfl rfl rfl rfl rfl an ?_
 ·exact Hl
 ·iterate 3 refine af ?_
  refine Kc (Kp (hsp)) ?_
  iterate 3 refine af ?_
  refine aB.bU 10 1 [18] [([],false),([],false),([],false),([],false),([],false),([],false),([],false),([],false),([18],true),([18],true)] mixed (by kernel_rfl) (by decide) (by kernel_rfl) rfl (DN b p um M hu hM) ?_
  refine bu.cons 33 rfl rfl rfl (fun _=>(Kp (ql))) rfl ?_
  refine af ?_
  refine bu.cons 35 rfl rfl rfl (fun _=>(aa.aJ (g:=Di.gt [] (w::l)) (k:=0) (Di.aC _) rfl rfl rfl an kr rfl (fun _=>rfl) (by decide) (Si _))) rfl ?_
  refine bu.cons 36 rfl rfl rfl (fun _=>(Kl (.p (.str (sB w))))) rfl ?_
  refine bu.cons 37 rfl rfl rfl (fun _=>(oH w v hv rfl rfl rfl iA)) rfl ?_
  refine af ?_
  refine bu.cons 38 rfl rfl rfl (fun _=>(aa.extract rfl rfl rfl)) rfl ?_
  refine bu.cons 39 rfl rfl rfl (fun _=>(aa.extract rfl rfl rfl)) rfl ?_
  refine bu.lay (v0:= .ptr 19 0) 8 18 rfl rfl rfl rfl rfl rfl rfl rfl (fun _=>(aa.aO rfl an rfl)) rfl rfl rfl ?_
  refine bu.put (blk:= .cells [.p (.int .i64 (v.many:Int)),.p (.func (.func (kq v)) [] [])] 111) 18 rfl rfl rfl rfl (fun _=>(aa.store rfl rfl rfl rfl rfl an rfl rfl)) rfl rfl ?_
  refine bu.nil ?_
  iterate 3 refine af ?_
  refine aB.wg (H':=LH b p um M++[ai.cells [.p (.int .i64 (v.many:Int)),.p (.func (.func (kq v)) [] [])] 111]) rfl ?_
  iterate 3 refine af ?_
  refine Kg 42 41 7 rfl (fun h=>(aa.move rfl rfl)) ?_
  refine Kh 43 41 42 rfl rfl rfl rfl (fun h=>(aa.aQ rfl rfl an rfl)) ?_
  refine Kh 44 41 43 rfl rfl rfl rfl (fun h=>(aa.iC (m:=((l.length:Nat):Int)) rfl rfl rfl ((aH (by omega)).trans (by omega)))) ?_
  refine Kg 45 41 8 rfl (fun h=>(aa.fieldAddr rfl rfl an rfl)) ?_
  refine Kh 46 41 45 rfl rfl rfl rfl (fun h=>(Kl (.p (.int .i64 (v.many:Int))))) ?_
  refine aj.g 47 41 rfl rfl rfl rfl rfl rfl rfl [(44,_),(46,_)] (fun h=>And.intro (.inr ⟨_,rfl,h⟩) (And.intro (.inr ⟨_,rfl,h⟩) (trivial))) (fun h=>(aa.eql rfl rfl rfl)) ?_
  refine Kc (aa.dM rfl rfl rfl ?_) ?_
  ·exact eM
  refine aj.cg 49 (b:=_) (dh _ 8) (de _ 8) rfl rfl rfl rfl rfl rfl rfl an (fun hb=> ?_) (fun hb=> ?_)
  ·exfalso
   simp at hb
   omega
  iterate 2 refine af ?_
  refine aB.az 7 mixed (by kernel_rfl) (by decide) ?_
  refine af ?_
  refine Kq (Kl (.p (.func (.func (kq v)) [] []))) ?_
  iterate 2 refine af ?_
  refine Kq (aa.jI (l:=1) (h:=(l.length+1)) (r:=(l.flatMap iF)) rfl rfl an kr ⟨_,rfl⟩ rfl (by omega) (by omega) (DP w l)) ?_
  refine Kq (Kp (vb l)) ?_
  refine Kq (Kp (Fc l VF wD hC)) ?_
  refine ay.nil ?_
  refine aj.yA 57 [0,1,2,3,4,5,6] hd rfl (Rt b p um M hu hM _) rfl (fun r H2 h=>((hr r H2 h).2).k (by exact uN b p um M _)) (fun y H2 h=>((hp y H2 h).2.1).k (by exact uN b p um M _)) rfl rfl rfl rfl rfl rfl rfl (Ml v) (fun y H0 hy=> ?_) (fun r H0 hq=> ?_)
  ·obtain⟨rfl,hk,cs,hc,g0⟩:=hp y H0 hy
   have qB:7<=H0.length:=hk.1
   have k8:=dz (H:=(LH b p um M++[ai.cells [.p (.int .i64 (v.many:Int)),.p (.func (.func (kq v)) [] [])] 111])) (ks:=[0,1,2,3,4,5,6]) (i:=8) (by decide) qB Kn (by decide)
   have k0:=e9 (H:=(LH b p um M++[ai.cells [.p (.int .i64 (v.many:Int)),.p (.func (.func (kq v)) [] [])] 111])) (ks:=[0,1,2,3,4,5,6]) (j:=0) (i:=0) (by decide) qB rfl Kn g0
   rw[vW (hu _ (Su b p um M _))] at k0
   have hL9:9<(bf (LH b p um M++[ai.cells [.p (.int .i64 (v.many:Int)),.p (.func (.func (kq v)) [] [])] 111]) [0,1,2,3,4,5,6] H0).length:=by rw[rJ (ks:=[0,1,2,3,4,5,6]) qB];exact Nat.lt_add_right _ Kn
   exact⟨_,rfl,qN b p um e k0 (by rw[dw];exact hc) (dz (i:=7) (by decide) qB Kn (by decide)) (dz (i:=8) (by decide) qB Kn (by decide)) (dz (i:=9) (by decide) qB Kn (by decide)) (dz (i:=17) (by decide) qB Kn (by decide)) ⟨_,KQ rfl rfl rfl (zf hL9) (yQ hL9),.inr ⟨rfl,H0,hy,rfl⟩⟩⟩
  obtain⟨rfl,hk⟩:=hr r H0 hq
  have qB:7<=H0.length:=hk.1
  have k8:(bf (LH b p um M++[ai.cells [.p (.int .i64 (v.many:Int)),.p (.func (.func (kq v)) [] [])] 111]) [0,1,2,3,4,5,6] H0)[8]? =some (.cells [.p (.str (sB []))] 9):=dz (i:=8) (by decide) qB Kn (by decide)
  have k9:(bf (LH b p um M++[ai.cells [.p (.int .i64 (v.many:Int)),.p (.func (.func (kq v)) [] [])] 111]) [0,1,2,3,4,5,6] H0)[9]? =some (.cells [.p (.int .i64 0)] 28):=dz (i:=9) (by decide) qB Kn (by decide)
  have k92:=bK (j:=8) (y:=ai.cells [.p (.str (sB t))] 9) (by decide) k9
  refine Kz (aa.store rfl rfl rfl rfl rfl an rfl (Bx k8 rfl)) ?_
  refine Kz (aa.store rfl rfl rfl rfl rfl an rfl (Bx k92 rfl)) ?_
  iterate 2 refine af ?_
  exact E3 ⟨_,KQ rfl rfl rfl (bK (by decide) (fI k8)) (fI k92),.inl ⟨rfl,H0,hq,rfl⟩⟩
end Go.Proofs.YtchiinjiflgepaaGreatDoor
end
