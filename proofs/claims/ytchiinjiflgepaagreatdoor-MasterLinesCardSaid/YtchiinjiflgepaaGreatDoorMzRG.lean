/-
 Chapter 15, the program: a floor with its marks among own blocks, at any places, and in its own order.
 Chapter 15, the program: a floor is brought into its own order.
 Chapter 15, the program: what a line does to a floor, without what its marks hold.
 Chapter 15, the program: a line that leaves the marks alone.
 Chapter 15, the program: a line that leaves the marks alone, whole.
 Chapter 15, the program: a line that leaves the marks alone, done by a floor with its marks.
 Chapter 15, the program: seven own blocks of a floor (its struct, its rows, its marks) among others; marks as exact slices.
 Chapter 15, the program: lines that set a mark, go back to one, or keep what was entered.
 Chapter 15, the program: what mark, back and keep do, as lines.
 Chapter 15, the program: what back and keep do, as lines.
 Chapter 15, the program: a floor with its marks, wherever it lies, does a line that turns its marks.
 Chapter 15, the program: a floor with its marks does any line.
 Chapter 15, the program: a floor does a line, whole.
 Chapter 15, the program: a call of Line on a floor in its own order.
 Chapter 15, the program: a floor changes its place among own blocks.
-/
import Derived.Test.YtchiinjiflgepaaGreatDoorMzRE
import Derived.Test.YtchiinjiflgepaaGreatDoorFaRF
theorem acG{A:Prop}(h:A:=by
 obtain⟨rfl,⟨_,_,_,_,h,_⟩ | ⟨h1,h2,h3⟩⟩:=hq
 ·exact h.elim
 ·exact Ef):A:=h
theorem JV{A:Prop}(h:A:=by
 exact⟨ZR rfl,fun j x y hj hx hd hy=>by
  match j,hj with
  | 0,_=>cases hx;cases hd
  | 1,_=>cases hx;cases hy;exact hd
  | 2,_=>cases hx;cases hy;exact hd
  | 3,_=>cases hx;cases hy;exact hd
  | 4,_=>cases hx;cases hy;exact hd
  | 5,_=>cases hx;cases hy;exact hd
  | 6,_=>cases hx;cases hd⟩):A:=h
theorem HF{A:Prop}(h:A:=by
 have hi:i<n:=by
  rcases ZS i n with h | h
  ·exact h
  ·have:below n i=none:=by unfold below;rw[if_neg (by simp[Nat.blt];omega)]
   simp only[aZ,this] at e
   cases e
 simp only[aZ,h i hi]):A:=h
theorem aaQ{A:Prop}(h:A:=by
 exact⟨ZR rfl,fun j x y hj hx hd hy=>by
  match j,hj with
  | 0,_=>cases hx;cases hd
  | 1,_=>cases hx;cases hy;exact hd
  | 2,_=>cases hx;cases hy;exact hd
  | 3,_=>cases hx;cases hy;exact hd
  | 4,_=>cases hx;cases hy;exact hd
  | 5,_=>cases hx;cases hy;exact hd
  | 6,_=>cases hy;rfl⟩):A:=h
theorem Sx{A:Prop}(h:A:=by
 exact⟨rfl,n9 hk,.inl ⟨h0,fin (x:= .top) rfl hk (by rw[g3];rfl) (by rw[g3];exact⟨rfl,rfl,rfl,rfl,rfl⟩) (by rw[g3];exact⟨rfl,rfl,rfl,rfl,rfl⟩) (by rw[g3];rfl)⟩⟩):A:=h
theorem Ef{A:Prop}(h:A:=by
 exact⟨rfl,h3.2.2.2,.inr ⟨h1,h2,h3⟩⟩):A:=h
theorem SU{A:Prop}(h:A:=by
 exact⟨dN (by decide) (by decide) g1,dN (by decide) (by decide) g2,dN (by decide) (by decide) g3,dN (by decide) (by decide) g4,dN (by decide) (by decide) g5⟩):A:=h
theorem Ta{A:Prop}(h:A:=by
 rcases Zs.1 hm with hm | hm
 ·exact(hnew i Zx).2 hm
 ·exact n2 (ZI _ hm)):A:=h
theorem SM{A:Prop}(h:A:=by
 rcases Zs.1 hm with hm | hm
 ·exact ZI _ hm
 ·exact ZW _ hm):A:=h
theorem SZ{A:Prop}(h:A:=by
 rw[x8,ZaP (by rw[L0];exact hκ),List.take_range,Hl hκ]):A:=h
theorem Sb{A:Prop}(h:A:=by
 rcases zj F.marks with h | ⟨fs,x,h⟩
 ·rw[h] at hl;simp at hl
 ·exact⟨fs,x,h⟩):A:=h
theorem aaB{A:Prop}(h:A:=by
 rw[x8,Zd (by rw[L0];exact hi),Ys hi]):A:=h
set_option linter.unusedSimpArgs false
set_option linter.unusedVariables false
section
set_option maxRecDepth 100000
namespace Go.Proofs.YtchiinjiflgepaaGreatDoor
open Go.AF
mutual
theorem oc{n:Nat}{σ:Nat->Option Nat}(h:∀ i,i<n->σ i=some i):∀ v:V,aZ (below n) v=v->aZ σ v=v
 | .p _,_=>rfl
 | .ptr i off,e=>by
  exact HF
 | .row i len,e=>by
  exact HF
 | .sl i off len,e=>by
  exact HF
 | .map i,e=>by
  exact HF
 | .func fn fi ca,e=>by
  simp only[aZ,V.func.injEq,true_and] at e ⊢
  exact⟨ju h fi e.1,ju h ca e.2⟩
 | .iface t v,e=>by
  simp only[aZ,V.iface.injEq,true_and] at e ⊢
  exact oc h v e
 | .agg cs,e=>by
  simp only[aZ,V.agg.injEq] at e ⊢
  exact ju h cs e
 | .tuple cs,e=>by
  simp only[aZ,V.tuple.injEq] at e ⊢
  exact ju h cs e
 | .opt g v,e=>by
  simp only[aZ,V.opt.injEq,true_and] at e ⊢
  exact oc h v e
 | .raw _ _ _,_=>rfl
 | .z0,_=>rfl
 | .top,_=>rfl
theorem ju{n:Nat}{σ:Nat->Option Nat}(h:∀ i,i<n->σ i=some i):∀ vs:List V,bE (below n) vs=vs->bE σ vs=vs
 | [],_=>rfl
 | v::vs,e=>by
  simp only[bE,List.cons.injEq] at e ⊢
  exact⟨oc h v e.1,ju h vs e.2⟩
end
theorem Cp{n:Nat}{σ:Nat->Option Nat}(h:∀ i,i<n->σ i=some i):∀ T:Tm,fG (below n) T=T->fG σ T=T
 | [],_=>rfl
 | (s,v)::T,e=>by
  simp only[fG,List.cons.injEq,Prod.mk.injEq,true_and] at e ⊢
  exact⟨oc h v e.1,Cp h T e.2⟩
def Da(n:Nat):ak->Prop
 | .cells cs _=>bE (below n) cs=cs
 | .row cs _=>bE (below n) cs=cs
 | .iU cs _=>bE (below n) cs=cs
 | .loop r _ _=>fG (below n) r.T=r.T
 | .dead=>True
 | _=>False
theorem K2{n:Nat}{σ:Nat->Option Nat}(h:∀ i,i<n->σ i=some i){x:ak}(e:Da n x):aM σ x=x:=by
 cases x with
 | cells cs t=>show ak.cells (bE σ cs) t=_;rw[ju h cs e]
 | row cs t=>show ak.row (bE σ cs) t=_;rw[ju h cs e]
 | iU cs t=>show ak.iU (bE σ cs) t=_;rw[ju h cs e]
 | loop r st pe=>show ak.loop {r with T:=fG σ r.T} st pe=_;rw[Cp h r.T e]
 | dead=>rfl
 | _=>exact e.elim
theorem nv{ks:List Nat}(hn:ks.Nodup){j i:Nat}(h:ks[j]? =some i):pl ks i=some j:=by
 have hj:=(Za.1 h).1
 have e:=(Za.1 h).2
 unfold pl List.idxOf?
 rw[ZaV]
 refine⟨hj,by simp[e],fun k hk=> ?_⟩
 intro hc
 have hc:ks[k]=i:=by simpa using hc
 have:k=j:=(ZbO (by omega) hn).1 (by rw[Zb (by omega),hc,h])
 omega
structure P5 where
 a:Nat
 b:Nat
 c:Nat
 d:Nat
 e:Nat
def P5.l(q:P5):List Nat:=[q.a,q.b,q.c,q.d,q.e]
def tE(q:P5)(b:bU):List V:=dR q.a q.b q.c q.d q.e b
def fq(b:bU):List ak:=[dD b.au,dj b.ag,dI b.ax,bL b.plan,bL b.bH]
def uv(i:Nat):P5:=⟨i,i+1,i+2,i+3,i+4⟩
def qu:List P5->List bU->List V
 | q::qs,b::bs=>tE q b++qu qs bs
 | _,_=>[]
def lz(i:Nat):Nat->List P5
 | 0=>[]
 | n+1=>uv i::lz (i+5) n
def tB(im:Nat)(F:c7)(z:Bool):V:=bif z then .z0 else .row im F.marks.length
def Bm(qs:List P5)(F:c7)(z:Bool):ak:=bif z then .dead else .row (qu qs F.marks) yb
def cX(c:Nat)(F:c7)(z:Bool):List ak:=cI F.b F.aT (tB (c+1) F z) (c+2) (c+3) (c+4) (c+5) (c+6)::Bm (lz (c+7) F.marks.length) F z::(fq F.b++F.marks.flatMap fq++eD (40 - 5*F.marks.length))
def kM(H:List ak)(q:P5)(b:bU):Prop:=H[q.a]? =some (dD b.au)∧H[q.b]? =some (dj b.ag)∧H[q.c]? =some (dI b.ax)∧H[q.d]? =some (bL b.plan)∧H[q.e]? =some (bL b.bH)
inductive rL (H:List ak):List P5->List bU->Prop
 | nil:rL H [] []
 | cons {q:P5} {b:bU} {qs:List P5} {bs:List bU} (h:kM H q b) (t:rL H qs bs):rL H (q::qs) (b::bs)
structure iJ (c:Nat) (F:c7) (z:Bool) (H:List ak) (q:P5) (im:Nat) (qs:List P5):Prop where
 fl:H[c]? =some (cI F.b F.aT (tB im F z) q.a q.b q.c q.d q.e)
 a5:kM H q F.b
 mb:H[im]? =some (Bm qs F z)
 mz:z=true->F.marks=[]
 ats:rL H qs F.marks
 nd:(c::im::(q.l++qs.flatMap P5.l)).Nodup
 low:∀ i∈(im::(q.l++qs.flatMap P5.l)),c<=i
theorem rL.len{H:List ak}{qs:List P5}{bs:List bU}(h:rL H qs bs):qs.length=bs.length:=by
 induction h with
 | nil=>rfl
 | cons _ _ ih=>rw[Zp,Zp,ih]
theorem tu:∀(r i:Nat),i<r->(eD r)[i]? =some .dead
 | 0,i,h=>by omega
 | r+1,0,_=>rfl
 | r+1,i+1,h=>tu r i (by omega)
theorem oG:∀ r,(eD r).length=r
 | 0=>rfl
 | r+1=>by show(eD r).length+1=_;rw[oG r]
theorem qI{σ:Nat->Option Nat}{H:List ak}{q:P5}{b:bU}(h:kM H q b):q.l.map (fun i=>aM σ (H.getD i .dead))=fq b:=by
 obtain⟨h1,h2,h3,h4,h5⟩:=h
 have g:∀{i:Nat} {x:ak},H[i]? =some x->H.getD i .dead=x:=fun hx=>by rw[Zh,hx];rfl
 show[aM σ (H.getD q.a .dead),aM σ (H.getD q.b .dead),aM σ (H.getD q.c .dead),aM σ (H.getD q.d .dead),aM σ (H.getD q.e .dead)]=_
 rw[g h1,g h2,g h3,g h4,g h5]
 simp only[dD,dj,dI,bL,bS]
 rfl
theorem HC{σ:Nat->Option Nat}{H:List ak}{qs:List P5}{bs:List bU}(h:rL H qs bs):(qs.flatMap P5.l).map (fun i=>aM σ (H.getD i .dead))=bs.flatMap fq:=by
 induction h with
 | nil=>rfl
 | cons h _ ih=>rw[ZJ,Zy,qI h,ih,ZJ]
theorem FK{σ:Nat->Option Nat}{q:P5}{b:bU}{i:Nat}(h:∀(k x:Nat),q.l[k]? =some x->σ x=some (i+k)):bE σ (tE q b)=tE (uv i) b:=by
 unfold tE dR
 simp only[bY,cD,eZ,cM (h 0 q.a rfl),cM (h 1 q.b rfl),cM (h 2 q.c rfl),cM (h 3 q.d rfl),cM (h 4 q.e rfl)]
 rfl
theorem Ad{σ:Nat->Option Nat}:∀(qs:List P5) (bs:List bU) (i:Nat),qs.length=bs.length->(∀(k x:Nat),(qs.flatMap P5.l)[k]? =some x->σ x=some (i+k))->bE σ (qu qs bs)=qu (lz i bs.length) bs
 | [],[],_,_,_=>rfl
 | q::qs,b::bs,i,hl,h=>by
  show bE σ (tE q b++qu qs bs)=tE (uv i) b++qu (lz (i+5) bs.length) bs
  rw[bI,FK (i:=i) fun k x hk=>h k x (by
   rw[ZJ,Zd (Za.1 hk).1];exact hk),Ad qs bs (i+5) (by simpa using hl) fun k x hk=>by
   have:=h (5+k) x (by rw[ZJ,Zj (by show 5<=5+k;omega),show 5+k - q.l.length=k by show 5+k - 5=k;omega];exact hk)
   rw[this,Jr]]
 | [],_::_,_,hl,_=>by cases hl
 | _::_,[],_,hl,_=>by cases hl
theorem E0{σ:Nat->Option Nat}{b:bU}{p:Di.bX}{um oS:V}{q:P5}{i:Nat}(hu:aZ σ um=oS)(h:∀(k x:Nat),q.l[k]? =some x->σ x=some (i+k)):aM σ (cI b p um q.a q.b q.c q.d q.e)=cI b p oS i (i+1) (i+2) (i+3) (i+4):=by
 unfold cI
 rw[cj,bI,bI,aP]
 have e:=FK (σ:=σ) (b:=b) (i:=i) h
 unfold tE at e
 rw[e]
 simp only[bY,cD,eZ,hu]
 rfl
theorem kM.lt{H:List ak}{q:P5}{b:bU}(h:kM H q b):∀ i∈q.l,i<H.length:=by
 obtain⟨h1,h2,h3,h4,h5⟩:=h
 intro i hi
 simp only[P5.l,Zv,Oc,or_false] at hi
 rcases hi with rfl | rfl | rfl | rfl | rfl
 ·exact(Za.1 h1).1
 ·exact(Za.1 h2).1
 ·exact(Za.1 h3).1
 ·exact(Za.1 h4).1
 ·exact(Za.1 h5).1
theorem rL.lt{H:List ak}{qs:List P5}{bs:List bU}(h:rL H qs bs):∀ i∈qs.flatMap P5.l,i<H.length:=by
 induction h with
 | nil=>intro i hi;cases hi
 | cons h _ ih=>
  intro i hi
  rw[ZJ] at hi
  rcases Zs.1 hi with hi | hi
  ·exact h.lt i hi
  ·exact ih i hi
theorem Bi{P:Program}{κ N c:Nat}{T T2:Tm}{F:c7}{z:Bool}{H pre:List ak}{q:P5}{im:Nat}{qs:List P5}(h:iJ c F z H q im qs)(hc:pre.length=c)(hpre:∀(i:Nat) (x:ak),pre[i]? =some x->H[i]? =some x∧Da (c+1) x)(hκ:κ<=c)(hT:Sub T2 T)(hl:fG (below (c+1)) T2=T2):To P κ N T H T2 (pre++cX c F z):=by
 obtain⟨r,er⟩:∃ r,r=40 - 5*F.marks.length:=⟨_,rfl⟩
 obtain⟨A,eA⟩:∃ A,A=c::im::(q.l++qs.flatMap P5.l):=⟨_,rfl⟩
 obtain⟨ks,x8⟩:∃ ks,ks=List.range c++(A++List.range' H.length r):=⟨_,rfl⟩
 have hcl:c<H.length:=(Za.1 h.fl).1
 have Qq:∀ i∈A,c<=i∧i<H.length:=by
  rw[eA]
  intro i hi
  rcases Zv.1 hi with rfl | hi
  ·exact⟨Zg _,hcl⟩
  ·refine⟨h.low i hi,?_⟩
   rcases Zv.1 hi with rfl | hi
   ·exact(Za.1 h.mb).1
   ·rcases Zs.1 hi with hi | hi
    ·exact h.a5.lt i hi
    ·exact h.ats.lt i hi
 have hnA:A.Nodup:=by rw[eA];exact h.nd
 have hnk:ks.Nodup:=by
  rw[x8,xM,xM]
  refine⟨List.nodup_range,⟨hnA,List.nodup_range',fun a ha b hb=> ?_⟩,fun a ha b hb=> ?_⟩
  ·have h1:=(Qq a ha).2
   have h2:=(NK.1 hb).1
   omega
  ·have h1:=wX.1 ha
   rcases Zs.1 hb with hb | hb
   ·have:=(Qq b hb).1;omega
   ·have h2:=(NK.1 hb).1
    omega
 have gi:∀ i,i<c->ks[i]? =some i:=fun i hi=>by
  exact aaB
 have gA:∀(k x:Nat),A[k]? =some x->ks[c+k]? =some x:=fun k x hx=>by
  rw[x8,Zj (by rw[L0];omega),L0,ZK,Zd (Za.1 hx).1]
  exact hx
 have pi:∀ i,i<c->pl ks i=some i:=fun i hi=>nv hnk (gi i hi)
 have pA:∀(k x:Nat),A[k]? =some x->pl ks x=some (c+k):=fun k x hx=>nv hnk (gA k x hx)
 have pc:pl ks c=some c:=by have:=pA 0 c (by rw[eA];rfl);rwa [Il] at this
 have pm:pl ks im=some (c+1):=pA 1 im (by rw[eA];rfl)
 have pq:∀(k x:Nat),q.l[k]? =some x->pl ks x=some (c+2+k):=fun k x hx=>by
  have:=pA (2+k) x (by rw[eA,XK 2 k];show(q.l++qs.flatMap P5.l)[k]? =some x;rw[Zd (Za.1 hx).1];exact hx)
  rw[this,Jr]
 have pqs:∀(k x:Nat),(qs.flatMap P5.l)[k]? =some x->pl ks x=some (c+7+k):=fun k x hx=>by
  have:=pA (7+k) x (by rw[eA,show 7+k=5+k+2 by omega];show(q.l++qs.flatMap P5.l)[5+k]? =some x;rw[Zj (by show 5<=5+k;omega),show 5+k - q.l.length=k by show 5+k - 5=k;omega];exact hx)
  rw[this,Jr]
 have abu:∀ i,i<c+1->pl ks i=some i:=fun i hi=>by
  rcases ZS i c with h | h
  ·exact pi i h
  ·obtain rfl:i=c:=by omega
   exact pc
 have hd:∀ i,i<H.length->(H++eD r).getD i .dead=H.getD i .dead:=fun i hi=>by
  rw[Zh,Zh,Zd hi]
 have hkeep:kz κ (H++eD r).length ks=true:=by
  unfold kz
  simp only[Zo,beq_iff_eq,ZC,Zl]
  refine⟨⟨?_,fun i hi=> ?_⟩,hnk⟩
  ·exact SZ
  ·have:i<(H++eD r).length:=by
     rw[Zc,oG]
     rw[x8] at hi
     rcases Zs.1 hi with hi | hi
     ·have:=wX.1 hi;omega
     ·rcases Zs.1 hi with hi | hi
      ·have:=(Qq i hi).2;omega
      ·have:=(NK.1 hi).2;omega
   simpa[Nat.blt,ZA] using this
 have hmap:(ks.map fun i=>aM (pl ks) ((H++eD r).getD i .dead))=pre++cX c F z:=by
  have e1:(List.range c).map (fun i=>aM (pl ks) ((H++eD r).getD i .dead))=pre:=by
   apply Dt
   intro i
   rw[Zt]
   rcases ZS i c with hi | hi
   ·rw[Ys hi]
    have hx:=Zb (show i<pre.length by omega)
    obtain⟨h1,h2⟩:=hpre i _ hx
    rw[hx]
    show some (aM (pl ks) ((H++eD r).getD i .dead))=_
    rw[hd i (Za.1 h1).1,Zh,h1]
    exact congrArg some (K2 abu h2)
   ·rw[ZH (by rw[L0];exact hi),ZH (by omega)]
    rfl
  have e2:A.map (fun i=>aM (pl ks) ((H++eD r).getD i .dead))=A.map (fun i=>aM (pl ks) (H.getD i .dead)):=Xx fun i hi=>by rw[hd i (Qq i hi).2]
  have e3:A.map (fun i=>aM (pl ks) (H.getD i .dead))=cI F.b F.aT (tB (c+1) F z) (c+2) (c+3) (c+4) (c+5) (c+6)::Bm (lz (c+7) F.marks.length) F z::(fq F.b++F.marks.flatMap fq):=by
   rw[eA,ZE,ZE,Zy,qI h.a5,HC h.ats]
   have f1:H.getD c .dead=cI F.b F.aT (tB im F z) q.a q.b q.c q.d q.e:=by rw[Zh,h.fl];rfl
   have f2:H.getD im .dead=Bm qs F z:=by rw[Zh,h.mb];rfl
   rw[f1,f2,E0 (oS:=tB (c+1) F z) (i:=c+2) (by
    cases z with
    | true=>rfl
    | false=>show aZ _ (.row im _)=_;simp only[aZ,pm];rfl) pq]
   have f3:aM (pl ks) (Bm qs F z)=Bm (lz (c+7) F.marks.length) F z:=by
    cases z with
    | true=>rfl
    | false=>show ak.row (bE _ _) _=_;rw[Ad qs F.marks (c+7) h.ats.len pqs];rfl
   rw[f3]
  have e4:(List.range' H.length r).map (fun i=>aM (pl ks) ((H++eD r).getD i .dead))=eD r:=by
   apply Dt
   intro i
   rw[Zt]
   rcases ZS i r with hi | hi
   ·rw[Xy hi,tu r i hi]
    show some (aM (pl ks) ((H++eD r).getD (H.length+1*i) .dead))=_
    rw[Zh,ZN,Zj (by omega),ZK,tu r i hi]
    rfl
   ·rw[ZH (by rw[WG];exact hi),ZH (by rw[oG];exact hi)]
    rfl
  rw[x8] at e1 e2 e3 e4 ⊢
  rw[Zy,Zy,e1,e2,e3,e4,er]
  unfold cX
  simp only[NS,ZM]
 have hk:=To.keep (P:=P) (κ:=κ) (N:=N) (T:=T) (H:=H++eD r) ks hkeep
 rw[hmap] at hk
 refine(To.PY r).trans (hk.trans (To.sub fun s v hv=> ?_))
 rw[rm,hT s v hv]
 have h2:lk (fG (below (c+1)) T2) s=some v:=by rw[hl];exact hv
 rw[rm,hv] at h2
 exact congrArg some (oc abu v (ZB h2))
theorem B9:∀(n i:Nat),(lz i n).length=n
 | 0,_=>rfl
 | n+1,i=>by show(lz (i+5) n).length+1=_;rw[B9 n]
theorem tc:∀(n i:Nat),(lz i n).flatMap P5.l=List.range' i (5*n)
 | 0,_=>rfl
 | n+1,i=>by
  show(uv i).l++(lz (i+5) n).flatMap P5.l=_
  rw[tc n,show 5*(n+1)=5+5*n by omega,<- List.range'_append_1]
  rfl
def Ih(b:bU)(p:Di.bX)(um:V)(k:Nat)(H:List ak):Prop:=∃ q:P5,(k::q.l).Nodup∧H[k]? =some (cI b p um q.a q.b q.c q.d q.e)∧kM H q b
def P5.map(f:Nat->Nat)(q:P5):P5:=⟨f q.a,f q.b,f q.c,f q.d,f q.e⟩
theorem P5.vv(f:Nat->Nat)(q:P5):(q.map f).l=q.l.map f:=rfl
theorem jx{H H0:List ak}{ks:List Nat}{q:P5}{b:bU}(hn:ks.Nodup)(hl:ks.length<=H0.length)(hlt:∀ i∈ks,i<H.length)(h:kM H0 q b):kM (bA H ks H0) (q.map (nE H ks)) b:=by
 obtain⟨h1,h2,h3,h4,h5⟩:=h
 have g:∀{i n:Nat} {cs:List PV} {e:TypeId},H0[i]? =some (dG (cs.map .p) e n)->(bA H ks H0)[nE H ks i]? =some (dG (cs.map .p) e n):=fun hx=>by
  rw[qD hn hl hlt hx,bS]
 exact⟨g h1,g h2,g h3,g h4,g h5⟩
theorem wD{H H0:List ak}{ks:List Nat}{q:P5}{b:bU}(hK:gC H ks H0)(h:kM H0 q b):bE (eV H ks) (tE q b)=tE (q.map (nE H ks)) b:=by
 obtain⟨h1,h2,h3,h4,h5⟩:=h
 unfold tE dR
 simp only[bY,cD,eZ]
 rw[oq hK h1,oq hK h2,oq hK h3,oq hK h4,oq hK h5]
 rfl
theorem mg{H H0:List ak}{ks:List Nat}{q:P5}{b:bU}{p:Di.bX}{um oS:V}(hK:gC H ks H0)(h:kM H0 q b)(hu:aZ (eV H ks) um=oS):aM (eV H ks) (cI b p um q.a q.b q.c q.d q.e)=cI b p oS (nE H ks q.a) (nE H ks q.b) (nE H ks q.c) (nE H ks q.d) (nE H ks q.e):=by
 unfold cI
 rw[cj,bI,bI,aP]
 have e:=wD hK h
 unfold tE at e
 rw[e]
 simp only[bY,cD,eZ,hu]
 rfl
theorem wL{H:List ak}{ks:List Nat}{j i:Nat}(h:ks[j]? =some i):nE H ks j=i:=by
 unfold nE
 rw[h]
theorem Ih.back{H H0:List ak}{ks:List Nat}{k k2:Nat}{b:bU}{p:Di.bX}{um oS:V}(h:Ih b p um k H0)(hn:ks.Nodup)(hK:gC H ks H0)(hlt:∀ i∈ks,i<H.length)(hk:ks[k]? =some k2)(hu:aZ (eV H ks) um=oS):Ih b p oS k2 (bA H ks H0):=by
 obtain⟨q,h1,h2,h3⟩:=h
 refine⟨q.map (nE H ks),?_,?_,jx hn hK.1 hlt h3⟩
 ·have:=tA (H:=H) hn hlt h1
  rw[ZE,wL hk] at this
  exact this
 ·have:=qD hn hK.1 hlt h2
  rw[wL hk,mg hK h3 hu] at this
  exact this
theorem Ih.set{H:List ak}{k i:Nat}{b:bU}{p:Di.bX}{um:V}{x y:ak}(h:Ih b p um k H)(hi:H[i]? =some x)(hne:i≠k)(hx:∀ q:P5,kM H q b->i∉q.l):Ih b p um k (H.set i y):=by
 obtain⟨q,h1,h2,h3⟩:=h
 have hq:=hx q h3
 simp only[P5.l,Zv,Oc,or_false,not_or] at hq
 obtain⟨k1,k2,k3,k4,k5⟩:=h3
 exact⟨q,h1,b9 hne h2,b9 hq.1 k1,b9 hq.2.1 k2,b9 hq.2.2.1 k3,b9 hq.2.2.2.1 k4,b9 hq.2.2.2.2 k5⟩
theorem Lf{H:List ak}{ks:List Nat}{q:P5}{b:bU}{p:Di.bX}{um oS:V}(hn:ks.Nodup)(h1:ks[1]? =some q.a)(h2:ks[2]? =some q.b)(h3:ks[3]? =some q.c)(h4:ks[4]? =some q.d)(h5:ks[5]? =some q.e)(h:kM H q b)(hu:aZ (oX H ks) um=oS):aM (oX H ks) (cI b p um q.a q.b q.c q.d q.e)=cI b p oS 1 2 3 4 5:=by
 obtain⟨g1,g2,g3,g4,g5⟩:=h
 have gd:∀{i:Nat} {x:ak},H[i]? =some x->H.getD i .dead=x:=fun hx=>by rw[Zh,hx];rfl
 unfold cI dR
 rw[cj,bI,bI,aP]
 simp only[bY,cD,eZ,hu]
 rw[gZ (nv hn h1) (gd g1),gZ (nv hn h2) (gd g2),gZ (nv hn h3) (gd g3),gZ (nv hn h4) (gd g4),gZ (nv hn h5) (gd g5)]
theorem JJ{H:List ak}{k:Nat}{q:P5}{b:bU}{p:Di.bX}{um oS:V}(hn:(k::q.l).Nodup)(h0:H[k]? =some (cI b p um q.a q.b q.c q.d q.e))(h:kM H q b)(hu:aZ (oX H (k::q.l)) um=oS):((k::q.l).map fun i=>aM (oX H (k::q.l)) (H.getD i .dead))=ov b p oS:=by
 have gd:∀{i:Nat} {x:ak},H[i]? =some x->H.getD i .dead=x:=fun hx=>by rw[Zh,hx];rfl
 rw[ZE,qI h,gd h0,Lf hn rfl rfl rfl rfl rfl h hu]
 rfl
def wg(b:bU)(p:Di.bX)(um:V)(H:List ak):Prop:=6<=H.length∧∀(j:Nat) (x y:ak),0<j->j<6->(ov b p um)[j]? =some x->x.live=false->H[j]? =some y->y.live=false
theorem AT.dead{b:bU}{p:Di.bX}{um:V}{H:List ak}(h:AT b p um H):wg b p um H:=⟨h.1,fun j x y h0 h6 hx hl hy=>by
 rcases h.2 j y h0 h6 hy with rfl | h2
 ·rfl
 ·rw[hx] at h2;cases h2;exact hl⟩
theorem wg.k{b:bU}{p:Di.bX}{oS:V}{H H0:List ak}{k:Nat}{q:P5}{x0:ak}(h:wg b p oS H0)(h0:H[k]? =some x0)(hl0:x0.live=true)(ha:kM H q b):gC H (k::q.l) H0:=by
 refine⟨h.1,fun j i y hk hl hy=> ?_⟩
 have gd:∀{i:Nat} {x:ak},H[i]? =some x->H.getD i .dead=x:=fun hx=>by rw[Zh,hx];rfl
 obtain⟨g1,g2,g3,g4,g5⟩:=ha
 have hj:j<6:=(Za.1 hk).1
 match j,hj with
 | 0,_=>cases hk;rw[gd h0,hl0] at hl;cases hl
 | 1,_=>cases hk;rw[gd g1] at hl;exact h.2 1 _ y (by decide) (by decide) rfl hl hy
 | 2,_=>cases hk;rw[gd g2] at hl;exact h.2 2 _ y (by decide) (by decide) rfl hl hy
 | 3,_=>cases hk;rw[gd g3] at hl;exact h.2 3 _ y (by decide) (by decide) rfl hl hy
 | 4,_=>cases hk;rw[gd g4] at hl;exact h.2 4 _ y (by decide) (by decide) rfl hl hy
 | 5,_=>cases hk;rw[gd g5] at hl;exact h.2 5 _ y (by decide) (by decide) rfl hl hy
theorem At6.q{b:bU}{p:Di.bX}{um:V}{H:List ak}(h:At6 b p um H):Ih b p um 0 H:=by
 obtain⟨i1,i2,i3,i4,i5,h0,h1,h2,h3,h4,h5,h6⟩:=h
 exact⟨⟨i1,i2,i3,i4,i5⟩,h0,h1,h2,h3,h4,h5,h6⟩
def ach(F:c7)(x:c7×Bs×Int):Prop:=x.2.2≠0->x=(F,[],x.2.2)
theorem ack(F:c7)(v:Vb)(n:List Int):ach F (bp F v n):=by
 cases v <;> unfold bp <;> dsimp only <;> (repeat' split) <;> (intro h;first | rfl | exact absurd rfl h)
theorem EL{F:c7}{v:Vb}{n:List Int}(h:(bp F v n).2.2≠0):bp F v n=(F,[],(bp F v n).2.2):=ack F v n h
theorem qz{cs:List V}{e n:Nat}{xs:List V}{t:TypeId}:(dG cs e n:ak)≠ .cells xs t:=by
 cases n <;> (intro h;cases h)
theorem FJ{H:List ak}{q:P5}{b:bU}{i:Nat}{xs:List V}{t:TypeId}(hi:H[i]? =some (.cells xs t))(h:kM H q b):i∉q.l:=by
 obtain⟨h1,h2,h3,h4,h5⟩:=h
 intro hm
 simp only[P5.l,Zv,Oc,or_false] at hm
 rcases hm with rfl | rfl | rfl | rfl | rfl
 ·rw[hi] at h1;exact qz (ZB h1).symm
 ·rw[hi] at h2;exact qz (ZB h2).symm
 ·rw[hi] at h3;exact qz (ZB h3).symm
 ·rw[hi] at h4;exact qz (ZB h4).symm
 ·rw[hi] at h5;exact qz (ZB h5).symm
def VQ7(F:c7)(v:Vb)(n:List Int)(um:V):V->List ak->Prop:=fun r H2=>(bp F v n).2.2=0∧r= .p (.str (sB (bp F v n).2.1))∧Ih (bp F v n).1.b F.aT um 0 H2∧cx (fQ F.b F.aT um .dead) H2
def VP7(F:c7)(v:Vb)(n:List Int)(um:V):PV->List ak->Prop:=fun y H2=>(bp F v n).2.2≠0∧y= .iface 106 (.agg [.int .i64 (bp F v n).2.2])∧(∃ cs:List V,cs.length=7∧H2[0]? =some (.cells (cs++F.aT.cells.map .p++[um,.p (.bool true)]) 63))∧cx (fQ F.b F.aT um .dead) H2
theorem FC{b:bU}{p:Di.bX}{um:V}{H0:List ak}(h:wg b p um H0):cx (fQ b p um .dead) (bA (fQ b p um .dead) [0,1,2,3,4,5] H0):=by
 have hl:(6:Nat)<=H0.length:=h.1
 refine⟨by rw[sI (ks:=[0,1,2,3,4,5]) hl];show 7<=7+_;omega,fun j x y hj hx hd hy=> ?_⟩
 have hin:∀ j,0<j->j<6->([0,1,2,3,4,5]:List Nat)[j]? =some j->(ov b p um)[j]? =some x->(bA (fQ b p um .dead) [0,1,2,3,4,5] H0)[j]? =some y->y.live=false:=fun j h0 h6 hk hx hy=>by
  have hj0:j<H0.length:=by omega
  have e:=fP (H:=fQ b p um .dead) (ks:=[0,1,2,3,4,5]) (by decide) hl hk (show j<7 by omega) (Zb hj0)
  rw[hy] at e
  rw[ZB e,cC]
  exact h.2 j x _ h0 h6 hx hd (Zb hj0)
 match j,hj with
 | 0,_=>cases hx;cases hd
 | 1,_=>exact hin 1 (by decide) (by decide) rfl hx hy
 | 2,_=>exact hin 2 (by decide) (by decide) rfl hx hy
 | 3,_=>exact hin 3 (by decide) (by decide) rfl hx hy
 | 4,_=>exact hin 4 (by decide) (by decide) rfl hx hy
 | 5,_=>exact hin 5 (by decide) (by decide) rfl hx hy
 | 6,_=>
  have e:=dX (H:=fQ b p um .dead) (ks:=[0,1,2,3,4,5]) (H0:=H0) (i:=6) (by decide) hl Kn (by decide)
  rw[hy] at e
  rw[ZB e];rfl
theorem VC.to7{v:Vb}{g:FuncId}(h:VC v g)(F:c7)(n:List Int)(a:Option Addr)(m c:Nat)(hF:kK F)(hl:n.length=v.many)(hn:∀ x∈n,0<=x∧x<10000000000000):aD Tryz.prog g [.ptr 0 0,.p (Di.aQ n)] (fQ F.b F.aT (.raw a m c) .dead) (VQ7 F v n (.raw a m c)) (VP7 F v n (.raw a m c)):=by
 have a5:kM (fQ F.b F.aT (.raw a m c) .dead) (uv 1) F.b:=⟨rfl,rfl,rfl,rfl,rfl⟩
 have kk:∀{H0:List ak},wg F.b F.aT (.raw a m c) H0->gC (fQ F.b F.aT (.raw a m c) .dead) [0,1,2,3,4,5] H0:=fun hd=>hd.k (k:=0) (q:=uv 1) rfl rfl a5
 have hf:=(h F n a m c hF hl hn).zH (H:=fQ F.b F.aT (.raw a m c) .dead) (args:=[.ptr 0 0,.p (Di.aQ n)]) [0,1,2,3,4,5] rfl (JJ (k:=0) (q:=uv 1) (by decide) rfl a5 rfl) rfl (fun v0 H0 hq=>kk hq.2.2.2.dead) (fun y H0 hq=>kk hq.2.2.2.dead)
 refine hf.mono (fun r H2 hq=> ?_) (fun y H2 hq=> ?_)
 ·obtain⟨v0,H0,⟨h1,rfl,h3,h4⟩,rfl,rfl⟩:=hq
  refine⟨h1,rfl,(h3.q).back (by decide) (kk h4.dead) (fun i hi=> ?_) rfl rfl,FC h4.dead⟩
  have:i<6:=by simp at hi;omega
  show i<7
  omega
 ·obtain⟨H0,⟨h1,rfl,⟨cs,hc,h3⟩,h4⟩,rfl⟩:=hq
  refine⟨h1,rfl,⟨bE (eV (fQ F.b F.aT (.raw a m c) .dead) [0,1,2,3,4,5]) cs,by rw[dW];exact hc,?_⟩,FC h4.dead⟩
  have e:=fP (H:=fQ F.b F.aT (.raw a m c) .dead) (ks:=[0,1,2,3,4,5]) (j:=0) (i:=0) (by decide) h4.1 rfl Kn h3
  rw[e,vz rfl]
def mP(v:Vb):Bool:=match v with
 | .mark=>false
 | .back=>false
 | .keep=>false
 | _=>true
theorem UZ(v:Vb)(h:mP v=true):VC v (mu v):=by
 cases v <;> first | cases h | skip
 ·exact Wh
 ·exact Uq
 ·exact VH
 ·exact KR
 ·exact aaR
 ·exact VX
 ·exact QS
 ·exact WR
 ·exact Vl
 ·exact We
theorem jf{H:List ak}{b:bU}{p:Di.bX}{um:V}{e:Int}{j:Nat}(h0:j≠0)(h8:j≠8)(h9:j≠9)(hj:j<H.length):(gY H b p um e)[j]? =H[j]? :=by
 unfold gY
 rw[Zu,if_neg (Ne.symm h9),Zu,if_neg (Ne.symm h8),Zu,if_neg (Ne.symm h0),Zd hj]
theorem EG{H:List ak}{b:bU}{p:Di.bX}{um:V}{e:Int}:(gY H b p um e)[0]? =some (cI b p um 13 12 14 15 16):=by
 unfold gY
 refine b9 (by decide) (b9 (by decide) ?_)
 rw[Zu,if_pos rfl,if_pos (by simp)]
theorem s0{H:List ak}{b:bU}{p:Di.bX}{um:V}{e:Int}:(gY H b p um e).length=H.length+1:=by
 unfold gY
 simp
def E6(n:Nat)(H0 H:List ak):Prop:=∀(j:Nat) (x y:ak),0<j->j<n->H0[j]? =some x->x.live=false->H[j]? =some y->y.live=false
theorem Cu{H:List ak}{b:bU}{p:Di.bX}{um:V}{e:Int}(hl:17<H.length)(h5:kM H ⟨13,12,14,15,16⟩ b):Ih b p um 0 (gY H b p um e):=by
 obtain⟨h1,h2,h3,h4,h6⟩:=h5
 refine⟨⟨13,12,14,15,16⟩,by decide,EG,?_,?_,?_,?_,?_⟩
 ·rw[jf (by decide) (by decide) (by decide) (show 13<H.length by omega)];exact h1
 ·rw[jf (by decide) (by decide) (by decide) (show 12<H.length by omega)];exact h2
 ·rw[jf (by decide) (by decide) (by decide) (show 14<H.length by omega)];exact h3
 ·rw[jf (by decide) (by decide) (by decide) (show 15<H.length by omega)];exact h4
 ·rw[jf (by decide) (by decide) (by decide) (show 16<H.length by omega)];exact h6
theorem pW{H H0:List ak}{b:bU}{p:Di.bX}{um:V}{e:Int}{n:Nat}(hn:n<=8)(hl:17<H.length)(h:E6 n H0 H):E6 n H0 (gY H b p um e):=fun j x y h0 h6 hx hd hy=>by
 rw[jf (by omega) (by omega) (by omega) (by omega)] at hy
 exact h j x y h0 h6 hx hd hy
def mI(b:bU)(p:Di.bX)(um:V)(M X:ak):List ak:=LH b p um M++[X]
theorem QO(b:bU)(p:Di.bX)(um:V)(M X:ak):kM (mI b p um M X) ⟨13,12,14,15,16⟩ b:=⟨rfl,rfl,rfl,rfl,rfl⟩
theorem Cs{b:bU}{p:Di.bX}{um:V}{M X:ak}{H0:List ak}(hl:7<=H0.length):kM (bA (mI b p um M X) [0,1,2,3,4,5,6] H0) ⟨13,12,14,15,16⟩ b:=by
 have g:∀(i:Nat) (x:ak),i<19->i∉([0,1,2,3,4,5,6]:List Nat)->(mI b p um M X)[i]? =some x->(bA (mI b p um M X) [0,1,2,3,4,5,6] H0)[i]? =some x:=fun i x hi hk hx=>by
  rw[dX (ks:=[0,1,2,3,4,5,6]) (by decide) hl (show i<19 from hi) hk];exact hx
 exact⟨g 13 _ (by decide) (by decide) rfl,g 12 _ (by decide) (by decide) rfl,g 14 _ (by decide) (by decide) rfl,g 15 _ (by decide) (by decide) rfl,g 16 _ (by decide) (by decide) rfl⟩
theorem rI{b:bU}{p:Di.bX}{um:V}{M X:ak}{H0:List ak}(hl:7<=H0.length):18<(bA (mI b p um M X) [0,1,2,3,4,5,6] H0).length:=by
 rw[sI (ks:=[0,1,2,3,4,5,6]) hl]
 show 18<19+_
 omega
theorem rz{b:bU}{p:Di.bX}{um:V}{M X:ak}{H0:List ak}(h:cx (fQ b p um M) H0):E6 7 (fQ b p um M) (bA (mI b p um M X) [0,1,2,3,4,5,6] H0):=fun j x y h0 h7 hx hd hy=>by
 have hl:=h.len
 have hk:([0,1,2,3,4,5,6]:List Nat)[j]? =some j:=by
  match j,h7 with
  | 0,_=>rfl
  | 1,_=>rfl
  | 2,_=>rfl
  | 3,_=>rfl
  | 4,_=>rfl
  | 5,_=>rfl
  | 6,_=>rfl
 have hj0:j<H0.length:=by omega
 have e:=fP (H:=mI b p um M X) (ks:=[0,1,2,3,4,5,6]) (by decide) hl hk (show j<19 by omega) (Zb hj0)
 rw[hy] at e
 rw[ZB e,cC]
 exact h.dead j x _ h7 hx hd (Zb hj0)
theorem oE{b:bU}{p:Di.bX}{um:V}{M X:ak}{H0:List ak}(h:cx (fQ b p um M) H0):gC (mI b p um M X) [0,1,2,3,4,5,6] H0:=h.k (vm b p um M X)
theorem vQ{b:bU}{p:Di.bX}{um:V}{M:ak}{H:List ak}(hl:6<=H.length)(h:E6 7 (fQ b p um M) H):wg b p um H:=⟨hl,fun j x y h0 h6 hx hd hy=>h j x y h0 (by omega) (by
 match j,h6 with
 | 1,_=>exact hx
 | 2,_=>exact hx
 | 3,_=>exact hx
 | 4,_=>exact hx
 | 5,_=>exact hx
 | 0,_=>omega) hd hy⟩
theorem zY{i:Nat}(hi:i∈([0,1,2,3,4,5,6]:List Nat)):i<7:=by simp at hi;omega
def Xl(F:c7)(s:Bs)(um:V):V->List ak->Prop:=fun x H2=>x= .p (.tuple [.str (sB (aO F s).2.1),.int .i64 (aO F s).2.2])∧Ih (aO F s).1.b F.aT um 0 H2∧wg F.b F.aT um H2
theorem EX{F:c7}(hF:kK F):F.b.au.length<=1000∧F.b.ag.length<=1000∧F.b.ax.length<=1000∧F.b.plan.length<=1000∧F.b.bH.length<=1000:=by
 have h1:=Rx.bM hF.b.cd
 have h2:=hF.b.sk
 have h3:=hF.b.dr
 have h4:=hF.b.ck
 obtain⟨u,hu⟩:=hF.b.EI
 have h5:=ia hu
 omega
theorem OP(F:c7)(s:Bs)(hF:kK F)(hp:s.length<=120->∀ v n,cV s=some (v,n)->mP v=true)(a:Option Addr)(m c:Nat):aD Tryz.prog 15 [.ptr 0 0,.p (.str (sB s))] (ov F.b F.aT (.raw a m c)) (Xl F s (.raw a m c)) (fun _ _=>False):=by
 refine aD.pad ?_
 show aD _ _ _ (fQ F.b F.aT (.raw a m c) .dead) _ _
 obtain⟨l1,l2,l3,l4,l5⟩:=EX hF
 have hu:∀ σ:Nat->Option Nat,(ak.dead.live=true->σ 6=some 6)->aZ σ (.raw a m c)= .raw a m c:=fun σ _=>rfl
 have hM:∀ σ,aM σ .dead= .dead:=fun σ=>rfl
 have err:∀(X:ak) (e:Int) (x:V) (H2:List ak),aO F s=(F,[],e)->(x= .p (.tuple [.str (sB []),.int .i64 e])∧H2=gY (mI F.b F.aT (.raw a m c) .dead X) F.b F.aT (.raw a m c) e)->Xl F s (.raw a m c) x H2:=fun X e x H2 he ⟨hx,hH⟩=>by
  subst hx hH
  unfold Xl
  rw[he]
  refine⟨rfl,Cu Kn (QO _ _ _ _ _),vQ (M:=ak.dead) (by rw[s0];exact ZR rfl) (pW (H:=mI F.b F.aT (.raw a m c) .dead X) (n:=7) (by decide) Kn fun j x y h0 h7 hx hd hy=> ?_)⟩
  have e:(mI F.b F.aT (.raw a m c) .dead X)[j]? =(fQ F.b F.aT (.raw a m c) .dead)[j]? :=by
   match j,h7 with
   | 0,_=>rfl
   | 1,_=>rfl
   | 2,_=>rfl
   | 3,_=>rfl
   | 4,_=>rfl
   | 5,_=>rfl
   | 6,_=>rfl
  rw[e,hx] at hy
  cases hy;exact hd
 rcases ZS 120 s.length with hs | hs
 ·refine(aE.NG (HO F.b F.aT (.raw a m c) .dead hu hM l1 l2 l3 l4 l5 s hs)).mono (fun x H2 hq=> ?_) (fun _ _ h=>h)
  obtain⟨rfl,rfl⟩:=hq
  have he:aO F s=(F,[],3):=by unfold aO;rw[if_pos hs]
  unfold Xl
  rw[he]
  refine⟨rfl,⟨uv 1,by decide,rfl,rfl,rfl,rfl,rfl,rfl⟩,ZR rfl,fun j x y h0 h6 hx hd hy=> ?_⟩
  have e:(fQ F.b F.aT (.raw a m c) .dead++[.cells [.ptr 0 0] 33,.cells [.p (.str (sB []))] 9,.cells [.p (.int .i64 3)] 28])[j]? =(ov F.b F.aT (.raw a m c))[j]? :=by
   match j,h6 with
   | 0,_=>rfl
   | 1,_=>rfl
   | 2,_=>rfl
   | 3,_=>rfl
   | 4,_=>rfl
   | 5,_=>rfl
  rw[e,hx] at hy
  cases hy;exact hd
 ·obtain⟨w,l,hw⟩:=wE s
  have hln:¬ 120<s.length:=by omega
  have form:cV s=none->aO F s=(F,[],8):=fun h=>by unfold aO;rw[if_neg hln,h]
  cases hv:kD w with
  | none=>exact(aE.NG (Vz F.b F.aT (.raw a m c) .dead hu hM l1 l2 l3 l4 l5 s hs w l hw hv)).mono (err _ 8 · · (form (yE hw hv))) (fun _ _ h=>h)
  | some v=>
   by_cases hm:l.length=v.many
   ·by_cases hC:∀ x∈l,iK x
    ·have hpa:=yU hw hv hm hC
     obtain⟨w7,UR⟩:=rJ hpa
     have hvp:=hp hs v _ hpa
     have he:aO F s=bp F v (l.map gh):=by unfold aO;rw[if_neg hln,hpa]
     have hd:=(UZ v hvp).to7 F (l.map gh) a m c hF w7 UR
     refine(aE.NG (Ek F.b F.aT (.raw a m c) .dead hu hM l1 l2 l3 l4 l5 s hs w l hw v hv hm hC (bp F v (l.map gh)).2.1 (bp F v (l.map gh)).2.2 _ _ hd (fun r H2 h=>⟨h.2.1,h.2.2.2⟩) (fun y H2 h=>⟨h.2.1,h.2.2.2,h.2.2.1⟩))).mono (fun x H2 hq=> ?_) (fun _ _ h=>h)
     rcases hq with⟨rfl,H0,⟨h1,_,h3,h4⟩,rfl⟩ | ⟨rfl,H0,⟨h1,_,_,h4⟩,rfl⟩
     ·have rS:=h4.len
      have hK:=oE (X:=ak.cells [.p (.int .i64 (v.many:Int)),.p (.func (.func (mu v)) [] [])] 111) h4
      have hlen:=rI (b:=F.b) (p:=F.aT) (um:= .raw a m c) (M:= .dead) (X:=ak.cells [.p (.int .i64 (v.many:Int)),.p (.func (.func (mu v)) [] [])] 111) rS
      unfold mI at hlen
      have hfl:=h3.back (H:=mI F.b F.aT (.raw a m c) .dead (ak.cells [.p (.int .i64 (v.many:Int)),.p (.func (.func (mu v)) [] [])] 111)) (ks:=[0,1,2,3,4,5,6]) (k2:=0) (oS:= .raw a m c) (by decide) hK (fun i hi=>ZQ (zY hi) Kn) rfl rfl
      have k8:=dX (H:=mI F.b F.aT (.raw a m c) .dead (ak.cells [.p (.int .i64 (v.many:Int)),.p (.func (.func (mu v)) [] [])] 111)) (ks:=[0,1,2,3,4,5,6]) (H0:=H0) (i:=8) (by decide) rS Kn (by decide)
      have k9:=dX (H:=mI F.b F.aT (.raw a m c) .dead (ak.cells [.p (.int .i64 (v.many:Int)),.p (.func (.func (mu v)) [] [])] 111)) (ks:=[0,1,2,3,4,5,6]) (H0:=H0) (i:=9) (by decide) rS Kn (by decide)
      unfold Xl
      rw[he]
      refine⟨by rw[h1],?_,?_⟩
      ·refine Ih.set (Ih.set hfl k8 (by decide) fun q hq=>FJ k8 hq) (b9 (by decide) k9) (by decide) fun q hq=>FJ (b9 (by decide) k9) hq
      ·refine vQ (M:= .dead) (by rw[yl,yl];omega) fun j x y h0 h7 hx hd hy=> ?_
       rw[Zu,if_neg (by omega),Zu,if_neg (by omega)] at hy
       exact rz h4 j x y h0 h7 hx hd hy
     ·have rS:=h4.len
      have hlen:=rI (b:=F.b) (p:=F.aT) (um:= .raw a m c) (M:= .dead) (X:=ak.cells [.p (.int .i64 (v.many:Int)),.p (.func (.func (mu v)) [] [])] 111) rS
      unfold mI at hlen
      have e2:=EL h1
      unfold Xl
      rw[he]
      refine⟨by rw[e2],?_,?_⟩
      ·have:=Cu (p:=F.aT) (um:= .raw a m c) (e:=(bp F v (l.map gh)).2.2) (Nat.lt_of_succ_lt hlen) (Cs (b:=F.b) (p:=F.aT) (um:= .raw a m c) (M:= .dead) (X:=ak.cells [.p (.int .i64 (v.many:Int)),.p (.func (.func (mu v)) [] [])] 111) rS)
       rw[e2]
       exact this
      ·exact vQ (by rw[s0];omega) (pW (by decide) (by omega) (rz h4))
    ·exact(aE.NG (Xb F.b F.aT (.raw a m c) .dead hu hM l1 l2 l3 l4 l5 s hs w l hw v hv hm hC)).mono (err _ 8 · · (form (xR hw hv hC))) (fun _ _ h=>h)
   ·exact(aE.NG (U1 F.b F.aT (.raw a m c) .dead hu hM l1 l2 l3 l4 l5 s hs w l hw v hv hm)).mono (err _ 8 · · (form (yM hw hv hm))) (fun _ _ h=>h)
theorem Qi{F:c7}{v:Vb}{n:List Int}(h:mP v=true):(bp F v n).1.marks=F.marks∧(bp F v n).1.aT=F.aT:=by
 cases v <;> first | cases h | skip
 all_goals (unfold bp;dsimp only;repeat' split) <;> exact⟨rfl,rfl⟩
theorem HU{F:c7}{s:Bs}(hp:s.length<=120->∀ v n,cV s=some (v,n)->mP v=true):(aO F s).1.marks=F.marks∧(aO F s).1.aT=F.aT:=by
 unfold aO
 split
 ·exact⟨rfl,rfl⟩
 ·rename_i hs
  split
  ·exact⟨rfl,rfl⟩
  ·rename_i v n h
   exact Qi (hp (by omega) v n h)
theorem ya(H:List ak)(ks:List Nat)(j:Nat):nE H ks j∈ks∨H.length<=nE H ks j:=by
 unfold nE
 cases hk:ks[j]? with
 | some i=>exact .inl (Zi hk)
 | none=>exact .inr (W7 _ _)
theorem rL.congr{H H3:List ak}{qs:List P5}{bs:List bU}(h:rL H qs bs)(he:∀ i∈qs.flatMap P5.l,H3[i]? =H[i]?):rL H3 qs bs:=by
 induction h with
 | nil=>exact .nil
 | cons h t ih=>
  obtain⟨h1,h2,h3,h4,h5⟩:=h
  rename_i q b qs bs
  have g:∀ i∈q.l,H3[i]? =H[i]? :=fun i hi=>he i (by rw[ZJ];exact ZW _ hi)
  refine .cons ⟨?_,?_,?_,?_,?_⟩ (ih fun i hi=>he i (by rw[ZJ];exact ZI _ hi))
  ·rw[g q.a (by simp[P5.l])];exact h1
  ·rw[g q.b (by simp[P5.l])];exact h2
  ·rw[g q.c (by simp[P5.l])];exact h3
  ·rw[g q.d (by simp[P5.l])];exact h4
  ·rw[g q.e (by simp[P5.l])];exact h5
theorem kM.set{H:List ak}{q:P5}{b:bU}{i:Nat}{y:ak}(h:kM H q b)(hi:i∉q.l):kM (H.set i y) q b:=by
 simp only[P5.l,Zv,Oc,or_false,not_or] at hi
 obtain⟨h1,h2,h3,h4,h5⟩:=h
 exact⟨b9 hi.1 h1,b9 hi.2.1 h2,b9 hi.2.2.1 h3,b9 hi.2.2.2.1 h4,b9 hi.2.2.2.2 h5⟩
def BJ(c:Nat)(F:c7)(s:Bs)(H:List ak):V->List ak->Prop:=fun x H3=>x= .p (.tuple [.str (sB (aO F s).2.1),.int .i64 (aO F s).2.2])∧(∃ z q im qs,iJ c (aO F s).1 z H3 q im qs)∧∀ i,i<c->H3[i]? =H[i]?
theorem JU(im:Nat)(F:c7)(z:Bool):SX (tB im F z)=true:=by cases z <;> rfl
theorem Ok{b:bU}{p:Di.bX}{um oS:V}{q:P5}:oA [(um,oS)] (cI b p um q.a q.b q.c q.d q.e) (cI b p oS q.a q.b q.c q.d q.e):=
 .inr ⟨_,_,_,dx.app _ _ _ _ (dx.refl iD.refl (dR q.a q.b q.c q.d q.e b++p.cells.map V.p)) (show dx (iD [(um,oS)]) [um,.p (.bool true)] [oS,.p (.bool true)] from⟨_,_,rfl,.inr (Zw.2 rfl),_,_,rfl,.inl rfl,rfl⟩),.inl ⟨rfl,rfl⟩⟩
theorem Sw{H:List ak}{ks:List Nat}(hn:ks.Nodup)(hlt:∀ i∈ks,i<H.length):(ks.all (fun i=>Nat.blt i H.length)&&decide ks.Nodup)=true:=by
 simp only[Zo,ZC,Zl]
 exact⟨fun i hi=>by simpa[Nat.blt,ZA] using hlt i hi,hn⟩
theorem N9{c:Nat}{F:c7}{z:Bool}{H:List ak}{q:P5}{im:Nat}{qs:List P5}(h:iJ c F z H q im qs)(hF:kK F)(s:Bs)(hp:s.length<=120->∀ v n,cV s=some (v,n)->mP v=true):aD Tryz.prog 15 [.ptr c 0,.p (.str (sB s))] H (BJ c F s H) (fun _ _=>False):=by
 have hcl:c<H.length:=(Za.1 h.fl).1
 have hnd:=h.nd
 rw[ZF,ZF,xM] at hnd
 obtain⟨n1,n2,n3,n4,n5⟩:=hnd
 have hks:(c::q.l).Nodup:=ZF.2 ⟨fun hm=>n1 (Zk _ (ZW _ hm)),n3⟩
 have XQ:c∉q.l:=(ZF.1 hks).1
 have abq:im≠c:=fun e=>n1 (by rw[e];exact Zx)
 have abJ:im<H.length:=(Za.1 h.mb).1
 have hlt:∀ i∈c::q.l,i<H.length:=fun i hi=>by
  rcases Zv.1 hi with rfl | hi
  ·exact hcl
  ·exact h.a5.lt i hi
 have hlow:∀ i∈c::q.l,c<=i:=fun i hi=>by
  rcases Zv.1 hi with rfl | hi
  ·exact Zg _
  ·exact h.low i (Zk _ (ZW _ hi))
 obtain⟨hsm,hsp⟩:=HU (F:=F) hp
 refine aD.KD c (pre:=dR q.a q.b q.c q.d q.e F.b++F.aT.cells.map V.p) (um:=tB im F z) (post:=[.p (.bool true)]) h.fl (JU im F z) fun a m c0=> ?_
 obtain⟨H',Nx⟩:∃ H',H'=H.set c (cI F.b F.aT (.raw a m c0) q.a q.b q.c q.d q.e):=⟨_,rfl⟩
 have hl':H'.length=H.length:=by rw[Nx,yl]
 have g0:H'[c]? =some (cI F.b F.aT (.raw a m c0) q.a q.b q.c q.d q.e):=by rw[Nx];exact gD h.fl
 have g5:kM H' q F.b:=by rw[Nx];exact h.a5.set XQ
 have gx:∀ i,i≠c->H'[i]? =H[i]? :=fun i hi=>by rw[Nx,Zu,if_neg (Ne.symm hi)]
 have hlt':∀ i∈c::q.l,i<H'.length:=fun i hi=>by rw[hl'];exact hlt i hi
 have hfr:=(OP F s hF hp a m c0).zH (H:=H') (args:=[.ptr c 0,.p (.str (sB s))]) (c::q.l) (by
     have e:oX H' (c::q.l) c=some 0:=by
      unfold oX
      rw[Zh,g0]
      exact(if_pos rfl).trans (nv hks rfl)
     show[aZ _ _,aZ _ _]=_
     simp only[aZ,e]) (JJ hks g0 g5 rfl) (Sw hks hlt') (fun v0 H0 hq=>hq.2.2.k g0 rfl g5) (fun _ _ h=>h.elim)
 show aD _ _ _ (H.set c (cI F.b F.aT (.raw a m c0) q.a q.b q.c q.d q.e)) _ _
 rw[<- Nx]
 refine hfr.mono (fun x H2 hx=> ?_) (fun _ _ h=>by obtain⟨_,h,_⟩:=h;exact h.elim)
 obtain⟨v0,H0,⟨rfl,⟨q0,k1,k2,k3⟩,k4⟩,rfl,rfl⟩:=hx
 have hK:gC H' (c::q.l) H0:=k4.k g0 rfl g5
 have hl6:(c::q.l).length<=H0.length:=k4.1
 obtain⟨q',eq'⟩:∃ q',q'=q0.map (nE H' (c::q.l)):=⟨_,rfl⟩
 have a5:kM (bA H' (c::q.l) H0) q' (aO F s).1.b:=by rw[eq'];exact jx hks hl6 hlt' k3
 have fl2:(bA H' (c::q.l) H0)[c]? =some (cI (aO F s).1.b F.aT (.raw a m c0) q'.a q'.b q'.c q'.d q'.e):=by
  have:=fP (H:=H') hks hl6 (j:=0) (i:=c) rfl (by rw[hl'];exact hcl) k2
  rw[this,mg hK k3 rfl,eq']
  rfl
 have hq':(c::q'.l).Nodup:=by
  have:=tA (H:=H') hks hlt' k1
  rw[ZE,wL (i:=c) rfl] at this
  rw[eq'];exact this
 have abD:c∉q'.l:=(ZF.1 hq').1
 have hcases:∀ i∈q'.l,i∈c::q.l∨H.length<=i:=fun i hi=>by
  rw[eq',P5.vv] at hi
  obtain⟨j,_,rfl⟩:=xS.1 hi
  rcases ya H' (c::q.l) j with h | h
  ·exact .inl h
  ·exact .inr (by rw[<- hl'];exact h)
 have out:∀ i,i<H.length->i∉c::q.l->((bA H' (c::q.l) H0).set c (cI (aO F s).1.b F.aT (tB im F z) q'.a q'.b q'.c q'.d q'.e))[i]? =H[i]? :=fun i hi hk=>by
  have hic:i≠c:=fun e=>hk (by rw[e];exact Zx)
  rw[Zu,if_neg (Ne.symm hic),dX hks hl6 (by rw[hl'];exact hi) hk,gx i hic]
 have abr:im∉c::q.l:=fun hm=>by
  rcases Zv.1 hm with e | hm
  ·exact abq e
  ·exact n2 (ZW _ hm)
 have XN:∀ i∈qs.flatMap P5.l,i∉c::q.l:=fun i hi hm=>by
  rcases Zv.1 hm with e | hm
  ·exact n1 (Zk _ (ZI _ (e▸hi)))
  ·exact n5 i hm i hi rfl
 refine⟨_,ff.set fl2 (Ok (oS:=tB im F z)),rfl,⟨z,q',im,qs,?_⟩,fun i hi=>out i (by omega) fun hm=>by have:=hlow i hm;omega⟩
 have hum:tB im (aO F s).1 z=tB im F z:=by unfold tB;rw[hsm]
 refine⟨?_,a5.set abD,?_,fun hz=>by rw[hsm];exact h.mz hz,?_,?_,?_⟩
 ·rw[hum,hsp]
  exact gD fl2
 ·rw[out im abJ abr,h.mb]
  unfold Bm
  rw[hsm]
 ·rw[hsm]
  exact h.ats.congr fun i hi=>out i (h.ats.lt i hi) (XN i hi)
 ·rw[ZF,ZF,xM]
  refine⟨fun hm=> ?_,fun hm=> ?_,(ZF.1 hq').2,n4,fun a ha b hb e=> ?_⟩
  ·rcases Zv.1 hm with e | hm
   ·exact abq e.symm
   ·rcases Zs.1 hm with hm | hm
    ·exact abD hm
    ·exact n1 (Zk _ (ZI _ hm))
  ·rcases Zs.1 hm with hm | hm
   ·rcases hcases im hm with h | h
    ·exact abr h
    ·omega
   ·exact n2 (ZI _ hm)
  ·subst e
   rcases hcases a ha with h2 | h2
   ·exact XN a hb h2
   ·have:=h.ats.lt a hb;omega
 ·intro i hi
  rcases Zv.1 hi with rfl | hi
  ·exact h.low i Zx
  ·rcases Zs.1 hi with hi | hi
   ·rcases hcases i hi with h2 | h2
    ·exact hlow i h2
    ·omega
   ·exact h.low i (Zk _ (ZI _ hi))
theorem cx.out{b:bU}{p:Di.bX}{um oS:V}{M:ak}{H H0:List ak}{c im:Nat}{q:P5}(h:cx (fQ b p oS M) H0)(h0:H[c]? =some (cI b p um q.a q.b q.c q.d q.e))(ha:kM H q b)(hm:H[im]? =some M):gC H (c::(q.l++[im])) H0:=by
 refine⟨h.len,fun j i y hk hl hy=> ?_⟩
 have gd:∀{i:Nat} {x:ak},H[i]? =some x->H.getD i .dead=x:=fun hx=>by rw[Zh,hx];rfl
 obtain⟨g1,g2,g3,g4,g5⟩:=ha
 have hj:j<7:=(Za.1 hk).1
 match j,hj with
 | 0,_=>cases hk;rw[gd h0] at hl;cases hl
 | 1,_=>cases hk;rw[gd g1] at hl;exact h.dead 1 _ y (by decide) rfl hl hy
 | 2,_=>cases hk;rw[gd g2] at hl;exact h.dead 2 _ y (by decide) rfl hl hy
 | 3,_=>cases hk;rw[gd g3] at hl;exact h.dead 3 _ y (by decide) rfl hl hy
 | 4,_=>cases hk;rw[gd g4] at hl;exact h.dead 4 _ y (by decide) rfl hl hy
 | 5,_=>cases hk;rw[gd g5] at hl;exact h.dead 5 _ y (by decide) rfl hl hy
 | 6,_=>cases hk;rw[gd hm] at hl;exact h.dead 6 _ y (by decide) rfl hl hy
theorem Oo{H:List ak}{c im:Nat}{q:P5}{b:bU}{p:Di.bX}{um oS:V}{M:ak}(hn:(c::(q.l++[im])).Nodup)(h0:H[c]? =some (cI b p um q.a q.b q.c q.d q.e))(h:kM H q b)(hm:H[im]? =some M)(hM:∀ σ,aM σ M=M)(hu:aZ (oX H (c::(q.l++[im]))) um=oS):((c::(q.l++[im])).map fun i=>aM (oX H (c::(q.l++[im]))) (H.getD i .dead))=fQ b p oS M:=by
 have gd:∀{i:Nat} {x:ak},H[i]? =some x->H.getD i .dead=x:=fun hx=>by rw[Zh,hx];rfl
 rw[ZE,Zy,qI h,gd h0,Lf hn rfl rfl rfl rfl rfl h hu,ZE,gd hm,hM]
 rfl
theorem Cq{H:List ak}{ks:List Nat}{i j:Nat}{x:ak}(hn:ks.Nodup)(hk:ks[j]? =some i)(hx:H[i]? =some x)(hl:x.live=true):oX H ks i=some j:=by
 unfold oX
 rw[Zh,hx]
 exact(if_pos hl).trans (nv hn hk)
theorem VL{g:FuncId}{H:List ak}{c im:Nat}{q:P5}{b:bU}{p:Di.bX}{um oS:V}{M:ak}{y:PV}{Qr:V->List ak->Prop}(hn:(c::(q.l++[im])).Nodup)(h0:H[c]? =some (cI b p um q.a q.b q.c q.d q.e))(h:kM H q b)(hm:H[im]? =some M)(hM:∀ σ,aM σ M=M)(hu:aZ (oX H (c::(q.l++[im]))) um=oS)
    (hc:aD Tryz.prog g [.ptr 0 0,.p y] (fQ b p oS M) Qr (fun _ _=>False))(hK:∀ x H0,Qr x H0->cx (fQ b p oS M) H0):aD Tryz.prog g [.ptr c 0,.p y] H (fun x H2=>∃ x0 H0,Qr x0 H0∧x=aZ (eV H (c::(q.l++[im]))) x0∧H2=bA H (c::(q.l++[im])) H0) (fun _ _=>False):=by
 have hlt:∀ i∈c::(q.l++[im]),i<H.length:=fun i hi=>by
  rcases Zv.1 hi with rfl | hi
  ·exact(Za.1 h0).1
  ·rcases Zs.1 hi with hi | hi
   ·exact h.lt i hi
   ·rw[Zw.1 hi];exact(Za.1 hm).1
 refine(hc.zH (H:=H) (args:=[.ptr c 0,.p y]) (c::(q.l++[im])) ?_ (Oo hn h0 h hm hM hu) (Sw hn hlt) (fun x H0 hq=>(hK x H0 hq).out h0 h hm) (fun _ _ h=>h.elim)).mono (fun _ _ h=>h) (fun _ _ ⟨_,h,_⟩=>h.elim)
 have e:=Cq hn (j:=0) rfl h0 rfl
 show[aZ _ _,aZ _ _]=_
 simp only[aZ,e]
theorem II{ps:List (V×V)}{q:P5}{b:bU}{cs t:List V}(h:dx (oC ps) (tE q b++t) cs):∃(r:RB) (Ei:List V),cs=r.cells++Ei∧dx (oC ps) t Ei:=by
 have sl:∀ i n,SX (bg i n)=true:=fun i n=>by cases n <;> rfl
 have ch:∀{i n:Nat} {v':V},oC ps (bg i n) v'->∃ s:RS,v'=s.v:=fun h=>by
  rcases h with⟨h,_⟩ | ⟨_,⟨a,n,c,e⟩,_⟩
  ·rw[sl] at h;cases h
  ·exact⟨⟨a,n,c⟩,e⟩
 have cp:∀{x:PV} {v':V},oC ps (.p x) v'->v'= .p x:=fun h=>by
  rcases h with⟨_,h⟩ | ⟨h,_⟩
  ·exact h
  ·cases h
 obtain⟨d1,e1,rfl,h1,d2,e2,rfl,h2,d3,e3,rfl,h3,d4,e4,rfl,h4,d5,e5,rfl,h5,d6,e6,rfl,h6,d7,e7,rfl,h7,h8⟩:=h
 obtain⟨s1,rfl⟩:=ch h1
 obtain⟨s2,rfl⟩:=ch h2
 obtain⟨s3,rfl⟩:=ch h3
 obtain⟨s4,rfl⟩:=ch h4
 obtain⟨s7,rfl⟩:=ch h7
 rw[cp h5,cp h6]
 exact⟨⟨s1,s2,s3,s4,b.bad,b.good,s7⟩,e7,rfl,h8⟩
theorem yu{ps:List (V×V)}:∀(qs:List P5) (bs:List bU) (cs:List V),qs.length=bs.length->dx (oC ps) (qu qs bs) cs->∃ l:List RB,cs=nO l∧l.length=bs.length
 | [],[],cs,_,h=>⟨[],show cs=[] from h,rfl⟩
 | q::qs,b::bs,cs,hl,h=>by
  obtain⟨r,Ei,rfl,h2⟩:=II (q:=q) (b:=b) (t:=qu qs bs) h
  obtain⟨l,rfl,h3⟩:=yu qs bs Ei (by simpa using hl) h2
  exact⟨r::l,rfl,by rw[Zp,Zp,h3]⟩
 | [],_::_,_,hl,_=>by cases hl
 | _::_,[],_,hl,_=>by cases hl
theorem wP:∀(qs:List P5) (bs:List bU) (q:P5) (b:bU),qs.length=bs.length->qu (qs++[q]) (bs++[b])=qu qs bs++tE q b
 | [],[],q,b,_=>by show tE q b++[]=[]++tE q b;rw[ZY];rfl
 | q0::qs,b0::bs,q,b,hl=>by
  show tE q0 b0++qu (qs++[q]) (bs++[b])=(tE q0 b0++qu qs bs)++tE q b
  rw[wP qs bs q b (by simpa using hl),ZM]
 | [],_::_,_,_,hl=>by cases hl
 | _::_,[],_,_,hl=>by cases hl
theorem EW:∀(qs:List P5) (bs:List bU),qs.length=bs.length->(qu qs bs).length=bs.length*7
 | [],[],_=>rfl
 | q::qs,b::bs,hl=>by
  show(tE q b++qu qs bs).length=_
  rw[Zc,EW qs bs (by simpa using hl),Zp]
  show 7+_=_
  omega
 | [],_::_,hl=>by cases hl
 | _::_,[],hl=>by cases hl
theorem vb(l:List RB)(r:RB):nO (l++[r])=nO l++r.cells:=by unfold nO;rw[ZX];simp
theorem yO{ps:List (V×V)}{qs:List P5}{bs:List bU}{q:P5}{b:bU}{l:List RB}{r:RB}(hl:qs.length=bs.length)(ug:l.length=bs.length)(h:dx (iD ps) (nO (l++[r])) (qu (qs++[q]) (bs++[b]))):dx (iD ps) (nO l) (qu qs bs)∧dx (iD ps) r.cells (tE q b):=by
 rw[vb,wP qs bs q b hl] at h
 obtain⟨l1,l2,e,h1,h2⟩:=dx.split _ _ _ h
 have e1:l1.length=(qu qs bs).length:=by rw[dx.len _ _ h1,qR,EW qs bs hl,ug]
 obtain⟨e2,e3⟩:=List.append_inj e.symm e1
 subst e2 e3
 exact⟨h1,h2⟩
def y5(F:c7)(s:Bs):V:= .p (.tuple [.str (sB (aO F s).2.1),.int .i64 (aO F s).2.2])
def F0(b:bU)(p:Di.bX)(um:V)(M:ak)(H:List ak):Prop:=H[0]? =some (cI b p um 13 12 14 15 16)∧kM H ⟨13,12,14,15,16⟩ b∧H[6]? =some M∧cx (fQ b p um M) H
theorem yt(b:bU)(p:Di.bX)(um:V)(M:ak)(X:List ak):cx (fQ b p um M) (fQ b p um M++X):=⟨by rw[Zc];exact W7 7 _,fun j x y hj hx hd hy=>by
 rw[oL hx] at hy;cases hy;exact hd⟩
theorem zL{b:bU}{p:Di.bX}{um:V}{M X:ak}{H0:List ak}{e:Int}(h:cx (fQ b p um M) H0):cx (fQ b p um M) (gY (bA (mI b p um M X) [0,1,2,3,4,5,6] H0) b p um e):=by
 have hlen:=rI (b:=b) (p:=p) (um:=um) (M:=M) (X:=X) h.len
 refine⟨by rw[s0];omega,fun j x y hj hx hd hy=> ?_⟩
 rcases WT j with rfl | h0
 ·cases hx;cases hd
 ·exact pW (by decide) (by omega) (rz h) j x y h0 hj hx hd hy
theorem Qc{b:bU}{p:Di.bX}{um:V}{M X:ak}{H0:List ak}{e:Int}(hM:∀ σ,aM σ M=M)(h:cx (fQ b p um M) H0)(h6:H0[6]? =some M):F0 b p um M (gY (bA (mI b p um M X) [0,1,2,3,4,5,6] H0) b p um e):=by
 have hlen:=rI (b:=b) (p:=p) (um:=um) (M:=M) (X:=X) h.len
 obtain⟨g1,g2,g3,g4,g5⟩:=Cs (b:=b) (p:=p) (um:=um) (M:=M) (X:=X) h.len
 have gg:∀{i:Nat} {x:ak},i≠0->i≠8->i≠9->i<18->(bA (mI b p um M X) [0,1,2,3,4,5,6] H0)[i]? =some x->(gY (bA (mI b p um M X) [0,1,2,3,4,5,6] H0) b p um e)[i]? =some x:=fun a1 a2 a3 a4 hx=>by
  rw[jf a1 a2 a3 (by omega)];exact hx
 refine⟨EG,⟨gg (by decide) (by decide) (by decide) (by decide) g1,gg (by decide) (by decide) (by decide) (by decide) g2,gg (by decide) (by decide) (by decide) (by decide) g3,gg (by decide) (by decide) (by decide) (by decide) g4,gg (by decide) (by decide) (by decide) (by decide) g5⟩,gg (by decide) (by decide) (by decide) (by decide) ?_,zL h⟩
 have:=fP (H:=mI b p um M X) (ks:=[0,1,2,3,4,5,6]) (j:=6) (i:=6) (by decide) h.len rfl Kn h6
 rw[this,hM]
theorem y9(l:List RB)(k:Nat):∀ σ:Nat->Option Nat,((dF l).live=true->σ 6=some 6)->aZ σ (.row 6 k)= .row 6 k:=fun σ h=>by simp only[aZ,h rfl]
theorem X4:∀ σ:Nat->Option Nat,(ak.dead.live=true->σ 6=some 6)->aZ σ .z0= .z0:=fun σ _=>rfl
def Ll(F:c7)(cs:List V)(k:Nat)(H:List ak):Prop:=H[0]? =some (cI F.b F.aT (.row 28 (k+1)) 1 2 3 4 5)∧kM H (uv 1) F.b∧kM H ⟨22,21,23,24,25⟩ F.b∧H[28]? =some (.row (cs++dR 22 21 23 24 25 F.b) yb)
theorem dN{H:List ak}{i:Nat}{x y z:ak}(h8:i≠8)(h9:i≠9)(h:H[i]? =some x):((H.set 8 y).set 9 z)[i]? =some x:=b9 (Ne.symm h9) (b9 (Ne.symm h8) h)
theorem n9{b:bU}{p:Di.bX}{um:V}{M X y z:ak}{H0:List ak}(h:cx (fQ b p um M) H0):cx (fQ b p um M) (((bA (mI b p um M X) [0,1,2,3,4,5,6] H0).set 8 y).set 9 z):=by
 have hlen:=rI (b:=b) (p:=p) (um:=um) (M:=M) (X:=X) h.len
 refine⟨by rw[yl,yl];omega,fun j x w hj hx hd hy=> ?_⟩
 rw[Zu,if_neg (by omega),Zu,if_neg (by omega)] at hy
 rcases WT j with rfl | h0
 ·cases hx;cases hd
 ·exact rz h j x w h0 hj hx hd hy
theorem F4{s:Bs}{v:Vb}{n:List Int}(h:cV s=some (v,n)):∃ w l,bW s=w::l∧kD w=some v∧l.length=v.many∧(∀ x∈l,iK x)∧n=l.map gh:=by
 obtain⟨w,l,hw⟩:=wE s
 cases hv:kD w with
 | none=>rw[yE hw hv] at h;cases h
 | some v'=>
  by_cases hm:l.length=v'.many
  ·by_cases hC:∀ x∈l,iK x
   ·rw[yU hw hv hm hC] at h
    cases h
    exact⟨w,l,hw,hv,hm,hC,rfl⟩
   ·rw[xR hw hv hC] at h;cases h
  ·rw[yM hw hv hm] at h;cases h
theorem si(F:c7)(s:Bs)(hF:kK F)(v:Vb)(n:List Int)(hpa:cV s=some (v,n))(hs:s.length<=120)(um:V)(M:ak)(hu:∀ σ:Nat->Option Nat,(M.live=true->σ 6=some 6)->aZ σ um=um)(hM:∀ σ,aM σ M=M)(Qr:V->List ak->Prop)(Qp:PV->List ak->Prop)
    (hd:aD Tryz.prog (mu v) [.ptr 0 0,.p (Di.aQ n)] (fQ F.b F.aT um M) Qr Qp)(hr:∀ r H2,Qr r H2->(bp F v n).2.2=0∧r= .p (.str (sB (bp F v n).2.1))∧cx (fQ F.b F.aT um M) H2)(hp:∀ y H2,Qp y H2->(bp F v n).2.2≠0∧y= .iface 106 (.agg [.int .i64 (bp F v n).2.2])∧cx (fQ F.b F.aT um M) H2∧H2[6]? =some M∧∃ cs,cs.length=7∧H2[0]? =some (.cells (cs++F.aT.cells.map .p++[um,.p (.bool true)]) 63)):
    aE Tryz.prog 15 [.ptr 0 0,.p (.str (sB s))] (fQ F.b F.aT um M) (fun x H2=>x=y5 F s∧(((aO F s).2.2=0∧∃ H0 y z,Qr (.p (.str (sB (bp F v n).2.1))) H0∧H2=(((bA (mI F.b F.aT um M (ak.cells [.p (.int .i64 (v.many:Int)),.p (.func (.func (mu v)) [] [])] 111)) [0,1,2,3,4,5,6] H0).set 8 y).set 9 z))∨((aO F s).2.2≠0∧aO F s=(F,[],(aO F s).2.2)∧F0 F.b F.aT um M H2))):=by
 obtain⟨w,l,hw,hv,hm,hC,rfl⟩:=F4 hpa
 obtain⟨l1,l2,l3,l4,l5⟩:=EX hF
 have he:aO F s=bp F v (l.map gh):=by unfold aO;rw[if_neg (by omega),hpa]
 have h:=Ek F.b F.aT um M hu hM l1 l2 l3 l4 l5 s hs w l hw v hv hm hC (bp F v (l.map gh)).2.1 (bp F v (l.map gh)).2.2 Qr Qp hd (fun r H2 hq=>(hr r H2 hq).2) (fun y H2 hq=>⟨(hp y H2 hq).2.1,(hp y H2 hq).2.2.1,(hp y H2 hq).2.2.2.2⟩)
 refine fun w' I ρ us hi ij=>(h w' I ρ us hi ij).mono fun e w2 ⟨u,x,J,σ,H2,e1,hq,e2⟩=>⟨u,x,J,σ,H2,e1,?_,e2⟩
 unfold y5
 rw[he]
 rcases hq with⟨rfl,H0,hq,rfl⟩ | ⟨rfl,H0,hq,rfl⟩
 ·obtain⟨h0,_,hk⟩:=hr _ _ hq
  exact⟨by rw[h0],.inl ⟨h0,H0,_,_,hq,rfl⟩⟩
 ·obtain⟨h0,_,hk,h6,_⟩:=hp _ _ hq
  have e3:=EL h0
  exact⟨by rw[e3],.inr ⟨h0,e3,Qc hM hk h6⟩⟩
def nD(z:Bool)(l:List RB):V:=bif z then .z0 else .row 6 l.length
def mL(z:Bool)(l:List RB):ak:=bif z then .dead else dF l
theorem JM(z:Bool)(l:List RB):∀ σ:Nat->Option Nat,((mL z l).live=true->σ 6=some 6)->aZ σ (nD z l)=nD z l:=by
 cases z with
 | true=>exact X4
 | false=>exact y9 l l.length
theorem KO(z:Bool)(l:List RB):∀ σ,aM σ (mL z l)=mL z l:=by
 cases z with
 | true=>exact fun _=>rfl
 | false=>exact fun σ=>iQ σ l
theorem Pw{b:bU}{p:Di.bX}{um:V}{M X:ak}(j:Nat):nE (mI b p um M X) [0,1,2,3,4,5,6] (7+j)=19+j:=by
 unfold nE
 have:([0,1,2,3,4,5,6]:List Nat)[7+j]? =none:=ZH (by show 7<=7+j;omega)
 rw[this]
 show 19+(7+j - 7)=19+j
 omega
theorem Y2(F:c7)(s:Bs)(hF:kK F)(n:List Int)(hpa:cV s=some (.mark,n))(hs:s.length<=120)(z:Bool)(l:List RB)(hz:z=true->l=[])(hl:l.length=F.marks.length):
    aE Tryz.prog 15 [.ptr 0 0,.p (.str (sB s))] (fQ F.b F.aT (nD z l) (mL z l)) (fun x H2=>x=y5 F s∧cx (fQ F.b F.aT (nD z l) (mL z l)) H2∧(((aO F s).2.2=0∧Ll F (nO l) l.length H2)∨((aO F s).2.2≠0∧aO F s=(F,[],(aO F s).2.2)∧F0 F.b F.aT (nD z l) (mL z l) H2))):=by
 have fin:∀{x:V} {H2 H0:List ak} {y w X:ak},H2=(((bA (mI F.b F.aT (nD z l) (mL z l) X) [0,1,2,3,4,5,6] H0).set 8 y).set 9 w)->cx (fQ F.b F.aT (nD z l) (mL z l)) H0->H0[0]? =some (cI F.b F.aT (.row 16 (l.length+1)) 1 2 3 4 5)->kM H0 (uv 1) F.b->kM H0 ⟨10,9,11,12,13⟩ F.b->H0[16]? =some (.row (nO l++dR 10 9 11 12 13 F.b) yb)->Ll F (nO l) l.length H2:=fun{x H2 H0 y w X} e hk h0 h5 h5' h16=>by
  subst e
  have hK:=oE (X:=X) hk
  have rS:=hk.len
  have hn:([0,1,2,3,4,5,6]:List Nat).Nodup:=by decide
  have hlt:∀ i∈([0,1,2,3,4,5,6]:List Nat),i<(mI F.b F.aT (nD z l) (mL z l) X).length:=fun i hi=>ZQ (zY hi) Kn
  have p16:aZ (eV (mI F.b F.aT (nD z l) (mL z l) X) [0,1,2,3,4,5,6]) (.row 16 (l.length+1))= .row 28 (l.length+1):=by
   have:=jV hK h16 rfl
   rw[show(16:Nat)=7+9 from rfl,Pw] at this
   simp only[aZ,this]
  have k0:=fP (H:=mI F.b F.aT (nD z l) (mL z l) X) hn rS (j:=0) (i:=0) rfl Kn h0
  have e0:=mg (q:=uv 1) (p:=F.aT) hK h5 p16
  have a5:=jx (H:=mI F.b F.aT (nD z l) (mL z l) X) hn rS hlt h5
  have a5':=jx (H:=mI F.b F.aT (nD z l) (mL z l) X) hn rS hlt h5'
  have k16:=qD (H:=mI F.b F.aT (nD z l) (mL z l) X) hn rS hlt h16
  have e16:aM (eV (mI F.b F.aT (nD z l) (mL z l) X) [0,1,2,3,4,5,6]) (.row (nO l++dR 10 9 11 12 13 F.b) yb)= .row (nO l++dR 22 21 23 24 25 F.b) yb:=by
   show ak.row (bE _ (_++_)) _=_
   rw[bI,uy]
   have:=wD (q:=⟨10,9,11,12,13⟩) hK h5'
   exact congrArg (fun t=>ak.row (nO l++t) yb) this
  refine⟨dN (by decide) (by decide) (k0.trans (congrArg some e0)),?_,?_,?_⟩
  ·obtain⟨g1,g2,g3,g4,g5⟩:=a5
   exact SU
  ·obtain⟨g1,g2,g3,g4,g5⟩:=a5'
   exact SU
  ·rw[e16] at k16
   exact dN (by decide) (by decide) k16
 have kf:cx (fQ F.b F.aT (nD z l) (mL z l)) (fQ F.b F.aT (nD z l) (mL z l)):=by
  have:=yt F.b F.aT (nD z l) (mL z l) []
  rwa [ZY] at this
 cases z with
 | true=>
  have hl0:l=[]:=hz rfl
  subst hl0
  refine fun w I ρ us hi ij=>(si F s hF .mark n hpa hs .z0 .dead X4 (fun _=>rfl) _ _ (VG F n hF hl) (fun r H2 hq=>⟨hq.1,hq.2.1,?_⟩) (fun y H2 hq=>⟨hq.1,hq.2.1,by rw[hq.2.2];exact kf,by rw[hq.2.2];rfl,dR 1 2 3 4 5 F.b,rfl,by rw[hq.2.2];rfl⟩) w I ρ us hi ij).mono fun e w2 ⟨u,x,J,σ,H2,e1,hq,e2⟩=>⟨u,x,J,σ,H2,e1,?_,e2⟩
  ·rw[hq.2.2]
   exact aaQ
  ·obtain⟨rfl,h | ⟨h1,h2,h3⟩⟩:=hq
   ·obtain⟨h0,H0,y,w',⟨g1,g2,g3⟩,rfl⟩:=h
    have hk:cx (fQ F.b F.aT .z0 .dead) H0:=by
     rw[g3]
     exact aaQ
    exact Sx
   ·exact Ef
 | false=>
  refine fun w I ρ us hi ij=>(si F s hF .mark n hpa hs (.row 6 l.length) (dF l) (y9 l l.length) (fun σ=>iQ σ l) _ _ (WC F n l hF hl) (fun r H2 hq=>⟨hq.1,hq.2.1,?_⟩) (fun y H2 hq=>⟨hq.1,hq.2.1,by rw[hq.2.2];exact kf,by rw[hq.2.2];rfl,dR 1 2 3 4 5 F.b,rfl,by rw[hq.2.2];rfl⟩) w I ρ us hi ij).mono fun e w2 ⟨u,x,J,σ,H2,e1,hq,e2⟩=>⟨u,x,J,σ,H2,e1,?_,e2⟩
  ·rw[hq.2.2]
   exact JV
  ·obtain⟨rfl,h | ⟨h1,h2,h3⟩⟩:=hq
   ·obtain⟨h0,H0,y,w',⟨g1,g2,g3⟩,rfl⟩:=h
    have hk:cx (fQ F.b F.aT (.row 6 l.length) (dF l)) H0:=by
     rw[g3]
     exact JV
    exact Sx
   ·exact Ef
def R7(F:c7)(l:List RB)(r:RB)(H:List ak):Prop:=H[0]? =some (.cells (r.cells++F.aT.cells.map .p++[.row 6 l.length,.p (.bool true)]) 63)∧H[6]? =some (dF (l++[r]))
def abw(F:c7)(l:List RB)(r:RB)(H:List ak):Prop:=H[0]? =some (cI F.b F.aT (.row 6 l.length) 1 2 3 4 5)∧kM H (uv 1) F.b∧H[6]? =some (dF (l++[r]))
theorem KM(σ:Nat->Option Nat)(r:RB):bE σ r.cells=r.cells:=rfl
theorem Cf(F:c7)(n:List Int)(v:Vb)(um:V)(M:ak)(X1 X2:ak)(y:PV)(H2:List ak)(hq:(bp F v n).2.2≠0∧y= .iface 106 (.agg [.int .i64 (bp F v n).2.2])∧H2=[cI F.b F.aT um 1 2 3 4 5,dD F.b.au,dj F.b.ag,dI F.b.ax,bL F.b.plan,bL F.b.bH,M,X1,X2]):
    (bp F v n).2.2≠0∧y= .iface 106 (.agg [.int .i64 (bp F v n).2.2])∧cx (fQ F.b F.aT um M) H2∧H2[6]? =some M∧∃ cs,cs.length=7∧H2[0]? =some (.cells (cs++F.aT.cells.map .p++[um,.p (.bool true)]) 63):=by
 obtain⟨h1,h2,rfl⟩:=hq
 exact⟨h1,h2,yt F.b F.aT um M [X1,X2],rfl,dR 1 2 3 4 5 F.b,rfl,rfl⟩
theorem zj{α:Type}(l:List α):l=[]∨∃ l0 x,l=l0++[x]:=by
 rcases List.eq_nil_or_concat l with h | ⟨l0,x,h⟩
 ·exact .inl h
 ·exact .inr ⟨l0,x,by rw[h,List.concat_eq_append]⟩
theorem Et(z:Bool):Ds (nD z [])=some 0:=by cases z <;> rfl
theorem XT(F:c7)(s:Bs)(hF:kK F)(n:List Int)(hpa:cV s=some (.back,n))(hs:s.length<=120)(z:Bool)(l:List RB)(hz:z=true->l=[])(hl:l.length=F.marks.length):
    aE Tryz.prog 15 [.ptr 0 0,.p (.str (sB s))] (fQ F.b F.aT (nD z l) (mL z l)) (fun x H2=>x=y5 F s∧cx (fQ F.b F.aT (nD z l) (mL z l)) H2∧((∃ fs x l0 r,F.marks=fs++[x]∧l=l0++[r]∧z=false∧(aO F s).1={F with b:=x,marks:=fs}∧R7 F l0 r H2)∨((aO F s).2.2≠0∧aO F s=(F,[],(aO F s).2.2)∧F0 F.b F.aT (nD z l) (mL z l) H2))):=by
 rcases zj l with rfl | ⟨l0,r,rfl⟩
 ·have hm:F.marks=[]:=ZD hl.symm
  refine fun w I ρ us hi ij=>(si F s hF .back n hpa hs (nD z []) (mL z []) (JM z []) (KO z []) _ _ (GI F n (nD z []) (mL z []) hm (Et z)) (fun r H2 hq=>hq.elim) (fun y H2 hq=>Cf F n .back _ _ _ _ y H2 hq) w I ρ us hi ij).mono fun e w2 ⟨u,x,J,σ,H2,e1,hq,e2⟩=>⟨u,x,J,σ,H2,e1,?_,e2⟩
  exact acG
 ·have hzf:z=false:=by
    cases z with
    | false=>rfl
    | true=>have:=hz rfl;simp at this
  subst hzf
  obtain⟨fs,x,hm⟩:∃ fs x,F.marks=fs++[x]:=by
   exact Sb
  have hl0:l0.length=fs.length:=by rw[hm] at hl;simpa using hl
  have h8:l0.length<=8:=by have:=hF.mm;rw[hm] at this;simp at this;omega
  have eu:nD false (l0++[r])= .row 6 (l0.length+1):=by show V.row 6 _=_;rw[Zc];rfl
  have hd:=HA F n l0 r fs x hm hl0 h8
  have Vp:∀ H2:List ak,H2=[.cells (r.cells++F.aT.cells.map .p++[.row 6 l0.length,.p (.bool true)]) 63,dD F.b.au,dj F.b.ag,dI F.b.ax,bL F.b.plan,bL F.b.bH,dF (l0++[r]),.cells r.cells yb,.cells r.cells yb]->cx (fQ F.b F.aT (.row 6 (l0.length+1)) (dF (l0++[r]))) H2:=fun H2 e=>by
   subst e
   exact JV
  rw[eu]
  show aE _ _ _ (fQ F.b F.aT (.row 6 (l0.length+1)) (dF (l0++[r]))) _
  refine fun w I ρ us hi ij=>(si F s hF .back n hpa hs (.row 6 (l0.length+1)) (dF (l0++[r])) (y9 _ _) (fun σ=>iQ σ _) _ _ hd (fun r' H2 hq=>⟨hq.1,hq.2.1,Vp H2 hq.2.2⟩) (fun y H2 hq=>hq.elim) w I ρ us hi ij).mono fun e w2 ⟨u,x',J,σ,H2,e1,hq,e2⟩=>⟨u,x',J,σ,H2,e1,?_,e2⟩
  obtain⟨rfl,⟨h0,H0,y,w',⟨g1,g2,g3⟩,rfl⟩ | ⟨h1,h2,h3⟩⟩:=hq
  ·have hk:=Vp H0 g3
   have hK:=oE (X:=ak.cells [.p (.int .i64 (Vb.back.many:Int)),.p (.func (.func (mu .back)) [] [])] 111) hk
   have rS:=hk.len
   have he:(aO F s).1={F with b:=x,marks:=fs}:=by
    have:aO F s=bp F .back n:=by unfold aO;rw[if_neg (by omega),hpa]
    rw[this]
    unfold bp
    rw[hm]
    simp
   have t6:eV (mI F.b F.aT (.row 6 (l0.length+1)) (dF (l0++[r])) (ak.cells [.p (.int .i64 (Vb.back.many:Int)),.p (.func (.func (mu .back)) [] [])] 111)) [0,1,2,3,4,5,6] 6=some 6:=U6 _ _ _ _ _ rfl
   have k0:=fP (H:=mI F.b F.aT (.row 6 (l0.length+1)) (dF (l0++[r])) (ak.cells [.p (.int .i64 (Vb.back.many:Int)),.p (.func (.func (mu .back)) [] [])] 111)) (ks:=[0,1,2,3,4,5,6]) (H0:=H0) (j:=0) (i:=0) (x:= .cells (r.cells++F.aT.cells.map .p++[.row 6 l0.length,.p (.bool true)]) 63) (by decide) rS rfl Kn (by rw[g3];rfl)
   have k6:=fP (H:=mI F.b F.aT (.row 6 (l0.length+1)) (dF (l0++[r])) (ak.cells [.p (.int .i64 (Vb.back.many:Int)),.p (.func (.func (mu .back)) [] [])] 111)) (ks:=[0,1,2,3,4,5,6]) (H0:=H0) (j:=6) (i:=6) (x:=dF (l0++[r])) (by decide) rS rfl Kn (by rw[g3];rfl)
   rw[iQ] at k6
   rw[vz (by simp only[aZ,t6]),KM] at k0
   exact⟨rfl,n9 hk,.inl ⟨fs,x,l0,r,hm,rfl,rfl,he,dN (by decide) (by decide) k0,dN (by decide) (by decide) k6⟩⟩
  ·exact Ef
theorem abF(F:c7)(s:Bs)(hF:kK F)(n:List Int)(hpa:cV s=some (.keep,n))(hs:s.length<=120)(z:Bool)(l:List RB)(hz:z=true->l=[])(hl:l.length=F.marks.length):
    aE Tryz.prog 15 [.ptr 0 0,.p (.str (sB s))] (fQ F.b F.aT (nD z l) (mL z l)) (fun x H2=>x=y5 F s∧cx (fQ F.b F.aT (nD z l) (mL z l)) H2∧((∃ fs x l0 r,F.marks=fs++[x]∧l=l0++[r]∧z=false∧(aO F s).1={F with marks:=fs}∧abw F l0 r H2)∨((aO F s).2.2≠0∧aO F s=(F,[],(aO F s).2.2)∧F0 F.b F.aT (nD z l) (mL z l) H2))):=by
 rcases zj l with rfl | ⟨l0,r,rfl⟩
 ·have hm:F.marks=[]:=ZD hl.symm
  refine fun w I ρ us hi ij=>(si F s hF .keep n hpa hs (nD z []) (mL z []) (JM z []) (KO z []) _ _ (HS F n (nD z []) (mL z []) hm (Et z)) (fun r H2 hq=>hq.elim) (fun y H2 hq=>Cf F n .keep _ _ _ _ y H2 hq) w I ρ us hi ij).mono fun e w2 ⟨u,x,J,σ,H2,e1,hq,e2⟩=>⟨u,x,J,σ,H2,e1,?_,e2⟩
  exact acG
 ·have hzf:z=false:=by
    cases z with
    | false=>rfl
    | true=>have:=hz rfl;simp at this
  subst hzf
  obtain⟨fs,x,hm⟩:∃ fs x,F.marks=fs++[x]:=by
   exact Sb
  have hl0:l0.length=fs.length:=by rw[hm] at hl;simpa using hl
  have h8:l0.length<=8:=by have:=hF.mm;rw[hm] at this;simp at this;omega
  have eu:nD false (l0++[r])= .row 6 (l0.length+1):=by show V.row 6 _=_;rw[Zc];rfl
  have hd:=Gh F n l0 r fs x hm hl0 h8
  have Vp:∀ H2:List ak,H2=[cI F.b F.aT (.row 6 l0.length) 1 2 3 4 5,dD F.b.au,dj F.b.ag,dI F.b.ax,bL F.b.plan,bL F.b.bH,dF (l0++[r]),.cells r.cells yb,.cells r.cells yb]->cx (fQ F.b F.aT (.row 6 (l0.length+1)) (dF (l0++[r]))) H2:=fun H2 e=>by
   subst e
   exact JV
  rw[eu]
  show aE _ _ _ (fQ F.b F.aT (.row 6 (l0.length+1)) (dF (l0++[r]))) _
  refine fun w I ρ us hi ij=>(si F s hF .keep n hpa hs (.row 6 (l0.length+1)) (dF (l0++[r])) (y9 _ _) (fun σ=>iQ σ _) _ _ hd (fun r' H2 hq=>⟨hq.1,hq.2.1,Vp H2 hq.2.2⟩) (fun y H2 hq=>hq.elim) w I ρ us hi ij).mono fun e w2 ⟨u,x',J,σ,H2,e1,hq,e2⟩=>⟨u,x',J,σ,H2,e1,?_,e2⟩
  obtain⟨rfl,⟨h0,H0,y,w',⟨g1,g2,g3⟩,rfl⟩ | ⟨h1,h2,h3⟩⟩:=hq
  ·have hk:=Vp H0 g3
   have hK:=oE (X:=ak.cells [.p (.int .i64 (Vb.keep.many:Int)),.p (.func (.func (mu .keep)) [] [])] 111) hk
   have rS:=hk.len
   have he:(aO F s).1={F with marks:=fs}:=by
    have:aO F s=bp F .keep n:=by unfold aO;rw[if_neg (by omega),hpa]
    rw[this]
    unfold bp
    rw[hm]
    simp
   have t6:eV (mI F.b F.aT (.row 6 (l0.length+1)) (dF (l0++[r])) (ak.cells [.p (.int .i64 (Vb.keep.many:Int)),.p (.func (.func (mu .keep)) [] [])] 111)) [0,1,2,3,4,5,6] 6=some 6:=U6 _ _ _ _ _ rfl
   have k0:=fP (H:=mI F.b F.aT (.row 6 (l0.length+1)) (dF (l0++[r])) (ak.cells [.p (.int .i64 (Vb.keep.many:Int)),.p (.func (.func (mu .keep)) [] [])] 111)) (ks:=[0,1,2,3,4,5,6]) (H0:=H0) (j:=0) (i:=0) (x:=cI F.b F.aT (.row 6 l0.length) 1 2 3 4 5) (by decide) rS rfl Kn (by rw[g3];rfl)
   have k6:=fP (H:=mI F.b F.aT (.row 6 (l0.length+1)) (dF (l0++[r])) (ak.cells [.p (.int .i64 (Vb.keep.many:Int)),.p (.func (.func (mu .keep)) [] [])] 111)) (ks:=[0,1,2,3,4,5,6]) (H0:=H0) (j:=6) (i:=6) (x:=dF (l0++[r])) (by decide) rS rfl Kn (by rw[g3];rfl)
   rw[iQ] at k6
   have h5:kM H0 (uv 1) F.b:=by rw[g3];exact⟨rfl,rfl,rfl,rfl,rfl⟩
   have e0:=mg (q:=uv 1) (p:=F.aT) (um:= .row 6 l0.length) (oS:= .row 6 l0.length) hK h5 (by simp only[aZ];rw[show eV _ _ 6=some 6 from t6])
   have a5:=jx (H:=mI F.b F.aT (.row 6 (l0.length+1)) (dF (l0++[r])) (ak.cells [.p (.int .i64 (Vb.keep.many:Int)),.p (.func (.func (mu .keep)) [] [])] 111)) (ks:=[0,1,2,3,4,5,6]) (by decide) rS (fun i hi=>ZQ (zY hi) Kn) h5
   obtain⟨b1,b2,b3,b4,b5⟩:=a5
   exact⟨rfl,n9 hk,.inl ⟨fs,x,l0,r,hm,rfl,rfl,he,dN (by decide) (by decide) (k0.trans (congrArg some e0)),⟨dN (by decide) (by decide) b1,dN (by decide) (by decide) b2,dN (by decide) (by decide) b3,dN (by decide) (by decide) b4,dN (by decide) (by decide) b5⟩,dN (by decide) (by decide) k6⟩⟩
  ·exact Ef
def k7(c im:Nat)(q:P5):List Nat:=c::(q.l++[im])
theorem tI{c:Nat}{F:c7}{z:Bool}{H:List ak}{q:P5}{im:Nat}{qs:List P5}(h:iJ c F z H q im qs):(k7 c im q).Nodup:=by
 have hnd:=h.nd
 rw[ZF,ZF,xM] at hnd
 obtain⟨n1,n2,n3,n4,n5⟩:=hnd
 unfold k7
 rw[ZF,xM]
 refine⟨fun hm=> ?_,n3,by simp,fun a ha b hb e=> ?_⟩
 ·rcases Zs.1 hm with hm | hm
  ·exact n1 (Zk _ (ZW _ hm))
  ·exact n1 (by rw[Zw.1 hm];exact Zx)
 ·rw[Zw.1 hb] at e
  subst e
  exact n2 (ZW _ ha)
theorem pI{c:Nat}{F:c7}{z:Bool}{H:List ak}{q:P5}{im:Nat}{qs:List P5}(h:iJ c F z H q im qs):∀ i∈k7 c im q,c<=i∧i<H.length:=fun i hi=>by
 rcases Zv.1 hi with rfl | hi
 ·exact⟨Zg _,(Za.1 h.fl).1⟩
 ·rcases Zs.1 hi with hi | hi
  ·exact⟨h.low i (Zk _ (ZW _ hi)),h.a5.lt i hi⟩
  ·rw[Zw.1 hi]
   exact⟨h.low im Zx,(Za.1 h.mb).1⟩
theorem sO{c:Nat}{F:c7}{z:Bool}{H:List ak}{q:P5}{im:Nat}{qs:List P5}(h:iJ c F z H q im qs):∀ i∈qs.flatMap P5.l,i∉k7 c im q:=fun i hi hm=>by
 have hnd:=h.nd
 rw[ZF,ZF,xM] at hnd
 obtain⟨n1,n2,n3,n4,n5⟩:=hnd
 rcases Zv.1 hm with e | hm
 ·exact n1 (Zk _ (ZI _ (e▸hi)))
 ·rcases Zs.1 hm with hm | hm
  ·exact n5 i hm i hi rfl
  ·rw[Zw.1 hm] at hi
   exact n2 (ZI _ hi)
structure xd (c:Nat) (F:c7) (z:Bool) (H:List ak) (q:P5) (im:Nat) (qs:List P5) (l:List RB) (H' H0:List ak):Prop where
 fa:iJ c F z H q im qs
 e:H'=H.set im (mL z l)
 k:gC H' (k7 c im q) H0
theorem xd.len{c:Nat}{F:c7}{z:Bool}{H:List ak}{q:P5}{im:Nat}{qs:List P5}{l:List RB}{H' H0:List ak}(h:xd c F z H q im qs l H' H0):H'.length=H.length:=by rw[h.e,yl]
theorem xd.lt{c:Nat}{F:c7}{z:Bool}{H:List ak}{q:P5}{im:Nat}{qs:List P5}{l:List RB}{H' H0:List ak}(h:xd c F z H q im qs l H' H0):∀ i∈k7 c im q,i<H'.length:=fun i hi=>by rw[h.len];exact(pI h.fa i hi).2
theorem xd.out{c:Nat}{F:c7}{z:Bool}{H:List ak}{q:P5}{im:Nat}{qs:List P5}{l:List RB}{H' H0:List ak}(h:xd c F z H q im qs l H' H0){i:Nat}(hi:i<H.length)(hk:i∉k7 c im q):(bA H' (k7 c im q) H0)[i]? =H[i]? :=by
 rw[dX (tI h.fa) h.k.1 (by rw[h.len];exact hi) hk,h.e,Zu,if_neg (fun e=>hk (by rw[<- e];exact Zk _ (ZI _ (Zw.2 rfl))))]
theorem xd.at_{c:Nat}{F:c7}{z:Bool}{H:List ak}{q:P5}{im:Nat}{qs:List P5}{l:List RB}{H' H0:List ak}(h:xd c F z H q im qs l H' H0){j:Nat}{x:ak}(hx:H0[j]? =some x):(bA H' (k7 c im q) H0)[nE H' (k7 c im q) j]? =some (aM (eV H' (k7 c im q)) x):=qD (tI h.fa) h.k.1 h.lt hx
theorem xd.p0{c:Nat}{F:c7}{z:Bool}{H:List ak}{q:P5}{im:Nat}{qs:List P5}{l:List RB}{H' H0:List ak}(h:xd c F z H q im qs l H' H0):nE H' (k7 c im q) 0=c:=rfl
theorem xd.p6{c:Nat}{F:c7}{z:Bool}{H:List ak}{q:P5}{im:Nat}{qs:List P5}{l:List RB}{H' H0:List ak}(h:xd c F z H q im qs l H' H0):nE H' (k7 c im q) 6=im:=rfl
theorem xd.ats{c:Nat}{F:c7}{z:Bool}{H:List ak}{q:P5}{im:Nat}{qs:List P5}{l:List RB}{H' H0:List ak}(h:xd c F z H q im qs l H' H0):rL (bA H' (k7 c im q) H0) qs F.marks:=
 h.fa.ats.congr fun i hi=>h.out (h.fa.ats.lt i hi) (sO h.fa i hi)
theorem xd.new{c:Nat}{F:c7}{z:Bool}{H:List ak}{q:P5}{im:Nat}{qs:List P5}{l:List RB}{H' H0:List ak}(h:xd c F z H q im qs l H' H0)(j:Nat):c<=nE H' (k7 c im q) j∧nE H' (k7 c im q) j∉qs.flatMap P5.l:=by
 rcases ya H' (k7 c im q) j with hm | hm
 ·exact⟨(pI h.fa _ hm).1,fun hq=>sO h.fa _ hq hm⟩
 ·rw[h.len] at hm
  have hc:=(pI h.fa c Zx).2
  exact⟨by omega,fun hq=>by have:=h.fa.ats.lt _ hq;omega⟩
theorem rL.set{H:List ak}{qs:List P5}{bs:List bU}{i:Nat}{y:ak}(h:rL H qs bs)(hi:i∉qs.flatMap P5.l):rL (H.set i y) qs bs:=h.congr fun j hj=>by
 rw[Zu,if_neg (fun e=>hi (by rw[e];exact hj))]
theorem vO{ps:List (V×V)}{cs cs' t:List V}{e:TypeId}(h:dx (iD ps) cs cs'):oA ps (.row (cs++t) e) (.row cs' e):= .inr ⟨cs,cs',e,h,.inr ⟨t,rfl,rfl⟩⟩
theorem x7{ps:List (V×V)}{cs cs':List V}{e:TypeId}(h:dx (iD ps) cs cs'):oA ps (.row cs e) (.row cs' e):=by
 have:=vO (e:=e) (t:=[]) h
 rwa [ZY] at this
theorem ff.trans{ps:List (V×V)}{H H2:List ak}{i:Nat}{x y:ak}(h:ff ps H H2)(hx:H2[i]? =some x)(hx0:H[i]? =some x)(hy:oA ps x y):ff ps H (H2.set i y):=by
 refine⟨by rw[yl];exact h.1,fun j a b ha hb=> ?_⟩
 rw[Zu] at hb
 split at hb
 ·rename_i e
  subst e
  split at hb
  ·cases hb
   rw[hx0] at ha;cases ha;exact hy
  ·cases hb
 ·exact h.2 j a b ha hb
section
variable {c:Nat} {F F':c7} {z z':Bool} {H H' H0:List ak} {q q0:P5} {im:Nat} {qs H6:List P5} {l:List RB} {ps:List (V×V)}
theorem KW(hb:xd c F z H q im qs l H' H0){ns:List Nat}(h:ns.Nodup):(ns.map (nE H' (k7 c im q))).Nodup:=tA (tI hb.fa) hb.lt h
theorem KN(hb:xd c F z H q im qs l H' H0){um0:V}{M0:ak}(hp:F'.aT=F.aT)(hm:z'=true->F'.marks=[])(hq:rL (bA H' (k7 c im q) H0) H6 F'.marks)(hsub:∀ i∈H6.flatMap P5.l,i∈qs.flatMap P5.l)(hnq:(H6.flatMap P5.l).Nodup)(h0:H0[0]? =some (cI F'.b F.aT um0 q0.a q0.b q0.c q0.d q0.e))(hn0:(0::6::q0.l).Nodup)(h5:kM H0 q0 F'.b)(h6:H0[6]? =some M0)(hM:∀ σ,aM σ M0=M0)
    (hum:aZ (eV H' (k7 c im q)) um0=tB im F' z')(SY:oA ps M0 (Bm H6 F' z')):∃ H3,ff ps (bA H' (k7 c im q) H0) H3∧(∃ z q im qs,iJ c F' z H3 q im qs)∧∀ i,i<c->H3[i]? =H[i]? :=by
 obtain⟨q',eq'⟩:∃ q',q'=q0.map (nE H' (k7 c im q)):=⟨_,rfl⟩
 have Xv:=KW hb hn0
 rw[ZE,ZE,hb.p0,hb.p6,<- P5.vv,<- eq'] at Xv
 have nd2:=Xv
 rw[ZF,ZF] at nd2
 obtain⟨n1,n2,n3⟩:=nd2
 have a5:kM (bA H' (k7 c im q) H0) q' F'.b:=by rw[eq'];exact jx (tI hb.fa) hb.k.1 hb.lt h5
 have k0:=hb.at_ h0
 rw[hb.p0,mg hb.k h5 hum] at k0
 have k6:=hb.at_ h6
 rw[hb.p6,hM] at k6
 have AY:im≠c:=fun e=>n1 (by rw[e];exact Zx)
 have PE:im∉H6.flatMap P5.l:=fun hm=>sO hb.fa im (hsub im hm) (Zk _ (ZI _ (Zw.2 rfl)))
 have XQ:c∉H6.flatMap P5.l:=fun hm=>sO hb.fa c (hsub c hm) Zx
 have hnew:∀ i∈q'.l,c<=i∧i∉qs.flatMap P5.l:=fun i hi=>by
  rw[eq',P5.vv] at hi
  obtain⟨j,_,rfl⟩:=xS.1 hi
  exact hb.new j
 refine⟨(bA H' (k7 c im q) H0).set im (Bm H6 F' z'),ff.set k6 SY,⟨z',q',im,H6,⟨?_,a5.set n2,gD k6,hm,hq.set PE,?_,?_⟩⟩,fun i hi=> ?_⟩
 ·rw[hp]
  have:=b9 (y:=Bm H6 F' z') AY k0
  rw[eq']
  exact this
 ·rw[ZF,ZF,xM]
  refine⟨fun hm=> ?_,fun hm=> ?_,n3,hnq,fun a ha b hb' e=>(hnew a ha).2 (by rw[e];exact hsub b hb')⟩
  ·rcases Zv.1 hm with e | hm
   ·exact AY e.symm
   ·rcases Zs.1 hm with hm | hm
    ·exact n1 (Zk _ hm)
    ·exact XQ hm
  ·rcases Zs.1 hm with hm | hm
   ·exact n2 hm
   ·exact PE hm
 ·intro i hi
  rcases Zv.1 hi with rfl | hi
  ·exact hb.fa.low i Zx
  ·rcases Zs.1 hi with hi | hi
   ·exact(hnew i hi).1
   ·exact hb.fa.low i (Zk _ (ZI _ (hsub i hi)))
 ·have hcl:=(pI hb.fa c Zx).2
  have tG:=(pI hb.fa im (Zk _ (ZI _ (Zw.2 rfl)))).1
  rw[Zu,if_neg (by omega)]
  exact hb.out (by omega) fun hm=>by have:=(pI hb.fa i hm).1;omega
theorem rL.snoc{H:List ak}{qs:List P5}{bs:List bU}{q:P5}{b:bU}(h:rL H qs bs)(hq:kM H q b):rL H (qs++[q]) (bs++[b]):=by
 induction h with
 | nil=>exact .cons hq .nil
 | cons h _ ih=>exact .cons h ih
theorem Mo(hb:xd c F z H q im qs l H' H0)(hl:l.length=F.marks.length)(SY:dx (iD ps) (nO l) (qu qs F.marks))(hQ:Ll F (nO l) l.length H0):∃ H3,ff ps (bA H' (k7 c im q) H0) H3∧(∃ z q im qs,iJ c {F with marks:=F.marks++[F.b]} z H3 q im qs)∧∀ i,i<c->H3[i]? =H[i]? :=by
 obtain⟨h0,h5,h5',h28⟩:=hQ
 obtain⟨q',eq'⟩:∃ q',q'=(uv 1).map (nE H' (k7 c im q)):=⟨_,rfl⟩
 obtain⟨q1,eq1⟩:∃ q1,q1=(P5.mk 22 21 23 24 25).map (nE H' (k7 c im q)):=⟨_,rfl⟩
 obtain⟨i,ei⟩:∃ i,i=nE H' (k7 c im q) 28:=⟨_,rfl⟩
 have Xv:=KW hb (show((0:Nat)::28::((uv 1).l++(P5.mk 22 21 23 24 25).l)).Nodup by decide)
 rw[ZE,ZE,Zy,hb.p0,<- P5.vv,<- P5.vv,<- eq',<- eq1,<- ei] at Xv
 rw[ZF,ZF,xM] at Xv
 obtain⟨n1,n2,n3,n4,n5⟩:=Xv
 have a5:kM (bA H' (k7 c im q) H0) q' F.b:=by rw[eq'];exact jx (tI hb.fa) hb.k.1 hb.lt h5
 have a5':kM (bA H' (k7 c im q) H0) q1 F.b:=by rw[eq1];exact jx (tI hb.fa) hb.k.1 hb.lt h5'
 have pu:aZ (eV H' (k7 c im q)) (.row 28 (l.length+1))= .row i (l.length+1):=by
  have:=jV hb.k h28 rfl
  simp only[aZ,this,<- ei]
 have k0:=hb.at_ h0
 have e0:=mg (q:=uv 1) (p:=F.aT) hb.k h5 pu
 have k0:(bA H' (k7 c im q) H0)[c]? =some (cI F.b F.aT (.row i (l.length+1)) q'.a q'.b q'.c q'.d q'.e):=by
  rw[eq']
  exact k0.trans (congrArg some e0)
 have k28:=hb.at_ h28
 have e28:aM (eV H' (k7 c im q)) (.row (nO l++dR 22 21 23 24 25 F.b) yb)= .row (nO l++tE q1 F.b) yb:=by
  show ak.row (bE _ (_++_)) _=_
  rw[bI,uy,eq1]
  exact congrArg (fun t=>ak.row (nO l++t) yb) (wD (q:=⟨22,21,23,24,25⟩) hb.k h5')
 rw[e28,<- ei] at k28
 have hnew:∀ j∈i::(q'.l++q1.l),c<=j∧j∉qs.flatMap P5.l:=fun j hj=>by
  rcases Zv.1 hj with rfl | hj
  ·rw[ei];exact hb.new 28
  ·rcases Zs.1 hj with hj | hj
   ·rw[eq',P5.vv] at hj
    obtain⟨k,_,rfl⟩:=xS.1 hj
    exact hb.new k
   ·rw[eq1,P5.vv] at hj
    obtain⟨k,_,rfl⟩:=xS.1 hj
    exact hb.new k
 have hci:i≠c:=fun e=>n1 (by rw[e];exact Zx)
 have hfl:(qs++[q1]).flatMap P5.l=qs.flatMap P5.l++q1.l:=by rw[ZX];simp
 have hqn:(qs.flatMap P5.l).Nodup:=by
  have:=hb.fa.nd
  rw[ZF,ZF,xM] at this
  exact this.2.2.2.1
 have acp:rL (bA H' (k7 c im q) H0) (qs++[q1]) (F.marks++[F.b]):=rL.snoc hb.ats a5'
 have XQ:c∉qs.flatMap P5.l:=fun hm=>sO hb.fa c hm Zx
 refine⟨(bA H' (k7 c im q) H0).set i (.row (qu (qs++[q1]) (F.marks++[F.b])) yb),ff.set k28 (x7 (by rw[wP qs F.marks q1 F.b hb.fa.ats.len];exact dx.app _ _ _ _ SY (dx.refl iD.refl _))),⟨false,q',i,qs++[q1],⟨?_,a5.set (fun hm=>n2 (ZW _ hm)),gD k28,(fun h=>by cases h),?_,?_,?_⟩⟩,fun j hj=> ?_⟩
 ·have e:tB i {F with marks:=F.marks++[F.b]} false= .row i (l.length+1):=by
    show V.row i (F.marks++[F.b]).length=_
    rw[Zc,hl];rfl
  rw[e]
  exact b9 hci k0
 ·refine acp.set ?_
  rw[hfl]
  intro hm
  exact Ta
 ·rw[hfl,ZF,ZF,xM,xM]
  refine⟨fun hm=> ?_,fun hm=> ?_,n3,⟨hqn,n4,fun a ha b hb' e=>(hnew b (Zk _ (ZI _ hb'))).2 (e▸ha)⟩,fun a ha b hb' e=> ?_⟩
  ·rcases Zv.1 hm with e | hm
   ·exact hci e.symm
   ·rcases Zs.1 hm with hm | hm
    ·exact n1 (Zk _ (ZW _ hm))
    ·rcases Zs.1 hm with hm | hm
     ·exact XQ hm
     ·exact n1 (Zk _ (ZI _ hm))
  ·rcases Zs.1 hm with hm | hm
   ·exact n2 (ZW _ hm)
   ·exact Ta
  ·subst e
   rcases Zs.1 hb' with hb' | hb'
   ·exact(hnew a (Zk _ (ZW _ ha))).2 hb'
   ·exact n5 a ha a hb' rfl
 ·intro j hj
  rw[hfl] at hj
  rcases Zv.1 hj with rfl | hj
  ·exact(hnew j Zx).1
  ·rcases Zs.1 hj with hj | hj
   ·exact(hnew j (Zk _ (ZW _ hj))).1
   ·rcases Zs.1 hj with hj | hj
    ·exact hb.fa.low j (Zk _ (ZI _ hj))
    ·exact(hnew j (Zk _ (ZI _ hj))).1
 ·have hcl:=(pI hb.fa c Zx).2
  have:=(hnew i Zx).1
  rw[Zu,if_neg (by omega)]
  exact hb.out (by omega) fun hm=>by have:=(pI hb.fa j hm).1;omega
end
theorem rL.last{H:List ak}:∀{fs:List bU} {qs:List P5} {x:bU},rL H qs (fs++[x])->∃ wY q9,qs=wY++[q9]∧rL H wY fs∧kM H q9 x
 | [],_,_,.cons h .nil=>⟨[],_,rfl,.nil,h⟩
 | _::fs,_,_,.cons h t=>by
  obtain⟨wY,q9,rfl,h1,h2⟩:=rL.last (fs:=fs) t
  exact⟨_::wY,q9,rfl,.cons h h1,h2⟩
section
variable {c:Nat} {F F':c7} {z z':Bool} {H H' H0:List ak} {q q0:P5} {im:Nat} {qs H6:List P5} {l:List RB} {ps:List (V×V)}
theorem oT(wY:List P5)(q9:P5):(wY++[q9]).flatMap P5.l=wY.flatMap P5.l++q9.l:=by rw[ZX];simp
theorem Ja{wY:List P5}{q9:P5}{l0:List RB}{r:RB}{fs:List bU}{x:bU}(hb:xd c F false H q im (wY++[q9]) l H' H0)(hm:F.marks=fs++[x])(hl0:l0.length=fs.length)(fD:rL H wY fs)(ha9:kM H q9 x)(h1:dx (iD ps) (nO l0) (qu wY fs))(h2:dx (iD ps) r.cells (tE q9 x))(hQ:R7 F l0 r H0):
    ∃ H3,ff ps (bA H' (k7 c im q) H0) H3∧(∃ z q im qs,iJ c {F with b:=x,marks:=fs} z H3 q im qs)∧∀ i,i<c->H3[i]? =H[i]? :=by
 obtain⟨g0,g6⟩:=hQ
 have t6:eV H' (k7 c im q) 6=some im:=jV hb.k g6 rfl
 have e0:aM (eV H' (k7 c im q)) (.cells (r.cells++F.aT.cells.map .p++[.row 6 l0.length,.p (.bool true)]) 63)= .cells (r.cells++F.aT.cells.map .p++[.row im l0.length,.p (.bool true)]) 63:=by
  rw[cj,bI,bI,aP,KM]
  simp only[bY,cD,eZ,aZ,t6]
 have k0:=hb.at_ g0
 rw[hb.p0,e0] at k0
 have k6:=hb.at_ g6
 rw[hb.p6,iQ] at k6
 have hnd:=hb.fa.nd
 rw[oT,ZF,ZF,xM,xM] at hnd
 obtain⟨n1,n2,n3,⟨n4,n5,n6⟩,n7⟩:=hnd
 have tG:im∈k7 c im q:=Zk _ (ZI _ (Zw.2 rfl))
 have hold:∀ i∈wY.flatMap P5.l++q9.l,i<H.length∧i∉k7 c im q∧c<=i:=fun i hi=>by
  have hi2:i∈(wY++[q9]).flatMap P5.l:=by rw[oT];exact hi
  exact⟨hb.fa.ats.lt i hi2,sO hb.fa i hi2,hb.fa.low i (Zk _ (ZI _ hi2))⟩
 have AY:im≠c:=fun e=>n1 (by rw[e];exact Zx)
 obtain⟨H1,TN⟩:∃ H1,H1=(bA H' (k7 c im q) H0).set c (cI x F.aT (.row im l0.length) q9.a q9.b q9.c q9.d q9.e):=⟨_,rfl⟩
 have k61:H1[im]? =some (dF (l0++[r])):=by rw[TN];exact b9 (Ne.symm AY) k6
 have XS:ff ps (bA H' (k7 c im q) H0) H1:=by
  rw[TN]
  refine ff.set k0 (.inr ⟨_,_,_,?_,.inl ⟨rfl,rfl⟩⟩)
  exact dx.app _ _ _ _ (dx.app _ _ _ _ h2 (dx.refl iD.refl _)) (dx.refl iD.refl _)
 have nF:oA ps (dF (l0++[r])) (.row (qu wY fs) yb):=by
  unfold dF
  rw[vb]
  exact vO h1
 have same:∀ i,i<H.length->i∉k7 c im q->(H1.set im (.row (qu wY fs) yb))[i]? =H[i]? :=fun i hi hk=>by
  rw[Zu,if_neg (fun e:im=i=>hk (by rw[<- e];exact tG)),TN,Zu,if_neg (fun e=>hk (by rw[<- e];exact Zx))]
  exact hb.out hi hk
 have a9:kM (H1.set im (.row (qu wY fs) yb)) q9 x:=by
  obtain⟨b1,b2,b3,b4,b5⟩:=ha9
  have g:∀ i∈q9.l,(H1.set im (.row (qu wY fs) yb))[i]? =H[i]? :=fun i hi=>same i (hold i (ZI _ hi)).1 (hold i (ZI _ hi)).2.1
  refine⟨?_,?_,?_,?_,?_⟩
  ·rw[g q9.a (by simp[P5.l])];exact b1
  ·rw[g q9.b (by simp[P5.l])];exact b2
  ·rw[g q9.c (by simp[P5.l])];exact b3
  ·rw[g q9.d (by simp[P5.l])];exact b4
  ·rw[g q9.e (by simp[P5.l])];exact b5
 have eu:tB im {F with b:=x,marks:=fs} false= .row im l0.length:=by rw[hl0];rfl
 refine⟨H1.set im (.row (qu wY fs) yb),ff.trans XS k61 k6 nF,⟨false,q9,im,wY,⟨?_,a9,gD k61,(fun h=>by cases h),?_,?_,?_⟩⟩,fun i hi=> ?_⟩
 ·rw[eu]
  refine b9 AY ?_
  rw[TN]
  exact gD k0
 ·exact fD.congr fun i hi=>same i (hold i (ZW _ hi)).1 (hold i (ZW _ hi)).2.1
 ·rw[ZF,ZF,xM]
  refine⟨fun hm=> ?_,fun hm=> ?_,n5,n4,fun a ha b hb' e=>n6 b hb' a ha e.symm⟩
  ·rcases Zv.1 hm with e | hm
   ·exact AY e.symm
   ·refine(hold c ?_).2.1 Zx
    exact SM
  ·refine(hold im ?_).2.1 tG
   exact SM
 ·intro i hi
  rcases Zv.1 hi with rfl | hi
  ·exact hb.fa.low i Zx
  ·refine(hold i ?_).2.2
   rcases Zs.1 hi with hi | hi
   ·exact ZI _ hi
   ·exact ZW _ hi
 ·have hcl:=(pI hb.fa c Zx).2
  exact same i (by omega) fun hm=>by have:=(pI hb.fa i hm).1;omega
theorem IT{F:c7}{n:List Int}(h:(bp F .mark n).2.2=0):(bp F .mark n).1={F with marks:=F.marks++[F.b]}:=by
 revert h
 unfold bp
 dsimp only
 split
 ·intro h;cases h
 ·intro _;rfl
theorem AZ(h:iJ c F z H q im qs)(hF:kK F)(s:Bs)(v:Vb)(n:List Int)(hpa:cV s=some (v,n))(hv:mP v=false)(hs:s.length<=120)(hz:z=true->l=[])(hl:l.length=F.marks.length)(SY:dx (iD ps) (nO l) (qu qs F.marks)):aD Tryz.prog 15 [.ptr c 0,.p (.str (sB s))] (H.set im (mL z l)) (fun x H2=>∃ H3,ff ps H2 H3∧BJ c F s H x H3) (fun _ H2=>∃ H3:List ak,ff ps H2 H3∧False):=by
 obtain⟨H',Nx⟩:∃ H',H'=H.set im (mL z l):=⟨_,rfl⟩
 rw[<- Nx]
 have hnd:=h.nd
 rw[ZF,ZF,xM] at hnd
 obtain⟨n1,n2,n3,n4,n5⟩:=hnd
 have AY:im≠c:=fun e=>n1 (by rw[e];exact Zx)
 have PE:im∉q.l:=fun hm=>n2 (ZW _ hm)
 have g0:H'[c]? =some (cI F.b F.aT (tB im F z) q.a q.b q.c q.d q.e):=by rw[Nx];exact b9 AY h.fl
 have g5:kM H' q F.b:=by rw[Nx];exact h.a5.set PE
 have gm:H'[im]? =some (mL z l):=by rw[Nx];exact gD h.mb
 have hum:aZ (oX H' (k7 c im q)) (tB im F z)=nD z l:=by
  cases z with
  | true=>rfl
  | false=>
   have e:=Cq (tI h) (j:=6) rfl gm rfl
   show aZ _ (.row im F.marks.length)= .row 6 l.length
   simp only[aZ,e,hl]
 -- what is left
 have beh:∀ H0,cx (fQ F.b F.aT (nD z l) (mL z l)) H0->xd c F z H q im qs l H' H0:=fun H0 hk=>⟨h,Nx,hk.out g0 g5 gm⟩
 have hM:=KO z l
 have err:∀ H0,cx (fQ F.b F.aT (nD z l) (mL z l)) H0->aO F s=(F,[],(aO F s).2.2)->F0 F.b F.aT (nD z l) (mL z l) H0->∃ H3,ff ps (bA H' (k7 c im q) H0) H3∧(∃ z q im qs,iJ c (aO F s).1 z H3 q im qs)∧∀ i,i<c->H3[i]? =H[i]? :=fun H0 hk he ⟨e0,e5,e6,_⟩=>by
  rw[he]
  have hb:=beh H0 hk
  refine KN (F':=F) (z':=z) (H6:=qs) (q0:=⟨13,12,14,15,16⟩) hb rfl h.mz hb.ats (fun _ hi=>hi) n4 e0 (by decide) e5 e6 hM ?_ ?_
  ·cases z with
   | true=>rfl
   | false=>
    have:=jV hb.k e6 rfl
    rw[hb.p6] at this
    show aZ _ (.row 6 l.length)= .row im F.marks.length
    simp only[aZ,this,hl]
  ·cases z with
   | true=>exact .inl rfl
   | false=>exact x7 SY
 have fin:∀ Qr:V->List ak->Prop,aD Tryz.prog 15 [.ptr 0 0,.p (.str (sB s))] (fQ F.b F.aT (nD z l) (mL z l)) Qr (fun _ _=>False)->(∀ x H0,Qr x H0->x=y5 F s∧cx (fQ F.b F.aT (nD z l) (mL z l)) H0∧∃ H3,ff ps (bA H' (k7 c im q) H0) H3∧(∃ z q im qs,iJ c (aO F s).1 z H3 q im qs)∧∀ i,i<c->H3[i]? =H[i]?)->aD Tryz.prog 15 [.ptr c 0,.p (.str (sB s))] H' (fun x H2=>∃ H3,ff ps H2 H3∧BJ c F s H x H3) (fun _ H2=>∃ H3:List ak,ff ps H2 H3∧False):=fun Qr hc hQ=>by
  refine(VL (tI h) g0 g5 gm hM hum hc fun x H0 hq=>(hQ x H0 hq).2.1).mono (fun x H2 hx=> ?_) (fun _ _ h=>h.elim)
  obtain⟨x0,H0,hq,rfl,rfl⟩:=hx
  obtain⟨rfl,hk,H3,h1,h2,h3⟩:=hQ x0 H0 hq
  exact⟨H3,h1,rfl,h2,h3⟩
 have hln:¬ 120<s.length:=by omega
 cases v <;> first | cases hv | skip
 ·refine fin _ (aE.NG (Y2 F s hF n hpa hs z l hz hl)) fun x H0 ⟨hx,hk,hc⟩=>⟨hx,hk,?_⟩
  rcases hc with⟨h0,hQ⟩ | ⟨_,he,hE⟩
  ·have e:(aO F s).1={F with marks:=F.marks++[F.b]}:=by
     have e1:aO F s=bp F .mark n:=by unfold aO;rw[if_neg hln,hpa]
     rw[e1] at h0 ⊢
     exact IT h0
   rw[e]
   exact Mo (beh H0 hk) hl SY hQ
  ·exact err H0 hk he hE
 ·refine fin _ (aE.NG (XT F s hF n hpa hs z l hz hl)) fun x H0 ⟨hx,hk,hc⟩=>⟨hx,hk,?_⟩
  rcases hc with⟨fs,y,l0,r,hm,el,ez,e,hQ⟩ | ⟨_,he,hE⟩
  ·have fD:=h.ats
   rw[hm] at fD
   obtain⟨wY,q9,rfl,N3,ha9⟩:=fD.last
   subst ez
   have hl0:l0.length=fs.length:=by rw[el,hm] at hl;simpa using hl
   have hb:=beh H0 hk
   have KL:=SY
   rw[el,hm] at KL
   obtain⟨t1,t2⟩:=yO N3.len hl0 KL
   rw[e]
   exact Ja hb hm hl0 N3 ha9 t1 t2 hQ
  ·exact err H0 hk he hE
 ·refine fin _ (aE.NG (abF F s hF n hpa hs z l hz hl)) fun x H0 ⟨hx,hk,hc⟩=>⟨hx,hk,?_⟩
  rcases hc with⟨fs,y,l0,r,hm,el,ez,e,hQ⟩ | ⟨_,he,hE⟩
  ·have fD:=h.ats
   rw[hm] at fD
   obtain⟨wY,q9,rfl,N3,ha9⟩:=fD.last
   subst ez
   have hl0:l0.length=fs.length:=by rw[el,hm] at hl;simpa using hl
   have hb:=beh H0 hk
   have KL:=SY
   rw[el,hm] at KL
   obtain⟨t1,t2⟩:=yO N3.len hl0 KL
   obtain⟨k0,k5,k6⟩:=hQ
   have t6:=jV hb.k k6 rfl
   rw[hb.p6] at t6
   have iY:=hb.ats
   rw[hm] at iY
   obtain⟨qa,qb,eqq,abQ,_⟩:=iY.last
   obtain⟨rfl,_⟩:=List.append_inj' eqq rfl
   rw[e]
   rw[oT,xM] at n4
   refine KN (F':={F with marks:=fs}) (z':=false) (H6:=wY) (q0:=uv 1) (um0:= .row 6 l0.length) (M0:=dF (l0++[r])) hb rfl (fun h=>by cases h) abQ (fun i hi=>by rw[oT];exact ZW _ hi) n4.1 k0 (by decide) k5 k6 (fun σ=>iQ σ _) ?_ ?_
   ·show aZ _ (.row 6 l0.length)= .row im fs.length
    simp only[aZ,t6,hl0]
   ·unfold dF
    rw[vb]
    exact vO t1
  ·exact err H0 hk he hE
theorem step_mk(h:iJ c F z H q im qs)(hF:kK F)(s:Bs)(v:Vb)(n:List Int)(hpa:cV s=some (v,n))(hv:mP v=false)(hs:s.length<=120):aD Tryz.prog 15 [.ptr c 0,.p (.str (sB s))] H (BJ c F s H) (fun _ _=>False):=by
 cases z with
 | true=>
  have hm:=h.mz rfl
  have hqs:qs=[]:=ZD (by rw[h.ats.len,hm];rfl)
  have e:H.set im (mL true [])=H:=by
   have:H[im]? =some (mL true []):=h.mb
   apply Dt
   intro i
   rw[Zu]
   split
   ·rename_i e;subst e
    rw[if_pos (Za.1 this).1,this]
   ·rfl
  have:=AZ (ps:=[]) (l:=[]) h hF s v n hpa hv hs (fun _=>rfl) (by rw[hm];rfl) (by rw[hm,hqs];rfl)
  rw[e] at this
  exact aD.UE fun w I ρ hi=>⟨H,[],hi,(fun p hp=>by cases hp),this⟩
 | false=>
  refine aD.O6 im (cs:=qu qs F.marks) (e:=yb) h.mb fun cs' ps Xk=> ?_
  obtain⟨l,rfl,hl⟩:=yu qs F.marks cs' h.ats.len Xk
  exact AZ h hF s v n hpa hv hs (fun h=>by cases h) hl (uX _ _ Xk)
theorem yp(h:iJ c F z H q im qs)(hF:kK F)(s:Bs):aD Tryz.prog 15 [.ptr c 0,.p (.str (sB s))] H (BJ c F s H) (fun _ _=>False):=by
 by_cases hp:s.length<=120->∀ v n,cV s=some (v,n)->mP v=true
 ·exact N9 h hF s hp
 ·have hs:s.length<=120:=Decidable.byContradiction fun hs=>hp fun h=>absurd h hs
  cases hpa:cV s with
  | none=>exact absurd (fun _ v n h=>by rw[hpa] at h;cases h) hp
  | some vn=>
   obtain⟨v,n⟩:=vn
   cases hv:mP v with
   | true=>exact absurd (fun _ v' n' h=>by rw[hpa] at h;cases h;exact hv) hp
   | false=>exact step_mk h hF s v n hpa hv hs
end
theorem KC{pre Pd:List ak}{b:bU}:kM (pre++(fq b++Pd)) (uv pre.length) b:=by
 have g:∀(k:Nat) (x:ak),(fq b)[k]? =some x->(pre++(fq b++Pd))[pre.length+k]? =some x:=fun k x hx=>by
  rw[Zj (by omega),ZK,Zd (Za.1 hx).1]
  exact hx
 exact⟨g 0 _ rfl,g 1 _ rfl,g 2 _ rfl,g 3 _ rfl,g 4 _ rfl⟩
theorem Fi:∀(bs:List bU) (pre Pd:List ak),rL (pre++(bs.flatMap fq++Pd)) (lz pre.length bs.length) bs
 | [],_,_=> .nil
 | b::bs,pre,Pd=>by
  have e:pre++((b::bs).flatMap fq++Pd)=pre++(fq b++(bs.flatMap fq++Pd)):=by rw[ZJ,ZM]
  have h2:=Fi bs (pre++fq b) Pd
  rw[Zc,ZM,show(fq b).length=5 from rfl] at h2
  rw[e]
  exact .cons KC h2
theorem yY(pre:List ak)(F:c7)(z:Bool)(hz:z=true->F.marks=[]):iJ pre.length F z (pre++cX pre.length F z) (uv (pre.length+2)) (pre.length+1) (lz (pre.length+7) F.marks.length):=by
 have e1:pre++cX pre.length F z=(pre++[cI F.b F.aT (tB (pre.length+1) F z) (pre.length+2) (pre.length+3) (pre.length+4) (pre.length+5) (pre.length+6),Bm (lz (pre.length+7) F.marks.length) F z])++(fq F.b++(F.marks.flatMap fq++eD (40 - 5*F.marks.length))):=by
  unfold cX
  simp only[ZM,NS,FF]
 have e2:pre++cX pre.length F z=(pre++[cI F.b F.aT (tB (pre.length+1) F z) (pre.length+2) (pre.length+3) (pre.length+4) (pre.length+5) (pre.length+6),Bm (lz (pre.length+7) F.marks.length) F z]++fq F.b)++(F.marks.flatMap fq++eD (40 - 5*F.marks.length)):=by
  rw[e1];simp only[ZM]
 have g0:(pre++cX pre.length F z)[pre.length]? =some (cI F.b F.aT (tB (pre.length+1) F z) (pre.length+2) (pre.length+3) (pre.length+4) (pre.length+5) (pre.length+6)):=by
  rw[Zj (Zg _),NQ];rfl
 have g1:(pre++cX pre.length F z)[pre.length+1]? =some (Bm (lz (pre.length+7) F.marks.length) F z):=by
  rw[Zj (by omega),ZK];rfl
 have hl:(pre.length::(pre.length+1)::((uv (pre.length+2)).l++(lz (pre.length+7) F.marks.length).flatMap P5.l))=List.range' pre.length (7+5*F.marks.length):=by
  rw[tc,<- List.range'_append_1]
  rfl
 refine⟨g0,?_,g1,hz,?_,?_,?_⟩
 ·rw[e1]
  have:=KC (pre:=pre++[cI F.b F.aT (tB (pre.length+1) F z) (pre.length+2) (pre.length+3) (pre.length+4) (pre.length+5) (pre.length+6),Bm (lz (pre.length+7) F.marks.length) F z]) (Pd:=F.marks.flatMap fq++eD (40 - 5*F.marks.length)) (b:=F.b)
  rw[Zc] at this
  exact this
 ·rw[e2]
  have:=Fi F.marks (pre++[cI F.b F.aT (tB (pre.length+1) F z) (pre.length+2) (pre.length+3) (pre.length+4) (pre.length+5) (pre.length+6),Bm (lz (pre.length+7) F.marks.length) F z]++fq F.b) (eD (40 - 5*F.marks.length))
  rw[Zc,Zc] at this
  exact this
 ·rw[hl];exact List.nodup_range'
 ·intro i hi
  have:i∈List.range' pre.length (7+5*F.marks.length):=by rw[<- hl];exact Zk _ hi
  exact(NK.1 this).1
theorem Yf{R:Option Nat}{N κ:Nat}{Q:Post}{T T2:Tm}{o:Oper}{ops:Array Oper}{rest:List Oper}{f:Operand}{xs:Array Operand}{ts:Array TypeId}(d:Nat)(pre:List ak)(F:c7)(z:Bool)(s:Bs)(hF:kK F)(hz:z=true->F.marks=[])(hpre:∀(i:Nat) (x:ak),pre[i]? =some x->Da (pre.length+1) x)(hκ:κ<=pre.length)
    (ho:o.op= .call {callee:= .value f,args:=xs,argTypes:=ts})(hd:o.dst=some d)(hN:bC N (some d)=true)(hg:o.guard=none)(hf:ev T f=some (.p (.func (.func 15) [] [])))(hxs:lG T xs.toList=some [.ptr pre.length 0,.p (.str (sB s))])(hrf:an Tryz.prog 15=true)(hT:Sub T2 T)(hl:fG (below (pre.length+1)) T2=T2)
    (next:∀ z',(z'=true->(aO F s).1.marks=[])->aq Tryz.prog R N κ ops rest Q ((d,y5 F s)::T2) (pre++cX pre.length (aO F s).1 z')):aq Tryz.prog R N κ ops (o::rest) Q T (pre++cX pre.length F z):=by
 refine aq.fT d (yp (yY pre F z hz) hF s) ho hd hN hg hf hxs rfl hrf (fun _ _ h=>h.elim) fun x H3 hx=> ?_
 obtain⟨rfl,⟨z',q,im,qs,hfl⟩,hlow⟩:=hx
 refine aq.to (Bi hfl rfl (fun i x hi=>⟨?_,hpre i x hi⟩) hκ (T2:=(d,y5 F s)::T2) ?_ ?_) (next z' hfl.mz)
 ·have:=(Za.1 hi).1
  rw[hlow i this,Zd this]
  exact hi
 ·intro s' v hv
  simp only[lk] at hv ⊢
  cases hb:Nat.beq d s' with
  | true=>rw[hb] at hv;exact hv
  | false=>rw[hb] at hv;exact hT s' v hv
 ·show(d,y5 F s)::fG _ T2=_
  rw[hl]
theorem To.rot{P:Program}{κ N:Nat}{T:Tm}(A B C:List ak)(hκ:κ<=A.length):∃ σ:Nat->Option Nat,(∀ i,i<A.length->σ i=some i)∧(∀ k,k<B.length->σ (A.length+k)=some (A.length+C.length+k))∧(∀ j,j<C.length->σ (A.length+B.length+j)=some (A.length+j))∧
    To P κ N T (A++(B++C)) (fG σ T) (A.map (aM σ)++(C.map (aM σ)++B.map (aM σ))):=by
 obtain⟨ks,x8⟩:∃ ks,ks=List.range A.length++(List.range' (A.length+B.length) C.length++List.range' A.length B.length):=⟨_,rfl⟩
 have hnk:ks.Nodup:=by
  rw[x8,xM,xM]
  refine⟨List.nodup_range,⟨List.nodup_range',List.nodup_range',fun a ha b hb=> ?_⟩,fun a ha b hb=> ?_⟩
  ·have h1:=NK.1 ha
   have h2:=NK.1 hb
   omega
  ·have h1:=wX.1 ha
   rcases Zs.1 hb with hb | hb
   ·have h2:=NK.1 hb;omega
   ·have h2:=NK.1 hb;omega
 have g1:∀ i,i<A.length->ks[i]? =some i:=fun i hi=>by
  exact aaB
 have g2:∀ j,j<C.length->ks[A.length+j]? =some (A.length+B.length+j):=fun j hj=>by
  rw[x8,Zj (by rw[L0];omega),L0,ZK,Zd (by rw[WG];exact hj),Xy hj,ZN]
 have g3:∀ k,k<B.length->ks[A.length+C.length+k]? =some (A.length+k):=fun k hk=>by
  rw[x8,Zj (by rw[L0];omega),L0,Jr,ZK,Zj (by rw[WG];omega),WG,ZK,Xy hk,ZN]
 refine⟨pl ks,fun i hi=>nv hnk (g1 i hi),fun k hk=>nv hnk (g3 k hk),fun j hj=>nv hnk (g2 j hj),?_⟩
 have hkeep:kz κ (A++(B++C)).length ks=true:=by
  unfold kz
  simp only[Zo,beq_iff_eq,ZC,Zl]
  refine⟨⟨?_,fun i hi=> ?_⟩,hnk⟩
  ·exact SZ
  ·have:i<(A++(B++C)).length:=by
     rw[Zc,Zc]
     rw[x8] at hi
     rcases Zs.1 hi with hi | hi
     ·have:=wX.1 hi;omega
     ·rcases Zs.1 hi with hi | hi
      ·have:=NK.1 hi;omega
      ·have:=NK.1 hi;omega
   simpa[Nat.blt,ZA] using this
 have hk:=To.keep (P:=P) (κ:=κ) (N:=N) (T:=T) (H:=A++(B++C)) ks hkeep
 refine To.uG hk ?_
 have seg:∀(s n:Nat) (X:List ak),X.length=n->(∀ i,i<n->(A++(B++C))[s+i]? =X[i]?)->(List.range' s n).map (fun i=>aM (pl ks) ((A++(B++C)).getD i .dead))=X.map (aM (pl ks)):=fun s n X hX h=>by
  apply Dt
  intro i
  rw[Zt,Zt]
  rcases ZS i n with hi | hi
  ·rw[Xy hi,ZN]
   have hx:=Zb (show i<X.length by omega)
   show some (aM (pl ks) ((A++(B++C)).getD (s+i) .dead))=_
   rw[Zh,h i hi,hx]
   rfl
  ·rw[ZH (by rw[WG];exact hi),ZH (by omega)]
   rfl
 generalize pl ks=σ at seg ⊢
 rw[x8,Zy,Zy,List.range_eq_range',seg 0 A.length A rfl (fun i hi=>by rw[tZ,Zd hi]),
  seg (A.length+B.length) C.length C rfl (fun i hi=>by rw[Zj (by omega),Zj (by omega)];congr 1;omega),
  seg A.length B.length B rfl (fun i hi=>by rw[Zj (by omega),ZK,Zd hi])]
theorem Gn(l:List bU):(l.flatMap fq).length=5*l.length:=by
 induction l with
 | nil=>rfl
 | cons b l ih=>rw[ZJ,Zc,ih,Zp];show 5+_=_;omega
theorem j8{c:Nat}{F:c7}{z:Bool}(hm:F.marks.length<=8):(cX c F z).length=47:=by
 unfold cX
 rw[Zp,Zp,Zc,Zc,Gn,oG]
 show 5+_+_+1+1=47
 omega
theorem x5{σ:Nat->Option Nat}(b:bU):(fq b).map (aM σ)=fq b:=by
 unfold fq dD dj dI bL
 simp only[ZE,zF,bS]
theorem yc{σ:Nat->Option Nat}:∀ l:List bU,(l.flatMap fq).map (aM σ)=l.flatMap fq
 | []=>rfl
 | b::l=>by rw[ZJ,Zy,x5,yc l]
theorem yS{σ:Nat->Option Nat}:∀ r,(eD r).map (aM σ)=eD r
 | 0=>rfl
 | r+1=>by show ak.dead::(eD r).map (aM σ)=_;rw[yS r];rfl
theorem nP{c c2:Nat}{F:c7}{z:Bool}{σ:Nat->Option Nat}(hm:F.marks.length<=8)(h:∀ k,k<47->σ (c+k)=some (c2+k)):(cX c F z).map (aM σ)=cX c2 F z:=by
 unfold cX
 rw[ZE,ZE,Zy,Zy,x5,yc,yS]
 have f1:aM σ (cI F.b F.aT (tB (c+1) F z) (c+2) (c+3) (c+4) (c+5) (c+6))=cI F.b F.aT (tB (c2+1) F z) (c2+2) (c2+3) (c2+4) (c2+5) (c2+6):=
  E0 (q:=uv (c+2)) (i:=c2+2) (by
   cases z with
   | true=>rfl
   | false=>
    have:=h 1 (by decide)
    show aZ σ (.row (c+1) _)=_
    simp only[aZ,this]
    rfl) fun k x hx=>by
   have hk:k<5:=(Za.1 hx).1
   have e:x=c+2+k:=by
    match k,hk with
    | 0,_=>cases hx;rfl
    | 1,_=>cases hx;rfl
    | 2,_=>cases hx;rfl
    | 3,_=>cases hx;rfl
    | 4,_=>cases hx;rfl
   rw[e,Jr,h (2+k) (by omega),Jr]
 have f2:aM σ (Bm (lz (c+7) F.marks.length) F z)=Bm (lz (c2+7) F.marks.length) F z:=by
  cases z with
  | true=>rfl
  | false=>
   show ak.row (bE _ _) _=_
   rw[Ad (lz (c+7) F.marks.length) F.marks (c2+7) (B9 _ _) fun k x hx=> ?_]
   ·rfl
   ·rw[tc] at hx
    have hk:k<5*F.marks.length:=by
     have:=(Za.1 hx).1
     rwa [WG] at this
    rw[Xy hk] at hx
    cases hx
    rw[ZN,Jr,h (7+k) (by omega),Jr]
 rw[f1,f2]
end Go.Proofs.YtchiinjiflgepaaGreatDoor
end
