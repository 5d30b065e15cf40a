/-
 Chapter 15, the program: a floor with its marks among own blocks, at any places, and in its own order.
 Chapter 15, the program: a floor is brought into its own order.
 Chapter 15, the program: what a line does to a floor, without what its marks hold.
 Chapter 15, the program: a line that leaves the marks alone.
 Chapter 15, the program: a line that leaves the marks alone, whole.
 Chapter 15, the program: a line that leaves the marks alone, done by a floor with its marks.
 Chapter 15, the program: seven own blocks of a floor (its struct, its rows, its marks) among others; marks as exact slices.
 Chapter 15, the program: lines that set a mark, go back to one, or keep what was entered.
 Chapter 15, the program: what mark, back and keep do, as lines.
 Chapter 15, the program: what back and keep do, as lines.
 Chapter 15, the program: a floor with its marks, wherever it lies, does a line that turns its marks.
 Chapter 15, the program: a floor with its marks does any line.
 Chapter 15, the program: a floor does a line, whole.
 Chapter 15, the program: a call of Line on a floor in its own order.
 Chapter 15, the program: a floor changes its place among own blocks.
-/
import Derived.Test.YtchiinjiflgepaaGreatDoorMzQE
import Derived.Test.YtchiinjiflgepaaGreatDoorFaQF
theorem Uo{A:Prop}(h:A:=by
 obtain⟨rfl,⟨_,_,_,_,h,_⟩ | ⟨h1,h2,h3⟩⟩:=hq
 ·exact h.elim
 ·exact Fj):A:=h
theorem Ft{A:Prop}(h:A:=by
 exact⟨ZS rfl,fun j x y hj hx hd hy=>by
  match j,hj with
  | 0,_=>cases hx;cases hd
  | 1,_=>cases hx;cases hy;exact hd
  | 2,_=>cases hx;cases hy;exact hd
  | 3,_=>cases hx;cases hy;exact hd
  | 4,_=>cases hx;cases hy;exact hd
  | 5,_=>cases hx;cases hy;exact hd
  | 6,_=>cases hx;cases hd⟩):A:=h
theorem G2{A:Prop}(h:A:=by
 have hi:i<n:=by
  rcases ZT i n with h | h
  ·exact h
  ·have:below n i=none:=by unfold below;rw[if_neg (by simp[Nat.blt];omega)]
   simp only[aX,this] at e
   cases e
 simp only[aX,h i hi]):A:=h
theorem Uv{A:Prop}(h:A:=by
 exact⟨ZS rfl,fun j x y hj hx hd hy=>by
  match j,hj with
  | 0,_=>cases hx;cases hd
  | 1,_=>cases hx;cases hy;exact hd
  | 2,_=>cases hx;cases hy;exact hd
  | 3,_=>cases hx;cases hy;exact hd
  | 4,_=>cases hx;cases hy;exact hd
  | 5,_=>cases hx;cases hy;exact hd
  | 6,_=>cases hy;rfl⟩):A:=h
theorem Pq{A:Prop}(h:A:=by
 exact⟨rfl,mN hk,.inl ⟨h0,fin (x:= .top) rfl hk (by rw[g3];rfl) (by rw[g3];exact⟨rfl,rfl,rfl,rfl,rfl⟩) (by rw[g3];exact⟨rfl,rfl,rfl,rfl,rfl⟩) (by rw[g3];rfl)⟩⟩):A:=h
theorem Fj{A:Prop}(h:A:=by
 exact⟨rfl,h3.2.2.2,.inr ⟨h1,h2,h3⟩⟩):A:=h
theorem Qi{A:Prop}(h:A:=by
 exact⟨c9 (by decide) (by decide) g1,c9 (by decide) (by decide) g2,c9 (by decide) (by decide) g3,c9 (by decide) (by decide) g4,c9 (by decide) (by decide) g5⟩):A:=h
theorem Q4{A:Prop}(h:A:=by
 rcases Zp.1 hm with hm | hm
 ·exact(hnew i Zr).2 hm
 ·exact n2 (ZG _ hm)):A:=h
theorem PE{A:Prop}(h:A:=by
 rcases Zp.1 hm with hm | hm
 ·exact ZG _ hm
 ·exact ZV _ hm):A:=h
theorem P8{A:Prop}(h:A:=by
 rw[xh,Yv (by rw[GI];exact hκ),List.take_range,Fo hκ]):A:=h
theorem Rc{A:Prop}(h:A:=by
 rcases zy F.marks with h | ⟨fs,x,h⟩
 ·rw[h] at hl;simp at hl
 ·exact⟨fs,x,h⟩):A:=h
theorem QN{A:Prop}(h:A:=by
 rw[xh,Zc (by rw[GI];exact hi),XT hi]):A:=h
set_option linter.unusedSimpArgs false
set_option linter.unusedVariables false
section
set_option maxRecDepth 100000
namespace Go.Proofs.YtchiinjiflgepaaGreatDoor
open Go.AF
mutual
theorem mP{n:Nat}{σ:Nat->Option Nat}(h:∀ i,i<n->σ i=some i):∀ v:V,aX (below n) v=v->aX σ v=v
 | .p _,_=>rfl
 | .ptr i off,e=>by
  exact G2
 | .row i len,e=>by
  exact G2
 | .sl i off len,e=>by
  exact G2
 | .map i,e=>by
  exact G2
 | .func fn fi ca,e=>by
  simp only[aX,V.func.injEq,true_and] at e ⊢
  exact⟨iG h fi e.1,iG h ca e.2⟩
 | .iface t v,e=>by
  simp only[aX,V.iface.injEq,true_and] at e ⊢
  exact mP h v e
 | .agg cs,e=>by
  simp only[aX,V.agg.injEq] at e ⊢
  exact iG h cs e
 | .tuple cs,e=>by
  simp only[aX,V.tuple.injEq] at e ⊢
  exact iG h cs e
 | .opt g v,e=>by
  simp only[aX,V.opt.injEq,true_and] at e ⊢
  exact mP h v e
 | .raw _ _ _,_=>rfl
 | .z0,_=>rfl
 | .top,_=>rfl
theorem iG{n:Nat}{σ:Nat->Option Nat}(h:∀ i,i<n->σ i=some i):∀ vs:List V,bn (below n) vs=vs->bn σ vs=vs
 | [],_=>rfl
 | v::vs,e=>by
  simp only[bn,List.cons.injEq] at e ⊢
  exact⟨mP h v e.1,iG h vs e.2⟩
end
theorem AJ{n:Nat}{σ:Nat->Option Nat}(h:∀ i,i<n->σ i=some i):∀ T:Tm,eX (below n) T=T->eX σ T=T
 | [],_=>rfl
 | (s,v)::T,e=>by
  simp only[eX,List.cons.injEq,Prod.mk.injEq,true_and] at e ⊢
  exact⟨mP h v e.1,AJ h T e.2⟩
def EO(n:Nat):ai->Prop
 | .cells cs _=>bn (below n) cs=cs
 | .row cs _=>bn (below n) cs=cs
 | .gV cs _=>bn (below n) cs=cs
 | .loop r _ _=>eX (below n) r.T=r.T
 | .dead=>True
 | _=>False
theorem HA{n:Nat}{σ:Nat->Option Nat}(h:∀ i,i<n->σ i=some i){x:ai}(e:EO n x):aE σ x=x:=by
 cases x with
 | cells cs t=>show ai.cells (bn σ cs) t=_;rw[iG h cs e]
 | row cs t=>show ai.row (bn σ cs) t=_;rw[iG h cs e]
 | gV cs t=>show ai.gV (bn σ cs) t=_;rw[iG h cs e]
 | loop r st pe=>show ai.loop {r with T:=eX σ r.T} st pe=_;rw[AJ h r.T e]
 | dead=>rfl
 | _=>exact e.elim
theorem l8{ks:List Nat}(hn:ks.Nodup){j i:Nat}(h:ks[j]? =some i):pl ks i=some j:=by
 have hj:=(Za.1 h).1
 have e:=(Za.1 h).2
 unfold pl List.idxOf?
 rw[YH]
 refine⟨hj,by simp[e],fun k hk=> ?_⟩
 intro hc
 have hc:ks[k]=i:=by simpa using hc
 have:k=j:=(WK (by omega) hn).1 (by rw[Zd (by omega),hc,h])
 omega
structure P5 where
 a:Nat
 b:Nat
 c:Nat
 d:Nat
 e:Nat
def P5.l(q:P5):List Nat:=[q.a,q.b,q.c,q.d,q.e]
def rX(q:P5)(b:bG):List V:=dn q.a q.b q.c q.d q.e b
def eo(b:bG):List ai:=[c5 b.au,cU b.ag,c7 b.aq,bh b.plan,bh b.b6]
def tj(i:Nat):P5:=⟨i,i+1,i+2,i+3,i+4⟩
def oO:List P5->List bG->List V
 | q::qs,b::bs=>rX q b++oO qs bs
 | _,_=>[]
def j3(i:Nat):Nat->List P5
 | 0=>[]
 | n+1=>tj i::j3 (i+5) n
def rD(im:Nat)(F:cK)(z:Bool):V:=bif z then .z0 else .row im F.marks.length
def Aa(qs:List P5)(F:cK)(z:Bool):ai:=bif z then .dead else .row (oO qs F.marks) xm
def bS(c:Nat)(F:cK)(z:Bool):List ai:=cv F.b F.aP (rD (c+1) F z) (c+2) (c+3) (c+4) (c+5) (c+6)::Aa (j3 (c+7) F.marks.length) F z::(eo F.b++F.marks.flatMap eo++dI (40 - 5*F.marks.length))
def jD(H:List ai)(q:P5)(b:bG):Prop:=H[q.a]? =some (c5 b.au)∧H[q.b]? =some (cU b.ag)∧H[q.c]? =some (c7 b.aq)∧H[q.d]? =some (bh b.plan)∧H[q.e]? =some (bh b.b6)
inductive oW (H:List ai):List P5->List bG->Prop
 | nil:oW H [] []
 | cons {q:P5} {b:bG} {qs:List P5} {bs:List bG} (h:jD H q b) (t:oW H qs bs):oW H (q::qs) (b::bs)
structure fz (c:Nat) (F:cK) (z:Bool) (H:List ai) (q:P5) (im:Nat) (qs:List P5):Prop where
 fl:H[c]? =some (cv F.b F.aP (rD im F z) q.a q.b q.c q.d q.e)
 a5:jD H q F.b
 mb:H[im]? =some (Aa qs F z)
 mz:z=true->F.marks=[]
 ats:oW H qs F.marks
 nd:(c::im::(q.l++qs.flatMap P5.l)).Nodup
 low:∀ i∈(im::(q.l++qs.flatMap P5.l)),c<=i
theorem oW.len{H:List ai}{qs:List P5}{bs:List bG}(h:oW H qs bs):qs.length=bs.length:=by
 induction h with
 | nil=>rfl
 | cons _ _ ih=>rw[Zn,Zn,ih]
theorem rO:∀(r i:Nat),i<r->(dI r)[i]? =some .dead
 | 0,i,h=>by omega
 | r+1,0,_=>rfl
 | r+1,i+1,h=>rO r i (by omega)
theorem nQ:∀ r,(dI r).length=r
 | 0=>rfl
 | r+1=>by show(dI r).length+1=_;rw[nQ r]
theorem qh{σ:Nat->Option Nat}{H:List ai}{q:P5}{b:bG}(h:jD H q b):q.l.map (fun i=>aE σ (H.getD i .dead))=eo b:=by
 obtain⟨h1,h2,h3,h4,h5⟩:=h
 have g:∀{i:Nat} {x:ai},H[i]? =some x->H.getD i .dead=x:=fun hx=>by rw[Ze,hx];rfl
 show[aE σ (H.getD q.a .dead),aE σ (H.getD q.b .dead),aE σ (H.getD q.c .dead),aE σ (H.getD q.d .dead),aE σ (H.getD q.e .dead)]=_
 rw[g h1,g h2,g h3,g h4,g h5]
 simp only[c5,cU,c7,bh,bA]
 rfl
theorem ER{σ:Nat->Option Nat}{H:List ai}{qs:List P5}{bs:List bG}(h:oW H qs bs):(qs.flatMap P5.l).map (fun i=>aE σ (H.getD i .dead))=bs.flatMap eo:=by
 induction h with
 | nil=>rfl
 | cons h _ ih=>rw[ZJ,ZH,qh h,ih,ZJ]
theorem Em{σ:Nat->Option Nat}{q:P5}{b:bG}{i:Nat}(h:∀(k x:Nat),q.l[k]? =some x->σ x=some (i+k)):bn σ (rX q b)=rX (tj i) b:=by
 unfold rX dn
 simp only[bF,b8,dQ,cz (h 0 q.a rfl),cz (h 1 q.b rfl),cz (h 2 q.c rfl),cz (h 3 q.d rfl),cz (h 4 q.e rfl)]
 rfl
theorem yI{σ:Nat->Option Nat}:∀(qs:List P5) (bs:List bG) (i:Nat),qs.length=bs.length->(∀(k x:Nat),(qs.flatMap P5.l)[k]? =some x->σ x=some (i+k))->bn σ (oO qs bs)=oO (j3 i bs.length) bs
 | [],[],_,_,_=>rfl
 | q::qs,b::bs,i,hl,h=>by
  show bn σ (rX q b++oO qs bs)=rX (tj i) b++oO (j3 (i+5) bs.length) bs
  rw[bD,Em (i:=i) fun k x hk=>h k x (by
   rw[ZJ,Zc (Za.1 hk).1];exact hk),yI qs bs (i+5) (by simpa using hl) fun k x hk=>by
   have:=h (5+k) x (by rw[ZJ,Zk (by show 5<=5+k;omega),show 5+k - q.l.length=k by show 5+k - 5=k;omega];exact hk)
   rw[this,HB]]
 | [],_::_,_,hl,_=>by cases hl
 | _::_,[],_,hl,_=>by cases hl
theorem Ek{σ:Nat->Option Nat}{b:bG}{p:Di.bB}{um nt:V}{q:P5}{i:Nat}(hu:aX σ um=nt)(h:∀(k x:Nat),q.l[k]? =some x->σ x=some (i+k)):aE σ (cv b p um q.a q.b q.c q.d q.e)=cv b p nt i (i+1) (i+2) (i+3) (i+4):=by
 unfold cv
 rw[bL,bD,bD,aY]
 have e:=Em (σ:=σ) (b:=b) (i:=i) h
 unfold rX at e
 rw[e]
 simp only[bF,b8,dQ,hu]
 rfl
theorem jD.lt{H:List ai}{q:P5}{b:bG}(h:jD H q b):∀ i∈q.l,i<H.length:=by
 obtain⟨h1,h2,h3,h4,h5⟩:=h
 intro i hi
 simp only[P5.l,Zt,KZ,or_false] at hi
 rcases hi with rfl | rfl | rfl | rfl | rfl
 ·exact(Za.1 h1).1
 ·exact(Za.1 h2).1
 ·exact(Za.1 h3).1
 ·exact(Za.1 h4).1
 ·exact(Za.1 h5).1
theorem oW.lt{H:List ai}{qs:List P5}{bs:List bG}(h:oW H qs bs):∀ i∈qs.flatMap P5.l,i<H.length:=by
 induction h with
 | nil=>intro i hi;cases hi
 | cons h _ ih=>
  intro i hi
  rw[ZJ] at hi
  rcases Zp.1 hi with hi | hi
  ·exact h.lt i hi
  ·exact ih i hi
theorem AT{P:Program}{κ N c:Nat}{T T2:Tm}{F:cK}{z:Bool}{H pre:List ai}{q:P5}{im:Nat}{qs:List P5}(h:fz c F z H q im qs)(hc:pre.length=c)(hpre:∀(i:Nat) (x:ai),pre[i]? =some x->H[i]? =some x∧EO (c+1) x)(hκ:κ<=c)(hT:Sub T2 T)(hl:eX (below (c+1)) T2=T2):To P κ N T H T2 (pre++bS c F z):=by
 obtain⟨r,er⟩:∃ r,r=40 - 5*F.marks.length:=⟨_,rfl⟩
 obtain⟨A,eA⟩:∃ A,A=c::im::(q.l++qs.flatMap P5.l):=⟨_,rfl⟩
 obtain⟨ks,xh⟩:∃ ks,ks=List.range c++(A++List.range' H.length r):=⟨_,rfl⟩
 have hcl:c<H.length:=(Za.1 h.fl).1
 have Na:∀ i∈A,c<=i∧i<H.length:=by
  rw[eA]
  intro i hi
  rcases Zt.1 hi with rfl | hi
  ·exact⟨Zg _,hcl⟩
  ·refine⟨h.low i hi,?_⟩
   rcases Zt.1 hi with rfl | hi
   ·exact(Za.1 h.mb).1
   ·rcases Zp.1 hi with hi | hi
    ·exact h.a5.lt i hi
    ·exact h.ats.lt i hi
 have hnA:A.Nodup:=by rw[eA];exact h.nd
 have hnk:ks.Nodup:=by
  rw[xh,ZX,ZX]
  refine⟨List.nodup_range,⟨hnA,List.nodup_range',fun a ha b hb=> ?_⟩,fun a ha b hb=> ?_⟩
  ·have h1:=(Na a ha).2
   have h2:=(LX.1 hb).1
   omega
  ·have h1:=ZY.1 ha
   rcases Zp.1 hb with hb | hb
   ·have:=(Na b hb).1;omega
   ·have h2:=(LX.1 hb).1
    omega
 have gi:∀ i,i<c->ks[i]? =some i:=fun i hi=>by
  exact QN
 have gA:∀(k x:Nat),A[k]? =some x->ks[c+k]? =some x:=fun k x hx=>by
  rw[xh,Zk (by rw[GI];omega),GI,ZI,Zc (Za.1 hx).1]
  exact hx
 have pi:∀ i,i<c->pl ks i=some i:=fun i hi=>l8 hnk (gi i hi)
 have pA:∀(k x:Nat),A[k]? =some x->pl ks x=some (c+k):=fun k x hx=>l8 hnk (gA k x hx)
 have pc:pl ks c=some c:=by have:=pA 0 c (by rw[eA];rfl);rwa [Gy] at this
 have pm:pl ks im=some (c+1):=pA 1 im (by rw[eA];rfl)
 have pq:∀(k x:Nat),q.l[k]? =some x->pl ks x=some (c+2+k):=fun k x hx=>by
  have:=pA (2+k) x (by rw[eA,UG 2 k];show(q.l++qs.flatMap P5.l)[k]? =some x;rw[Zc (Za.1 hx).1];exact hx)
  rw[this,HB]
 have pqs:∀(k x:Nat),(qs.flatMap P5.l)[k]? =some x->pl ks x=some (c+7+k):=fun k x hx=>by
  have:=pA (7+k) x (by rw[eA,show 7+k=5+k+2 by omega];show(q.l++qs.flatMap P5.l)[5+k]? =some x;rw[Zk (by show 5<=5+k;omega),show 5+k - q.l.length=k by show 5+k - 5=k;omega];exact hx)
  rw[this,HB]
 have Xt:∀ i,i<c+1->pl ks i=some i:=fun i hi=>by
  rcases ZT i c with h | h
  ·exact pi i h
  ·obtain rfl:i=c:=by omega
   exact pc
 have hd:∀ i,i<H.length->(H++dI r).getD i .dead=H.getD i .dead:=fun i hi=>by
  rw[Ze,Ze,Zc hi]
 have hkeep:jn κ (H++dI r).length ks=true:=by
  unfold jn
  simp only[Zo,beq_iff_eq,ZA,Zs]
  refine⟨⟨?_,fun i hi=> ?_⟩,hnk⟩
  ·exact P8
  ·have:i<(H++dI r).length:=by
     rw[Zb,nQ]
     rw[xh] at hi
     rcases Zp.1 hi with hi | hi
     ·have:=ZY.1 hi;omega
     ·rcases Zp.1 hi with hi | hi
      ·have:=(Na i hi).2;omega
      ·have:=(LX.1 hi).2;omega
   simpa[Nat.blt,Zx] using this
 have hmap:(ks.map fun i=>aE (pl ks) ((H++dI r).getD i .dead))=pre++bS c F z:=by
  have e1:(List.range c).map (fun i=>aE (pl ks) ((H++dI r).getD i .dead))=pre:=by
   apply CX
   intro i
   rw[Zu]
   rcases ZT i c with hi | hi
   ·rw[XT hi]
    have hx:=Zd (show i<pre.length by omega)
    obtain⟨h1,h2⟩:=hpre i _ hx
    rw[hx]
    show some (aE (pl ks) ((H++dI r).getD i .dead))=_
    rw[hd i (Za.1 h1).1,Ze,h1]
    exact congrArg some (HA Xt h2)
   ·rw[ZF (by rw[GI];exact hi),ZF (by omega)]
    rfl
  have e2:A.map (fun i=>aE (pl ks) ((H++dI r).getD i .dead))=A.map (fun i=>aE (pl ks) (H.getD i .dead)):=UW fun i hi=>by rw[hd i (Na i hi).2]
  have e3:A.map (fun i=>aE (pl ks) (H.getD i .dead))=cv F.b F.aP (rD (c+1) F z) (c+2) (c+3) (c+4) (c+5) (c+6)::Aa (j3 (c+7) F.marks.length) F z::(eo F.b++F.marks.flatMap eo):=by
   rw[eA,ZD,ZD,ZH,qh h.a5,ER h.ats]
   have f1:H.getD c .dead=cv F.b F.aP (rD im F z) q.a q.b q.c q.d q.e:=by rw[Ze,h.fl];rfl
   have f2:H.getD im .dead=Aa qs F z:=by rw[Ze,h.mb];rfl
   rw[f1,f2,Ek (nt:=rD (c+1) F z) (i:=c+2) (by
    cases z with
    | true=>rfl
    | false=>show aX _ (.row im _)=_;simp only[aX,pm];rfl) pq]
   have f3:aE (pl ks) (Aa qs F z)=Aa (j3 (c+7) F.marks.length) F z:=by
    cases z with
    | true=>rfl
    | false=>show ai.row (bn _ _) _=_;rw[yI qs F.marks (c+7) h.ats.len pqs];rfl
   rw[f3]
  have e4:(List.range' H.length r).map (fun i=>aE (pl ks) ((H++dI r).getD i .dead))=dI r:=by
   apply CX
   intro i
   rw[Zu]
   rcases ZT i r with hi | hi
   ·rw[UY hi,rO r i hi]
    show some (aE (pl ks) ((H++dI r).getD (H.length+1*i) .dead))=_
    rw[Ze,ZN,Zk (by omega),ZI,rO r i hi]
    rfl
   ·rw[ZF (by rw[TV];exact hi),ZF (by rw[nQ];exact hi)]
    rfl
  rw[xh] at e1 e2 e3 e4 ⊢
  rw[ZH,ZH,e1,e2,e3,e4,er]
  unfold bS
  simp only[Nf,ZL]
 have hk:=To.keep (P:=P) (κ:=κ) (N:=N) (T:=T) (H:=H++dI r) ks hkeep
 rw[hmap] at hk
 refine(To.M9 r).trans (hk.trans (To.sub fun s v hv=> ?_))
 rw[qz,hT s v hv]
 have h2:lk (eX (below (c+1)) T2) s=some v:=by rw[hl];exact hv
 rw[qz,hv] at h2
 exact congrArg some (mP Xt v (Zw h2))
theorem Bh:∀(n i:Nat),(j3 i n).length=n
 | 0,_=>rfl
 | n+1,i=>by show(j3 (i+5) n).length+1=_;rw[Bh n]
theorem qF:∀(n i:Nat),(j3 i n).flatMap P5.l=List.range' i (5*n)
 | 0,_=>rfl
 | n+1,i=>by
  show(tj i).l++(j3 (i+5) n).flatMap P5.l=_
  rw[qF n,show 5*(n+1)=5+5*n by omega,<- List.range'_append_1]
  rfl
def GF(b:bG)(p:Di.bB)(um:V)(k:Nat)(H:List ai):Prop:=∃ q:P5,(k::q.l).Nodup∧H[k]? =some (cv b p um q.a q.b q.c q.d q.e)∧jD H q b
def P5.map(f:Nat->Nat)(q:P5):P5:=⟨f q.a,f q.b,f q.c,f q.d,f q.e⟩
theorem P5.uw(f:Nat->Nat)(q:P5):(q.map f).l=q.l.map f:=rfl
theorem iE{H H0:List ai}{ks:List Nat}{q:P5}{b:bG}(hn:ks.Nodup)(hl:ks.length<=H0.length)(hlt:∀ i∈ks,i<H.length)(h:jD H0 q b):jD (bf H ks H0) (q.map (mh H ks)) b:=by
 obtain⟨h1,h2,h3,h4,h5⟩:=h
 have g:∀{i n:Nat} {cs:List PV} {e:TypeId},H0[i]? =some (dN (cs.map .p) e n)->(bf H ks H0)[mh H ks i]? =some (dN (cs.map .p) e n):=fun hx=>by
  rw[pU hn hl hlt hx,bA]
 exact⟨g h1,g h2,g h3,g h4,g h5⟩
theorem tF{H H0:List ai}{ks:List Nat}{q:P5}{b:bG}(hK:fG H ks H0)(h:jD H0 q b):bn (dF H ks) (rX q b)=rX (q.map (mh H ks)) b:=by
 obtain⟨h1,h2,h3,h4,h5⟩:=h
 unfold rX dn
 simp only[bF,b8,dQ]
 rw[mH hK h1,mH hK h2,mH hK h3,mH hK h4,mH hK h5]
 rfl
theorem kB{H H0:List ai}{ks:List Nat}{q:P5}{b:bG}{p:Di.bB}{um nt:V}(hK:fG H ks H0)(h:jD H0 q b)(hu:aX (dF H ks) um=nt):aE (dF H ks) (cv b p um q.a q.b q.c q.d q.e)=cv b p nt (mh H ks q.a) (mh H ks q.b) (mh H ks q.c) (mh H ks q.d) (mh H ks q.e):=by
 unfold cv
 rw[bL,bD,bD,aY]
 have e:=tF hK h
 unfold rX at e
 rw[e]
 simp only[bF,b8,dQ,hu]
 rfl
theorem vo{H:List ai}{ks:List Nat}{j i:Nat}(h:ks[j]? =some i):mh H ks j=i:=by
 unfold mh
 rw[h]
theorem GF.back{H H0:List ai}{ks:List Nat}{k k2:Nat}{b:bG}{p:Di.bB}{um nt:V}(h:GF b p um k H0)(hn:ks.Nodup)(hK:fG H ks H0)(hlt:∀ i∈ks,i<H.length)(hk:ks[k]? =some k2)(hu:aX (dF H ks) um=nt):GF b p nt k2 (bf H ks H0):=by
 obtain⟨q,h1,h2,h3⟩:=h
 refine⟨q.map (mh H ks),?_,?_,iE hn hK.1 hlt h3⟩
 ·have:=qV (H:=H) hn hlt h1
  rw[ZD,vo hk] at this
  exact this
 ·have:=pU hn hK.1 hlt h2
  rw[vo hk,kB hK h3 hu] at this
  exact this
theorem GF.set{H:List ai}{k i:Nat}{b:bG}{p:Di.bB}{um:V}{x y:ai}(h:GF b p um k H)(hi:H[i]? =some x)(hne:i≠k)(hx:∀ q:P5,jD H q b->i∉q.l):GF b p um k (H.set i y):=by
 obtain⟨q,h1,h2,h3⟩:=h
 have hq:=hx q h3
 simp only[P5.l,Zt,KZ,or_false,not_or] at hq
 obtain⟨k1,k2,k3,k4,k5⟩:=h3
 exact⟨q,h1,bK hne h2,bK hq.1 k1,bK hq.2.1 k2,bK hq.2.2.1 k3,bK hq.2.2.2.1 k4,bK hq.2.2.2.2 k5⟩
theorem KG{H:List ai}{ks:List Nat}{q:P5}{b:bG}{p:Di.bB}{um nt:V}(hn:ks.Nodup)(h1:ks[1]? =some q.a)(h2:ks[2]? =some q.b)(h3:ks[3]? =some q.c)(h4:ks[4]? =some q.d)(h5:ks[5]? =some q.e)(h:jD H q b)(hu:aX (ny H ks) um=nt):aE (ny H ks) (cv b p um q.a q.b q.c q.d q.e)=cv b p nt 1 2 3 4 5:=by
 obtain⟨g1,g2,g3,g4,g5⟩:=h
 have gd:∀{i:Nat} {x:ai},H[i]? =some x->H.getD i .dead=x:=fun hx=>by rw[Ze,hx];rfl
 unfold cv dn
 rw[bL,bD,bD,aY]
 simp only[bF,b8,dQ,hu]
 rw[fY (l8 hn h1) (gd g1),fY (l8 hn h2) (gd g2),fY (l8 hn h3) (gd g3),fY (l8 hn h4) (gd g4),fY (l8 hn h5) (gd g5)]
theorem Ko{H:List ai}{k:Nat}{q:P5}{b:bG}{p:Di.bB}{um nt:V}(hn:(k::q.l).Nodup)(h0:H[k]? =some (cv b p um q.a q.b q.c q.d q.e))(h:jD H q b)(hu:aX (ny H (k::q.l)) um=nt):((k::q.l).map fun i=>aE (ny H (k::q.l)) (H.getD i .dead))=mX b p nt:=by
 have gd:∀{i:Nat} {x:ai},H[i]? =some x->H.getD i .dead=x:=fun hx=>by rw[Ze,hx];rfl
 rw[ZD,qh h,gd h0,KG hn rfl rfl rfl rfl rfl h hu]
 rfl
def vV(b:bG)(p:Di.bB)(um:V)(H:List ai):Prop:=6<=H.length∧∀(j:Nat) (x y:ai),0<j->j<6->(mX b p um)[j]? =some x->x.live=false->H[j]? =some y->y.live=false
theorem AQ.dead{b:bG}{p:Di.bB}{um:V}{H:List ai}(h:AQ b p um H):vV b p um H:=⟨h.1,fun j x y h0 h6 hx hl hy=>by
 rcases h.2 j y h0 h6 hy with rfl | h2
 ·rfl
 ·rw[hx] at h2;cases h2;exact hl⟩
theorem vV.k{b:bG}{p:Di.bB}{nt:V}{H H0:List ai}{k:Nat}{q:P5}{x0:ai}(h:vV b p nt H0)(h0:H[k]? =some x0)(hl0:x0.live=true)(ha:jD H q b):fG H (k::q.l) H0:=by
 refine⟨h.1,fun j i y hk hl hy=> ?_⟩
 have gd:∀{i:Nat} {x:ai},H[i]? =some x->H.getD i .dead=x:=fun hx=>by rw[Ze,hx];rfl
 obtain⟨g1,g2,g3,g4,g5⟩:=ha
 have hj:j<6:=(Za.1 hk).1
 match j,hj with
 | 0,_=>cases hk;rw[gd h0,hl0] at hl;cases hl
 | 1,_=>cases hk;rw[gd g1] at hl;exact h.2 1 _ y (by decide) (by decide) rfl hl hy
 | 2,_=>cases hk;rw[gd g2] at hl;exact h.2 2 _ y (by decide) (by decide) rfl hl hy
 | 3,_=>cases hk;rw[gd g3] at hl;exact h.2 3 _ y (by decide) (by decide) rfl hl hy
 | 4,_=>cases hk;rw[gd g4] at hl;exact h.2 4 _ y (by decide) (by decide) rfl hl hy
 | 5,_=>cases hk;rw[gd g5] at hl;exact h.2 5 _ y (by decide) (by decide) rfl hl hy
theorem Y1.q{b:bG}{p:Di.bB}{um:V}{H:List ai}(h:Y1 b p um H):GF b p um 0 H:=by
 obtain⟨i1,i2,i3,i4,i5,h0,h1,h2,h3,h4,h5,h6⟩:=h
 exact⟨⟨i1,i2,i3,i4,i5⟩,h0,h1,h2,h3,h4,h5,h6⟩
def aac(F:cK)(x:cK×Bs×Int):Prop:=x.2.2≠0->x=(F,[],x.2.2)
theorem aaQ(F:cK)(v:Vb)(n:List Int):aac F (br F v n):=by
 cases v <;> unfold br <;> dsimp only <;> (repeat' split) <;> (intro h;first | rfl | exact absurd rfl h)
theorem DA{F:cK}{v:Vb}{n:List Int}(h:(br F v n).2.2≠0):br F v n=(F,[],(br F v n).2.2):=aaQ F v n h
theorem pY{cs:List V}{e n:Nat}{xs:List V}{t:TypeId}:(dN cs e n:ai)≠ .cells xs t:=by
 cases n <;> (intro h;cases h)
theorem C6{H:List ai}{q:P5}{b:bG}{i:Nat}{xs:List V}{t:TypeId}(hi:H[i]? =some (.cells xs t))(h:jD H q b):i∉q.l:=by
 obtain⟨h1,h2,h3,h4,h5⟩:=h
 intro hm
 simp only[P5.l,Zt,KZ,or_false] at hm
 rcases hm with rfl | rfl | rfl | rfl | rfl
 ·rw[hi] at h1;exact pY (Zw h1).symm
 ·rw[hi] at h2;exact pY (Zw h2).symm
 ·rw[hi] at h3;exact pY (Zw h3).symm
 ·rw[hi] at h4;exact pY (Zw h4).symm
 ·rw[hi] at h5;exact pY (Zw h5).symm
def VQ7(F:cK)(v:Vb)(n:List Int)(um:V):V->List ai->Prop:=fun r H2=>(br F v n).2.2=0∧r= .p (.str (sB (br F v n).2.1))∧GF (br F v n).1.b F.aP um 0 H2∧bX (ff F.b F.aP um .dead) H2
def VP7(F:cK)(v:Vb)(n:List Int)(um:V):PV->List ai->Prop:=fun y H2=>(br F v n).2.2≠0∧y= .iface 106 (.agg [.int .i64 (br F v n).2.2])∧(∃ cs:List V,cs.length=7∧H2[0]? =some (.cells (cs++F.aP.cells.map .p++[um,.p (.bool true)]) 63))∧bX (ff F.b F.aP um .dead) H2
theorem El{b:bG}{p:Di.bB}{um:V}{H0:List ai}(h:vV b p um H0):bX (ff b p um .dead) (bf (ff b p um .dead) [0,1,2,3,4,5] H0):=by
 have hl:(6:Nat)<=H0.length:=h.1
 refine⟨by rw[rJ (ks:=[0,1,2,3,4,5]) hl];show 7<=7+_;omega,fun j x y hj hx hd hy=> ?_⟩
 have hin:∀ j,0<j->j<6->([0,1,2,3,4,5]:List Nat)[j]? =some j->(mX b p um)[j]? =some x->(bf (ff b p um .dead) [0,1,2,3,4,5] H0)[j]? =some y->y.live=false:=fun j h0 h6 hk hx hy=>by
  have hj0:j<H0.length:=by omega
  have e:=e9 (H:=ff b p um .dead) (ks:=[0,1,2,3,4,5]) (by decide) hl hk (show j<7 by omega) (Zd hj0)
  rw[hy] at e
  rw[Zw e,bZ]
  exact h.2 j x _ h0 h6 hx hd (Zd hj0)
 match j,hj with
 | 0,_=>cases hx;cases hd
 | 1,_=>exact hin 1 (by decide) (by decide) rfl hx hy
 | 2,_=>exact hin 2 (by decide) (by decide) rfl hx hy
 | 3,_=>exact hin 3 (by decide) (by decide) rfl hx hy
 | 4,_=>exact hin 4 (by decide) (by decide) rfl hx hy
 | 5,_=>exact hin 5 (by decide) (by decide) rfl hx hy
 | 6,_=>
  have e:=dz (H:=ff b p um .dead) (ks:=[0,1,2,3,4,5]) (H0:=H0) (i:=6) (by decide) hl Kn (by decide)
  rw[hy] at e
  rw[Zw e];rfl
theorem VC.to7{v:Vb}{g:FuncId}(h:VC v g)(F:cK)(n:List Int)(a:Option Addr)(m c:Nat)(hF:mo F)(hl:n.length=v.many)(hn:∀ x∈n,0<=x∧x<10000000000000):av Tryz.prog g [.ptr 0 0,.p (Di.bI n)] (ff F.b F.aP (.raw a m c) .dead) (VQ7 F v n (.raw a m c)) (VP7 F v n (.raw a m c)):=by
 have a5:jD (ff F.b F.aP (.raw a m c) .dead) (tj 1) F.b:=⟨rfl,rfl,rfl,rfl,rfl⟩
 have kk:∀{H0:List ai},vV F.b F.aP (.raw a m c) H0->fG (ff F.b F.aP (.raw a m c) .dead) [0,1,2,3,4,5] H0:=fun hd=>hd.k (k:=0) (q:=tj 1) rfl rfl a5
 have hf:=(h F n a m c hF hl hn).yw (H:=ff F.b F.aP (.raw a m c) .dead) (args:=[.ptr 0 0,.p (Di.bI n)]) [0,1,2,3,4,5] rfl (Ko (k:=0) (q:=tj 1) (by decide) rfl a5 rfl) rfl (fun v0 H0 hq=>kk hq.2.2.2.dead) (fun y H0 hq=>kk hq.2.2.2.dead)
 refine hf.mono (fun r H2 hq=> ?_) (fun y H2 hq=> ?_)
 ·obtain⟨v0,H0,⟨h1,rfl,h3,h4⟩,rfl,rfl⟩:=hq
  refine⟨h1,rfl,(h3.q).back (by decide) (kk h4.dead) (fun i hi=> ?_) rfl rfl,El h4.dead⟩
  have:i<6:=by simp at hi;omega
  show i<7
  omega
 ·obtain⟨H0,⟨h1,rfl,⟨cs,hc,h3⟩,h4⟩,rfl⟩:=hq
  refine⟨h1,rfl,⟨bn (dF (ff F.b F.aP (.raw a m c) .dead) [0,1,2,3,4,5]) cs,by rw[dw];exact hc,?_⟩,El h4.dead⟩
  have e:=e9 (H:=ff F.b F.aP (.raw a m c) .dead) (ks:=[0,1,2,3,4,5]) (j:=0) (i:=0) (by decide) h4.1 rfl Kn h3
  rw[e,vW rfl]
def ld(v:Vb):Bool:=match v with
 | .mark=>false
 | .back=>false
 | .keep=>false
 | _=>true
theorem S4(v:Vb)(h:ld v=true):VC v (kq v):=by
 cases v <;> first | cases h | skip
 ·exact SB
 ·exact Tj
 ·exact S3
 ·exact HG
 ·exact Xa
 ·exact SU
 ·exact Nk
 ·exact R0
 ·exact Tu
 ·exact Rs
theorem gX{H:List ai}{b:bG}{p:Di.bB}{um:V}{e:Int}{j:Nat}(h0:j≠0)(h8:j≠8)(h9:j≠9)(hj:j<H.length):(fX H b p um e)[j]? =H[j]? :=by
 unfold fX
 rw[Zv,if_neg (Ne.symm h9),Zv,if_neg (Ne.symm h8),Zv,if_neg (Ne.symm h0),Zc hj]
theorem Dc{H:List ai}{b:bG}{p:Di.bB}{um:V}{e:Int}:(fX H b p um e)[0]? =some (cv b p um 13 12 14 15 16):=by
 unfold fX
 refine bK (by decide) (bK (by decide) ?_)
 rw[Zv,if_pos rfl,if_pos (by simp)]
theorem ri{H:List ai}{b:bG}{p:Di.bB}{um:V}{e:Int}:(fX H b p um e).length=H.length+1:=by
 unfold fX
 simp
def Dp(n:Nat)(H0 H:List ai):Prop:=∀(j:Nat) (x y:ai),0<j->j<n->H0[j]? =some x->x.live=false->H[j]? =some y->y.live=false
theorem Ag{H:List ai}{b:bG}{p:Di.bB}{um:V}{e:Int}(hl:17<H.length)(h5:jD H ⟨13,12,14,15,16⟩ b):GF b p um 0 (fX H b p um e):=by
 obtain⟨h1,h2,h3,h4,h6⟩:=h5
 refine⟨⟨13,12,14,15,16⟩,by decide,Dc,?_,?_,?_,?_,?_⟩
 ·rw[gX (by decide) (by decide) (by decide) (show 13<H.length by omega)];exact h1
 ·rw[gX (by decide) (by decide) (by decide) (show 12<H.length by omega)];exact h2
 ·rw[gX (by decide) (by decide) (by decide) (show 14<H.length by omega)];exact h3
 ·rw[gX (by decide) (by decide) (by decide) (show 15<H.length by omega)];exact h4
 ·rw[gX (by decide) (by decide) (by decide) (show 16<H.length by omega)];exact h6
theorem oQ{H H0:List ai}{b:bG}{p:Di.bB}{um:V}{e:Int}{n:Nat}(hn:n<=8)(hl:17<H.length)(h:Dp n H0 H):Dp n H0 (fX H b p um e):=fun j x y h0 h6 hx hd hy=>by
 rw[gX (by omega) (by omega) (by omega) (by omega)] at hy
 exact h j x y h0 h6 hx hd hy
def lF(b:bG)(p:Di.bB)(um:V)(M X:ai):List ai:=LH b p um M++[X]
theorem OF(b:bG)(p:Di.bB)(um:V)(M X:ai):jD (lF b p um M X) ⟨13,12,14,15,16⟩ b:=⟨rfl,rfl,rfl,rfl,rfl⟩
theorem Au{b:bG}{p:Di.bB}{um:V}{M X:ai}{H0:List ai}(hl:7<=H0.length):jD (bf (lF b p um M X) [0,1,2,3,4,5,6] H0) ⟨13,12,14,15,16⟩ b:=by
 have g:∀(i:Nat) (x:ai),i<19->i∉([0,1,2,3,4,5,6]:List Nat)->(lF b p um M X)[i]? =some x->(bf (lF b p um M X) [0,1,2,3,4,5,6] H0)[i]? =some x:=fun i x hi hk hx=>by
  rw[dz (ks:=[0,1,2,3,4,5,6]) (by decide) hl (show i<19 from hi) hk];exact hx
 exact⟨g 13 _ (by decide) (by decide) rfl,g 12 _ (by decide) (by decide) rfl,g 14 _ (by decide) (by decide) rfl,g 15 _ (by decide) (by decide) rfl,g 16 _ (by decide) (by decide) rfl⟩
theorem qx{b:bG}{p:Di.bB}{um:V}{M X:ai}{H0:List ai}(hl:7<=H0.length):18<(bf (lF b p um M X) [0,1,2,3,4,5,6] H0).length:=by
 rw[rJ (ks:=[0,1,2,3,4,5,6]) hl]
 show 18<19+_
 omega
theorem qo{b:bG}{p:Di.bB}{um:V}{M X:ai}{H0:List ai}(h:bX (ff b p um M) H0):Dp 7 (ff b p um M) (bf (lF b p um M X) [0,1,2,3,4,5,6] H0):=fun j x y h0 h7 hx hd hy=>by
 have hl:=h.len
 have hk:([0,1,2,3,4,5,6]:List Nat)[j]? =some j:=by
  match j,h7 with
  | 0,_=>rfl
  | 1,_=>rfl
  | 2,_=>rfl
  | 3,_=>rfl
  | 4,_=>rfl
  | 5,_=>rfl
  | 6,_=>rfl
 have hj0:j<H0.length:=by omega
 have e:=e9 (H:=lF b p um M X) (ks:=[0,1,2,3,4,5,6]) (by decide) hl hk (show j<19 by omega) (Zd hj0)
 rw[hy] at e
 rw[Zw e,bZ]
 exact h.dead j x _ h7 hx hd (Zd hj0)
theorem nv{b:bG}{p:Di.bB}{um:V}{M X:ai}{H0:List ai}(h:bX (ff b p um M) H0):fG (lF b p um M X) [0,1,2,3,4,5,6] H0:=h.k (uN b p um M X)
theorem vU{b:bG}{p:Di.bB}{um:V}{M:ai}{H:List ai}(hl:6<=H.length)(h:Dp 7 (ff b p um M) H):vV b p um H:=⟨hl,fun j x y h0 h6 hx hd hy=>h j x y h0 (by omega) (by
 match j,h6 with
 | 1,_=>exact hx
 | 2,_=>exact hx
 | 3,_=>exact hx
 | 4,_=>exact hx
 | 5,_=>exact hx
 | 0,_=>omega) hd hy⟩
theorem zw{i:Nat}(hi:i∈([0,1,2,3,4,5,6]:List Nat)):i<7:=by simp at hi;omega
def UX(F:cK)(s:Bs)(um:V):V->List ai->Prop:=fun x H2=>x= .p (.tuple [.str (sB (aG F s).2.1),.int .i64 (aG F s).2.2])∧GF (aG F s).1.b F.aP um 0 H2∧vV F.b F.aP um H2
theorem D3{F:cK}(hF:mo F):F.b.au.length<=1000∧F.b.ag.length<=1000∧F.b.aq.length<=1000∧F.b.plan.length<=1000∧F.b.b6.length<=1000:=by
 have h1:=Rx.cx hF.b.cd
 have h2:=hF.b.sk
 have h3:=hF.b.dr
 have h4:=hF.b.ck
 obtain⟨u,hu⟩:=hF.b.Dd
 have h5:=ew hu
 omega
theorem M3(F:cK)(s:Bs)(hF:mo F)(hp:s.length<=120->∀ v n,cB s=some (v,n)->ld v=true)(a:Option Addr)(m c:Nat):av Tryz.prog 15 [.ptr 0 0,.p (.str (sB s))] (mX F.b F.aP (.raw a m c)) (UX F s (.raw a m c)) (fun _ _=>False):=by
 refine av.pad ?_
 show av _ _ _ (ff F.b F.aP (.raw a m c) .dead) _ _
 obtain⟨l1,l2,l3,l4,l5⟩:=D3 hF
 have hu:∀ σ:Nat->Option Nat,(ai.dead.live=true->σ 6=some 6)->aX σ (.raw a m c)= .raw a m c:=fun σ _=>rfl
 have hM:∀ σ,aE σ .dead= .dead:=fun σ=>rfl
 have err:∀(X:ai) (e:Int) (x:V) (H2:List ai),aG F s=(F,[],e)->(x= .p (.tuple [.str (sB []),.int .i64 e])∧H2=fX (lF F.b F.aP (.raw a m c) .dead X) F.b F.aP (.raw a m c) e)->UX F s (.raw a m c) x H2:=fun X e x H2 he ⟨hx,hH⟩=>by
  subst hx hH
  unfold UX
  rw[he]
  refine⟨rfl,Ag Kn (OF _ _ _ _ _),vU (M:=ai.dead) (by rw[ri];exact ZS rfl) (oQ (H:=lF F.b F.aP (.raw a m c) .dead X) (n:=7) (by decide) Kn fun j x y h0 h7 hx hd hy=> ?_)⟩
  have e:(lF F.b F.aP (.raw a m c) .dead X)[j]? =(ff F.b F.aP (.raw a m c) .dead)[j]? :=by
   match j,h7 with
   | 0,_=>rfl
   | 1,_=>rfl
   | 2,_=>rfl
   | 3,_=>rfl
   | 4,_=>rfl
   | 5,_=>rfl
   | 6,_=>rfl
  rw[e,hx] at hy
  cases hy;exact hd
 rcases ZT 120 s.length with hs | hs
 ·refine(ax.LI (F0 F.b F.aP (.raw a m c) .dead hu hM l1 l2 l3 l4 l5 s hs)).mono (fun x H2 hq=> ?_) (fun _ _ h=>h)
  obtain⟨rfl,rfl⟩:=hq
  have he:aG F s=(F,[],3):=by unfold aG;rw[if_pos hs]
  unfold UX
  rw[he]
  refine⟨rfl,⟨tj 1,by decide,rfl,rfl,rfl,rfl,rfl,rfl⟩,ZS rfl,fun j x y h0 h6 hx hd hy=> ?_⟩
  have e:(ff F.b F.aP (.raw a m c) .dead++[.cells [.ptr 0 0] 33,.cells [.p (.str (sB []))] 9,.cells [.p (.int .i64 3)] 28])[j]? =(mX F.b F.aP (.raw a m c))[j]? :=by
   match j,h6 with
   | 0,_=>rfl
   | 1,_=>rfl
   | 2,_=>rfl
   | 3,_=>rfl
   | 4,_=>rfl
   | 5,_=>rfl
  rw[e,hx] at hy
  cases hy;exact hd
 ·obtain⟨w,l,hw⟩:=vC s
  have XH:¬ 120<s.length:=by omega
  have form:cB s=none->aG F s=(F,[],8):=fun h=>by unfold aG;rw[if_neg XH,h]
  cases hv:jH w with
  | none=>exact(ax.LI (SA F.b F.aP (.raw a m c) .dead hu hM l1 l2 l3 l4 l5 s hs w l hw hv)).mono (err _ 8 · · (form (xL hw hv))) (fun _ _ h=>h)
  | some v=>
   by_cases hm:l.length=v.many
   ·by_cases hC:∀ x∈l,gS x
    ·have hpa:=w6 hw hv hm hC
     obtain⟨vZ,Sl⟩:=qw hpa
     have hvp:=hp hs v _ hpa
     have he:aG F s=br F v (l.map gz):=by unfold aG;rw[if_neg XH,hpa]
     have hd:=(S4 v hvp).to7 F (l.map gz) a m c hF vZ Sl
     refine(ax.LI (DW F.b F.aP (.raw a m c) .dead hu hM l1 l2 l3 l4 l5 s hs w l hw v hv hm hC (br F v (l.map gz)).2.1 (br F v (l.map gz)).2.2 _ _ hd (fun r H2 h=>⟨h.2.1,h.2.2.2⟩) (fun y H2 h=>⟨h.2.1,h.2.2.2,h.2.2.1⟩))).mono (fun x H2 hq=> ?_) (fun _ _ h=>h)
     rcases hq with⟨rfl,H0,⟨h1,_,h3,h4⟩,rfl⟩ | ⟨rfl,H0,⟨h1,_,_,h4⟩,rfl⟩
     ·have qB:=h4.len
      have hK:=nv (X:=ai.cells [.p (.int .i64 (v.many:Int)),.p (.func (.func (kq v)) [] [])] 111) h4
      have hlen:=qx (b:=F.b) (p:=F.aP) (um:= .raw a m c) (M:= .dead) (X:=ai.cells [.p (.int .i64 (v.many:Int)),.p (.func (.func (kq v)) [] [])] 111) qB
      unfold lF at hlen
      have hfl:=h3.back (H:=lF F.b F.aP (.raw a m c) .dead (ai.cells [.p (.int .i64 (v.many:Int)),.p (.func (.func (kq v)) [] [])] 111)) (ks:=[0,1,2,3,4,5,6]) (k2:=0) (nt:= .raw a m c) (by decide) hK (fun i hi=>ZM (zw hi) Kn) rfl rfl
      have k8:=dz (H:=lF F.b F.aP (.raw a m c) .dead (ai.cells [.p (.int .i64 (v.many:Int)),.p (.func (.func (kq v)) [] [])] 111)) (ks:=[0,1,2,3,4,5,6]) (H0:=H0) (i:=8) (by decide) qB Kn (by decide)
      have k9:=dz (H:=lF F.b F.aP (.raw a m c) .dead (ai.cells [.p (.int .i64 (v.many:Int)),.p (.func (.func (kq v)) [] [])] 111)) (ks:=[0,1,2,3,4,5,6]) (H0:=H0) (i:=9) (by decide) qB Kn (by decide)
      unfold UX
      rw[he]
      refine⟨by rw[h1],?_,?_⟩
      ·refine GF.set (GF.set hfl k8 (by decide) fun q hq=>C6 k8 hq) (bK (by decide) k9) (by decide) fun q hq=>C6 (bK (by decide) k9) hq
      ·refine vU (M:= .dead) (by rw[wS,wS];omega) fun j x y h0 h7 hx hd hy=> ?_
       rw[Zv,if_neg (by omega),Zv,if_neg (by omega)] at hy
       exact qo h4 j x y h0 h7 hx hd hy
     ·have qB:=h4.len
      have hlen:=qx (b:=F.b) (p:=F.aP) (um:= .raw a m c) (M:= .dead) (X:=ai.cells [.p (.int .i64 (v.many:Int)),.p (.func (.func (kq v)) [] [])] 111) qB
      unfold lF at hlen
      have e2:=DA h1
      unfold UX
      rw[he]
      refine⟨by rw[e2],?_,?_⟩
      ·have:=Ag (p:=F.aP) (um:= .raw a m c) (e:=(br F v (l.map gz)).2.2) (Nat.lt_of_succ_lt hlen) (Au (b:=F.b) (p:=F.aP) (um:= .raw a m c) (M:= .dead) (X:=ai.cells [.p (.int .i64 (v.many:Int)),.p (.func (.func (kq v)) [] [])] 111) qB)
       rw[e2]
       exact this
      ·exact vU (by rw[ri];omega) (oQ (by decide) (by omega) (qo h4))
    ·exact(ax.LI (Rp F.b F.aP (.raw a m c) .dead hu hM l1 l2 l3 l4 l5 s hs w l hw v hv hm hC)).mono (err _ 8 · · (form (xe hw hv hC))) (fun _ _ h=>h)
   ·exact(ax.LI (RJ F.b F.aP (.raw a m c) .dead hu hM l1 l2 l3 l4 l5 s hs w l hw v hv hm)).mono (err _ 8 · · (form (wZ hw hv hm))) (fun _ _ h=>h)
theorem Nu{F:cK}{v:Vb}{n:List Int}(h:ld v=true):(br F v n).1.marks=F.marks∧(br F v n).1.aP=F.aP:=by
 cases v <;> first | cases h | skip
 all_goals (unfold br;dsimp only;repeat' split) <;> exact⟨rfl,rfl⟩
theorem EZ{F:cK}{s:Bs}(hp:s.length<=120->∀ v n,cB s=some (v,n)->ld v=true):(aG F s).1.marks=F.marks∧(aG F s).1.aP=F.aP:=by
 unfold aG
 split
 ·exact⟨rfl,rfl⟩
 ·rename_i hs
  split
  ·exact⟨rfl,rfl⟩
  ·rename_i v n h
   exact Nu (hp (by omega) v n h)
theorem wP(H:List ai)(ks:List Nat)(j:Nat):mh H ks j∈ks∨H.length<=mh H ks j:=by
 unfold mh
 cases hk:ks[j]? with
 | some i=>exact .inl (Zi hk)
 | none=>exact .inr (SK _ _)
theorem oW.congr{H H3:List ai}{qs:List P5}{bs:List bG}(h:oW H qs bs)(he:∀ i∈qs.flatMap P5.l,H3[i]? =H[i]?):oW H3 qs bs:=by
 induction h with
 | nil=>exact .nil
 | cons h t ih=>
  obtain⟨h1,h2,h3,h4,h5⟩:=h
  rename_i q b qs bs
  have g:∀ i∈q.l,H3[i]? =H[i]? :=fun i hi=>he i (by rw[ZJ];exact ZV _ hi)
  refine .cons ⟨?_,?_,?_,?_,?_⟩ (ih fun i hi=>he i (by rw[ZJ];exact ZG _ hi))
  ·rw[g q.a (by simp[P5.l])];exact h1
  ·rw[g q.b (by simp[P5.l])];exact h2
  ·rw[g q.c (by simp[P5.l])];exact h3
  ·rw[g q.d (by simp[P5.l])];exact h4
  ·rw[g q.e (by simp[P5.l])];exact h5
theorem jD.set{H:List ai}{q:P5}{b:bG}{i:Nat}{y:ai}(h:jD H q b)(hi:i∉q.l):jD (H.set i y) q b:=by
 simp only[P5.l,Zt,KZ,or_false,not_or] at hi
 obtain⟨h1,h2,h3,h4,h5⟩:=h
 exact⟨bK hi.1 h1,bK hi.2.1 h2,bK hi.2.2.1 h3,bK hi.2.2.2.1 h4,bK hi.2.2.2.2 h5⟩
def Ad(c:Nat)(F:cK)(s:Bs)(H:List ai):V->List ai->Prop:=fun x H3=>x= .p (.tuple [.str (sB (aG F s).2.1),.int .i64 (aG F s).2.2])∧(∃ z q im qs,fz c (aG F s).1 z H3 q im qs)∧∀ i,i<c->H3[i]? =H[i]?
theorem Lt(im:Nat)(F:cK)(z:Bool):Pk (rD im F z)=true:=by cases z <;> rfl
theorem Mw{b:bG}{p:Di.bB}{um nt:V}{q:P5}:mU [(um,nt)] (cv b p um q.a q.b q.c q.d q.e) (cv b p nt q.a q.b q.c q.d q.e):=
 .inr ⟨_,_,_,cV.app _ _ _ _ (cV.refl gC.refl (dn q.a q.b q.c q.d q.e b++p.cells.map V.p)) (show cV (gC [(um,nt)]) [um,.p (.bool true)] [nt,.p (.bool true)] from⟨_,_,rfl,.inr (ZK.2 rfl),_,_,rfl,.inl rfl,rfl⟩),.inl ⟨rfl,rfl⟩⟩
theorem Qx{H:List ai}{ks:List Nat}(hn:ks.Nodup)(hlt:∀ i∈ks,i<H.length):(ks.all (fun i=>Nat.blt i H.length)&&decide ks.Nodup)=true:=by
 simp only[Zo,ZA,Zs]
 exact⟨fun i hi=>by simpa[Nat.blt,Zx] using hlt i hi,hn⟩
theorem NQ{c:Nat}{F:cK}{z:Bool}{H:List ai}{q:P5}{im:Nat}{qs:List P5}(h:fz c F z H q im qs)(hF:mo F)(s:Bs)(hp:s.length<=120->∀ v n,cB s=some (v,n)->ld v=true):av Tryz.prog 15 [.ptr c 0,.p (.str (sB s))] H (Ad c F s H) (fun _ _=>False):=by
 have hcl:c<H.length:=(Za.1 h.fl).1
 have hnd:=h.nd
 rw[ZC,ZC,ZX] at hnd
 obtain⟨n1,n2,n3,n4,n5⟩:=hnd
 have hks:(c::q.l).Nodup:=ZC.2 ⟨fun hm=>n1 (Zj _ (ZV _ hm)),n3⟩
 have We:c∉q.l:=(ZC.1 hks).1
 have XX:im≠c:=fun e=>n1 (by rw[e];exact Zr)
 have aa5:im<H.length:=(Za.1 h.mb).1
 have hlt:∀ i∈c::q.l,i<H.length:=fun i hi=>by
  rcases Zt.1 hi with rfl | hi
  ·exact hcl
  ·exact h.a5.lt i hi
 have hlow:∀ i∈c::q.l,c<=i:=fun i hi=>by
  rcases Zt.1 hi with rfl | hi
  ·exact Zg _
  ·exact h.low i (Zj _ (ZV _ hi))
 obtain⟨YP,hsp⟩:=EZ (F:=F) hp
 refine av.Kj c (pre:=dn q.a q.b q.c q.d q.e F.b++F.aP.cells.map V.p) (um:=rD im F z) (post:=[.p (.bool true)]) h.fl (Lt im F z) fun a m c0=> ?_
 obtain⟨H',Jt⟩:∃ H',H'=H.set c (cv F.b F.aP (.raw a m c0) q.a q.b q.c q.d q.e):=⟨_,rfl⟩
 have hl':H'.length=H.length:=by rw[Jt,wS]
 have g0:H'[c]? =some (cv F.b F.aP (.raw a m c0) q.a q.b q.c q.d q.e):=by rw[Jt];exact fI h.fl
 have g5:jD H' q F.b:=by rw[Jt];exact h.a5.set We
 have gx:∀ i,i≠c->H'[i]? =H[i]? :=fun i hi=>by rw[Jt,Zv,if_neg (Ne.symm hi)]
 have hlt':∀ i∈c::q.l,i<H'.length:=fun i hi=>by rw[hl'];exact hlt i hi
 have hfr:=(M3 F s hF hp a m c0).yw (H:=H') (args:=[.ptr c 0,.p (.str (sB s))]) (c::q.l) (by
     have e:ny H' (c::q.l) c=some 0:=by
      unfold ny
      rw[Ze,g0]
      exact(if_pos rfl).trans (l8 hks rfl)
     show[aX _ _,aX _ _]=_
     simp only[aX,e]) (Ko hks g0 g5 rfl) (Qx hks hlt') (fun v0 H0 hq=>hq.2.2.k g0 rfl g5) (fun _ _ h=>h.elim)
 show av _ _ _ (H.set c (cv F.b F.aP (.raw a m c0) q.a q.b q.c q.d q.e)) _ _
 rw[<- Jt]
 refine hfr.mono (fun x H2 hx=> ?_) (fun _ _ h=>by obtain⟨_,h,_⟩:=h;exact h.elim)
 obtain⟨v0,H0,⟨rfl,⟨q0,k1,k2,k3⟩,k4⟩,rfl,rfl⟩:=hx
 have hK:fG H' (c::q.l) H0:=k4.k g0 rfl g5
 have YU:(c::q.l).length<=H0.length:=k4.1
 obtain⟨q',eq'⟩:∃ q',q'=q0.map (mh H' (c::q.l)):=⟨_,rfl⟩
 have a5:jD (bf H' (c::q.l) H0) q' (aG F s).1.b:=by rw[eq'];exact iE hks YU hlt' k3
 have fl2:(bf H' (c::q.l) H0)[c]? =some (cv (aG F s).1.b F.aP (.raw a m c0) q'.a q'.b q'.c q'.d q'.e):=by
  have:=e9 (H:=H') hks YU (j:=0) (i:=c) rfl (by rw[hl'];exact hcl) k2
  rw[this,kB hK k3 rfl,eq']
  rfl
 have hq':(c::q'.l).Nodup:=by
  have:=qV (H:=H') hks hlt' k1
  rw[ZD,vo (i:=c) rfl] at this
  rw[eq'];exact this
 have V1:c∉q'.l:=(ZC.1 hq').1
 have hcases:∀ i∈q'.l,i∈c::q.l∨H.length<=i:=fun i hi=>by
  rw[eq',P5.uw] at hi
  obtain⟨j,_,rfl⟩:=zn.1 hi
  rcases wP H' (c::q.l) j with h | h
  ·exact .inl h
  ·exact .inr (by rw[<- hl'];exact h)
 have out:∀ i,i<H.length->i∉c::q.l->((bf H' (c::q.l) H0).set c (cv (aG F s).1.b F.aP (rD im F z) q'.a q'.b q'.c q'.d q'.e))[i]? =H[i]? :=fun i hi hk=>by
  have hic:i≠c:=fun e=>hk (by rw[e];exact Zr)
  rw[Zv,if_neg (Ne.symm hic),dz hks YU (by rw[hl'];exact hi) hk,gx i hic]
 have Xy:im∉c::q.l:=fun hm=>by
  rcases Zt.1 hm with e | hm
  ·exact XX e
  ·exact n2 (ZV _ hm)
 have W2:∀ i∈qs.flatMap P5.l,i∉c::q.l:=fun i hi hm=>by
  rcases Zt.1 hm with e | hm
  ·exact n1 (Zj _ (ZG _ (e▸hi)))
  ·exact n5 i hm i hi rfl
 refine⟨_,eG.set fl2 (Mw (nt:=rD im F z)),rfl,⟨z,q',im,qs,?_⟩,fun i hi=>out i (by omega) fun hm=>by have:=hlow i hm;omega⟩
 have VN:rD im (aG F s).1 z=rD im F z:=by unfold rD;rw[YP]
 refine⟨?_,a5.set V1,?_,fun hz=>by rw[YP];exact h.mz hz,?_,?_,?_⟩
 ·rw[VN,hsp]
  exact fI fl2
 ·rw[out im aa5 Xy,h.mb]
  unfold Aa
  rw[YP]
 ·rw[YP]
  exact h.ats.congr fun i hi=>out i (h.ats.lt i hi) (W2 i hi)
 ·rw[ZC,ZC,ZX]
  refine⟨fun hm=> ?_,fun hm=> ?_,(ZC.1 hq').2,n4,fun a ha b hb e=> ?_⟩
  ·rcases Zt.1 hm with e | hm
   ·exact XX e.symm
   ·rcases Zp.1 hm with hm | hm
    ·exact V1 hm
    ·exact n1 (Zj _ (ZG _ hm))
  ·rcases Zp.1 hm with hm | hm
   ·rcases hcases im hm with h | h
    ·exact Xy h
    ·omega
   ·exact n2 (ZG _ hm)
  ·subst e
   rcases hcases a ha with h2 | h2
   ·exact W2 a hb h2
   ·have:=h.ats.lt a hb;omega
 ·intro i hi
  rcases Zt.1 hi with rfl | hi
  ·exact h.low i Zr
  ·rcases Zp.1 hi with hi | hi
   ·rcases hcases i hi with h2 | h2
    ·exact hlow i h2
    ·omega
   ·exact h.low i (Zj _ (ZG _ hi))
theorem bX.out{b:bG}{p:Di.bB}{um nt:V}{M:ai}{H H0:List ai}{c im:Nat}{q:P5}(h:bX (ff b p nt M) H0)(h0:H[c]? =some (cv b p um q.a q.b q.c q.d q.e))(ha:jD H q b)(hm:H[im]? =some M):fG H (c::(q.l++[im])) H0:=by
 refine⟨h.len,fun j i y hk hl hy=> ?_⟩
 have gd:∀{i:Nat} {x:ai},H[i]? =some x->H.getD i .dead=x:=fun hx=>by rw[Ze,hx];rfl
 obtain⟨g1,g2,g3,g4,g5⟩:=ha
 have hj:j<7:=(Za.1 hk).1
 match j,hj with
 | 0,_=>cases hk;rw[gd h0] at hl;cases hl
 | 1,_=>cases hk;rw[gd g1] at hl;exact h.dead 1 _ y (by decide) rfl hl hy
 | 2,_=>cases hk;rw[gd g2] at hl;exact h.dead 2 _ y (by decide) rfl hl hy
 | 3,_=>cases hk;rw[gd g3] at hl;exact h.dead 3 _ y (by decide) rfl hl hy
 | 4,_=>cases hk;rw[gd g4] at hl;exact h.dead 4 _ y (by decide) rfl hl hy
 | 5,_=>cases hk;rw[gd g5] at hl;exact h.dead 5 _ y (by decide) rfl hl hy
 | 6,_=>cases hk;rw[gd hm] at hl;exact h.dead 6 _ y (by decide) rfl hl hy
theorem Nx{H:List ai}{c im:Nat}{q:P5}{b:bG}{p:Di.bB}{um nt:V}{M:ai}(hn:(c::(q.l++[im])).Nodup)(h0:H[c]? =some (cv b p um q.a q.b q.c q.d q.e))(h:jD H q b)(hm:H[im]? =some M)(hM:∀ σ,aE σ M=M)(hu:aX (ny H (c::(q.l++[im]))) um=nt):((c::(q.l++[im])).map fun i=>aE (ny H (c::(q.l++[im]))) (H.getD i .dead))=ff b p nt M:=by
 have gd:∀{i:Nat} {x:ai},H[i]? =some x->H.getD i .dead=x:=fun hx=>by rw[Ze,hx];rfl
 rw[ZD,ZH,qh h,gd h0,KG hn rfl rfl rfl rfl rfl h hu,ZD,gd hm,hM]
 rfl
theorem BC{H:List ai}{ks:List Nat}{i j:Nat}{x:ai}(hn:ks.Nodup)(hk:ks[j]? =some i)(hx:H[i]? =some x)(hl:x.live=true):ny H ks i=some j:=by
 unfold ny
 rw[Ze,hx]
 exact(if_pos hl).trans (l8 hn hk)
theorem RF{g:FuncId}{H:List ai}{c im:Nat}{q:P5}{b:bG}{p:Di.bB}{um nt:V}{M:ai}{y:PV}{Qr:V->List ai->Prop}(hn:(c::(q.l++[im])).Nodup)(h0:H[c]? =some (cv b p um q.a q.b q.c q.d q.e))(h:jD H q b)(hm:H[im]? =some M)(hM:∀ σ,aE σ M=M)(hu:aX (ny H (c::(q.l++[im]))) um=nt)
    (hc:av Tryz.prog g [.ptr 0 0,.p y] (ff b p nt M) Qr (fun _ _=>False))(hK:∀ x H0,Qr x H0->bX (ff b p nt M) H0):av Tryz.prog g [.ptr c 0,.p y] H (fun x H2=>∃ x0 H0,Qr x0 H0∧x=aX (dF H (c::(q.l++[im]))) x0∧H2=bf H (c::(q.l++[im])) H0) (fun _ _=>False):=by
 have hlt:∀ i∈c::(q.l++[im]),i<H.length:=fun i hi=>by
  rcases Zt.1 hi with rfl | hi
  ·exact(Za.1 h0).1
  ·rcases Zp.1 hi with hi | hi
   ·exact h.lt i hi
   ·rw[ZK.1 hi];exact(Za.1 hm).1
 refine(hc.yw (H:=H) (args:=[.ptr c 0,.p y]) (c::(q.l++[im])) ?_ (Nx hn h0 h hm hM hu) (Qx hn hlt) (fun x H0 hq=>(hK x H0 hq).out h0 h hm) (fun _ _ h=>h.elim)).mono (fun _ _ h=>h) (fun _ _ ⟨_,h,_⟩=>h.elim)
 have e:=BC hn (j:=0) rfl h0 rfl
 show[aX _ _,aX _ _]=_
 simp only[aX,e]
theorem HQ{ps:List (V×V)}{q:P5}{b:bG}{cs t:List V}(h:cV (ng ps) (rX q b++t) cs):∃(r:RB) (DD:List V),cs=r.cells++DD∧cV (ng ps) t DD:=by
 have sl:∀ i n,Pk (aV i n)=true:=fun i n=>by cases n <;> rfl
 have ch:∀{i n:Nat} {v':V},ng ps (aV i n) v'->∃ s:RS,v'=s.v:=fun h=>by
  rcases h with⟨h,_⟩ | ⟨_,⟨a,n,c,e⟩,_⟩
  ·rw[sl] at h;cases h
  ·exact⟨⟨a,n,c⟩,e⟩
 have cp:∀{x:PV} {v':V},ng ps (.p x) v'->v'= .p x:=fun h=>by
  rcases h with⟨_,h⟩ | ⟨h,_⟩
  ·exact h
  ·cases h
 obtain⟨d1,e1,rfl,h1,d2,e2,rfl,h2,d3,e3,rfl,h3,d4,e4,rfl,h4,d5,e5,rfl,h5,d6,e6,rfl,h6,d7,e7,rfl,h7,h8⟩:=h
 obtain⟨s1,rfl⟩:=ch h1
 obtain⟨s2,rfl⟩:=ch h2
 obtain⟨s3,rfl⟩:=ch h3
 obtain⟨s4,rfl⟩:=ch h4
 obtain⟨s7,rfl⟩:=ch h7
 rw[cp h5,cp h6]
 exact⟨⟨s1,s2,s3,s4,b.bad,b.good,s7⟩,e7,rfl,h8⟩
theorem xp{ps:List (V×V)}:∀(qs:List P5) (bs:List bG) (cs:List V),qs.length=bs.length->cV (ng ps) (oO qs bs) cs->∃ l:List RB,cs=mY l∧l.length=bs.length
 | [],[],cs,_,h=>⟨[],show cs=[] from h,rfl⟩
 | q::qs,b::bs,cs,hl,h=>by
  obtain⟨r,DD,rfl,h2⟩:=HQ (q:=q) (b:=b) (t:=oO qs bs) h
  obtain⟨l,rfl,h3⟩:=xp qs bs DD (by simpa using hl) h2
  exact⟨r::l,rfl,by rw[Zn,Zn,h3]⟩
 | [],_::_,_,hl,_=>by cases hl
 | _::_,[],_,hl,_=>by cases hl
theorem vw:∀(qs:List P5) (bs:List bG) (q:P5) (b:bG),qs.length=bs.length->oO (qs++[q]) (bs++[b])=oO qs bs++rX q b
 | [],[],q,b,_=>by show rX q b++[]=[]++rX q b;rw[ZR];rfl
 | q0::qs,b0::bs,q,b,hl=>by
  show rX q0 b0++oO (qs++[q]) (bs++[b])=(rX q0 b0++oO qs bs)++rX q b
  rw[vw qs bs q b (by simpa using hl),ZL]
 | [],_::_,_,_,hl=>by cases hl
 | _::_,[],_,_,hl=>by cases hl
theorem C9:∀(qs:List P5) (bs:List bG),qs.length=bs.length->(oO qs bs).length=bs.length*7
 | [],[],_=>rfl
 | q::qs,b::bs,hl=>by
  show(rX q b++oO qs bs).length=_
  rw[Zb,C9 qs bs (by simpa using hl),Zn]
  show 7+_=_
  omega
 | [],_::_,hl=>by cases hl
 | _::_,[],hl=>by cases hl
theorem tw(l:List RB)(r:RB):mY (l++[r])=mY l++r.cells:=by unfold mY;rw[FQ];simp
theorem xW{ps:List (V×V)}{qs:List P5}{bs:List bG}{q:P5}{b:bG}{l:List RB}{r:RB}(hl:qs.length=bs.length)(rG:l.length=bs.length)(h:cV (gC ps) (mY (l++[r])) (oO (qs++[q]) (bs++[b]))):cV (gC ps) (mY l) (oO qs bs)∧cV (gC ps) r.cells (rX q b):=by
 rw[tw,vw qs bs q b hl] at h
 obtain⟨l1,l2,e,h1,h2⟩:=cV.split _ _ _ h
 have e1:l1.length=(oO qs bs).length:=by rw[cV.len _ _ h1,qv,C9 qs bs hl,rG]
 obtain⟨e2,e3⟩:=List.append_inj e.symm e1
 subst e2 e3
 exact⟨h1,h2⟩
def tX(F:cK)(s:Bs):V:= .p (.tuple [.str (sB (aG F s).2.1),.int .i64 (aG F s).2.2])
def Gl(b:bG)(p:Di.bB)(um:V)(M:ai)(H:List ai):Prop:=H[0]? =some (cv b p um 13 12 14 15 16)∧jD H ⟨13,12,14,15,16⟩ b∧H[6]? =some M∧bX (ff b p um M) H
theorem w9(b:bG)(p:Di.bB)(um:V)(M:ai)(X:List ai):bX (ff b p um M) (ff b p um M++X):=⟨by rw[Zb];exact SK 7 _,fun j x y hj hx hd hy=>by
 rw[nJ hx] at hy;cases hy;exact hd⟩
theorem y9{b:bG}{p:Di.bB}{um:V}{M X:ai}{H0:List ai}{e:Int}(h:bX (ff b p um M) H0):bX (ff b p um M) (fX (bf (lF b p um M X) [0,1,2,3,4,5,6] H0) b p um e):=by
 have hlen:=qx (b:=b) (p:=p) (um:=um) (M:=M) (X:=X) h.len
 refine⟨by rw[ri];omega,fun j x y hj hx hd hy=> ?_⟩
 rcases Ui j with rfl | h0
 ·cases hx;cases hd
 ·exact oQ (by decide) (by omega) (qo h) j x y h0 hj hx hd hy
theorem Mz{b:bG}{p:Di.bB}{um:V}{M X:ai}{H0:List ai}{e:Int}(hM:∀ σ,aE σ M=M)(h:bX (ff b p um M) H0)(h6:H0[6]? =some M):Gl b p um M (fX (bf (lF b p um M X) [0,1,2,3,4,5,6] H0) b p um e):=by
 have hlen:=qx (b:=b) (p:=p) (um:=um) (M:=M) (X:=X) h.len
 obtain⟨g1,g2,g3,g4,g5⟩:=Au (b:=b) (p:=p) (um:=um) (M:=M) (X:=X) h.len
 have gg:∀{i:Nat} {x:ai},i≠0->i≠8->i≠9->i<18->(bf (lF b p um M X) [0,1,2,3,4,5,6] H0)[i]? =some x->(fX (bf (lF b p um M X) [0,1,2,3,4,5,6] H0) b p um e)[i]? =some x:=fun a1 a2 a3 a4 hx=>by
  rw[gX a1 a2 a3 (by omega)];exact hx
 refine⟨Dc,⟨gg (by decide) (by decide) (by decide) (by decide) g1,gg (by decide) (by decide) (by decide) (by decide) g2,gg (by decide) (by decide) (by decide) (by decide) g3,gg (by decide) (by decide) (by decide) (by decide) g4,gg (by decide) (by decide) (by decide) (by decide) g5⟩,gg (by decide) (by decide) (by decide) (by decide) ?_,y9 h⟩
 have:=e9 (H:=lF b p um M X) (ks:=[0,1,2,3,4,5,6]) (j:=6) (i:=6) (by decide) h.len rfl Kn h6
 rw[this,hM]
theorem yc(l:List RB)(k:Nat):∀ σ:Nat->Option Nat,((c6 l).live=true->σ 6=some 6)->aX σ (.row 6 k)= .row 6 k:=fun σ h=>by simp only[aX,h rfl]
theorem Wi:∀ σ:Nat->Option Nat,(ai.dead.live=true->σ 6=some 6)->aX σ .z0= .z0:=fun σ _=>rfl
def JR(F:cK)(cs:List V)(k:Nat)(H:List ai):Prop:=H[0]? =some (cv F.b F.aP (.row 28 (k+1)) 1 2 3 4 5)∧jD H (tj 1) F.b∧jD H ⟨22,21,23,24,25⟩ F.b∧H[28]? =some (.row (cs++dn 22 21 23 24 25 F.b) xm)
theorem c9{H:List ai}{i:Nat}{x y z:ai}(h8:i≠8)(h9:i≠9)(h:H[i]? =some x):((H.set 8 y).set 9 z)[i]? =some x:=bK (Ne.symm h9) (bK (Ne.symm h8) h)
theorem mN{b:bG}{p:Di.bB}{um:V}{M X y z:ai}{H0:List ai}(h:bX (ff b p um M) H0):bX (ff b p um M) (((bf (lF b p um M X) [0,1,2,3,4,5,6] H0).set 8 y).set 9 z):=by
 have hlen:=qx (b:=b) (p:=p) (um:=um) (M:=M) (X:=X) h.len
 refine⟨by rw[wS,wS];omega,fun j x w hj hx hd hy=> ?_⟩
 rw[Zv,if_neg (by omega),Zv,if_neg (by omega)] at hy
 rcases Ui j with rfl | h0
 ·cases hx;cases hd
 ·exact qo h j x w h0 hj hx hd hy
theorem FT{s:Bs}{v:Vb}{n:List Int}(h:cB s=some (v,n)):∃ w l,cj s=w::l∧jH w=some v∧l.length=v.many∧(∀ x∈l,gS x)∧n=l.map gz:=by
 obtain⟨w,l,hw⟩:=vC s
 cases hv:jH w with
 | none=>rw[xL hw hv] at h;cases h
 | some v'=>
  by_cases hm:l.length=v'.many
  ·by_cases hC:∀ x∈l,gS x
   ·rw[w6 hw hv hm hC] at h
    cases h
    exact⟨w,l,hw,hv,hm,hC,rfl⟩
   ·rw[xe hw hv hC] at h;cases h
  ·rw[wZ hw hv hm] at h;cases h
theorem rm(F:cK)(s:Bs)(hF:mo F)(v:Vb)(n:List Int)(hpa:cB s=some (v,n))(hs:s.length<=120)(um:V)(M:ai)(hu:∀ σ:Nat->Option Nat,(M.live=true->σ 6=some 6)->aX σ um=um)(hM:∀ σ,aE σ M=M)(Qr:V->List ai->Prop)(Qp:PV->List ai->Prop)
    (hd:av Tryz.prog (kq v) [.ptr 0 0,.p (Di.bI n)] (ff F.b F.aP um M) Qr Qp)(hr:∀ r H2,Qr r H2->(br F v n).2.2=0∧r= .p (.str (sB (br F v n).2.1))∧bX (ff F.b F.aP um M) H2)(hp:∀ y H2,Qp y H2->(br F v n).2.2≠0∧y= .iface 106 (.agg [.int .i64 (br F v n).2.2])∧bX (ff F.b F.aP um M) H2∧H2[6]? =some M∧∃ cs,cs.length=7∧H2[0]? =some (.cells (cs++F.aP.cells.map .p++[um,.p (.bool true)]) 63)):
    ax Tryz.prog 15 [.ptr 0 0,.p (.str (sB s))] (ff F.b F.aP um M) (fun x H2=>x=tX F s∧(((aG F s).2.2=0∧∃ H0 y z,Qr (.p (.str (sB (br F v n).2.1))) H0∧H2=(((bf (lF F.b F.aP um M (ai.cells [.p (.int .i64 (v.many:Int)),.p (.func (.func (kq v)) [] [])] 111)) [0,1,2,3,4,5,6] H0).set 8 y).set 9 z))∨((aG F s).2.2≠0∧aG F s=(F,[],(aG F s).2.2)∧Gl F.b F.aP um M H2))):=by
 obtain⟨w,l,hw,hv,hm,hC,rfl⟩:=FT hpa
 obtain⟨l1,l2,l3,l4,l5⟩:=D3 hF
 have he:aG F s=br F v (l.map gz):=by unfold aG;rw[if_neg (by omega),hpa]
 have h:=DW F.b F.aP um M hu hM l1 l2 l3 l4 l5 s hs w l hw v hv hm hC (br F v (l.map gz)).2.1 (br F v (l.map gz)).2.2 Qr Qp hd (fun r H2 hq=>(hr r H2 hq).2) (fun y H2 hq=>⟨(hp y H2 hq).2.1,(hp y H2 hq).2.2.1,(hp y H2 hq).2.2.2.2⟩)
 refine fun w' I ρ us hi gv=>(h w' I ρ us hi gv).mono fun e w2 ⟨u,x,J,σ,H2,e1,hq,e2⟩=>⟨u,x,J,σ,H2,e1,?_,e2⟩
 unfold tX
 rw[he]
 rcases hq with⟨rfl,H0,hq,rfl⟩ | ⟨rfl,H0,hq,rfl⟩
 ·obtain⟨h0,_,hk⟩:=hr _ _ hq
  exact⟨by rw[h0],.inl ⟨h0,H0,_,_,hq,rfl⟩⟩
 ·obtain⟨h0,_,hk,h6,_⟩:=hp _ _ hq
  have e3:=DA h0
  exact⟨by rw[e3],.inr ⟨h0,e3,Mz hM hk h6⟩⟩
def mg(z:Bool)(l:List RB):V:=bif z then .z0 else .row 6 l.length
def mL(z:Bool)(l:List RB):ai:=bif z then .dead else c6 l
theorem HO(z:Bool)(l:List RB):∀ σ:Nat->Option Nat,((mL z l).live=true->σ 6=some 6)->aX σ (mg z l)=mg z l:=by
 cases z with
 | true=>exact Wi
 | false=>exact yc l l.length
theorem GM(z:Bool)(l:List RB):∀ σ,aE σ (mL z l)=mL z l:=by
 cases z with
 | true=>exact fun _=>rfl
 | false=>exact fun σ=>gP σ l
theorem MB{b:bG}{p:Di.bB}{um:V}{M X:ai}(j:Nat):mh (lF b p um M X) [0,1,2,3,4,5,6] (7+j)=19+j:=by
 unfold mh
 have:([0,1,2,3,4,5,6]:List Nat)[7+j]? =none:=ZF (by show 7<=7+j;omega)
 rw[this]
 show 19+(7+j - 7)=19+j
 omega
theorem U9(F:cK)(s:Bs)(hF:mo F)(n:List Int)(hpa:cB s=some (.mark,n))(hs:s.length<=120)(z:Bool)(l:List RB)(hz:z=true->l=[])(hl:l.length=F.marks.length):
    ax Tryz.prog 15 [.ptr 0 0,.p (.str (sB s))] (ff F.b F.aP (mg z l) (mL z l)) (fun x H2=>x=tX F s∧bX (ff F.b F.aP (mg z l) (mL z l)) H2∧(((aG F s).2.2=0∧JR F (mY l) l.length H2)∨((aG F s).2.2≠0∧aG F s=(F,[],(aG F s).2.2)∧Gl F.b F.aP (mg z l) (mL z l) H2))):=by
 have fin:∀{x:V} {H2 H0:List ai} {y w X:ai},H2=(((bf (lF F.b F.aP (mg z l) (mL z l) X) [0,1,2,3,4,5,6] H0).set 8 y).set 9 w)->bX (ff F.b F.aP (mg z l) (mL z l)) H0->H0[0]? =some (cv F.b F.aP (.row 16 (l.length+1)) 1 2 3 4 5)->jD H0 (tj 1) F.b->jD H0 ⟨10,9,11,12,13⟩ F.b->H0[16]? =some (.row (mY l++dn 10 9 11 12 13 F.b) xm)->JR F (mY l) l.length H2:=fun{x H2 H0 y w X} e hk h0 h5 Vy h16=>by
  subst e
  have hK:=nv (X:=X) hk
  have qB:=hk.len
  have hn:([0,1,2,3,4,5,6]:List Nat).Nodup:=by decide
  have hlt:∀ i∈([0,1,2,3,4,5,6]:List Nat),i<(lF F.b F.aP (mg z l) (mL z l) X).length:=fun i hi=>ZM (zw hi) Kn
  have p16:aX (dF (lF F.b F.aP (mg z l) (mL z l) X) [0,1,2,3,4,5,6]) (.row 16 (l.length+1))= .row 28 (l.length+1):=by
   have:=jd hK h16 rfl
   rw[show(16:Nat)=7+9 from rfl,MB] at this
   simp only[aX,this]
  have k0:=e9 (H:=lF F.b F.aP (mg z l) (mL z l) X) hn qB (j:=0) (i:=0) rfl Kn h0
  have e0:=kB (q:=tj 1) (p:=F.aP) hK h5 p16
  have a5:=iE (H:=lF F.b F.aP (mg z l) (mL z l) X) hn qB hlt h5
  have a5':=iE (H:=lF F.b F.aP (mg z l) (mL z l) X) hn qB hlt Vy
  have k16:=pU (H:=lF F.b F.aP (mg z l) (mL z l) X) hn qB hlt h16
  have e16:aE (dF (lF F.b F.aP (mg z l) (mL z l) X) [0,1,2,3,4,5,6]) (.row (mY l++dn 10 9 11 12 13 F.b) xm)= .row (mY l++dn 22 21 23 24 25 F.b) xm:=by
   show ai.row (bn _ (_++_)) _=_
   rw[bD,sY]
   have:=tF (q:=⟨10,9,11,12,13⟩) hK Vy
   exact congrArg (fun t=>ai.row (mY l++t) xm) this
  refine⟨c9 (by decide) (by decide) (k0.trans (congrArg some e0)),?_,?_,?_⟩
  ·obtain⟨g1,g2,g3,g4,g5⟩:=a5
   exact Qi
  ·obtain⟨g1,g2,g3,g4,g5⟩:=a5'
   exact Qi
  ·rw[e16] at k16
   exact c9 (by decide) (by decide) k16
 have kf:bX (ff F.b F.aP (mg z l) (mL z l)) (ff F.b F.aP (mg z l) (mL z l)):=by
  have:=w9 F.b F.aP (mg z l) (mL z l) []
  rwa [ZR] at this
 cases z with
 | true=>
  have hl0:l=[]:=hz rfl
  subst hl0
  refine fun w I ρ us hi gv=>(rm F s hF .mark n hpa hs .z0 .dead Wi (fun _=>rfl) _ _ (SW F n hF hl) (fun r H2 hq=>⟨hq.1,hq.2.1,?_⟩) (fun y H2 hq=>⟨hq.1,hq.2.1,by rw[hq.2.2];exact kf,by rw[hq.2.2];rfl,dn 1 2 3 4 5 F.b,rfl,by rw[hq.2.2];rfl⟩) w I ρ us hi gv).mono fun e w2 ⟨u,x,J,σ,H2,e1,hq,e2⟩=>⟨u,x,J,σ,H2,e1,?_,e2⟩
  ·rw[hq.2.2]
   exact Uv
  ·obtain⟨rfl,h | ⟨h1,h2,h3⟩⟩:=hq
   ·obtain⟨h0,H0,y,w',⟨g1,g2,g3⟩,rfl⟩:=h
    have hk:bX (ff F.b F.aP .z0 .dead) H0:=by
     rw[g3]
     exact Uv
    exact Pq
   ·exact Fj
 | false=>
  refine fun w I ρ us hi gv=>(rm F s hF .mark n hpa hs (.row 6 l.length) (c6 l) (yc l l.length) (fun σ=>gP σ l) _ _ (RU F n l hF hl) (fun r H2 hq=>⟨hq.1,hq.2.1,?_⟩) (fun y H2 hq=>⟨hq.1,hq.2.1,by rw[hq.2.2];exact kf,by rw[hq.2.2];rfl,dn 1 2 3 4 5 F.b,rfl,by rw[hq.2.2];rfl⟩) w I ρ us hi gv).mono fun e w2 ⟨u,x,J,σ,H2,e1,hq,e2⟩=>⟨u,x,J,σ,H2,e1,?_,e2⟩
  ·rw[hq.2.2]
   exact Ft
  ·obtain⟨rfl,h | ⟨h1,h2,h3⟩⟩:=hq
   ·obtain⟨h0,H0,y,w',⟨g1,g2,g3⟩,rfl⟩:=h
    have hk:bX (ff F.b F.aP (.row 6 l.length) (c6 l)) H0:=by
     rw[g3]
     exact Ft
    exact Pq
   ·exact Fj
def PF(F:cK)(l:List RB)(r:RB)(H:List ai):Prop:=H[0]? =some (.cells (r.cells++F.aP.cells.map .p++[.row 6 l.length,.p (.bool true)]) 63)∧H[6]? =some (c6 (l++[r]))
def WC(F:cK)(l:List RB)(r:RB)(H:List ai):Prop:=H[0]? =some (cv F.b F.aP (.row 6 l.length) 1 2 3 4 5)∧jD H (tj 1) F.b∧H[6]? =some (c6 (l++[r]))
theorem Jh(σ:Nat->Option Nat)(r:RB):bn σ r.cells=r.cells:=rfl
theorem Bz(F:cK)(n:List Int)(v:Vb)(um:V)(M:ai)(X1 X2:ai)(y:PV)(H2:List ai)(hq:(br F v n).2.2≠0∧y= .iface 106 (.agg [.int .i64 (br F v n).2.2])∧H2=[cv F.b F.aP um 1 2 3 4 5,c5 F.b.au,cU F.b.ag,c7 F.b.aq,bh F.b.plan,bh F.b.b6,M,X1,X2]):
    (br F v n).2.2≠0∧y= .iface 106 (.agg [.int .i64 (br F v n).2.2])∧bX (ff F.b F.aP um M) H2∧H2[6]? =some M∧∃ cs,cs.length=7∧H2[0]? =some (.cells (cs++F.aP.cells.map .p++[um,.p (.bool true)]) 63):=by
 obtain⟨h1,h2,rfl⟩:=hq
 exact⟨h1,h2,w9 F.b F.aP um M [X1,X2],rfl,dn 1 2 3 4 5 F.b,rfl,rfl⟩
theorem zy{α:Type}(l:List α):l=[]∨∃ l0 x,l=l0++[x]:=by
 rcases List.eq_nil_or_concat l with h | ⟨l0,x,h⟩
 ·exact .inl h
 ·exact .inr ⟨l0,x,by rw[h,List.concat_eq_append]⟩
theorem DJ(z:Bool):B6 (mg z [])=some 0:=by cases z <;> rfl
theorem Wy(F:cK)(s:Bs)(hF:mo F)(n:List Int)(hpa:cB s=some (.back,n))(hs:s.length<=120)(z:Bool)(l:List RB)(hz:z=true->l=[])(hl:l.length=F.marks.length):
    ax Tryz.prog 15 [.ptr 0 0,.p (.str (sB s))] (ff F.b F.aP (mg z l) (mL z l)) (fun x H2=>x=tX F s∧bX (ff F.b F.aP (mg z l) (mL z l)) H2∧((∃ fs x l0 r,F.marks=fs++[x]∧l=l0++[r]∧z=false∧(aG F s).1={F with b:=x,marks:=fs}∧PF F l0 r H2)∨((aG F s).2.2≠0∧aG F s=(F,[],(aG F s).2.2)∧Gl F.b F.aP (mg z l) (mL z l) H2))):=by
 rcases zy l with rfl | ⟨l0,r,rfl⟩
 ·have hm:F.marks=[]:=ZB hl.symm
  refine fun w I ρ us hi gv=>(rm F s hF .back n hpa hs (mg z []) (mL z []) (HO z []) (GM z []) _ _ (Gb F n (mg z []) (mL z []) hm (DJ z)) (fun r H2 hq=>hq.elim) (fun y H2 hq=>Bz F n .back _ _ _ _ y H2 hq) w I ρ us hi gv).mono fun e w2 ⟨u,x,J,σ,H2,e1,hq,e2⟩=>⟨u,x,J,σ,H2,e1,?_,e2⟩
  exact Uo
 ·have hzf:z=false:=by
    cases z with
    | false=>rfl
    | true=>have:=hz rfl;simp at this
  subst hzf
  obtain⟨fs,x,hm⟩:∃ fs x,F.marks=fs++[x]:=by
   exact Rc
  have hl0:l0.length=fs.length:=by rw[hm] at hl;simpa using hl
  have h8:l0.length<=8:=by have:=hF.mm;rw[hm] at this;simp at this;omega
  have eu:mg false (l0++[r])= .row 6 (l0.length+1):=by show V.row 6 _=_;rw[Zb];rfl
  have hd:=FH F n l0 r fs x hm hl0 h8
  have RA:∀ H2:List ai,H2=[.cells (r.cells++F.aP.cells.map .p++[.row 6 l0.length,.p (.bool true)]) 63,c5 F.b.au,cU F.b.ag,c7 F.b.aq,bh F.b.plan,bh F.b.b6,c6 (l0++[r]),.cells r.cells xm,.cells r.cells xm]->bX (ff F.b F.aP (.row 6 (l0.length+1)) (c6 (l0++[r]))) H2:=fun H2 e=>by
   subst e
   exact Ft
  rw[eu]
  show ax _ _ _ (ff F.b F.aP (.row 6 (l0.length+1)) (c6 (l0++[r]))) _
  refine fun w I ρ us hi gv=>(rm F s hF .back n hpa hs (.row 6 (l0.length+1)) (c6 (l0++[r])) (yc _ _) (fun σ=>gP σ _) _ _ hd (fun r' H2 hq=>⟨hq.1,hq.2.1,RA H2 hq.2.2⟩) (fun y H2 hq=>hq.elim) w I ρ us hi gv).mono fun e w2 ⟨u,x',J,σ,H2,e1,hq,e2⟩=>⟨u,x',J,σ,H2,e1,?_,e2⟩
  obtain⟨rfl,⟨h0,H0,y,w',⟨g1,g2,g3⟩,rfl⟩ | ⟨h1,h2,h3⟩⟩:=hq
  ·have hk:=RA H0 g3
   have hK:=nv (X:=ai.cells [.p (.int .i64 (Vb.back.many:Int)),.p (.func (.func (kq .back)) [] [])] 111) hk
   have qB:=hk.len
   have he:(aG F s).1={F with b:=x,marks:=fs}:=by
    have:aG F s=br F .back n:=by unfold aG;rw[if_neg (by omega),hpa]
    rw[this]
    unfold br
    rw[hm]
    simp
   have t6:dF (lF F.b F.aP (.row 6 (l0.length+1)) (c6 (l0++[r])) (ai.cells [.p (.int .i64 (Vb.back.many:Int)),.p (.func (.func (kq .back)) [] [])] 111)) [0,1,2,3,4,5,6] 6=some 6:=Su _ _ _ _ _ rfl
   have k0:=e9 (H:=lF F.b F.aP (.row 6 (l0.length+1)) (c6 (l0++[r])) (ai.cells [.p (.int .i64 (Vb.back.many:Int)),.p (.func (.func (kq .back)) [] [])] 111)) (ks:=[0,1,2,3,4,5,6]) (H0:=H0) (j:=0) (i:=0) (x:= .cells (r.cells++F.aP.cells.map .p++[.row 6 l0.length,.p (.bool true)]) 63) (by decide) qB rfl Kn (by rw[g3];rfl)
   have k6:=e9 (H:=lF F.b F.aP (.row 6 (l0.length+1)) (c6 (l0++[r])) (ai.cells [.p (.int .i64 (Vb.back.many:Int)),.p (.func (.func (kq .back)) [] [])] 111)) (ks:=[0,1,2,3,4,5,6]) (H0:=H0) (j:=6) (i:=6) (x:=c6 (l0++[r])) (by decide) qB rfl Kn (by rw[g3];rfl)
   rw[gP] at k6
   rw[vW (by simp only[aX,t6]),Jh] at k0
   exact⟨rfl,mN hk,.inl ⟨fs,x,l0,r,hm,rfl,rfl,he,c9 (by decide) (by decide) k0,c9 (by decide) (by decide) k6⟩⟩
  ·exact Fj
theorem WS(F:cK)(s:Bs)(hF:mo F)(n:List Int)(hpa:cB s=some (.keep,n))(hs:s.length<=120)(z:Bool)(l:List RB)(hz:z=true->l=[])(hl:l.length=F.marks.length):
    ax Tryz.prog 15 [.ptr 0 0,.p (.str (sB s))] (ff F.b F.aP (mg z l) (mL z l)) (fun x H2=>x=tX F s∧bX (ff F.b F.aP (mg z l) (mL z l)) H2∧((∃ fs x l0 r,F.marks=fs++[x]∧l=l0++[r]∧z=false∧(aG F s).1={F with marks:=fs}∧WC F l0 r H2)∨((aG F s).2.2≠0∧aG F s=(F,[],(aG F s).2.2)∧Gl F.b F.aP (mg z l) (mL z l) H2))):=by
 rcases zy l with rfl | ⟨l0,r,rfl⟩
 ·have hm:F.marks=[]:=ZB hl.symm
  refine fun w I ρ us hi gv=>(rm F s hF .keep n hpa hs (mg z []) (mL z []) (HO z []) (GM z []) _ _ (FB F n (mg z []) (mL z []) hm (DJ z)) (fun r H2 hq=>hq.elim) (fun y H2 hq=>Bz F n .keep _ _ _ _ y H2 hq) w I ρ us hi gv).mono fun e w2 ⟨u,x,J,σ,H2,e1,hq,e2⟩=>⟨u,x,J,σ,H2,e1,?_,e2⟩
  exact Uo
 ·have hzf:z=false:=by
    cases z with
    | false=>rfl
    | true=>have:=hz rfl;simp at this
  subst hzf
  obtain⟨fs,x,hm⟩:∃ fs x,F.marks=fs++[x]:=by
   exact Rc
  have hl0:l0.length=fs.length:=by rw[hm] at hl;simpa using hl
  have h8:l0.length<=8:=by have:=hF.mm;rw[hm] at this;simp at this;omega
  have eu:mg false (l0++[r])= .row 6 (l0.length+1):=by show V.row 6 _=_;rw[Zb];rfl
  have hd:=Fz F n l0 r fs x hm hl0 h8
  have RA:∀ H2:List ai,H2=[cv F.b F.aP (.row 6 l0.length) 1 2 3 4 5,c5 F.b.au,cU F.b.ag,c7 F.b.aq,bh F.b.plan,bh F.b.b6,c6 (l0++[r]),.cells r.cells xm,.cells r.cells xm]->bX (ff F.b F.aP (.row 6 (l0.length+1)) (c6 (l0++[r]))) H2:=fun H2 e=>by
   subst e
   exact Ft
  rw[eu]
  show ax _ _ _ (ff F.b F.aP (.row 6 (l0.length+1)) (c6 (l0++[r]))) _
  refine fun w I ρ us hi gv=>(rm F s hF .keep n hpa hs (.row 6 (l0.length+1)) (c6 (l0++[r])) (yc _ _) (fun σ=>gP σ _) _ _ hd (fun r' H2 hq=>⟨hq.1,hq.2.1,RA H2 hq.2.2⟩) (fun y H2 hq=>hq.elim) w I ρ us hi gv).mono fun e w2 ⟨u,x',J,σ,H2,e1,hq,e2⟩=>⟨u,x',J,σ,H2,e1,?_,e2⟩
  obtain⟨rfl,⟨h0,H0,y,w',⟨g1,g2,g3⟩,rfl⟩ | ⟨h1,h2,h3⟩⟩:=hq
  ·have hk:=RA H0 g3
   have hK:=nv (X:=ai.cells [.p (.int .i64 (Vb.keep.many:Int)),.p (.func (.func (kq .keep)) [] [])] 111) hk
   have qB:=hk.len
   have he:(aG F s).1={F with marks:=fs}:=by
    have:aG F s=br F .keep n:=by unfold aG;rw[if_neg (by omega),hpa]
    rw[this]
    unfold br
    rw[hm]
    simp
   have t6:dF (lF F.b F.aP (.row 6 (l0.length+1)) (c6 (l0++[r])) (ai.cells [.p (.int .i64 (Vb.keep.many:Int)),.p (.func (.func (kq .keep)) [] [])] 111)) [0,1,2,3,4,5,6] 6=some 6:=Su _ _ _ _ _ rfl
   have k0:=e9 (H:=lF F.b F.aP (.row 6 (l0.length+1)) (c6 (l0++[r])) (ai.cells [.p (.int .i64 (Vb.keep.many:Int)),.p (.func (.func (kq .keep)) [] [])] 111)) (ks:=[0,1,2,3,4,5,6]) (H0:=H0) (j:=0) (i:=0) (x:=cv F.b F.aP (.row 6 l0.length) 1 2 3 4 5) (by decide) qB rfl Kn (by rw[g3];rfl)
   have k6:=e9 (H:=lF F.b F.aP (.row 6 (l0.length+1)) (c6 (l0++[r])) (ai.cells [.p (.int .i64 (Vb.keep.many:Int)),.p (.func (.func (kq .keep)) [] [])] 111)) (ks:=[0,1,2,3,4,5,6]) (H0:=H0) (j:=6) (i:=6) (x:=c6 (l0++[r])) (by decide) qB rfl Kn (by rw[g3];rfl)
   rw[gP] at k6
   have h5:jD H0 (tj 1) F.b:=by rw[g3];exact⟨rfl,rfl,rfl,rfl,rfl⟩
   have e0:=kB (q:=tj 1) (p:=F.aP) (um:= .row 6 l0.length) (nt:= .row 6 l0.length) hK h5 (by simp only[aX];rw[show dF _ _ 6=some 6 from t6])
   have a5:=iE (H:=lF F.b F.aP (.row 6 (l0.length+1)) (c6 (l0++[r])) (ai.cells [.p (.int .i64 (Vb.keep.many:Int)),.p (.func (.func (kq .keep)) [] [])] 111)) (ks:=[0,1,2,3,4,5,6]) (by decide) qB (fun i hi=>ZM (zw hi) Kn) h5
   obtain⟨b1,b2,b3,b4,b5⟩:=a5
   exact⟨rfl,mN hk,.inl ⟨fs,x,l0,r,hm,rfl,rfl,he,c9 (by decide) (by decide) (k0.trans (congrArg some e0)),⟨c9 (by decide) (by decide) b1,c9 (by decide) (by decide) b2,c9 (by decide) (by decide) b3,c9 (by decide) (by decide) b4,c9 (by decide) (by decide) b5⟩,c9 (by decide) (by decide) k6⟩⟩
  ·exact Fj
def k7(c im:Nat)(q:P5):List Nat:=c::(q.l++[im])
theorem rZ{c:Nat}{F:cK}{z:Bool}{H:List ai}{q:P5}{im:Nat}{qs:List P5}(h:fz c F z H q im qs):(k7 c im q).Nodup:=by
 have hnd:=h.nd
 rw[ZC,ZC,ZX] at hnd
 obtain⟨n1,n2,n3,n4,n5⟩:=hnd
 unfold k7
 rw[ZC,ZX]
 refine⟨fun hm=> ?_,n3,by simp,fun a ha b hb e=> ?_⟩
 ·rcases Zp.1 hm with hm | hm
  ·exact n1 (Zj _ (ZV _ hm))
  ·exact n1 (by rw[ZK.1 hm];exact Zr)
 ·rw[ZK.1 hb] at e
  subst e
  exact n2 (ZV _ ha)
theorem ox{c:Nat}{F:cK}{z:Bool}{H:List ai}{q:P5}{im:Nat}{qs:List P5}(h:fz c F z H q im qs):∀ i∈k7 c im q,c<=i∧i<H.length:=fun i hi=>by
 rcases Zt.1 hi with rfl | hi
 ·exact⟨Zg _,(Za.1 h.fl).1⟩
 ·rcases Zp.1 hi with hi | hi
  ·exact⟨h.low i (Zj _ (ZV _ hi)),h.a5.lt i hi⟩
  ·rw[ZK.1 hi]
   exact⟨h.low im Zr,(Za.1 h.mb).1⟩
theorem ru{c:Nat}{F:cK}{z:Bool}{H:List ai}{q:P5}{im:Nat}{qs:List P5}(h:fz c F z H q im qs):∀ i∈qs.flatMap P5.l,i∉k7 c im q:=fun i hi hm=>by
 have hnd:=h.nd
 rw[ZC,ZC,ZX] at hnd
 obtain⟨n1,n2,n3,n4,n5⟩:=hnd
 rcases Zt.1 hm with e | hm
 ·exact n1 (Zj _ (ZG _ (e▸hi)))
 ·rcases Zp.1 hm with hm | hm
  ·exact n5 i hm i hi rfl
  ·rw[ZK.1 hm] at hi
   exact n2 (ZG _ hi)
structure wL (c:Nat) (F:cK) (z:Bool) (H:List ai) (q:P5) (im:Nat) (qs:List P5) (l:List RB) (H' H0:List ai):Prop where
 fa:fz c F z H q im qs
 e:H'=H.set im (mL z l)
 k:fG H' (k7 c im q) H0
theorem wL.len{c:Nat}{F:cK}{z:Bool}{H:List ai}{q:P5}{im:Nat}{qs:List P5}{l:List RB}{H' H0:List ai}(h:wL c F z H q im qs l H' H0):H'.length=H.length:=by rw[h.e,wS]
theorem wL.lt{c:Nat}{F:cK}{z:Bool}{H:List ai}{q:P5}{im:Nat}{qs:List P5}{l:List RB}{H' H0:List ai}(h:wL c F z H q im qs l H' H0):∀ i∈k7 c im q,i<H'.length:=fun i hi=>by rw[h.len];exact(ox h.fa i hi).2
theorem wL.out{c:Nat}{F:cK}{z:Bool}{H:List ai}{q:P5}{im:Nat}{qs:List P5}{l:List RB}{H' H0:List ai}(h:wL c F z H q im qs l H' H0){i:Nat}(hi:i<H.length)(hk:i∉k7 c im q):(bf H' (k7 c im q) H0)[i]? =H[i]? :=by
 rw[dz (rZ h.fa) h.k.1 (by rw[h.len];exact hi) hk,h.e,Zv,if_neg (fun e=>hk (by rw[<- e];exact Zj _ (ZG _ (ZK.2 rfl))))]
theorem wL.at_{c:Nat}{F:cK}{z:Bool}{H:List ai}{q:P5}{im:Nat}{qs:List P5}{l:List RB}{H' H0:List ai}(h:wL c F z H q im qs l H' H0){j:Nat}{x:ai}(hx:H0[j]? =some x):(bf H' (k7 c im q) H0)[mh H' (k7 c im q) j]? =some (aE (dF H' (k7 c im q)) x):=pU (rZ h.fa) h.k.1 h.lt hx
theorem wL.p0{c:Nat}{F:cK}{z:Bool}{H:List ai}{q:P5}{im:Nat}{qs:List P5}{l:List RB}{H' H0:List ai}(h:wL c F z H q im qs l H' H0):mh H' (k7 c im q) 0=c:=rfl
theorem wL.p6{c:Nat}{F:cK}{z:Bool}{H:List ai}{q:P5}{im:Nat}{qs:List P5}{l:List RB}{H' H0:List ai}(h:wL c F z H q im qs l H' H0):mh H' (k7 c im q) 6=im:=rfl
theorem wL.ats{c:Nat}{F:cK}{z:Bool}{H:List ai}{q:P5}{im:Nat}{qs:List P5}{l:List RB}{H' H0:List ai}(h:wL c F z H q im qs l H' H0):oW (bf H' (k7 c im q) H0) qs F.marks:=
 h.fa.ats.congr fun i hi=>h.out (h.fa.ats.lt i hi) (ru h.fa i hi)
theorem wL.new{c:Nat}{F:cK}{z:Bool}{H:List ai}{q:P5}{im:Nat}{qs:List P5}{l:List RB}{H' H0:List ai}(h:wL c F z H q im qs l H' H0)(j:Nat):c<=mh H' (k7 c im q) j∧mh H' (k7 c im q) j∉qs.flatMap P5.l:=by
 rcases wP H' (k7 c im q) j with hm | hm
 ·exact⟨(ox h.fa _ hm).1,fun hq=>ru h.fa _ hq hm⟩
 ·rw[h.len] at hm
  have hc:=(ox h.fa c Zr).2
  exact⟨by omega,fun hq=>by have:=h.fa.ats.lt _ hq;omega⟩
theorem oW.set{H:List ai}{qs:List P5}{bs:List bG}{i:Nat}{y:ai}(h:oW H qs bs)(hi:i∉qs.flatMap P5.l):oW (H.set i y) qs bs:=h.congr fun j hj=>by
 rw[Zv,if_neg (fun e=>hi (by rw[e];exact hj))]
theorem tT{ps:List (V×V)}{cs cs' t:List V}{e:TypeId}(h:cV (gC ps) cs cs'):mU ps (.row (cs++t) e) (.row cs' e):= .inr ⟨cs,cs',e,h,.inr ⟨t,rfl,rfl⟩⟩
theorem xA{ps:List (V×V)}{cs cs':List V}{e:TypeId}(h:cV (gC ps) cs cs'):mU ps (.row cs e) (.row cs' e):=by
 have:=tT (e:=e) (t:=[]) h
 rwa [ZR] at this
theorem eG.trans{ps:List (V×V)}{H H2:List ai}{i:Nat}{x y:ai}(h:eG ps H H2)(hx:H2[i]? =some x)(hx0:H[i]? =some x)(hy:mU ps x y):eG ps H (H2.set i y):=by
 refine⟨by rw[wS];exact h.1,fun j a b ha hb=> ?_⟩
 rw[Zv] at hb
 split at hb
 ·rename_i e
  subst e
  split at hb
  ·cases hb
   rw[hx0] at ha;cases ha;exact hy
  ·cases hb
 ·exact h.2 j a b ha hb
section
variable {c:Nat} {F F':cK} {z z':Bool} {H H' H0:List ai} {q q0:P5} {im:Nat} {qs GL:List P5} {l:List RB} {ps:List (V×V)}
theorem KU(hb:wL c F z H q im qs l H' H0){ns:List Nat}(h:ns.Nodup):(ns.map (mh H' (k7 c im q))).Nodup:=qV (rZ hb.fa) hb.lt h
theorem Kd(hb:wL c F z H q im qs l H' H0){um0:V}{M0:ai}(hp:F'.aP=F.aP)(hm:z'=true->F'.marks=[])(hq:oW (bf H' (k7 c im q) H0) GL F'.marks)(hsub:∀ i∈GL.flatMap P5.l,i∈qs.flatMap P5.l)(hnq:(GL.flatMap P5.l).Nodup)(h0:H0[0]? =some (cv F'.b F.aP um0 q0.a q0.b q0.c q0.d q0.e))(hn0:(0::6::q0.l).Nodup)(h5:jD H0 q0 F'.b)(h6:H0[6]? =some M0)(hM:∀ σ,aE σ M0=M0)
    (VN:aX (dF H' (k7 c im q)) um0=rD im F' z')(QS:mU ps M0 (Aa GL F' z')):∃ H3,eG ps (bf H' (k7 c im q) H0) H3∧(∃ z q im qs,fz c F' z H3 q im qs)∧∀ i,i<c->H3[i]? =H[i]? :=by
 obtain⟨q',eq'⟩:∃ q',q'=q0.map (mh H' (k7 c im q)):=⟨_,rfl⟩
 have U1:=KU hb hn0
 rw[ZD,ZD,hb.p0,hb.p6,<- P5.uw,<- eq'] at U1
 have nd2:=U1
 rw[ZC,ZC] at nd2
 obtain⟨n1,n2,n3⟩:=nd2
 have a5:jD (bf H' (k7 c im q) H0) q' F'.b:=by rw[eq'];exact iE (rZ hb.fa) hb.k.1 hb.lt h5
 have k0:=hb.at_ h0
 rw[hb.p0,kB hb.k h5 VN] at k0
 have k6:=hb.at_ h6
 rw[hb.p6,hM] at k6
 have A5:im≠c:=fun e=>n1 (by rw[e];exact Zr)
 have MH:im∉GL.flatMap P5.l:=fun hm=>ru hb.fa im (hsub im hm) (Zj _ (ZG _ (ZK.2 rfl)))
 have We:c∉GL.flatMap P5.l:=fun hm=>ru hb.fa c (hsub c hm) Zr
 have hnew:∀ i∈q'.l,c<=i∧i∉qs.flatMap P5.l:=fun i hi=>by
  rw[eq',P5.uw] at hi
  obtain⟨j,_,rfl⟩:=zn.1 hi
  exact hb.new j
 refine⟨(bf H' (k7 c im q) H0).set im (Aa GL F' z'),eG.set k6 QS,⟨z',q',im,GL,⟨?_,a5.set n2,fI k6,hm,hq.set MH,?_,?_⟩⟩,fun i hi=> ?_⟩
 ·rw[hp]
  have:=bK (y:=Aa GL F' z') A5 k0
  rw[eq']
  exact this
 ·rw[ZC,ZC,ZX]
  refine⟨fun hm=> ?_,fun hm=> ?_,n3,hnq,fun a ha b hb' e=>(hnew a ha).2 (by rw[e];exact hsub b hb')⟩
  ·rcases Zt.1 hm with e | hm
   ·exact A5 e.symm
   ·rcases Zp.1 hm with hm | hm
    ·exact n1 (Zj _ hm)
    ·exact We hm
  ·rcases Zp.1 hm with hm | hm
   ·exact n2 hm
   ·exact MH hm
 ·intro i hi
  rcases Zt.1 hi with rfl | hi
  ·exact hb.fa.low i Zr
  ·rcases Zp.1 hi with hi | hi
   ·exact(hnew i hi).1
   ·exact hb.fa.low i (Zj _ (ZG _ (hsub i hi)))
 ·have hcl:=(ox hb.fa c Zr).2
  have sy:=(ox hb.fa im (Zj _ (ZG _ (ZK.2 rfl)))).1
  rw[Zv,if_neg (by omega)]
  exact hb.out (by omega) fun hm=>by have:=(ox hb.fa i hm).1;omega
theorem oW.snoc{H:List ai}{qs:List P5}{bs:List bG}{q:P5}{b:bG}(h:oW H qs bs)(hq:jD H q b):oW H (qs++[q]) (bs++[b]):=by
 induction h with
 | nil=>exact .cons hq .nil
 | cons h _ ih=>exact .cons h ih
theorem HD(hb:wL c F z H q im qs l H' H0)(hl:l.length=F.marks.length)(QS:cV (gC ps) (mY l) (oO qs F.marks))(hQ:JR F (mY l) l.length H0):∃ H3,eG ps (bf H' (k7 c im q) H0) H3∧(∃ z q im qs,fz c {F with marks:=F.marks++[F.b]} z H3 q im qs)∧∀ i,i<c->H3[i]? =H[i]? :=by
 obtain⟨h0,h5,Vy,h28⟩:=hQ
 obtain⟨q',eq'⟩:∃ q',q'=(tj 1).map (mh H' (k7 c im q)):=⟨_,rfl⟩
 obtain⟨q1,YL⟩:∃ q1,q1=(P5.mk 22 21 23 24 25).map (mh H' (k7 c im q)):=⟨_,rfl⟩
 obtain⟨i,ei⟩:∃ i,i=mh H' (k7 c im q) 28:=⟨_,rfl⟩
 have U1:=KU hb (show((0:Nat)::28::((tj 1).l++(P5.mk 22 21 23 24 25).l)).Nodup by decide)
 rw[ZD,ZD,ZH,hb.p0,<- P5.uw,<- P5.uw,<- eq',<- YL,<- ei] at U1
 rw[ZC,ZC,ZX] at U1
 obtain⟨n1,n2,n3,n4,n5⟩:=U1
 have a5:jD (bf H' (k7 c im q) H0) q' F.b:=by rw[eq'];exact iE (rZ hb.fa) hb.k.1 hb.lt h5
 have a5':jD (bf H' (k7 c im q) H0) q1 F.b:=by rw[YL];exact iE (rZ hb.fa) hb.k.1 hb.lt Vy
 have pu:aX (dF H' (k7 c im q)) (.row 28 (l.length+1))= .row i (l.length+1):=by
  have:=jd hb.k h28 rfl
  simp only[aX,this,<- ei]
 have k0:=hb.at_ h0
 have e0:=kB (q:=tj 1) (p:=F.aP) hb.k h5 pu
 have k0:(bf H' (k7 c im q) H0)[c]? =some (cv F.b F.aP (.row i (l.length+1)) q'.a q'.b q'.c q'.d q'.e):=by
  rw[eq']
  exact k0.trans (congrArg some e0)
 have k28:=hb.at_ h28
 have e28:aE (dF H' (k7 c im q)) (.row (mY l++dn 22 21 23 24 25 F.b) xm)= .row (mY l++rX q1 F.b) xm:=by
  show ai.row (bn _ (_++_)) _=_
  rw[bD,sY,YL]
  exact congrArg (fun t=>ai.row (mY l++t) xm) (tF (q:=⟨22,21,23,24,25⟩) hb.k Vy)
 rw[e28,<- ei] at k28
 have hnew:∀ j∈i::(q'.l++q1.l),c<=j∧j∉qs.flatMap P5.l:=fun j hj=>by
  rcases Zt.1 hj with rfl | hj
  ·rw[ei];exact hb.new 28
  ·rcases Zp.1 hj with hj | hj
   ·rw[eq',P5.uw] at hj
    obtain⟨k,_,rfl⟩:=zn.1 hj
    exact hb.new k
   ·rw[YL,P5.uw] at hj
    obtain⟨k,_,rfl⟩:=zn.1 hj
    exact hb.new k
 have hci:i≠c:=fun e=>n1 (by rw[e];exact Zr)
 have hfl:(qs++[q1]).flatMap P5.l=qs.flatMap P5.l++q1.l:=by rw[FQ];simp
 have hqn:(qs.flatMap P5.l).Nodup:=by
  have:=hb.fa.nd
  rw[ZC,ZC,ZX] at this
  exact this.2.2.2.1
 have aat:oW (bf H' (k7 c im q) H0) (qs++[q1]) (F.marks++[F.b]):=oW.snoc hb.ats a5'
 have We:c∉qs.flatMap P5.l:=fun hm=>ru hb.fa c hm Zr
 refine⟨(bf H' (k7 c im q) H0).set i (.row (oO (qs++[q1]) (F.marks++[F.b])) xm),eG.set k28 (xA (by rw[vw qs F.marks q1 F.b hb.fa.ats.len];exact cV.app _ _ _ _ QS (cV.refl gC.refl _))),⟨false,q',i,qs++[q1],⟨?_,a5.set (fun hm=>n2 (ZV _ hm)),fI k28,(fun h=>by cases h),?_,?_,?_⟩⟩,fun j hj=> ?_⟩
 ·have e:rD i {F with marks:=F.marks++[F.b]} false= .row i (l.length+1):=by
    show V.row i (F.marks++[F.b]).length=_
    rw[Zb,hl];rfl
  rw[e]
  exact bK hci k0
 ·refine aat.set ?_
  rw[hfl]
  intro hm
  exact Q4
 ·rw[hfl,ZC,ZC,ZX,ZX]
  refine⟨fun hm=> ?_,fun hm=> ?_,n3,⟨hqn,n4,fun a ha b hb' e=>(hnew b (Zj _ (ZG _ hb'))).2 (e▸ha)⟩,fun a ha b hb' e=> ?_⟩
  ·rcases Zt.1 hm with e | hm
   ·exact hci e.symm
   ·rcases Zp.1 hm with hm | hm
    ·exact n1 (Zj _ (ZV _ hm))
    ·rcases Zp.1 hm with hm | hm
     ·exact We hm
     ·exact n1 (Zj _ (ZG _ hm))
  ·rcases Zp.1 hm with hm | hm
   ·exact n2 (ZV _ hm)
   ·exact Q4
  ·subst e
   rcases Zp.1 hb' with hb' | hb'
   ·exact(hnew a (Zj _ (ZV _ ha))).2 hb'
   ·exact n5 a ha a hb' rfl
 ·intro j hj
  rw[hfl] at hj
  rcases Zt.1 hj with rfl | hj
  ·exact(hnew j Zr).1
  ·rcases Zp.1 hj with hj | hj
   ·exact(hnew j (Zj _ (ZV _ hj))).1
   ·rcases Zp.1 hj with hj | hj
    ·exact hb.fa.low j (Zj _ (ZG _ hj))
    ·exact(hnew j (Zj _ (ZG _ hj))).1
 ·have hcl:=(ox hb.fa c Zr).2
  have:=(hnew i Zr).1
  rw[Zv,if_neg (by omega)]
  exact hb.out (by omega) fun hm=>by have:=(ox hb.fa j hm).1;omega
end
theorem oW.last{H:List ai}:∀{fs:List bG} {qs:List P5} {x:bG},oW H qs (fs++[x])->∃ v8 q9,qs=v8++[q9]∧oW H v8 fs∧jD H q9 x
 | [],_,_,.cons h .nil=>⟨[],_,rfl,.nil,h⟩
 | _::fs,_,_,.cons h t=>by
  obtain⟨v8,q9,rfl,h1,h2⟩:=oW.last (fs:=fs) t
  exact⟨_::v8,q9,rfl,.cons h h1,h2⟩
section
variable {c:Nat} {F F':cK} {z z':Bool} {H H' H0:List ai} {q q0:P5} {im:Nat} {qs GL:List P5} {l:List RB} {ps:List (V×V)}
theorem nC(v8:List P5)(q9:P5):(v8++[q9]).flatMap P5.l=v8.flatMap P5.l++q9.l:=by rw[FQ];simp
theorem Iu{v8:List P5}{q9:P5}{l0:List RB}{r:RB}{fs:List bG}{x:bG}(hb:wL c F false H q im (v8++[q9]) l H' H0)(hm:F.marks=fs++[x])(hl0:l0.length=fs.length)(eJ:oW H v8 fs)(YB:jD H q9 x)(h1:cV (gC ps) (mY l0) (oO v8 fs))(h2:cV (gC ps) r.cells (rX q9 x))(hQ:PF F l0 r H0):
    ∃ H3,eG ps (bf H' (k7 c im q) H0) H3∧(∃ z q im qs,fz c {F with b:=x,marks:=fs} z H3 q im qs)∧∀ i,i<c->H3[i]? =H[i]? :=by
 obtain⟨g0,g6⟩:=hQ
 have t6:dF H' (k7 c im q) 6=some im:=jd hb.k g6 rfl
 have e0:aE (dF H' (k7 c im q)) (.cells (r.cells++F.aP.cells.map .p++[.row 6 l0.length,.p (.bool true)]) 63)= .cells (r.cells++F.aP.cells.map .p++[.row im l0.length,.p (.bool true)]) 63:=by
  rw[bL,bD,bD,aY,Jh]
  simp only[bF,b8,dQ,aX,t6]
 have k0:=hb.at_ g0
 rw[hb.p0,e0] at k0
 have k6:=hb.at_ g6
 rw[hb.p6,gP] at k6
 have hnd:=hb.fa.nd
 rw[nC,ZC,ZC,ZX,ZX] at hnd
 obtain⟨n1,n2,n3,⟨n4,n5,n6⟩,n7⟩:=hnd
 have sy:im∈k7 c im q:=Zj _ (ZG _ (ZK.2 rfl))
 have hold:∀ i∈v8.flatMap P5.l++q9.l,i<H.length∧i∉k7 c im q∧c<=i:=fun i hi=>by
  have hi2:i∈(v8++[q9]).flatMap P5.l:=by rw[nC];exact hi
  exact⟨hb.fa.ats.lt i hi2,ru hb.fa i hi2,hb.fa.low i (Zj _ (ZG _ hi2))⟩
 have A5:im≠c:=fun e=>n1 (by rw[e];exact Zr)
 obtain⟨H1,Ph⟩:∃ H1,H1=(bf H' (k7 c im q) H0).set c (cv x F.aP (.row im l0.length) q9.a q9.b q9.c q9.d q9.e):=⟨_,rfl⟩
 have k61:H1[im]? =some (c6 (l0++[r])):=by rw[Ph];exact bK (Ne.symm A5) k6
 have Yo:eG ps (bf H' (k7 c im q) H0) H1:=by
  rw[Ph]
  refine eG.set k0 (.inr ⟨_,_,_,?_,.inl ⟨rfl,rfl⟩⟩)
  exact cV.app _ _ _ _ (cV.app _ _ _ _ h2 (cV.refl gC.refl _)) (cV.refl gC.refl _)
 have mj:mU ps (c6 (l0++[r])) (.row (oO v8 fs) xm):=by
  unfold c6
  rw[tw]
  exact tT h1
 have same:∀ i,i<H.length->i∉k7 c im q->(H1.set im (.row (oO v8 fs) xm))[i]? =H[i]? :=fun i hi hk=>by
  rw[Zv,if_neg (fun e:im=i=>hk (by rw[<- e];exact sy)),Ph,Zv,if_neg (fun e=>hk (by rw[<- e];exact Zr))]
  exact hb.out hi hk
 have a9:jD (H1.set im (.row (oO v8 fs) xm)) q9 x:=by
  obtain⟨b1,b2,b3,b4,b5⟩:=YB
  have g:∀ i∈q9.l,(H1.set im (.row (oO v8 fs) xm))[i]? =H[i]? :=fun i hi=>same i (hold i (ZG _ hi)).1 (hold i (ZG _ hi)).2.1
  refine⟨?_,?_,?_,?_,?_⟩
  ·rw[g q9.a (by simp[P5.l])];exact b1
  ·rw[g q9.b (by simp[P5.l])];exact b2
  ·rw[g q9.c (by simp[P5.l])];exact b3
  ·rw[g q9.d (by simp[P5.l])];exact b4
  ·rw[g q9.e (by simp[P5.l])];exact b5
 have eu:rD im {F with b:=x,marks:=fs} false= .row im l0.length:=by rw[hl0];rfl
 refine⟨H1.set im (.row (oO v8 fs) xm),eG.trans Yo k61 k6 mj,⟨false,q9,im,v8,⟨?_,a9,fI k61,(fun h=>by cases h),?_,?_,?_⟩⟩,fun i hi=> ?_⟩
 ·rw[eu]
  refine bK A5 ?_
  rw[Ph]
  exact fI k0
 ·exact eJ.congr fun i hi=>same i (hold i (ZV _ hi)).1 (hold i (ZV _ hi)).2.1
 ·rw[ZC,ZC,ZX]
  refine⟨fun hm=> ?_,fun hm=> ?_,n5,n4,fun a ha b hb' e=>n6 b hb' a ha e.symm⟩
  ·rcases Zt.1 hm with e | hm
   ·exact A5 e.symm
   ·refine(hold c ?_).2.1 Zr
    exact PE
  ·refine(hold im ?_).2.1 sy
   exact PE
 ·intro i hi
  rcases Zt.1 hi with rfl | hi
  ·exact hb.fa.low i Zr
  ·refine(hold i ?_).2.2
   rcases Zp.1 hi with hi | hi
   ·exact ZG _ hi
   ·exact ZV _ hi
 ·have hcl:=(ox hb.fa c Zr).2
  exact same i (by omega) fun hm=>by have:=(ox hb.fa i hm).1;omega
theorem J5{F:cK}{n:List Int}(h:(br F .mark n).2.2=0):(br F .mark n).1={F with marks:=F.marks++[F.b]}:=by
 revert h
 unfold br
 dsimp only
 split
 ·intro h;cases h
 ·intro _;rfl
theorem z6(h:fz c F z H q im qs)(hF:mo F)(s:Bs)(v:Vb)(n:List Int)(hpa:cB s=some (v,n))(hv:ld v=false)(hs:s.length<=120)(hz:z=true->l=[])(hl:l.length=F.marks.length)(QS:cV (gC ps) (mY l) (oO qs F.marks)):av Tryz.prog 15 [.ptr c 0,.p (.str (sB s))] (H.set im (mL z l)) (fun x H2=>∃ H3,eG ps H2 H3∧Ad c F s H x H3) (fun _ H2=>∃ H3:List ai,eG ps H2 H3∧False):=by
 obtain⟨H',Jt⟩:∃ H',H'=H.set im (mL z l):=⟨_,rfl⟩
 rw[<- Jt]
 have hnd:=h.nd
 rw[ZC,ZC,ZX] at hnd
 obtain⟨n1,n2,n3,n4,n5⟩:=hnd
 have A5:im≠c:=fun e=>n1 (by rw[e];exact Zr)
 have MH:im∉q.l:=fun hm=>n2 (ZV _ hm)
 have g0:H'[c]? =some (cv F.b F.aP (rD im F z) q.a q.b q.c q.d q.e):=by rw[Jt];exact bK A5 h.fl
 have g5:jD H' q F.b:=by rw[Jt];exact h.a5.set MH
 have gm:H'[im]? =some (mL z l):=by rw[Jt];exact fI h.mb
 have VN:aX (ny H' (k7 c im q)) (rD im F z)=mg z l:=by
  cases z with
  | true=>rfl
  | false=>
   have e:=BC (rZ h) (j:=6) rfl gm rfl
   show aX _ (.row im F.marks.length)= .row 6 l.length
   simp only[aX,e,hl]
 -- what is left
 have YO:∀ H0,bX (ff F.b F.aP (mg z l) (mL z l)) H0->wL c F z H q im qs l H' H0:=fun H0 hk=>⟨h,Jt,hk.out g0 g5 gm⟩
 have hM:=GM z l
 have err:∀ H0,bX (ff F.b F.aP (mg z l) (mL z l)) H0->aG F s=(F,[],(aG F s).2.2)->Gl F.b F.aP (mg z l) (mL z l) H0->∃ H3,eG ps (bf H' (k7 c im q) H0) H3∧(∃ z q im qs,fz c (aG F s).1 z H3 q im qs)∧∀ i,i<c->H3[i]? =H[i]? :=fun H0 hk he ⟨e0,e5,e6,_⟩=>by
  rw[he]
  have hb:=YO H0 hk
  refine Kd (F':=F) (z':=z) (GL:=qs) (q0:=⟨13,12,14,15,16⟩) hb rfl h.mz hb.ats (fun _ hi=>hi) n4 e0 (by decide) e5 e6 hM ?_ ?_
  ·cases z with
   | true=>rfl
   | false=>
    have:=jd hb.k e6 rfl
    rw[hb.p6] at this
    show aX _ (.row 6 l.length)= .row im F.marks.length
    simp only[aX,this,hl]
  ·cases z with
   | true=>exact .inl rfl
   | false=>exact xA QS
 have fin:∀ Qr:V->List ai->Prop,av Tryz.prog 15 [.ptr 0 0,.p (.str (sB s))] (ff F.b F.aP (mg z l) (mL z l)) Qr (fun _ _=>False)->(∀ x H0,Qr x H0->x=tX F s∧bX (ff F.b F.aP (mg z l) (mL z l)) H0∧∃ H3,eG ps (bf H' (k7 c im q) H0) H3∧(∃ z q im qs,fz c (aG F s).1 z H3 q im qs)∧∀ i,i<c->H3[i]? =H[i]?)->av Tryz.prog 15 [.ptr c 0,.p (.str (sB s))] H' (fun x H2=>∃ H3,eG ps H2 H3∧Ad c F s H x H3) (fun _ H2=>∃ H3:List ai,eG ps H2 H3∧False):=fun Qr hc hQ=>by
  refine(RF (rZ h) g0 g5 gm hM VN hc fun x H0 hq=>(hQ x H0 hq).2.1).mono (fun x H2 hx=> ?_) (fun _ _ h=>h.elim)
  obtain⟨x0,H0,hq,rfl,rfl⟩:=hx
  obtain⟨rfl,hk,H3,h1,h2,h3⟩:=hQ x0 H0 hq
  exact⟨H3,h1,rfl,h2,h3⟩
 have XH:¬ 120<s.length:=by omega
 cases v <;> first | cases hv | skip
 ·refine fin _ (ax.LI (U9 F s hF n hpa hs z l hz hl)) fun x H0 ⟨hx,hk,hc⟩=>⟨hx,hk,?_⟩
  rcases hc with⟨h0,hQ⟩ | ⟨_,he,hE⟩
  ·have e:(aG F s).1={F with marks:=F.marks++[F.b]}:=by
     have e1:aG F s=br F .mark n:=by unfold aG;rw[if_neg XH,hpa]
     rw[e1] at h0 ⊢
     exact J5 h0
   rw[e]
   exact HD (YO H0 hk) hl QS hQ
  ·exact err H0 hk he hE
 ·refine fin _ (ax.LI (Wy F s hF n hpa hs z l hz hl)) fun x H0 ⟨hx,hk,hc⟩=>⟨hx,hk,?_⟩
  rcases hc with⟨fs,y,l0,r,hm,el,ez,e,hQ⟩ | ⟨_,he,hE⟩
  ·have eJ:=h.ats
   rw[hm] at eJ
   obtain⟨v8,q9,rfl,Me,YB⟩:=eJ.last
   subst ez
   have hl0:l0.length=fs.length:=by rw[el,hm] at hl;simpa using hl
   have hb:=YO H0 hk
   have KC:=QS
   rw[el,hm] at KC
   obtain⟨t1,t2⟩:=xW Me.len hl0 KC
   rw[e]
   exact Iu hb hm hl0 Me YB t1 t2 hQ
  ·exact err H0 hk he hE
 ·refine fin _ (ax.LI (WS F s hF n hpa hs z l hz hl)) fun x H0 ⟨hx,hk,hc⟩=>⟨hx,hk,?_⟩
  rcases hc with⟨fs,y,l0,r,hm,el,ez,e,hQ⟩ | ⟨_,he,hE⟩
  ·have eJ:=h.ats
   rw[hm] at eJ
   obtain⟨v8,q9,rfl,Me,YB⟩:=eJ.last
   subst ez
   have hl0:l0.length=fs.length:=by rw[el,hm] at hl;simpa using hl
   have hb:=YO H0 hk
   have KC:=QS
   rw[el,hm] at KC
   obtain⟨t1,t2⟩:=xW Me.len hl0 KC
   obtain⟨k0,k5,k6⟩:=hQ
   have t6:=jd hb.k k6 rfl
   rw[hb.p6] at t6
   have iq:=hb.ats
   rw[hm] at iq
   obtain⟨qa,qb,eqq,Z7,_⟩:=iq.last
   obtain⟨rfl,_⟩:=List.append_inj' eqq rfl
   rw[e]
   rw[nC,ZX] at n4
   refine Kd (F':={F with marks:=fs}) (z':=false) (GL:=v8) (q0:=tj 1) (um0:= .row 6 l0.length) (M0:=c6 (l0++[r])) hb rfl (fun h=>by cases h) Z7 (fun i hi=>by rw[nC];exact ZV _ hi) n4.1 k0 (by decide) k5 k6 (fun σ=>gP σ _) ?_ ?_
   ·show aX _ (.row 6 l0.length)= .row im fs.length
    simp only[aX,t6,hl0]
   ·unfold c6
    rw[tw]
    exact tT t1
  ·exact err H0 hk he hE
theorem step_mk(h:fz c F z H q im qs)(hF:mo F)(s:Bs)(v:Vb)(n:List Int)(hpa:cB s=some (v,n))(hv:ld v=false)(hs:s.length<=120):av Tryz.prog 15 [.ptr c 0,.p (.str (sB s))] H (Ad c F s H) (fun _ _=>False):=by
 cases z with
 | true=>
  have hm:=h.mz rfl
  have hqs:qs=[]:=ZB (by rw[h.ats.len,hm];rfl)
  have e:H.set im (mL true [])=H:=by
   have:H[im]? =some (mL true []):=h.mb
   apply CX
   intro i
   rw[Zv]
   split
   ·rename_i e;subst e
    rw[if_pos (Za.1 this).1,this]
   ·rfl
  have:=z6 (ps:=[]) (l:=[]) h hF s v n hpa hv hs (fun _=>rfl) (by rw[hm];rfl) (by rw[hm,hqs];rfl)
  rw[e] at this
  exact av.Se fun w I ρ hi=>⟨H,[],hi,(fun p hp=>by cases hp),this⟩
 | false=>
  refine av.Nb im (cs:=oO qs F.marks) (e:=xm) h.mb fun cs' ps US=> ?_
  obtain⟨l,rfl,hl⟩:=xp qs F.marks cs' h.ats.len US
  exact z6 h hF s v n hpa hv hs (fun h=>by cases h) hl (ve _ _ US)
theorem xz(h:fz c F z H q im qs)(hF:mo F)(s:Bs):av Tryz.prog 15 [.ptr c 0,.p (.str (sB s))] H (Ad c F s H) (fun _ _=>False):=by
 by_cases hp:s.length<=120->∀ v n,cB s=some (v,n)->ld v=true
 ·exact NQ h hF s hp
 ·have hs:s.length<=120:=Decidable.byContradiction fun hs=>hp fun h=>absurd h hs
  cases hpa:cB s with
  | none=>exact absurd (fun _ v n h=>by rw[hpa] at h;cases h) hp
  | some vn=>
   obtain⟨v,n⟩:=vn
   cases hv:ld v with
   | true=>exact absurd (fun _ v' n' h=>by rw[hpa] at h;cases h;exact hv) hp
   | false=>exact step_mk h hF s v n hpa hv hs
end
theorem Ij{pre Od:List ai}{b:bG}:jD (pre++(eo b++Od)) (tj pre.length) b:=by
 have g:∀(k:Nat) (x:ai),(eo b)[k]? =some x->(pre++(eo b++Od))[pre.length+k]? =some x:=fun k x hx=>by
  rw[Zk (by omega),ZI,Zc (Za.1 hx).1]
  exact hx
 exact⟨g 0 _ rfl,g 1 _ rfl,g 2 _ rfl,g 3 _ rfl,g 4 _ rfl⟩
theorem DH:∀(bs:List bG) (pre Od:List ai),oW (pre++(bs.flatMap eo++Od)) (j3 pre.length bs.length) bs
 | [],_,_=> .nil
 | b::bs,pre,Od=>by
  have e:pre++((b::bs).flatMap eo++Od)=pre++(eo b++(bs.flatMap eo++Od)):=by rw[ZJ,ZL]
  have h2:=DH bs (pre++eo b) Od
  rw[Zb,ZL,show(eo b).length=5 from rfl] at h2
  rw[e]
  exact .cons Ij h2
theorem lQ(pre:List ai)(F:cK)(z:Bool)(hz:z=true->F.marks=[]):fz pre.length F z (pre++bS pre.length F z) (tj (pre.length+2)) (pre.length+1) (j3 (pre.length+7) F.marks.length):=by
 have e1:pre++bS pre.length F z=(pre++[cv F.b F.aP (rD (pre.length+1) F z) (pre.length+2) (pre.length+3) (pre.length+4) (pre.length+5) (pre.length+6),Aa (j3 (pre.length+7) F.marks.length) F z])++(eo F.b++(F.marks.flatMap eo++dI (40 - 5*F.marks.length))):=by
  unfold bS
  simp only[ZL,Nf,MQ]
 have e2:pre++bS pre.length F z=(pre++[cv F.b F.aP (rD (pre.length+1) F z) (pre.length+2) (pre.length+3) (pre.length+4) (pre.length+5) (pre.length+6),Aa (j3 (pre.length+7) F.marks.length) F z]++eo F.b)++(F.marks.flatMap eo++dI (40 - 5*F.marks.length)):=by
  rw[e1];simp only[ZL]
 have g0:(pre++bS pre.length F z)[pre.length]? =some (cv F.b F.aP (rD (pre.length+1) F z) (pre.length+2) (pre.length+3) (pre.length+4) (pre.length+5) (pre.length+6)):=by
  rw[Zk (Zg _),Ox];rfl
 have g1:(pre++bS pre.length F z)[pre.length+1]? =some (Aa (j3 (pre.length+7) F.marks.length) F z):=by
  rw[Zk (by omega),ZI];rfl
 have hl:(pre.length::(pre.length+1)::((tj (pre.length+2)).l++(j3 (pre.length+7) F.marks.length).flatMap P5.l))=List.range' pre.length (7+5*F.marks.length):=by
  rw[qF,<- List.range'_append_1]
  rfl
 refine⟨g0,?_,g1,hz,?_,?_,?_⟩
 ·rw[e1]
  have:=Ij (pre:=pre++[cv F.b F.aP (rD (pre.length+1) F z) (pre.length+2) (pre.length+3) (pre.length+4) (pre.length+5) (pre.length+6),Aa (j3 (pre.length+7) F.marks.length) F z]) (Od:=F.marks.flatMap eo++dI (40 - 5*F.marks.length)) (b:=F.b)
  rw[Zb] at this
  exact this
 ·rw[e2]
  have:=DH F.marks (pre++[cv F.b F.aP (rD (pre.length+1) F z) (pre.length+2) (pre.length+3) (pre.length+4) (pre.length+5) (pre.length+6),Aa (j3 (pre.length+7) F.marks.length) F z]++eo F.b) (dI (40 - 5*F.marks.length))
  rw[Zb,Zb] at this
  exact this
 ·rw[hl];exact List.nodup_range'
 ·intro i hi
  have:i∈List.range' pre.length (7+5*F.marks.length):=by rw[<- hl];exact Zj _ hi
  exact(LX.1 this).1
theorem BJ{R:Option Nat}{N κ:Nat}{Q:Post}{T T2:Tm}{o:Oper}{ops:Array Oper}{rest:List Oper}{f:Operand}{xs:Array Operand}{ts:Array TypeId}(d:Nat)(pre:List ai)(F:cK)(z:Bool)(s:Bs)(hF:mo F)(hz:z=true->F.marks=[])(hpre:∀(i:Nat) (x:ai),pre[i]? =some x->EO (pre.length+1) x)(hκ:κ<=pre.length)
    (ho:o.op= .call {callee:= .value f,args:=xs,argTypes:=ts})(hd:o.dst=some d)(hN:bg N (some d)=true)(hg:o.guard=none)(hf:ev T f=some (.p (.func (.func 15) [] [])))(hxs:jR T xs.toList=some [.ptr pre.length 0,.p (.str (sB s))])(W6:ak Tryz.prog 15=true)(hT:Sub T2 T)(hl:eX (below (pre.length+1)) T2=T2)
    (next:∀ z',(z'=true->(aG F s).1.marks=[])->aj Tryz.prog R N κ ops rest Q ((d,tX F s)::T2) (pre++bS pre.length (aG F s).1 z')):aj Tryz.prog R N κ ops (o::rest) Q T (pre++bS pre.length F z):=by
 refine aj.fe d (xz (lQ pre F z hz) hF s) ho hd hN hg hf hxs rfl W6 (fun _ _ h=>h.elim) fun x H3 hx=> ?_
 obtain⟨rfl,⟨z',q,im,qs,hfl⟩,hlow⟩:=hx
 refine aj.to (AT hfl rfl (fun i x hi=>⟨?_,hpre i x hi⟩) hκ (T2:=(d,tX F s)::T2) ?_ ?_) (next z' hfl.mz)
 ·have:=(Za.1 hi).1
  rw[hlow i this,Zc this]
  exact hi
 ·intro s' v hv
  simp only[lk] at hv ⊢
  cases hb:Nat.beq d s' with
  | true=>rw[hb] at hv;exact hv
  | false=>rw[hb] at hv;exact hT s' v hv
 ·show(d,tX F s)::eX _ T2=_
  rw[hl]
theorem To.rot{P:Program}{κ N:Nat}{T:Tm}(A B C:List ai)(hκ:κ<=A.length):∃ σ:Nat->Option Nat,(∀ i,i<A.length->σ i=some i)∧(∀ k,k<B.length->σ (A.length+k)=some (A.length+C.length+k))∧(∀ j,j<C.length->σ (A.length+B.length+j)=some (A.length+j))∧
    To P κ N T (A++(B++C)) (eX σ T) (A.map (aE σ)++(C.map (aE σ)++B.map (aE σ))):=by
 obtain⟨ks,xh⟩:∃ ks,ks=List.range A.length++(List.range' (A.length+B.length) C.length++List.range' A.length B.length):=⟨_,rfl⟩
 have hnk:ks.Nodup:=by
  rw[xh,ZX,ZX]
  refine⟨List.nodup_range,⟨List.nodup_range',List.nodup_range',fun a ha b hb=> ?_⟩,fun a ha b hb=> ?_⟩
  ·have h1:=LX.1 ha
   have h2:=LX.1 hb
   omega
  ·have h1:=ZY.1 ha
   rcases Zp.1 hb with hb | hb
   ·have h2:=LX.1 hb;omega
   ·have h2:=LX.1 hb;omega
 have g1:∀ i,i<A.length->ks[i]? =some i:=fun i hi=>by
  exact QN
 have g2:∀ j,j<C.length->ks[A.length+j]? =some (A.length+B.length+j):=fun j hj=>by
  rw[xh,Zk (by rw[GI];omega),GI,ZI,Zc (by rw[TV];exact hj),UY hj,ZN]
 have g3:∀ k,k<B.length->ks[A.length+C.length+k]? =some (A.length+k):=fun k hk=>by
  rw[xh,Zk (by rw[GI];omega),GI,HB,ZI,Zk (by rw[TV];omega),TV,ZI,UY hk,ZN]
 refine⟨pl ks,fun i hi=>l8 hnk (g1 i hi),fun k hk=>l8 hnk (g3 k hk),fun j hj=>l8 hnk (g2 j hj),?_⟩
 have hkeep:jn κ (A++(B++C)).length ks=true:=by
  unfold jn
  simp only[Zo,beq_iff_eq,ZA,Zs]
  refine⟨⟨?_,fun i hi=> ?_⟩,hnk⟩
  ·exact P8
  ·have:i<(A++(B++C)).length:=by
     rw[Zb,Zb]
     rw[xh] at hi
     rcases Zp.1 hi with hi | hi
     ·have:=ZY.1 hi;omega
     ·rcases Zp.1 hi with hi | hi
      ·have:=LX.1 hi;omega
      ·have:=LX.1 hi;omega
   simpa[Nat.blt,Zx] using this
 have hk:=To.keep (P:=P) (κ:=κ) (N:=N) (T:=T) (H:=A++(B++C)) ks hkeep
 refine To.wg hk ?_
 have seg:∀(s n:Nat) (X:List ai),X.length=n->(∀ i,i<n->(A++(B++C))[s+i]? =X[i]?)->(List.range' s n).map (fun i=>aE (pl ks) ((A++(B++C)).getD i .dead))=X.map (aE (pl ks)):=fun s n X hX h=>by
  apply CX
  intro i
  rw[Zu,Zu]
  rcases ZT i n with hi | hi
  ·rw[UY hi,ZN]
   have hx:=Zd (show i<X.length by omega)
   show some (aE (pl ks) ((A++(B++C)).getD (s+i) .dead))=_
   rw[Ze,h i hi,hx]
   rfl
  ·rw[ZF (by rw[TV];exact hi),ZF (by omega)]
   rfl
 generalize pl ks=σ at seg ⊢
 rw[xh,ZH,ZH,List.range_eq_range',seg 0 A.length A rfl (fun i hi=>by rw[zq,Zc hi]),
  seg (A.length+B.length) C.length C rfl (fun i hi=>by rw[Zk (by omega),Zk (by omega)];congr 1;omega),
  seg A.length B.length B rfl (fun i hi=>by rw[Zk (by omega),ZI,Zc hi])]
theorem FN(l:List bG):(l.flatMap eo).length=5*l.length:=by
 induction l with
 | nil=>rfl
 | cons b l ih=>rw[ZJ,Zb,ih,Zn];show 5+_=_;omega
theorem e8{c:Nat}{F:cK}{z:Bool}(hm:F.marks.length<=8):(bS c F z).length=47:=by
 unfold bS
 rw[Zn,Zn,Zb,Zb,FN,nQ]
 show 5+_+_+1+1=47
 omega
theorem wM{σ:Nat->Option Nat}(b:bG):(eo b).map (aE σ)=eo b:=by
 unfold eo c5 cU c7 bh
 simp only[ZD,zM,bA]
theorem xT{σ:Nat->Option Nat}:∀ l:List bG,(l.flatMap eo).map (aE σ)=l.flatMap eo
 | []=>rfl
 | b::l=>by rw[ZJ,ZH,wM,xT l]
theorem x6{σ:Nat->Option Nat}:∀ r,(dI r).map (aE σ)=dI r
 | 0=>rfl
 | r+1=>by show ai.dead::(dI r).map (aE σ)=_;rw[x6 r];rfl
theorem mI{c c2:Nat}{F:cK}{z:Bool}{σ:Nat->Option Nat}(hm:F.marks.length<=8)(h:∀ k,k<47->σ (c+k)=some (c2+k)):(bS c F z).map (aE σ)=bS c2 F z:=by
 unfold bS
 rw[ZD,ZD,ZH,ZH,wM,xT,x6]
 have f1:aE σ (cv F.b F.aP (rD (c+1) F z) (c+2) (c+3) (c+4) (c+5) (c+6))=cv F.b F.aP (rD (c2+1) F z) (c2+2) (c2+3) (c2+4) (c2+5) (c2+6):=
  Ek (q:=tj (c+2)) (i:=c2+2) (by
   cases z with
   | true=>rfl
   | false=>
    have:=h 1 (by decide)
    show aX σ (.row (c+1) _)=_
    simp only[aX,this]
    rfl) fun k x hx=>by
   have hk:k<5:=(Za.1 hx).1
   have e:x=c+2+k:=by
    match k,hk with
    | 0,_=>cases hx;rfl
    | 1,_=>cases hx;rfl
    | 2,_=>cases hx;rfl
    | 3,_=>cases hx;rfl
    | 4,_=>cases hx;rfl
   rw[e,HB,h (2+k) (by omega),HB]
 have f2:aE σ (Aa (j3 (c+7) F.marks.length) F z)=Aa (j3 (c2+7) F.marks.length) F z:=by
  cases z with
  | true=>rfl
  | false=>
   show ai.row (bn _ _) _=_
   rw[yI (j3 (c+7) F.marks.length) F.marks (c2+7) (Bh _ _) fun k x hx=> ?_]
   ·rfl
   ·rw[qF] at hx
    have hk:k<5*F.marks.length:=by
     have:=(Za.1 hx).1
     rwa [TV] at this
    rw[UY hk] at hx
    cases hx
    rw[ZN,HB,h (7+k) (by omega),HB]
 rw[f1,f2]
end Go.Proofs.YtchiinjiflgepaaGreatDoor
end
