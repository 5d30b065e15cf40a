/-
 Chapter 15, the program: a floor with its marks among own blocks, at any places, and in its own order.
 Chapter 15, the program: a floor is brought into its own order.
 Chapter 15, the program: what a line does to a floor, without what its marks hold.
 Chapter 15, the program: a line that leaves the marks alone.
 Chapter 15, the program: a line that leaves the marks alone, whole.
 Chapter 15, the program: a line that leaves the marks alone, done by a floor with its marks.
 Chapter 15, the program: seven own blocks of a floor (its struct, its rows, its marks) among others; marks as exact slices.
 Chapter 15, the program: lines that set a mark, go back to one, or keep what was entered.
 Chapter 15, the program: what mark, back and keep do, as lines.
 Chapter 15, the program: what back and keep do, as lines.
 Chapter 15, the program: a floor with its marks, wherever it lies, does a line that turns its marks.
 Chapter 15, the program: a floor with its marks does any line.
 Chapter 15, the program: a floor does a line, whole.
 Chapter 15, the program: a call of Line on a floor in its own order.
 Chapter 15, the program: a floor changes its place among own blocks.
-/
import Derived.Test.YtibffijhebobmaaGreatDoorMzSE
import Derived.Test.YtibffijhebobmaaGreatDoorFaSF
theorem Da{A:Prop}(h:A:=by
 obtain⟨rfl,⟨_,_,_,_,h,_⟩ | ⟨h1,h2,h3⟩⟩:=hq
 ·exact h.elim
 ·exact mS):A:=h
theorem qn{A:Prop}(h:A:=by
 exact⟨ZP rfl,fun j x y hj hx hd hy=>by
  match j,hj with
  | 0,_=>cases hx;cases hd
  | 1,_=>cases hx;cases hy;exact hd
  | 2,_=>cases hx;cases hy;exact hd
  | 3,_=>cases hx;cases hy;exact hd
  | 4,_=>cases hx;cases hy;exact hd
  | 5,_=>cases hx;cases hy;exact hd
  | 6,_=>cases hx;cases hd⟩):A:=h
theorem qN{A:Prop}(h:A:=by
 have hi:i<n:=by
  rcases ZM i n with h | h
  ·exact h
  ·have:below n i=none:=by unfold below;rw[if_neg (by simp[Nat.blt];omega)]
   simp only[aY,this] at e
   cases e
 simp only[aY,h i hi]):A:=h
theorem DQ{A:Prop}(h:A:=by
 exact⟨ZP rfl,fun j x y hj hx hd hy=>by
  match j,hj with
  | 0,_=>cases hx;cases hd
  | 1,_=>cases hx;cases hy;exact hd
  | 2,_=>cases hx;cases hy;exact hd
  | 3,_=>cases hx;cases hy;exact hd
  | 4,_=>cases hx;cases hy;exact hd
  | 5,_=>cases hx;cases hy;exact hd
  | 6,_=>cases hy;rfl⟩):A:=h
theorem Bu{A:Prop}(h:A:=by
 exact⟨rfl,nY hk,.inl ⟨h0,fin (x:= .top) rfl hk (by rw[g3];rfl) (by rw[g3];exact⟨rfl,rfl,rfl,rfl,rfl⟩) (by rw[g3];exact⟨rfl,rfl,rfl,rfl,rfl⟩) (by rw[g3];rfl)⟩⟩):A:=h
theorem mS{A:Prop}(h:A:=by
 exact⟨rfl,h3.2.2.2,.inr ⟨h1,h2,h3⟩⟩):A:=h
theorem Cn{A:Prop}(h:A:=by
 exact⟨dh (by decide) (by decide) g1,dh (by decide) (by decide) g2,dh (by decide) (by decide) g3,dh (by decide) (by decide) g4,dh (by decide) (by decide) g5⟩):A:=h
theorem Dz{A:Prop}(h:A:=by
 rcases Zq.1 hm with hm | hm
 ·exact(hnew i Zv).2 hm
 ·exact n2 (ZG _ hm)):A:=h
theorem Du{A:Prop}(h:A:=by
 rcases Zq.1 hm with hm | hm
 ·exact ZG _ hm
 ·exact ZU _ hm):A:=h
theorem D7{A:Prop}(h:A:=by
 rw[yP,YY (by rw[Mi];exact hκ),List.take_range,Kj hκ]):A:=h
theorem A9{A:Prop}(h:A:=by
 rcases zM F.marks with h | ⟨fs,x,h⟩
 ·rw[h] at hl;simp at hl
 ·exact⟨fs,x,h⟩):A:=h
theorem Df{A:Prop}(h:A:=by
 rw[yP,Zd (by rw[Mi];exact hi),Ye hi]):A:=h
set_option linter.unusedSimpArgs false
set_option linter.unusedVariables false
section
set_option maxRecDepth 100000
namespace Go.Proofs.YtibffijhebobmaaGreatDoor
open Go.AF
mutual
theorem nQ{n:Nat}{σ:Nat->Option Nat}(h:∀ i,i<n->σ i=some i):∀ v:V,aY (below n) v=v->aY σ v=v
 | .p _,_=>rfl
 | .ptr i off,e=>by
  exact qN
 | .row i len,e=>by
  exact qN
 | .sl i off len,e=>by
  exact qN
 | .map i,e=>by
  exact qN
 | .func fn fi ca,e=>by
  simp only[aY,V.func.injEq,true_and] at e ⊢
  exact⟨iM h fi e.1,iM h ca e.2⟩
 | .iface t v,e=>by
  simp only[aY,V.iface.injEq,true_and] at e ⊢
  exact nQ h v e
 | .agg cs,e=>by
  simp only[aY,V.agg.injEq] at e ⊢
  exact iM h cs e
 | .tuple cs,e=>by
  simp only[aY,V.tuple.injEq] at e ⊢
  exact iM h cs e
 | .opt g v,e=>by
  simp only[aY,V.opt.injEq,true_and] at e ⊢
  exact nQ h v e
 | .raw _ _ _,_=>rfl
 | .z0,_=>rfl
 | .top,_=>rfl
theorem iM{n:Nat}{σ:Nat->Option Nat}(h:∀ i,i<n->σ i=some i):∀ vs:List V,bw (below n) vs=vs->bw σ vs=vs
 | [],_=>rfl
 | v::vs,e=>by
  simp only[bw,List.cons.injEq] at e ⊢
  exact⟨nQ h v e.1,iM h vs e.2⟩
end
theorem Ef{n:Nat}{σ:Nat->Option Nat}(h:∀ i,i<n->σ i=some i):∀ T:Tm,eV (below n) T=T->eV σ T=T
 | [],_=>rfl
 | (s,v)::T,e=>by
  simp only[eV,List.cons.injEq,Prod.mk.injEq,true_and] at e ⊢
  exact⟨nQ h v e.1,Ef h T e.2⟩
def IE(n:Nat):ai->Prop
 | .cells cs _=>bw (below n) cs=cs
 | .row cs _=>bw (below n) cs=cs
 | .gZ cs _=>bw (below n) cs=cs
 | .loop r _ _=>eV (below n) r.T=r.T
 | .dead=>True
 | _=>False
theorem Ow{n:Nat}{σ:Nat->Option Nat}(h:∀ i,i<n->σ i=some i){x:ai}(e:IE n x):aH σ x=x:=by
 cases x with
 | cells cs t=>show ai.cells (bw σ cs) t=_;rw[iM h cs e]
 | row cs t=>show ai.row (bw σ cs) t=_;rw[iM h cs e]
 | gZ cs t=>show ai.gZ (bw σ cs) t=_;rw[iM h cs e]
 | loop r st pe=>show ai.loop {r with T:=eV σ r.T} st pe=_;rw[Ef h r.T e]
 | dead=>rfl
 | _=>exact e.elim
theorem mF{ks:List Nat}(hn:ks.Nodup){j i:Nat}(h:ks[j]? =some i):pl ks i=some j:=by
 have hj:=(Za.1 h).1
 have e:=(Za.1 h).2
 unfold pl List.idxOf?
 rw[ZaS]
 refine⟨hj,by simp[e],fun k hk=> ?_⟩
 intro hc
 have hc:ks[k]=i:=by simpa using hc
 have:k=j:=(X0 (by omega) hn).1 (by rw[Zb (by omega),hc,h])
 omega
structure P5 where
 a:Nat
 b:Nat
 c:Nat
 d:Nat
 e:Nat
def P5.l(q:P5):List Nat:=[q.a,q.b,q.c,q.d,q.e]
def tC(q:P5)(b:bI):List V:=di q.a q.b q.c q.d q.e b
def eM(b:bI):List ai:=[c7 b.aq,cY b.ag,c8 b.au,bu b.plan,bu b.b9]
def uD(i:Nat):P5:=⟨i,i+1,i+2,i+3,i+4⟩
def pQ:List P5->List bI->List V
 | q::qs,b::bs=>tC q b++pQ qs bs
 | _,_=>[]
def kj(i:Nat):Nat->List P5
 | 0=>[]
 | n+1=>uD i::kj (i+5) n
def sI(im:Nat)(F:bT)(z:Bool):V:=bif z then .z0 else .row im F.marks.length
def D1(qs:List P5)(F:bT)(z:Bool):ai:=bif z then .dead else .row (pQ qs F.marks) y6
def bH(c:Nat)(F:bT)(z:Bool):List ai:=cB F.b F.aT (sI (c+1) F z) (c+2) (c+3) (c+4) (c+5) (c+6)::D1 (kj (c+7) F.marks.length) F z::(eM F.b++F.marks.flatMap eM++dG (40 - 5*F.marks.length))
def jT(H:List ai)(q:P5)(b:bI):Prop:=H[q.a]? =some (c7 b.aq)∧H[q.b]? =some (cY b.ag)∧H[q.c]? =some (c8 b.au)∧H[q.d]? =some (bu b.plan)∧H[q.e]? =some (bu b.b9)
inductive qE (H:List ai):List P5->List bI->Prop
 | nil:qE H [] []
 | cons {q:P5} {b:bI} {qs:List P5} {bs:List bI} (h:jT H q b) (t:qE H qs bs):qE H (q::qs) (b::bs)
structure e8 (c:Nat) (F:bT) (z:Bool) (H:List ai) (q:P5) (im:Nat) (qs:List P5):Prop where
 fl:H[c]? =some (cB F.b F.aT (sI im F z) q.a q.b q.c q.d q.e)
 a5:jT H q F.b
 mb:H[im]? =some (D1 qs F z)
 mz:z=true->F.marks=[]
 ats:qE H qs F.marks
 nd:(c::im::(q.l++qs.flatMap P5.l)).Nodup
 low:∀ i∈(im::(q.l++qs.flatMap P5.l)),c<=i
theorem qE.len{H:List ai}{qs:List P5}{bs:List bI}(h:qE H qs bs):qs.length=bs.length:=by
 induction h with
 | nil=>rfl
 | cons _ _ ih=>rw[Zo,Zo,ih]
theorem sS:∀(r i:Nat),i<r->(dG r)[i]? =some .dead
 | 0,i,h=>by omega
 | r+1,0,_=>rfl
 | r+1,i+1,h=>sS r i (by omega)
theorem oz:∀ r,(dG r).length=r
 | 0=>rfl
 | r+1=>by show(dG r).length+1=_;rw[oz r]
theorem rM{σ:Nat->Option Nat}{H:List ai}{q:P5}{b:bI}(h:jT H q b):q.l.map (fun i=>aH σ (H.getD i .dead))=eM b:=by
 obtain⟨h1,h2,h3,h4,h5⟩:=h
 have g:∀{i:Nat} {x:ai},H[i]? =some x->H.getD i .dead=x:=fun hx=>by rw[Ze,hx];rfl
 show[aH σ (H.getD q.a .dead),aH σ (H.getD q.b .dead),aH σ (H.getD q.c .dead),aH σ (H.getD q.d .dead),aH σ (H.getD q.e .dead)]=_
 rw[g h1,g h2,g h3,g h4,g h5]
 simp only[c7,cY,c8,bu,bC]
 rfl
theorem JO{σ:Nat->Option Nat}{H:List ai}{qs:List P5}{bs:List bI}(h:qE H qs bs):(qs.flatMap P5.l).map (fun i=>aH σ (H.getD i .dead))=bs.flatMap eM:=by
 induction h with
 | nil=>rfl
 | cons h _ ih=>rw[ZI,ZC,rM h,ih,ZI]
theorem HG{σ:Nat->Option Nat}{q:P5}{b:bI}{i:Nat}(h:∀(k x:Nat),q.l[k]? =some x->σ x=some (i+k)):bw σ (tC q b)=tC (uD i) b:=by
 unfold tC di
 simp only[bK,b8,dV,cC (h 0 q.a rfl),cC (h 1 q.b rfl),cC (h 2 q.c rfl),cC (h 3 q.d rfl),cC (h 4 q.e rfl)]
 rfl
theorem Ay{σ:Nat->Option Nat}:∀(qs:List P5) (bs:List bI) (i:Nat),qs.length=bs.length->(∀(k x:Nat),(qs.flatMap P5.l)[k]? =some x->σ x=some (i+k))->bw σ (pQ qs bs)=pQ (kj i bs.length) bs
 | [],[],_,_,_=>rfl
 | q::qs,b::bs,i,hl,h=>by
  show bw σ (tC q b++pQ qs bs)=tC (uD i) b++pQ (kj (i+5) bs.length) bs
  rw[bF,HG (i:=i) fun k x hk=>h k x (by
   rw[ZI,Zd (Za.1 hk).1];exact hk),Ay qs bs (i+5) (by simpa using hl) fun k x hk=>by
   have:=h (5+k) x (by rw[ZI,Zj (by show 5<=5+k;omega),show 5+k - q.l.length=k by show 5+k - 5=k;omega];exact hk)
   rw[this,Mz]]
 | [],_::_,_,hl,_=>by cases hl
 | _::_,[],_,hl,_=>by cases hl
theorem G0{σ:Nat->Option Nat}{b:bI}{p:Di.bJ}{um oO:V}{q:P5}{i:Nat}(hu:aY σ um=oO)(h:∀(k x:Nat),q.l[k]? =some x->σ x=some (i+k)):aH σ (cB b p um q.a q.b q.c q.d q.e)=cB b p oO i (i+1) (i+2) (i+3) (i+4):=by
 unfold cB
 rw[bR,bF,bF,aX]
 have e:=HG (σ:=σ) (b:=b) (i:=i) h
 unfold tC at e
 rw[e]
 simp only[bK,b8,dV,hu]
 rfl
theorem jT.lt{H:List ai}{q:P5}{b:bI}(h:jT H q b):∀ i∈q.l,i<H.length:=by
 obtain⟨h1,h2,h3,h4,h5⟩:=h
 intro i hi
 simp only[P5.l,Zw,R5,or_false] at hi
 rcases hi with rfl | rfl | rfl | rfl | rfl
 ·exact(Za.1 h1).1
 ·exact(Za.1 h2).1
 ·exact(Za.1 h3).1
 ·exact(Za.1 h4).1
 ·exact(Za.1 h5).1
theorem qE.lt{H:List ai}{qs:List P5}{bs:List bI}(h:qE H qs bs):∀ i∈qs.flatMap P5.l,i<H.length:=by
 induction h with
 | nil=>intro i hi;cases hi
 | cons h _ ih=>
  intro i hi
  rw[ZI] at hi
  rcases Zq.1 hi with hi | hi
  ·exact h.lt i hi
  ·exact ih i hi
theorem wU{P:Program}{κ N c:Nat}{T T2:Tm}{F:bT}{z:Bool}{H pre:List ai}{q:P5}{im:Nat}{qs:List P5}(h:e8 c F z H q im qs)(hc:pre.length=c)(hpre:∀(i:Nat) (x:ai),pre[i]? =some x->H[i]? =some x∧IE (c+1) x)(hκ:κ<=c)(hT:Sub T2 T)(hl:eV (below (c+1)) T2=T2):To P κ N T H T2 (pre++bH c F z):=by
 obtain⟨r,er⟩:∃ r,r=40 - 5*F.marks.length:=⟨_,rfl⟩
 obtain⟨A,eA⟩:∃ A,A=c::im::(q.l++qs.flatMap P5.l):=⟨_,rfl⟩
 obtain⟨ks,yP⟩:∃ ks,ks=List.range c++(A++List.range' H.length r):=⟨_,rfl⟩
 have hcl:c<H.length:=(Za.1 h.fl).1
 have Rt:∀ i∈A,c<=i∧i<H.length:=by
  rw[eA]
  intro i hi
  rcases Zw.1 hi with rfl | hi
  ·exact⟨Zf _,hcl⟩
  ·refine⟨h.low i hi,?_⟩
   rcases Zw.1 hi with rfl | hi
   ·exact(Za.1 h.mb).1
   ·rcases Zq.1 hi with hi | hi
    ·exact h.a5.lt i hi
    ·exact h.ats.lt i hi
 have hnA:A.Nodup:=by rw[eA];exact h.nd
 have hnk:ks.Nodup:=by
  rw[yP,ZW,ZW]
  refine⟨List.nodup_range,⟨hnA,List.nodup_range',fun a ha b hb=> ?_⟩,fun a ha b hb=> ?_⟩
  ·have h1:=(Rt a ha).2
   have h2:=(OZ.1 hb).1
   omega
  ·have h1:=ZZ.1 ha
   rcases Zq.1 hb with hb | hb
   ·have:=(Rt b hb).1;omega
   ·have h2:=(OZ.1 hb).1
    omega
 have gi:∀ i,i<c->ks[i]? =some i:=fun i hi=>by
  exact Df
 have gA:∀(k x:Nat),A[k]? =some x->ks[c+k]? =some x:=fun k x hx=>by
  rw[yP,Zj (by rw[Mi];omega),Mi,ZH,Zd (Za.1 hx).1]
  exact hx
 have pi:∀ i,i<c->pl ks i=some i:=fun i hi=>mF hnk (gi i hi)
 have pA:∀(k x:Nat),A[k]? =some x->pl ks x=some (c+k):=fun k x hx=>mF hnk (gA k x hx)
 have pc:pl ks c=some c:=by have:=pA 0 c (by rw[eA];rfl);rwa [Kb] at this
 have pm:pl ks im=some (c+1):=pA 1 im (by rw[eA];rfl)
 have pq:∀(k x:Nat),q.l[k]? =some x->pl ks x=some (c+2+k):=fun k x hx=>by
  have:=pA (2+k) x (by rw[eA,Wl 2 k];show(q.l++qs.flatMap P5.l)[k]? =some x;rw[Zd (Za.1 hx).1];exact hx)
  rw[this,Mz]
 have pqs:∀(k x:Nat),(qs.flatMap P5.l)[k]? =some x->pl ks x=some (c+7+k):=fun k x hx=>by
  have:=pA (7+k) x (by rw[eA,show 7+k=5+k+2 by omega];show(q.l++qs.flatMap P5.l)[5+k]? =some x;rw[Zj (by show 5<=5+k;omega),show 5+k - q.l.length=k by show 5+k - 5=k;omega];exact hx)
  rw[this,Mz]
 have XW:∀ i,i<c+1->pl ks i=some i:=fun i hi=>by
  rcases ZM i c with h | h
  ·exact pi i h
  ·obtain rfl:i=c:=by omega
   exact pc
 have hd:∀ i,i<H.length->(H++dG r).getD i .dead=H.getD i .dead:=fun i hi=>by
  rw[Ze,Ze,Zd hi]
 have hkeep:jK κ (H++dG r).length ks=true:=by
  unfold jK
  simp only[Zm,beq_iff_eq,Zz,Zn]
  refine⟨⟨?_,fun i hi=> ?_⟩,hnk⟩
  ·exact D7
  ·have:i<(H++dG r).length:=by
     rw[Zc,oz]
     rw[yP] at hi
     rcases Zq.1 hi with hi | hi
     ·have:=ZZ.1 hi;omega
     ·rcases Zq.1 hi with hi | hi
      ·have:=(Rt i hi).2;omega
      ·have:=(OZ.1 hi).2;omega
   simpa[Nat.blt,Zx] using this
 have hmap:(ks.map fun i=>aH (pl ks) ((H++dG r).getD i .dead))=pre++bH c F z:=by
  have e1:(List.range c).map (fun i=>aH (pl ks) ((H++dG r).getD i .dead))=pre:=by
   apply Fm
   intro i
   rw[Zs]
   rcases ZM i c with hi | hi
   ·rw[Ye hi]
    have hx:=Zb (show i<pre.length by omega)
    obtain⟨h1,h2⟩:=hpre i _ hx
    rw[hx]
    show some (aH (pl ks) ((H++dG r).getD i .dead))=_
    rw[hd i (Za.1 h1).1,Ze,h1]
    exact congrArg some (Ow XW h2)
   ·rw[ZF (by rw[Mi];exact hi),ZF (by omega)]
    rfl
  have e2:A.map (fun i=>aH (pl ks) ((H++dG r).getD i .dead))=A.map (fun i=>aH (pl ks) (H.getD i .dead)):=Wk fun i hi=>by rw[hd i (Rt i hi).2]
  have e3:A.map (fun i=>aH (pl ks) (H.getD i .dead))=cB F.b F.aT (sI (c+1) F z) (c+2) (c+3) (c+4) (c+5) (c+6)::D1 (kj (c+7) F.marks.length) F z::(eM F.b++F.marks.flatMap eM):=by
   rw[eA,ZD,ZD,ZC,rM h.a5,JO h.ats]
   have f1:H.getD c .dead=cB F.b F.aT (sI im F z) q.a q.b q.c q.d q.e:=by rw[Ze,h.fl];rfl
   have f2:H.getD im .dead=D1 qs F z:=by rw[Ze,h.mb];rfl
   rw[f1,f2,G0 (oO:=sI (c+1) F z) (i:=c+2) (by
    cases z with
    | true=>rfl
    | false=>show aY _ (.row im _)=_;simp only[aY,pm];rfl) pq]
   have f3:aH (pl ks) (D1 qs F z)=D1 (kj (c+7) F.marks.length) F z:=by
    cases z with
    | true=>rfl
    | false=>show ai.row (bw _ _) _=_;rw[Ay qs F.marks (c+7) h.ats.len pqs];rfl
   rw[f3]
  have e4:(List.range' H.length r).map (fun i=>aH (pl ks) ((H++dG r).getD i .dead))=dG r:=by
   apply Fm
   intro i
   rw[Zs]
   rcases ZM i r with hi | hi
   ·rw[Ws hi,sS r i hi]
    show some (aH (pl ks) ((H++dG r).getD (H.length+1*i) .dead))=_
    rw[Ze,ZL,Zj (by omega),ZH,sS r i hi]
    rfl
   ·rw[ZF (by rw[TK];exact hi),ZF (by rw[oz];exact hi)]
    rfl
  rw[yP] at e1 e2 e3 e4 ⊢
  rw[ZC,ZC,e1,e2,e3,e4,er]
  unfold bH
  simp only[Po,ZQ]
 have hk:=To.keep (P:=P) (κ:=κ) (N:=N) (T:=T) (H:=H++dG r) ks hkeep
 rw[hmap] at hk
 refine(To.RN r).trans (hk.trans (To.sub fun s v hv=> ?_))
 rw[rE,hT s v hv]
 have h2:lk (eV (below (c+1)) T2) s=some v:=by rw[hl];exact hv
 rw[rE,hv] at h2
 exact congrArg some (nQ XW v (Zy h2))
theorem Eb:∀(n i:Nat),(kj i n).length=n
 | 0,_=>rfl
 | n+1,i=>by show(kj (i+5) n).length+1=_;rw[Eb n]
theorem tc:∀(n i:Nat),(kj i n).flatMap P5.l=List.range' i (5*n)
 | 0,_=>rfl
 | n+1,i=>by
  show(uD i).l++(kj (i+5) n).flatMap P5.l=_
  rw[tc n,show 5*(n+1)=5+5*n by omega,<- List.range'_append_1]
  rfl
def Kr(b:bI)(p:Di.bJ)(um:V)(k:Nat)(H:List ai):Prop:=∃ q:P5,(k::q.l).Nodup∧H[k]? =some (cB b p um q.a q.b q.c q.d q.e)∧jT H q b
def P5.map(f:Nat->Nat)(q:P5):P5:=⟨f q.a,f q.b,f q.c,f q.d,f q.e⟩
theorem P5.uI(f:Nat->Nat)(q:P5):(q.map f).l=q.l.map f:=rfl
theorem iK{H H0:List ai}{ks:List Nat}{q:P5}{b:bI}(hn:ks.Nodup)(hl:ks.length<=H0.length)(hlt:∀ i∈ks,i<H.length)(h:jT H0 q b):jT (bg H ks H0) (q.map (mJ H ks)) b:=by
 obtain⟨h1,h2,h3,h4,h5⟩:=h
 have g:∀{i n:Nat} {cs:List PV} {e:TypeId},H0[i]? =some (dA (cs.map .p) e n)->(bg H ks H0)[mJ H ks i]? =some (dA (cs.map .p) e n):=fun hx=>by
  rw[rO hn hl hlt hx,bC]
 exact⟨g h1,g h2,g h3,g h4,g h5⟩
theorem uF{H H0:List ai}{ks:List Nat}{q:P5}{b:bI}(hK:fQ H ks H0)(h:jT H0 q b):bw (dR H ks) (tC q b)=tC (q.map (mJ H ks)) b:=by
 obtain⟨h1,h2,h3,h4,h5⟩:=h
 unfold tC di
 simp only[bK,b8,dV]
 rw[nh hK h1,nh hK h2,nh hK h3,nh hK h4,nh hK h5]
 rfl
theorem lD{H H0:List ai}{ks:List Nat}{q:P5}{b:bI}{p:Di.bJ}{um oO:V}(hK:fQ H ks H0)(h:jT H0 q b)(hu:aY (dR H ks) um=oO):aH (dR H ks) (cB b p um q.a q.b q.c q.d q.e)=cB b p oO (mJ H ks q.a) (mJ H ks q.b) (mJ H ks q.c) (mJ H ks q.d) (mJ H ks q.e):=by
 unfold cB
 rw[bR,bF,bF,aX]
 have e:=uF hK h
 unfold tC at e
 rw[e]
 simp only[bK,b8,dV,hu]
 rfl
theorem wO{H:List ai}{ks:List Nat}{j i:Nat}(h:ks[j]? =some i):mJ H ks j=i:=by
 unfold mJ
 rw[h]
theorem Kr.back{H H0:List ai}{ks:List Nat}{k k2:Nat}{b:bI}{p:Di.bJ}{um oO:V}(h:Kr b p um k H0)(hn:ks.Nodup)(hK:fQ H ks H0)(hlt:∀ i∈ks,i<H.length)(hk:ks[k]? =some k2)(hu:aY (dR H ks) um=oO):Kr b p oO k2 (bg H ks H0):=by
 obtain⟨q,h1,h2,h3⟩:=h
 refine⟨q.map (mJ H ks),?_,?_,iK hn hK.1 hlt h3⟩
 ·have:=sF (H:=H) hn hlt h1
  rw[ZD,wO hk] at this
  exact this
 ·have:=rO hn hK.1 hlt h2
  rw[wO hk,lD hK h3 hu] at this
  exact this
theorem Kr.set{H:List ai}{k i:Nat}{b:bI}{p:Di.bJ}{um:V}{x y:ai}(h:Kr b p um k H)(hi:H[i]? =some x)(hne:i≠k)(hx:∀ q:P5,jT H q b->i∉q.l):Kr b p um k (H.set i y):=by
 obtain⟨q,h1,h2,h3⟩:=h
 have hq:=hx q h3
 simp only[P5.l,Zw,R5,or_false,not_or] at hq
 obtain⟨k1,k2,k3,k4,k5⟩:=h3
 exact⟨q,h1,bQ hne h2,bQ hq.1 k1,bQ hq.2.1 k2,bQ hq.2.2.1 k3,bQ hq.2.2.2.1 k4,bQ hq.2.2.2.2 k5⟩
theorem LX{H:List ai}{ks:List Nat}{q:P5}{b:bI}{p:Di.bJ}{um oO:V}(hn:ks.Nodup)(h1:ks[1]? =some q.a)(h2:ks[2]? =some q.b)(h3:ks[3]? =some q.c)(h4:ks[4]? =some q.d)(h5:ks[5]? =some q.e)(h:jT H q b)(hu:aY (oD H ks) um=oO):aH (oD H ks) (cB b p um q.a q.b q.c q.d q.e)=cB b p oO 1 2 3 4 5:=by
 obtain⟨g1,g2,g3,g4,g5⟩:=h
 have gd:∀{i:Nat} {x:ai},H[i]? =some x->H.getD i .dead=x:=fun hx=>by rw[Ze,hx];rfl
 unfold cB di
 rw[bR,bF,bF,aX]
 simp only[bK,b8,dV,hu]
 rw[gB (mF hn h1) (gd g1),gB (mF hn h2) (gd g2),gB (mF hn h3) (gd g3),gB (mF hn h4) (gd g4),gB (mF hn h5) (gd g5)]
theorem MP{H:List ai}{k:Nat}{q:P5}{b:bI}{p:Di.bJ}{um oO:V}(hn:(k::q.l).Nodup)(h0:H[k]? =some (cB b p um q.a q.b q.c q.d q.e))(h:jT H q b)(hu:aY (oD H (k::q.l)) um=oO):((k::q.l).map fun i=>aH (oD H (k::q.l)) (H.getD i .dead))=mO b p oO:=by
 have gd:∀{i:Nat} {x:ai},H[i]? =some x->H.getD i .dead=x:=fun hx=>by rw[Ze,hx];rfl
 rw[ZD,rM h,gd h0,LX hn rfl rfl rfl rfl rfl h hu]
 rfl
def wV(b:bI)(p:Di.bJ)(um:V)(H:List ai):Prop:=6<=H.length∧∀(j:Nat) (x y:ai),0<j->j<6->(mO b p um)[j]? =some x->x.live=false->H[j]? =some y->y.live=false
theorem Eh.dead{b:bI}{p:Di.bJ}{um:V}{H:List ai}(h:Eh b p um H):wV b p um H:=⟨h.1,fun j x y h0 h6 hx hl hy=>by
 rcases h.2 j y h0 h6 hy with rfl | h2
 ·rfl
 ·rw[hx] at h2;cases h2;exact hl⟩
theorem wV.k{b:bI}{p:Di.bJ}{oO:V}{H H0:List ai}{k:Nat}{q:P5}{x0:ai}(h:wV b p oO H0)(h0:H[k]? =some x0)(hl0:x0.live=true)(ha:jT H q b):fQ H (k::q.l) H0:=by
 refine⟨h.1,fun j i y hk hl hy=> ?_⟩
 have gd:∀{i:Nat} {x:ai},H[i]? =some x->H.getD i .dead=x:=fun hx=>by rw[Ze,hx];rfl
 obtain⟨g1,g2,g3,g4,g5⟩:=ha
 have hj:j<6:=(Za.1 hk).1
 match j,hj with
 | 0,_=>cases hk;rw[gd h0,hl0] at hl;cases hl
 | 1,_=>cases hk;rw[gd g1] at hl;exact h.2 1 _ y (by decide) (by decide) rfl hl hy
 | 2,_=>cases hk;rw[gd g2] at hl;exact h.2 2 _ y (by decide) (by decide) rfl hl hy
 | 3,_=>cases hk;rw[gd g3] at hl;exact h.2 3 _ y (by decide) (by decide) rfl hl hy
 | 4,_=>cases hk;rw[gd g4] at hl;exact h.2 4 _ y (by decide) (by decide) rfl hl hy
 | 5,_=>cases hk;rw[gd g5] at hl;exact h.2 5 _ y (by decide) (by decide) rfl hl hy
theorem At6.q{b:bI}{p:Di.bJ}{um:V}{H:List ai}(h:At6 b p um H):Kr b p um 0 H:=by
 obtain⟨i1,i2,i3,i4,i5,h0,h1,h2,h3,h4,h5,h6⟩:=h
 exact⟨⟨i1,i2,i3,i4,i5⟩,h0,h1,h2,h3,h4,h5,h6⟩
def aau(F:bT)(x:bT×Bs×Int):Prop:=x.2.2≠0->x=(F,[],x.2.2)
theorem aa4(F:bT)(v:Vb)(n:List Int):aau F (bp F v n):=by
 cases v <;> unfold bp <;> dsimp only <;> (repeat' split) <;> (intro h;first | rfl | exact absurd rfl h)
theorem Gn{F:bT}{v:Vb}{n:List Int}(h:(bp F v n).2.2≠0):bp F v n=(F,[],(bp F v n).2.2):=aa4 F v n h
theorem qy{cs:List V}{e n:Nat}{xs:List V}{t:TypeId}:(dA cs e n:ai)≠ .cells xs t:=by
 cases n <;> (intro h;cases h)
theorem Gz{H:List ai}{q:P5}{b:bI}{i:Nat}{xs:List V}{t:TypeId}(hi:H[i]? =some (.cells xs t))(h:jT H q b):i∉q.l:=by
 obtain⟨h1,h2,h3,h4,h5⟩:=h
 intro hm
 simp only[P5.l,Zw,R5,or_false] at hm
 rcases hm with rfl | rfl | rfl | rfl | rfl
 ·rw[hi] at h1;exact qy (Zy h1).symm
 ·rw[hi] at h2;exact qy (Zy h2).symm
 ·rw[hi] at h3;exact qy (Zy h3).symm
 ·rw[hi] at h4;exact qy (Zy h4).symm
 ·rw[hi] at h5;exact qy (Zy h5).symm
def VQ7(F:bT)(v:Vb)(n:List Int)(um:V):V->List ai->Prop:=fun r H2=>(bp F v n).2.2=0∧r= .p (.str (sB (bp F v n).2.1))∧Kr (bp F v n).1.b F.aT um 0 H2∧bW (fq F.b F.aT um .dead) H2
def VP7(F:bT)(v:Vb)(n:List Int)(um:V):PV->List ai->Prop:=fun y H2=>(bp F v n).2.2≠0∧y= .iface 94 (.agg [.int .i64 (bp F v n).2.2])∧(∃ cs:List V,cs.length=7∧H2[0]? =some (.cells (cs++F.aT.cells.map .p++[um,.p (.bool true)]) 87))∧bW (fq F.b F.aT um .dead) H2
theorem Gs{b:bI}{p:Di.bJ}{um:V}{H0:List ai}(h:wV b p um H0):bW (fq b p um .dead) (bg (fq b p um .dead) [0,1,2,3,4,5] H0):=by
 have hl:(6:Nat)<=H0.length:=h.1
 refine⟨by rw[rY (ks:=[0,1,2,3,4,5]) hl];show 7<=7+_;omega,fun j x y hj hx hd hy=> ?_⟩
 have hin:∀ j,0<j->j<6->([0,1,2,3,4,5]:List Nat)[j]? =some j->(mO b p um)[j]? =some x->(bg (fq b p um .dead) [0,1,2,3,4,5] H0)[j]? =some y->y.live=false:=fun j h0 h6 hk hx hy=>by
  have hj0:j<H0.length:=by omega
  have e:=fk (H:=fq b p um .dead) (ks:=[0,1,2,3,4,5]) (by decide) hl hk (show j<7 by omega) (Zb hj0)
  rw[hy] at e
  rw[Zy e,b7]
  exact h.2 j x _ h0 h6 hx hd (Zb hj0)
 match j,hj with
 | 0,_=>cases hx;cases hd
 | 1,_=>exact hin 1 (by decide) (by decide) rfl hx hy
 | 2,_=>exact hin 2 (by decide) (by decide) rfl hx hy
 | 3,_=>exact hin 3 (by decide) (by decide) rfl hx hy
 | 4,_=>exact hin 4 (by decide) (by decide) rfl hx hy
 | 5,_=>exact hin 5 (by decide) (by decide) rfl hx hy
 | 6,_=>
  have e:=dz (H:=fq b p um .dead) (ks:=[0,1,2,3,4,5]) (H0:=H0) (i:=6) (by decide) hl Kn (by decide)
  rw[hy] at e
  rw[Zy e];rfl
theorem VC.to7{v:Vb}{g:FuncId}(h:VC v g)(F:bT)(n:List Int)(a:Option Addr)(m c:Nat)(hF:kO F)(hl:n.length=v.many)(hn:∀ x∈n,0<=x∧x<10000000000000):ay Tryz.prog g [.ptr 0 0,.p (Di.bh n)] (fq F.b F.aT (.raw a m c) .dead) (VQ7 F v n (.raw a m c)) (VP7 F v n (.raw a m c)):=by
 have a5:jT (fq F.b F.aT (.raw a m c) .dead) (uD 1) F.b:=⟨rfl,rfl,rfl,rfl,rfl⟩
 have kk:∀{H0:List ai},wV F.b F.aT (.raw a m c) H0->fQ (fq F.b F.aT (.raw a m c) .dead) [0,1,2,3,4,5] H0:=fun hd=>hd.k (k:=0) (q:=uD 1) rfl rfl a5
 have hf:=(h F n a m c hF hl hn).zy (H:=fq F.b F.aT (.raw a m c) .dead) (args:=[.ptr 0 0,.p (Di.bh n)]) [0,1,2,3,4,5] rfl (MP (k:=0) (q:=uD 1) (by decide) rfl a5 rfl) rfl (fun v0 H0 hq=>kk hq.2.2.2.dead) (fun y H0 hq=>kk hq.2.2.2.dead)
 refine hf.mono (fun r H2 hq=> ?_) (fun y H2 hq=> ?_)
 ·obtain⟨v0,H0,⟨h1,rfl,h3,h4⟩,rfl,rfl⟩:=hq
  refine⟨h1,rfl,(h3.q).back (by decide) (kk h4.dead) (fun i hi=> ?_) rfl rfl,Gs h4.dead⟩
  have:i<6:=by simp at hi;omega
  show i<7
  omega
 ·obtain⟨H0,⟨h1,rfl,⟨cs,hc,h3⟩,h4⟩,rfl⟩:=hq
  refine⟨h1,rfl,⟨bw (dR (fq F.b F.aT (.raw a m c) .dead) [0,1,2,3,4,5]) cs,by rw[dy];exact hc,?_⟩,Gs h4.dead⟩
  have e:=fk (H:=fq F.b F.aT (.raw a m c) .dead) (ks:=[0,1,2,3,4,5]) (j:=0) (i:=0) (by decide) h4.1 rfl Kn h3
  rw[e,vc rfl]
def lT(v:Vb):Bool:=match v with
 | .mark=>false
 | .back=>false
 | .keep=>false
 | _=>true
theorem V4(v:Vb)(h:lT v=true):VC v (kC v):=by
 cases v <;> first | cases h | skip
 ·exact Vu
 ·exact U2
 ·exact Ut
 ·exact NP
 ·exact WX
 ·exact TP
 ·exact Pr
 ·exact Ui
 ·exact TT
 ·exact Ul
theorem iC{H:List ai}{b:bI}{p:Di.bJ}{um:V}{e:Int}{j:Nat}(h0:j≠0)(h8:j≠8)(h9:j≠9)(hj:j<H.length):(gF H b p um e)[j]? =H[j]? :=by
 unfold gF
 rw[Zt,if_neg (Ne.symm h9),Zt,if_neg (Ne.symm h8),Zt,if_neg (Ne.symm h0),Zd hj]
theorem Ia{H:List ai}{b:bI}{p:Di.bJ}{um:V}{e:Int}:(gF H b p um e)[0]? =some (cB b p um 13 12 14 15 16):=by
 unfold gF
 refine bQ (by decide) (bQ (by decide) ?_)
 rw[Zt,if_pos rfl,if_pos (by simp)]
theorem tr{H:List ai}{b:bI}{p:Di.bJ}{um:V}{e:Int}:(gF H b p um e).length=H.length+1:=by
 unfold gF
 simp
def GJ(n:Nat)(H0 H:List ai):Prop:=∀(j:Nat) (x y:ai),0<j->j<n->H0[j]? =some x->x.live=false->H[j]? =some y->y.live=false
theorem DS{H:List ai}{b:bI}{p:Di.bJ}{um:V}{e:Int}(hl:17<H.length)(h5:jT H ⟨13,12,14,15,16⟩ b):Kr b p um 0 (gF H b p um e):=by
 obtain⟨h1,h2,h3,h4,h6⟩:=h5
 refine⟨⟨13,12,14,15,16⟩,by decide,Ia,?_,?_,?_,?_,?_⟩
 ·rw[iC (by decide) (by decide) (by decide) (show 13<H.length by omega)];exact h1
 ·rw[iC (by decide) (by decide) (by decide) (show 12<H.length by omega)];exact h2
 ·rw[iC (by decide) (by decide) (by decide) (show 14<H.length by omega)];exact h3
 ·rw[iC (by decide) (by decide) (by decide) (show 15<H.length by omega)];exact h4
 ·rw[iC (by decide) (by decide) (by decide) (show 16<H.length by omega)];exact h6
theorem o9{H H0:List ai}{b:bI}{p:Di.bJ}{um:V}{e:Int}{n:Nat}(hn:n<=8)(hl:17<H.length)(h:GJ n H0 H):GJ n H0 (gF H b p um e):=fun j x y h0 h6 hx hd hy=>by
 rw[iC (by omega) (by omega) (by omega) (by omega)] at hy
 exact h j x y h0 h6 hx hd hy
def lX(b:bI)(p:Di.bJ)(um:V)(M X:ai):List ai:=LH b p um M++[X]
theorem Q1(b:bI)(p:Di.bJ)(um:V)(M X:ai):jT (lX b p um M X) ⟨13,12,14,15,16⟩ b:=⟨rfl,rfl,rfl,rfl,rfl⟩
theorem Bg{b:bI}{p:Di.bJ}{um:V}{M X:ai}{H0:List ai}(hl:7<=H0.length):jT (bg (lX b p um M X) [0,1,2,3,4,5,6] H0) ⟨13,12,14,15,16⟩ b:=by
 have g:∀(i:Nat) (x:ai),i<19->i∉([0,1,2,3,4,5,6]:List Nat)->(lX b p um M X)[i]? =some x->(bg (lX b p um M X) [0,1,2,3,4,5,6] H0)[i]? =some x:=fun i x hi hk hx=>by
  rw[dz (ks:=[0,1,2,3,4,5,6]) (by decide) hl (show i<19 from hi) hk];exact hx
 exact⟨g 13 _ (by decide) (by decide) rfl,g 12 _ (by decide) (by decide) rfl,g 14 _ (by decide) (by decide) rfl,g 15 _ (by decide) (by decide) rfl,g 16 _ (by decide) (by decide) rfl⟩
theorem qP{b:bI}{p:Di.bJ}{um:V}{M X:ai}{H0:List ai}(hl:7<=H0.length):18<(bg (lX b p um M X) [0,1,2,3,4,5,6] H0).length:=by
 rw[rY (ks:=[0,1,2,3,4,5,6]) hl]
 show 18<19+_
 omega
theorem qf{b:bI}{p:Di.bJ}{um:V}{M X:ai}{H0:List ai}(h:bW (fq b p um M) H0):GJ 7 (fq b p um M) (bg (lX b p um M X) [0,1,2,3,4,5,6] H0):=fun j x y h0 h7 hx hd hy=>by
 have hl:=h.len
 have hk:([0,1,2,3,4,5,6]:List Nat)[j]? =some j:=by
  match j,h7 with
  | 0,_=>rfl
  | 1,_=>rfl
  | 2,_=>rfl
  | 3,_=>rfl
  | 4,_=>rfl
  | 5,_=>rfl
  | 6,_=>rfl
 have hj0:j<H0.length:=by omega
 have e:=fk (H:=lX b p um M X) (ks:=[0,1,2,3,4,5,6]) (by decide) hl hk (show j<19 by omega) (Zb hj0)
 rw[hy] at e
 rw[Zy e,b7]
 exact h.dead j x _ h7 hx hd (Zb hj0)
theorem oF{b:bI}{p:Di.bJ}{um:V}{M X:ai}{H0:List ai}(h:bW (fq b p um M) H0):fQ (lX b p um M X) [0,1,2,3,4,5,6] H0:=h.k (wm b p um M X)
theorem wM{b:bI}{p:Di.bJ}{um:V}{M:ai}{H:List ai}(hl:6<=H.length)(h:GJ 7 (fq b p um M) H):wV b p um H:=⟨hl,fun j x y h0 h6 hx hd hy=>h j x y h0 (by omega) (by
 match j,h6 with
 | 1,_=>exact hx
 | 2,_=>exact hx
 | 3,_=>exact hx
 | 4,_=>exact hx
 | 5,_=>exact hx
 | 0,_=>omega) hd hy⟩
theorem Aq{i:Nat}(hi:i∈([0,1,2,3,4,5,6]:List Nat)):i<7:=by simp at hi;omega
def WA(F:bT)(s:Bs)(um:V):V->List ai->Prop:=fun x H2=>x= .p (.tuple [.str (sB (aD F s).2.1),.int .i64 (aD F s).2.2])∧Kr (aD F s).1.b F.aT um 0 H2∧wV F.b F.aT um H2
theorem Gq{F:bT}(hF:kO F):F.b.aq.length<=1000∧F.b.ag.length<=1000∧F.b.au.length<=1000∧F.b.plan.length<=1000∧F.b.b9.length<=1000:=by
 have h1:=Rx.cG hF.b.cd
 have h2:=hF.b.sk
 have h3:=hF.b.dr
 have h4:=hF.b.ck
 obtain⟨u,hu⟩:=hF.b.ER
 have h5:=fy hu
 omega
theorem Sb(F:bT)(s:Bs)(hF:kO F)(hp:s.length<=120->∀ v n,bO s=some (v,n)->lT v=true)(a:Option Addr)(m c:Nat):ay Tryz.prog 13 [.ptr 0 0,.p (.str (sB s))] (mO F.b F.aT (.raw a m c)) (WA F s (.raw a m c)) (fun _ _=>False):=by
 refine ay.pad ?_
 show ay _ _ _ (fq F.b F.aT (.raw a m c) .dead) _ _
 obtain⟨l1,l2,l3,l4,l5⟩:=Gq hF
 have hu:∀ σ:Nat->Option Nat,(ai.dead.live=true->σ 6=some 6)->aY σ (.raw a m c)= .raw a m c:=fun σ _=>rfl
 have hM:∀ σ,aH σ .dead= .dead:=fun σ=>rfl
 have err:∀(X:ai) (e:Int) (x:V) (H2:List ai),aD F s=(F,[],e)->(x= .p (.tuple [.str (sB []),.int .i64 e])∧H2=gF (lX F.b F.aT (.raw a m c) .dead X) F.b F.aT (.raw a m c) e)->WA F s (.raw a m c) x H2:=fun X e x H2 he ⟨hx,hH⟩=>by
  subst hx hH
  unfold WA
  rw[he]
  refine⟨rfl,DS Kn (Q1 _ _ _ _ _),wM (M:=ai.dead) (by rw[tr];exact ZP rfl) (o9 (H:=lX F.b F.aT (.raw a m c) .dead X) (n:=7) (by decide) Kn fun j x y h0 h7 hx hd hy=> ?_)⟩
  have e:(lX F.b F.aT (.raw a m c) .dead X)[j]? =(fq F.b F.aT (.raw a m c) .dead)[j]? :=by
   match j,h7 with
   | 0,_=>rfl
   | 1,_=>rfl
   | 2,_=>rfl
   | 3,_=>rfl
   | 4,_=>rfl
   | 5,_=>rfl
   | 6,_=>rfl
  rw[e,hx] at hy
  cases hy;exact hd
 rcases ZM 120 s.length with hs | hs
 ·refine(az.Kd (Jr F.b F.aT (.raw a m c) .dead hu hM l1 l2 l3 l4 l5 s hs)).mono (fun x H2 hq=> ?_) (fun _ _ h=>h)
  obtain⟨rfl,rfl⟩:=hq
  have he:aD F s=(F,[],3):=by unfold aD;rw[if_pos hs]
  unfold WA
  rw[he]
  refine⟨rfl,⟨uD 1,by decide,rfl,rfl,rfl,rfl,rfl,rfl⟩,ZP rfl,fun j x y h0 h6 hx hd hy=> ?_⟩
  have e:(fq F.b F.aT (.raw a m c) .dead++[.cells [.ptr 0 0] 30,.cells [.p (.str (sB []))] 9,.cells [.p (.int .i64 3)] 41])[j]? =(mO F.b F.aT (.raw a m c))[j]? :=by
   match j,h6 with
   | 0,_=>rfl
   | 1,_=>rfl
   | 2,_=>rfl
   | 3,_=>rfl
   | 4,_=>rfl
   | 5,_=>rfl
  rw[e,hx] at hy
  cases hy;exact hd
 ·obtain⟨w,l,hw⟩:=xp s
  have VO:¬ 120<s.length:=by omega
  have form:bO s=none->aD F s=(F,[],8):=fun h=>by unfold aD;rw[if_neg VO,h]
  cases hv:jH w with
  | none=>exact(az.Kd (Vs F.b F.aT (.raw a m c) .dead hu hM l1 l2 l3 l4 l5 s hs w l hw hv)).mono (err _ 8 · · (form (yR hw hv))) (fun _ _ h=>h)
  | some v=>
   by_cases hm:l.length=v.many
   ·by_cases hC:∀ x∈l,gV x
    ·have hpa:=zi hw hv hm hC
     obtain⟨tT,Uc⟩:=nt hpa
     have hvp:=hp hs v _ hpa
     have he:aD F s=bp F v (l.map fJ):=by unfold aD;rw[if_neg VO,hpa]
     have hd:=(V4 v hvp).to7 F (l.map fJ) a m c hF tT Uc
     refine(az.Kd (Hw F.b F.aT (.raw a m c) .dead hu hM l1 l2 l3 l4 l5 s hs w l hw v hv hm hC (bp F v (l.map fJ)).2.1 (bp F v (l.map fJ)).2.2 _ _ hd (fun r H2 h=>⟨h.2.1,h.2.2.2⟩) (fun y H2 h=>⟨h.2.1,h.2.2.2,h.2.2.1⟩))).mono (fun x H2 hq=> ?_) (fun _ _ h=>h)
     rcases hq with⟨rfl,H0,⟨h1,_,h3,h4⟩,rfl⟩ | ⟨rfl,H0,⟨h1,_,_,h4⟩,rfl⟩
     ·have rP:=h4.len
      have hK:=oF (X:=ai.cells [.p (.int .i64 (v.many:Int)),.p (.func (.func (kC v)) [] [])] 99) h4
      have hlen:=qP (b:=F.b) (p:=F.aT) (um:= .raw a m c) (M:= .dead) (X:=ai.cells [.p (.int .i64 (v.many:Int)),.p (.func (.func (kC v)) [] [])] 99) rP
      unfold lX at hlen
      have hfl:=h3.back (H:=lX F.b F.aT (.raw a m c) .dead (ai.cells [.p (.int .i64 (v.many:Int)),.p (.func (.func (kC v)) [] [])] 99)) (ks:=[0,1,2,3,4,5,6]) (k2:=0) (oO:= .raw a m c) (by decide) hK (fun i hi=>ZJ (Aq hi) Kn) rfl rfl
      have k8:=dz (H:=lX F.b F.aT (.raw a m c) .dead (ai.cells [.p (.int .i64 (v.many:Int)),.p (.func (.func (kC v)) [] [])] 99)) (ks:=[0,1,2,3,4,5,6]) (H0:=H0) (i:=8) (by decide) rP Kn (by decide)
      have k9:=dz (H:=lX F.b F.aT (.raw a m c) .dead (ai.cells [.p (.int .i64 (v.many:Int)),.p (.func (.func (kC v)) [] [])] 99)) (ks:=[0,1,2,3,4,5,6]) (H0:=H0) (i:=9) (by decide) rP Kn (by decide)
      unfold WA
      rw[he]
      refine⟨by rw[h1],?_,?_⟩
      ·refine Kr.set (Kr.set hfl k8 (by decide) fun q hq=>Gz k8 hq) (bQ (by decide) k9) (by decide) fun q hq=>Gz (bQ (by decide) k9) hq
      ·refine wM (M:= .dead) (by rw[yX,yX];omega) fun j x y h0 h7 hx hd hy=> ?_
       rw[Zt,if_neg (by omega),Zt,if_neg (by omega)] at hy
       exact qf h4 j x y h0 h7 hx hd hy
     ·have rP:=h4.len
      have hlen:=qP (b:=F.b) (p:=F.aT) (um:= .raw a m c) (M:= .dead) (X:=ai.cells [.p (.int .i64 (v.many:Int)),.p (.func (.func (kC v)) [] [])] 99) rP
      unfold lX at hlen
      have e2:=Gn h1
      unfold WA
      rw[he]
      refine⟨by rw[e2],?_,?_⟩
      ·have:=DS (p:=F.aT) (um:= .raw a m c) (e:=(bp F v (l.map fJ)).2.2) (Nat.lt_of_succ_lt hlen) (Bg (b:=F.b) (p:=F.aT) (um:= .raw a m c) (M:= .dead) (X:=ai.cells [.p (.int .i64 (v.many:Int)),.p (.func (.func (kC v)) [] [])] 99) rP)
       rw[e2]
       exact this
      ·exact wM (by rw[tr];omega) (o9 (by decide) (by omega) (qf h4))
    ·exact(az.Kd (TS F.b F.aT (.raw a m c) .dead hu hM l1 l2 l3 l4 l5 s hs w l hw v hv hm hC)).mono (err _ 8 · · (form (yB hw hv hC))) (fun _ _ h=>h)
   ·exact(az.Kd (UK F.b F.aT (.raw a m c) .dead hu hM l1 l2 l3 l4 l5 s hs w l hw v hv hm)).mono (err _ 8 · · (form (yE hw hv hm))) (fun _ _ h=>h)
theorem Qc{F:bT}{v:Vb}{n:List Int}(h:lT v=true):(bp F v n).1.marks=F.marks∧(bp F v n).1.aT=F.aT:=by
 cases v <;> first | cases h | skip
 all_goals (unfold bp;dsimp only;repeat' split) <;> exact⟨rfl,rfl⟩
theorem y4{F:bT}{s:Bs}(hp:s.length<=120->∀ v n,bO s=some (v,n)->lT v=true):(aD F s).1.marks=F.marks∧(aD F s).1.aT=F.aT:=by
 unfold aD
 split
 ·exact⟨rfl,rfl⟩
 ·rename_i hs
  split
  ·exact⟨rfl,rfl⟩
  ·rename_i v n h
   exact Qc (hp (by omega) v n h)
theorem zd(H:List ai)(ks:List Nat)(j:Nat):mJ H ks j∈ks∨H.length<=mJ H ks j:=by
 unfold mJ
 cases hk:ks[j]? with
 | some i=>exact .inl (Zh hk)
 | none=>exact .inr (Vx _ _)
theorem qE.congr{H H3:List ai}{qs:List P5}{bs:List bI}(h:qE H qs bs)(he:∀ i∈qs.flatMap P5.l,H3[i]? =H[i]?):qE H3 qs bs:=by
 induction h with
 | nil=>exact .nil
 | cons h t ih=>
  obtain⟨h1,h2,h3,h4,h5⟩:=h
  rename_i q b qs bs
  have g:∀ i∈q.l,H3[i]? =H[i]? :=fun i hi=>he i (by rw[ZI];exact ZU _ hi)
  refine .cons ⟨?_,?_,?_,?_,?_⟩ (ih fun i hi=>he i (by rw[ZI];exact ZG _ hi))
  ·rw[g q.a (by simp[P5.l])];exact h1
  ·rw[g q.b (by simp[P5.l])];exact h2
  ·rw[g q.c (by simp[P5.l])];exact h3
  ·rw[g q.d (by simp[P5.l])];exact h4
  ·rw[g q.e (by simp[P5.l])];exact h5
theorem jT.set{H:List ai}{q:P5}{b:bI}{i:Nat}{y:ai}(h:jT H q b)(hi:i∉q.l):jT (H.set i y) q b:=by
 simp only[P5.l,Zw,R5,or_false,not_or] at hi
 obtain⟨h1,h2,h3,h4,h5⟩:=h
 exact⟨bQ hi.1 h1,bQ hi.2.1 h2,bQ hi.2.2.1 h3,bQ hi.2.2.2.1 h4,bQ hi.2.2.2.2 h5⟩
def Cr(c:Nat)(F:bT)(s:Bs)(H:List ai):V->List ai->Prop:=fun x H3=>x= .p (.tuple [.str (sB (aD F s).2.1),.int .i64 (aD F s).2.2])∧(∃ z q im qs,e8 c (aD F s).1 z H3 q im qs)∧∀ i,i<c->H3[i]? =H[i]?
theorem Nj(im:Nat)(F:bT)(z:Bool):Sj (sI im F z)=true:=by cases z <;> rfl
theorem PZ{b:bI}{p:Di.bJ}{um oO:V}{q:P5}:mT [(um,oO)] (cB b p um q.a q.b q.c q.d q.e) (cB b p oO q.a q.b q.c q.d q.e):=
 .inr ⟨_,_,_,cZ.app _ _ _ _ (cZ.refl gR.refl (di q.a q.b q.c q.d q.e b++p.cells.map V.p)) (show cZ (gR [(um,oO)]) [um,.p (.bool true)] [oO,.p (.bool true)] from⟨_,_,rfl,.inr (ZK.2 rfl),_,_,rfl,.inl rfl,rfl⟩),.inl ⟨rfl,rfl⟩⟩
theorem Si{H:List ai}{ks:List Nat}(hn:ks.Nodup)(hlt:∀ i∈ks,i<H.length):(ks.all (fun i=>Nat.blt i H.length)&&decide ks.Nodup)=true:=by
 simp only[Zm,Zz,Zn]
 exact⟨fun i hi=>by simpa[Nat.blt,Zx] using hlt i hi,hn⟩
theorem P6{c:Nat}{F:bT}{z:Bool}{H:List ai}{q:P5}{im:Nat}{qs:List P5}(h:e8 c F z H q im qs)(hF:kO F)(s:Bs)(hp:s.length<=120->∀ v n,bO s=some (v,n)->lT v=true):ay Tryz.prog 13 [.ptr c 0,.p (.str (sB s))] H (Cr c F s H) (fun _ _=>False):=by
 have hcl:c<H.length:=(Za.1 h.fl).1
 have hnd:=h.nd
 rw[ZB,ZB,ZW] at hnd
 obtain⟨n1,n2,n3,n4,n5⟩:=hnd
 have hks:(c::q.l).Nodup:=ZB.2 ⟨fun hm=>n1 (Zl _ (ZU _ hm)),n3⟩
 have Y6:c∉q.l:=(ZB.1 hks).1
 have X9:im≠c:=fun e=>n1 (by rw[e];exact Zv)
 have aaK:im<H.length:=(Za.1 h.mb).1
 have hlt:∀ i∈c::q.l,i<H.length:=fun i hi=>by
  rcases Zw.1 hi with rfl | hi
  ·exact hcl
  ·exact h.a5.lt i hi
 have hlow:∀ i∈c::q.l,c<=i:=fun i hi=>by
  rcases Zw.1 hi with rfl | hi
  ·exact Zf _
  ·exact h.low i (Zl _ (ZU _ hi))
 obtain⟨hsm,hsp⟩:=y4 (F:=F) hp
 refine ay.Oh c (pre:=di q.a q.b q.c q.d q.e F.b++F.aT.cells.map V.p) (um:=sI im F z) (post:=[.p (.bool true)]) h.fl (Nj im F z) fun a m c0=> ?_
 obtain⟨H',NN⟩:∃ H',H'=H.set c (cB F.b F.aT (.raw a m c0) q.a q.b q.c q.d q.e):=⟨_,rfl⟩
 have hl':H'.length=H.length:=by rw[NN,yX]
 have g0:H'[c]? =some (cB F.b F.aT (.raw a m c0) q.a q.b q.c q.d q.e):=by rw[NN];exact fO h.fl
 have g5:jT H' q F.b:=by rw[NN];exact h.a5.set Y6
 have gx:∀ i,i≠c->H'[i]? =H[i]? :=fun i hi=>by rw[NN,Zt,if_neg (Ne.symm hi)]
 have hlt':∀ i∈c::q.l,i<H'.length:=fun i hi=>by rw[hl'];exact hlt i hi
 have hfr:=(Sb F s hF hp a m c0).zy (H:=H') (args:=[.ptr c 0,.p (.str (sB s))]) (c::q.l) (by
     have e:oD H' (c::q.l) c=some 0:=by
      unfold oD
      rw[Ze,g0]
      exact(if_pos rfl).trans (mF hks rfl)
     show[aY _ _,aY _ _]=_
     simp only[aY,e]) (MP hks g0 g5 rfl) (Si hks hlt') (fun v0 H0 hq=>hq.2.2.k g0 rfl g5) (fun _ _ h=>h.elim)
 show ay _ _ _ (H.set c (cB F.b F.aT (.raw a m c0) q.a q.b q.c q.d q.e)) _ _
 rw[<- NN]
 refine hfr.mono (fun x H2 hx=> ?_) (fun _ _ h=>by obtain⟨_,h,_⟩:=h;exact h.elim)
 obtain⟨v0,H0,⟨rfl,⟨q0,k1,k2,k3⟩,k4⟩,rfl,rfl⟩:=hx
 have hK:fQ H' (c::q.l) H0:=k4.k g0 rfl g5
 have hl6:(c::q.l).length<=H0.length:=k4.1
 obtain⟨q',eq'⟩:∃ q',q'=q0.map (mJ H' (c::q.l)):=⟨_,rfl⟩
 have a5:jT (bg H' (c::q.l) H0) q' (aD F s).1.b:=by rw[eq'];exact iK hks hl6 hlt' k3
 have fl2:(bg H' (c::q.l) H0)[c]? =some (cB (aD F s).1.b F.aT (.raw a m c0) q'.a q'.b q'.c q'.d q'.e):=by
  have:=fk (H:=H') hks hl6 (j:=0) (i:=c) rfl (by rw[hl'];exact hcl) k2
  rw[this,lD hK k3 rfl,eq']
  rfl
 have hq':(c::q'.l).Nodup:=by
  have:=sF (H:=H') hks hlt' k1
  rw[ZD,wO (i:=c) rfl] at this
  rw[eq'];exact this
 have Xd:c∉q'.l:=(ZB.1 hq').1
 have hcases:∀ i∈q'.l,i∈c::q.l∨H.length<=i:=fun i hi=>by
  rw[eq',P5.uI] at hi
  obtain⟨j,_,rfl⟩:=zl.1 hi
  rcases zd H' (c::q.l) j with h | h
  ·exact .inl h
  ·exact .inr (by rw[<- hl'];exact h)
 have out:∀ i,i<H.length->i∉c::q.l->((bg H' (c::q.l) H0).set c (cB (aD F s).1.b F.aT (sI im F z) q'.a q'.b q'.c q'.d q'.e))[i]? =H[i]? :=fun i hi hk=>by
  have hic:i≠c:=fun e=>hk (by rw[e];exact Zv)
  rw[Zt,if_neg (Ne.symm hic),dz hks hl6 (by rw[hl'];exact hi) hk,gx i hic]
 have YC:im∉c::q.l:=fun hm=>by
  rcases Zw.1 hm with e | hm
  ·exact X9 e
  ·exact n2 (ZU _ hm)
 have Xp:∀ i∈qs.flatMap P5.l,i∉c::q.l:=fun i hi hm=>by
  rcases Zw.1 hm with e | hm
  ·exact n1 (Zl _ (ZG _ (e▸hi)))
  ·exact n5 i hm i hi rfl
 refine⟨_,eD.set fl2 (PZ (oO:=sI im F z)),rfl,⟨z,q',im,qs,?_⟩,fun i hi=>out i (by omega) fun hm=>by have:=hlow i hm;omega⟩
 have XT:sI im (aD F s).1 z=sI im F z:=by unfold sI;rw[hsm]
 refine⟨?_,a5.set Xd,?_,fun hz=>by rw[hsm];exact h.mz hz,?_,?_,?_⟩
 ·rw[XT,hsp]
  exact fO fl2
 ·rw[out im aaK YC,h.mb]
  unfold D1
  rw[hsm]
 ·rw[hsm]
  exact h.ats.congr fun i hi=>out i (h.ats.lt i hi) (Xp i hi)
 ·rw[ZB,ZB,ZW]
  refine⟨fun hm=> ?_,fun hm=> ?_,(ZB.1 hq').2,n4,fun a ha b hb e=> ?_⟩
  ·rcases Zw.1 hm with e | hm
   ·exact X9 e.symm
   ·rcases Zq.1 hm with hm | hm
    ·exact Xd hm
    ·exact n1 (Zl _ (ZG _ hm))
  ·rcases Zq.1 hm with hm | hm
   ·rcases hcases im hm with h | h
    ·exact YC h
    ·omega
   ·exact n2 (ZG _ hm)
  ·subst e
   rcases hcases a ha with h2 | h2
   ·exact Xp a hb h2
   ·have:=h.ats.lt a hb;omega
 ·intro i hi
  rcases Zw.1 hi with rfl | hi
  ·exact h.low i Zv
  ·rcases Zq.1 hi with hi | hi
   ·rcases hcases i hi with h2 | h2
    ·exact hlow i h2
    ·omega
   ·exact h.low i (Zl _ (ZG _ hi))
theorem bW.out{b:bI}{p:Di.bJ}{um oO:V}{M:ai}{H H0:List ai}{c im:Nat}{q:P5}(h:bW (fq b p oO M) H0)(h0:H[c]? =some (cB b p um q.a q.b q.c q.d q.e))(ha:jT H q b)(hm:H[im]? =some M):fQ H (c::(q.l++[im])) H0:=by
 refine⟨h.len,fun j i y hk hl hy=> ?_⟩
 have gd:∀{i:Nat} {x:ai},H[i]? =some x->H.getD i .dead=x:=fun hx=>by rw[Ze,hx];rfl
 obtain⟨g1,g2,g3,g4,g5⟩:=ha
 have hj:j<7:=(Za.1 hk).1
 match j,hj with
 | 0,_=>cases hk;rw[gd h0] at hl;cases hl
 | 1,_=>cases hk;rw[gd g1] at hl;exact h.dead 1 _ y (by decide) rfl hl hy
 | 2,_=>cases hk;rw[gd g2] at hl;exact h.dead 2 _ y (by decide) rfl hl hy
 | 3,_=>cases hk;rw[gd g3] at hl;exact h.dead 3 _ y (by decide) rfl hl hy
 | 4,_=>cases hk;rw[gd g4] at hl;exact h.dead 4 _ y (by decide) rfl hl hy
 | 5,_=>cases hk;rw[gd g5] at hl;exact h.dead 5 _ y (by decide) rfl hl hy
 | 6,_=>cases hk;rw[gd hm] at hl;exact h.dead 6 _ y (by decide) rfl hl hy
theorem RT{H:List ai}{c im:Nat}{q:P5}{b:bI}{p:Di.bJ}{um oO:V}{M:ai}(hn:(c::(q.l++[im])).Nodup)(h0:H[c]? =some (cB b p um q.a q.b q.c q.d q.e))(h:jT H q b)(hm:H[im]? =some M)(hM:∀ σ,aH σ M=M)(hu:aY (oD H (c::(q.l++[im]))) um=oO):((c::(q.l++[im])).map fun i=>aH (oD H (c::(q.l++[im]))) (H.getD i .dead))=fq b p oO M:=by
 have gd:∀{i:Nat} {x:ai},H[i]? =some x->H.getD i .dead=x:=fun hx=>by rw[Ze,hx];rfl
 rw[ZD,ZC,rM h,gd h0,LX hn rfl rfl rfl rfl rfl h hu,ZD,gd hm,hM]
 rfl
theorem BF{H:List ai}{ks:List Nat}{i j:Nat}{x:ai}(hn:ks.Nodup)(hk:ks[j]? =some i)(hx:H[i]? =some x)(hl:x.live=true):oD H ks i=some j:=by
 unfold oD
 rw[Ze,hx]
 exact(if_pos hl).trans (mF hn hk)
theorem TJ{g:FuncId}{H:List ai}{c im:Nat}{q:P5}{b:bI}{p:Di.bJ}{um oO:V}{M:ai}{y:PV}{Qr:V->List ai->Prop}(hn:(c::(q.l++[im])).Nodup)(h0:H[c]? =some (cB b p um q.a q.b q.c q.d q.e))(h:jT H q b)(hm:H[im]? =some M)(hM:∀ σ,aH σ M=M)(hu:aY (oD H (c::(q.l++[im]))) um=oO)
    (hc:ay Tryz.prog g [.ptr 0 0,.p y] (fq b p oO M) Qr (fun _ _=>False))(hK:∀ x H0,Qr x H0->bW (fq b p oO M) H0):ay Tryz.prog g [.ptr c 0,.p y] H (fun x H2=>∃ x0 H0,Qr x0 H0∧x=aY (dR H (c::(q.l++[im]))) x0∧H2=bg H (c::(q.l++[im])) H0) (fun _ _=>False):=by
 have hlt:∀ i∈c::(q.l++[im]),i<H.length:=fun i hi=>by
  rcases Zw.1 hi with rfl | hi
  ·exact(Za.1 h0).1
  ·rcases Zq.1 hi with hi | hi
   ·exact h.lt i hi
   ·rw[ZK.1 hi];exact(Za.1 hm).1
 refine(hc.zy (H:=H) (args:=[.ptr c 0,.p y]) (c::(q.l++[im])) ?_ (RT hn h0 h hm hM hu) (Si hn hlt) (fun x H0 hq=>(hK x H0 hq).out h0 h hm) (fun _ _ h=>h.elim)).mono (fun _ _ h=>h) (fun _ _ ⟨_,h,_⟩=>h.elim)
 have e:=BF hn (j:=0) rfl h0 rfl
 show[aY _ _,aY _ _]=_
 simp only[aY,e]
theorem N7{ps:List (V×V)}{q:P5}{b:bI}{cs t:List V}(h:cZ (nN ps) (tC q b++t) cs):∃(r:RB) (Gy:List V),cs=r.cells++Gy∧cZ (nN ps) t Gy:=by
 have sl:∀ i n,Sj (aW i n)=true:=fun i n=>by cases n <;> rfl
 have ch:∀{i n:Nat} {v':V},nN ps (aW i n) v'->∃ s:RS,v'=s.v:=fun h=>by
  rcases h with⟨h,_⟩ | ⟨_,⟨a,n,c,e⟩,_⟩
  ·rw[sl] at h;cases h
  ·exact⟨⟨a,n,c⟩,e⟩
 have cp:∀{x:PV} {v':V},nN ps (.p x) v'->v'= .p x:=fun h=>by
  rcases h with⟨_,h⟩ | ⟨h,_⟩
  ·exact h
  ·cases h
 obtain⟨d1,e1,rfl,h1,d2,e2,rfl,h2,d3,e3,rfl,h3,d4,e4,rfl,h4,d5,e5,rfl,h5,d6,e6,rfl,h6,d7,e7,rfl,h7,h8⟩:=h
 obtain⟨s1,rfl⟩:=ch h1
 obtain⟨s2,rfl⟩:=ch h2
 obtain⟨s3,rfl⟩:=ch h3
 obtain⟨s4,rfl⟩:=ch h4
 obtain⟨s7,rfl⟩:=ch h7
 rw[cp h5,cp h6]
 exact⟨⟨s1,s2,s3,s4,b.bad,b.good,s7⟩,e7,rfl,h8⟩
theorem zb{ps:List (V×V)}:∀(qs:List P5) (bs:List bI) (cs:List V),qs.length=bs.length->cZ (nN ps) (pQ qs bs) cs->∃ l:List RB,cs=ni l∧l.length=bs.length
 | [],[],cs,_,h=>⟨[],show cs=[] from h,rfl⟩
 | q::qs,b::bs,cs,hl,h=>by
  obtain⟨r,Gy,rfl,h2⟩:=N7 (q:=q) (b:=b) (t:=pQ qs bs) h
  obtain⟨l,rfl,h3⟩:=zb qs bs Gy (by simpa using hl) h2
  exact⟨r::l,rfl,by rw[Zo,Zo,h3]⟩
 | [],_::_,_,hl,_=>by cases hl
 | _::_,[],_,hl,_=>by cases hl
theorem xq:∀(qs:List P5) (bs:List bI) (q:P5) (b:bI),qs.length=bs.length->pQ (qs++[q]) (bs++[b])=pQ qs bs++tC q b
 | [],[],q,b,_=>by show tC q b++[]=[]++tC q b;rw[ZX];rfl
 | q0::qs,b0::bs,q,b,hl=>by
  show tC q0 b0++pQ (qs++[q]) (bs++[b])=(tC q0 b0++pQ qs bs)++tC q b
  rw[xq qs bs q b (by simpa using hl),ZQ]
 | [],_::_,_,_,hl=>by cases hl
 | _::_,[],_,_,hl=>by cases hl
theorem GP:∀(qs:List P5) (bs:List bI),qs.length=bs.length->(pQ qs bs).length=bs.length*7
 | [],[],_=>rfl
 | q::qs,b::bs,hl=>by
  show(tC q b++pQ qs bs).length=_
  rw[Zc,GP qs bs (by simpa using hl),Zo]
  show 7+_=_
  omega
 | [],_::_,hl=>by cases hl
 | _::_,[],hl=>by cases hl
theorem xj(l:List RB)(r:RB):ni (l++[r])=ni l++r.cells:=by unfold ni;rw[Hp];simp
theorem yp{ps:List (V×V)}{qs:List P5}{bs:List bI}{q:P5}{b:bI}{l:List RB}{r:RB}(hl:qs.length=bs.length)(vP:l.length=bs.length)(h:cZ (gR ps) (ni (l++[r])) (pQ (qs++[q]) (bs++[b]))):cZ (gR ps) (ni l) (pQ qs bs)∧cZ (gR ps) r.cells (tC q b):=by
 rw[xj,xq qs bs q b hl] at h
 obtain⟨l1,l2,e,h1,h2⟩:=cZ.split _ _ _ h
 have e1:l1.length=(pQ qs bs).length:=by rw[cZ.len _ _ h1,qv,GP qs bs hl,vP]
 obtain⟨e2,e3⟩:=List.append_inj e.symm e1
 subst e2 e3
 exact⟨h1,h2⟩
def xy(F:bT)(s:Bs):V:= .p (.tuple [.str (sB (aD F s).2.1),.int .i64 (aD F s).2.2])
def Iy(b:bI)(p:Di.bJ)(um:V)(M:ai)(H:List ai):Prop:=H[0]? =some (cB b p um 13 12 14 15 16)∧jT H ⟨13,12,14,15,16⟩ b∧H[6]? =some M∧bW (fq b p um M) H
theorem y3(b:bI)(p:Di.bJ)(um:V)(M:ai)(X:List ai):bW (fq b p um M) (fq b p um M++X):=⟨by rw[Zc];exact Vx 7 _,fun j x y hj hx hd hy=>by
 rw[og hx] at hy;cases hy;exact hd⟩
theorem zX{b:bI}{p:Di.bJ}{um:V}{M X:ai}{H0:List ai}{e:Int}(h:bW (fq b p um M) H0):bW (fq b p um M) (gF (bg (lX b p um M X) [0,1,2,3,4,5,6] H0) b p um e):=by
 have hlen:=qP (b:=b) (p:=p) (um:=um) (M:=M) (X:=X) h.len
 refine⟨by rw[tr];omega,fun j x y hj hx hd hy=> ?_⟩
 rcases Ua j with rfl | h0
 ·cases hx;cases hd
 ·exact o9 (by decide) (by omega) (qf h) j x y h0 hj hx hd hy
theorem Qw{b:bI}{p:Di.bJ}{um:V}{M X:ai}{H0:List ai}{e:Int}(hM:∀ σ,aH σ M=M)(h:bW (fq b p um M) H0)(h6:H0[6]? =some M):Iy b p um M (gF (bg (lX b p um M X) [0,1,2,3,4,5,6] H0) b p um e):=by
 have hlen:=qP (b:=b) (p:=p) (um:=um) (M:=M) (X:=X) h.len
 obtain⟨g1,g2,g3,g4,g5⟩:=Bg (b:=b) (p:=p) (um:=um) (M:=M) (X:=X) h.len
 have gg:∀{i:Nat} {x:ai},i≠0->i≠8->i≠9->i<18->(bg (lX b p um M X) [0,1,2,3,4,5,6] H0)[i]? =some x->(gF (bg (lX b p um M X) [0,1,2,3,4,5,6] H0) b p um e)[i]? =some x:=fun a1 a2 a3 a4 hx=>by
  rw[iC a1 a2 a3 (by omega)];exact hx
 refine⟨Ia,⟨gg (by decide) (by decide) (by decide) (by decide) g1,gg (by decide) (by decide) (by decide) (by decide) g2,gg (by decide) (by decide) (by decide) (by decide) g3,gg (by decide) (by decide) (by decide) (by decide) g4,gg (by decide) (by decide) (by decide) (by decide) g5⟩,gg (by decide) (by decide) (by decide) (by decide) ?_,zX h⟩
 have:=fk (H:=lX b p um M X) (ks:=[0,1,2,3,4,5,6]) (j:=6) (i:=6) (by decide) h.len rfl Kn h6
 rw[this,hM]
theorem AD(l:List RB)(k:Nat):∀ σ:Nat->Option Nat,((c9 l).live=true->σ 6=some 6)->aY σ (.row 6 k)= .row 6 k:=fun σ h=>by simp only[aY,h rfl]
theorem YR:∀ σ:Nat->Option Nat,(ai.dead.live=true->σ 6=some 6)->aY σ .z0= .z0:=fun σ _=>rfl
def KE(F:bT)(cs:List V)(k:Nat)(H:List ai):Prop:=H[0]? =some (cB F.b F.aT (.row 28 (k+1)) 1 2 3 4 5)∧jT H (uD 1) F.b∧jT H ⟨22,21,23,24,25⟩ F.b∧H[28]? =some (.row (cs++di 22 21 23 24 25 F.b) y6)
theorem dh{H:List ai}{i:Nat}{x y z:ai}(h8:i≠8)(h9:i≠9)(h:H[i]? =some x):((H.set 8 y).set 9 z)[i]? =some x:=bQ (Ne.symm h9) (bQ (Ne.symm h8) h)
theorem nY{b:bI}{p:Di.bJ}{um:V}{M X y z:ai}{H0:List ai}(h:bW (fq b p um M) H0):bW (fq b p um M) (((bg (lX b p um M X) [0,1,2,3,4,5,6] H0).set 8 y).set 9 z):=by
 have hlen:=qP (b:=b) (p:=p) (um:=um) (M:=M) (X:=X) h.len
 refine⟨by rw[yX,yX];omega,fun j x w hj hx hd hy=> ?_⟩
 rw[Zt,if_neg (by omega),Zt,if_neg (by omega)] at hy
 rcases Ua j with rfl | h0
 ·cases hx;cases hd
 ·exact qf h j x w h0 hj hx hd hy
theorem Jl{s:Bs}{v:Vb}{n:List Int}(h:bO s=some (v,n)):∃ w l,bf s=w::l∧jH w=some v∧l.length=v.many∧(∀ x∈l,gV x)∧n=l.map fJ:=by
 obtain⟨w,l,hw⟩:=xp s
 cases hv:jH w with
 | none=>rw[yR hw hv] at h;cases h
 | some v'=>
  by_cases hm:l.length=v'.many
  ·by_cases hC:∀ x∈l,gV x
   ·rw[zi hw hv hm hC] at h
    cases h
    exact⟨w,l,hw,hv,hm,hC,rfl⟩
   ·rw[yB hw hv hC] at h;cases h
  ·rw[yE hw hv hm] at h;cases h
theorem tq(F:bT)(s:Bs)(hF:kO F)(v:Vb)(n:List Int)(hpa:bO s=some (v,n))(hs:s.length<=120)(um:V)(M:ai)(hu:∀ σ:Nat->Option Nat,(M.live=true->σ 6=some 6)->aY σ um=um)(hM:∀ σ,aH σ M=M)(Qr:V->List ai->Prop)(Qp:PV->List ai->Prop)
    (hd:ay Tryz.prog (kC v) [.ptr 0 0,.p (Di.bh n)] (fq F.b F.aT um M) Qr Qp)(hr:∀ r H2,Qr r H2->(bp F v n).2.2=0∧r= .p (.str (sB (bp F v n).2.1))∧bW (fq F.b F.aT um M) H2)(hp:∀ y H2,Qp y H2->(bp F v n).2.2≠0∧y= .iface 94 (.agg [.int .i64 (bp F v n).2.2])∧bW (fq F.b F.aT um M) H2∧H2[6]? =some M∧∃ cs,cs.length=7∧H2[0]? =some (.cells (cs++F.aT.cells.map .p++[um,.p (.bool true)]) 87)):
    az Tryz.prog 13 [.ptr 0 0,.p (.str (sB s))] (fq F.b F.aT um M) (fun x H2=>x=xy F s∧(((aD F s).2.2=0∧∃ H0 y z,Qr (.p (.str (sB (bp F v n).2.1))) H0∧H2=(((bg (lX F.b F.aT um M (ai.cells [.p (.int .i64 (v.many:Int)),.p (.func (.func (kC v)) [] [])] 99)) [0,1,2,3,4,5,6] H0).set 8 y).set 9 z))∨((aD F s).2.2≠0∧aD F s=(F,[],(aD F s).2.2)∧Iy F.b F.aT um M H2))):=by
 obtain⟨w,l,hw,hv,hm,hC,rfl⟩:=Jl hpa
 obtain⟨l1,l2,l3,l4,l5⟩:=Gq hF
 have he:aD F s=bp F v (l.map fJ):=by unfold aD;rw[if_neg (by omega),hpa]
 have h:=Hw F.b F.aT um M hu hM l1 l2 l3 l4 l5 s hs w l hw v hv hm hC (bp F v (l.map fJ)).2.1 (bp F v (l.map fJ)).2.2 Qr Qp hd (fun r H2 hq=>(hr r H2 hq).2) (fun y H2 hq=>⟨(hp y H2 hq).2.1,(hp y H2 hq).2.2.1,(hp y H2 hq).2.2.2.2⟩)
 refine fun w' I ρ us hi gz=>(h w' I ρ us hi gz).mono fun e w2 ⟨u,x,J,σ,H2,e1,hq,e2⟩=>⟨u,x,J,σ,H2,e1,?_,e2⟩
 unfold xy
 rw[he]
 rcases hq with⟨rfl,H0,hq,rfl⟩ | ⟨rfl,H0,hq,rfl⟩
 ·obtain⟨h0,_,hk⟩:=hr _ _ hq
  exact⟨by rw[h0],.inl ⟨h0,H0,_,_,hq,rfl⟩⟩
 ·obtain⟨h0,_,hk,h6,_⟩:=hp _ _ hq
  have e3:=Gn h0
  exact⟨by rw[e3],.inr ⟨h0,e3,Qw hM hk h6⟩⟩
def mK(z:Bool)(l:List RB):V:=bif z then .z0 else .row 6 l.length
def mL(z:Bool)(l:List RB):ai:=bif z then .dead else c9 l
theorem NX(z:Bool)(l:List RB):∀ σ:Nat->Option Nat,((mL z l).live=true->σ 6=some 6)->aY σ (mK z l)=mK z l:=by
 cases z with
 | true=>exact YR
 | false=>exact AD l l.length
theorem LF(z:Bool)(l:List RB):∀ σ,aH σ (mL z l)=mL z l:=by
 cases z with
 | true=>exact fun _=>rfl
 | false=>exact fun σ=>ie σ l
theorem PS{b:bI}{p:Di.bJ}{um:V}{M X:ai}(j:Nat):mJ (lX b p um M X) [0,1,2,3,4,5,6] (7+j)=19+j:=by
 unfold mJ
 have:([0,1,2,3,4,5,6]:List Nat)[7+j]? =none:=ZF (by show 7<=7+j;omega)
 rw[this]
 show 19+(7+j - 7)=19+j
 omega
theorem WT(F:bT)(s:Bs)(hF:kO F)(n:List Int)(hpa:bO s=some (.mark,n))(hs:s.length<=120)(z:Bool)(l:List RB)(hz:z=true->l=[])(hl:l.length=F.marks.length):
    az Tryz.prog 13 [.ptr 0 0,.p (.str (sB s))] (fq F.b F.aT (mK z l) (mL z l)) (fun x H2=>x=xy F s∧bW (fq F.b F.aT (mK z l) (mL z l)) H2∧(((aD F s).2.2=0∧KE F (ni l) l.length H2)∨((aD F s).2.2≠0∧aD F s=(F,[],(aD F s).2.2)∧Iy F.b F.aT (mK z l) (mL z l) H2))):=by
 have fin:∀{x:V} {H2 H0:List ai} {y w X:ai},H2=(((bg (lX F.b F.aT (mK z l) (mL z l) X) [0,1,2,3,4,5,6] H0).set 8 y).set 9 w)->bW (fq F.b F.aT (mK z l) (mL z l)) H0->H0[0]? =some (cB F.b F.aT (.row 16 (l.length+1)) 1 2 3 4 5)->jT H0 (uD 1) F.b->jT H0 ⟨10,9,11,12,13⟩ F.b->H0[16]? =some (.row (ni l++di 10 9 11 12 13 F.b) y6)->KE F (ni l) l.length H2:=fun{x H2 H0 y w X} e hk h0 h5 WM h16=>by
  subst e
  have hK:=oF (X:=X) hk
  have rP:=hk.len
  have hn:([0,1,2,3,4,5,6]:List Nat).Nodup:=by decide
  have hlt:∀ i∈([0,1,2,3,4,5,6]:List Nat),i<(lX F.b F.aT (mK z l) (mL z l) X).length:=fun i hi=>ZJ (Aq hi) Kn
  have p16:aY (dR (lX F.b F.aT (mK z l) (mL z l) X) [0,1,2,3,4,5,6]) (.row 16 (l.length+1))= .row 28 (l.length+1):=by
   have:=jn hK h16 rfl
   rw[show(16:Nat)=7+9 from rfl,PS] at this
   simp only[aY,this]
  have k0:=fk (H:=lX F.b F.aT (mK z l) (mL z l) X) hn rP (j:=0) (i:=0) rfl Kn h0
  have e0:=lD (q:=uD 1) (p:=F.aT) hK h5 p16
  have a5:=iK (H:=lX F.b F.aT (mK z l) (mL z l) X) hn rP hlt h5
  have a5':=iK (H:=lX F.b F.aT (mK z l) (mL z l) X) hn rP hlt WM
  have k16:=rO (H:=lX F.b F.aT (mK z l) (mL z l) X) hn rP hlt h16
  have e16:aH (dR (lX F.b F.aT (mK z l) (mL z l) X) [0,1,2,3,4,5,6]) (.row (ni l++di 10 9 11 12 13 F.b) y6)= .row (ni l++di 22 21 23 24 25 F.b) y6:=by
   show ai.row (bw _ (_++_)) _=_
   rw[bF,uf]
   have:=uF (q:=⟨10,9,11,12,13⟩) hK WM
   exact congrArg (fun t=>ai.row (ni l++t) y6) this
  refine⟨dh (by decide) (by decide) (k0.trans (congrArg some e0)),?_,?_,?_⟩
  ·obtain⟨g1,g2,g3,g4,g5⟩:=a5
   exact Cn
  ·obtain⟨g1,g2,g3,g4,g5⟩:=a5'
   exact Cn
  ·rw[e16] at k16
   exact dh (by decide) (by decide) k16
 have kf:bW (fq F.b F.aT (mK z l) (mL z l)) (fq F.b F.aT (mK z l) (mL z l)):=by
  have:=y3 F.b F.aT (mK z l) (mL z l) []
  rwa [ZX] at this
 cases z with
 | true=>
  have hl0:l=[]:=hz rfl
  subst hl0
  refine fun w I ρ us hi gz=>(tq F s hF .mark n hpa hs .z0 .dead YR (fun _=>rfl) _ _ (Vt F n hF hl) (fun r H2 hq=>⟨hq.1,hq.2.1,?_⟩) (fun y H2 hq=>⟨hq.1,hq.2.1,by rw[hq.2.2];exact kf,by rw[hq.2.2];rfl,di 1 2 3 4 5 F.b,rfl,by rw[hq.2.2];rfl⟩) w I ρ us hi gz).mono fun e w2 ⟨u,x,J,σ,H2,e1,hq,e2⟩=>⟨u,x,J,σ,H2,e1,?_,e2⟩
  ·rw[hq.2.2]
   exact DQ
  ·obtain⟨rfl,h | ⟨h1,h2,h3⟩⟩:=hq
   ·obtain⟨h0,H0,y,w',⟨g1,g2,g3⟩,rfl⟩:=h
    have hk:bW (fq F.b F.aT .z0 .dead) H0:=by
     rw[g3]
     exact DQ
    exact Bu
   ·exact mS
 | false=>
  refine fun w I ρ us hi gz=>(tq F s hF .mark n hpa hs (.row 6 l.length) (c9 l) (AD l l.length) (fun σ=>ie σ l) _ _ (Ur F n l hF hl) (fun r H2 hq=>⟨hq.1,hq.2.1,?_⟩) (fun y H2 hq=>⟨hq.1,hq.2.1,by rw[hq.2.2];exact kf,by rw[hq.2.2];rfl,di 1 2 3 4 5 F.b,rfl,by rw[hq.2.2];rfl⟩) w I ρ us hi gz).mono fun e w2 ⟨u,x,J,σ,H2,e1,hq,e2⟩=>⟨u,x,J,σ,H2,e1,?_,e2⟩
  ·rw[hq.2.2]
   exact qn
  ·obtain⟨rfl,h | ⟨h1,h2,h3⟩⟩:=hq
   ·obtain⟨h0,H0,y,w',⟨g1,g2,g3⟩,rfl⟩:=h
    have hk:bW (fq F.b F.aT (.row 6 l.length) (c9 l)) H0:=by
     rw[g3]
     exact qn
    exact Bu
   ·exact mS
def S8(F:bT)(l:List RB)(r:RB)(H:List ai):Prop:=H[0]? =some (.cells (r.cells++F.aT.cells.map .p++[.row 6 l.length,.p (.bool true)]) 87)∧H[6]? =some (c9 (l++[r]))
def Yv(F:bT)(l:List RB)(r:RB)(H:List ai):Prop:=H[0]? =some (cB F.b F.aT (.row 6 l.length) 1 2 3 4 5)∧jT H (uD 1) F.b∧H[6]? =some (c9 (l++[r]))
theorem LO(σ:Nat->Option Nat)(r:RB):bw σ r.cells=r.cells:=rfl
theorem DP(F:bT)(n:List Int)(v:Vb)(um:V)(M:ai)(X1 X2:ai)(y:PV)(H2:List ai)(hq:(bp F v n).2.2≠0∧y= .iface 94 (.agg [.int .i64 (bp F v n).2.2])∧H2=[cB F.b F.aT um 1 2 3 4 5,c7 F.b.aq,cY F.b.ag,c8 F.b.au,bu F.b.plan,bu F.b.b9,M,X1,X2]):
    (bp F v n).2.2≠0∧y= .iface 94 (.agg [.int .i64 (bp F v n).2.2])∧bW (fq F.b F.aT um M) H2∧H2[6]? =some M∧∃ cs,cs.length=7∧H2[0]? =some (.cells (cs++F.aT.cells.map .p++[um,.p (.bool true)]) 87):=by
 obtain⟨h1,h2,rfl⟩:=hq
 exact⟨h1,h2,y3 F.b F.aT um M [X1,X2],rfl,di 1 2 3 4 5 F.b,rfl,rfl⟩
theorem zM{α:Type}(l:List α):l=[]∨∃ l0 x,l=l0++[x]:=by
 rcases List.eq_nil_or_concat l with h | ⟨l0,x,h⟩
 ·exact .inl h
 ·exact .inr ⟨l0,x,by rw[h,List.concat_eq_append]⟩
theorem HB(z:Bool):FB (mK z [])=some 0:=by cases z <;> rfl
theorem W7(F:bT)(s:Bs)(hF:kO F)(n:List Int)(hpa:bO s=some (.back,n))(hs:s.length<=120)(z:Bool)(l:List RB)(hz:z=true->l=[])(hl:l.length=F.marks.length):
    az Tryz.prog 13 [.ptr 0 0,.p (.str (sB s))] (fq F.b F.aT (mK z l) (mL z l)) (fun x H2=>x=xy F s∧bW (fq F.b F.aT (mK z l) (mL z l)) H2∧((∃ fs x l0 r,F.marks=fs++[x]∧l=l0++[r]∧z=false∧(aD F s).1={F with b:=x,marks:=fs}∧S8 F l0 r H2)∨((aD F s).2.2≠0∧aD F s=(F,[],(aD F s).2.2)∧Iy F.b F.aT (mK z l) (mL z l) H2))):=by
 rcases zM l with rfl | ⟨l0,r,rfl⟩
 ·have hm:F.marks=[]:=ZA hl.symm
  refine fun w I ρ us hi gz=>(tq F s hF .back n hpa hs (mK z []) (mL z []) (NX z []) (LF z []) _ _ (IG F n (mK z []) (mL z []) hm (HB z)) (fun r H2 hq=>hq.elim) (fun y H2 hq=>DP F n .back _ _ _ _ y H2 hq) w I ρ us hi gz).mono fun e w2 ⟨u,x,J,σ,H2,e1,hq,e2⟩=>⟨u,x,J,σ,H2,e1,?_,e2⟩
  exact Da
 ·have hzf:z=false:=by
    cases z with
    | false=>rfl
    | true=>have:=hz rfl;simp at this
  subst hzf
  obtain⟨fs,x,hm⟩:∃ fs x,F.marks=fs++[x]:=by
   exact A9
  have hl0:l0.length=fs.length:=by rw[hm] at hl;simpa using hl
  have h8:l0.length<=8:=by have:=hF.mm;rw[hm] at this;simp at this;omega
  have eu:mK false (l0++[r])= .row 6 (l0.length+1):=by show V.row 6 _=_;rw[Zc];rfl
  have hd:=JA F n l0 r fs x hm hl0 h8
  have V2:∀ H2:List ai,H2=[.cells (r.cells++F.aT.cells.map .p++[.row 6 l0.length,.p (.bool true)]) 87,c7 F.b.aq,cY F.b.ag,c8 F.b.au,bu F.b.plan,bu F.b.b9,c9 (l0++[r]),.cells r.cells y6,.cells r.cells y6]->bW (fq F.b F.aT (.row 6 (l0.length+1)) (c9 (l0++[r]))) H2:=fun H2 e=>by
   subst e
   exact qn
  rw[eu]
  show az _ _ _ (fq F.b F.aT (.row 6 (l0.length+1)) (c9 (l0++[r]))) _
  refine fun w I ρ us hi gz=>(tq F s hF .back n hpa hs (.row 6 (l0.length+1)) (c9 (l0++[r])) (AD _ _) (fun σ=>ie σ _) _ _ hd (fun r' H2 hq=>⟨hq.1,hq.2.1,V2 H2 hq.2.2⟩) (fun y H2 hq=>hq.elim) w I ρ us hi gz).mono fun e w2 ⟨u,x',J,σ,H2,e1,hq,e2⟩=>⟨u,x',J,σ,H2,e1,?_,e2⟩
  obtain⟨rfl,⟨h0,H0,y,w',⟨g1,g2,g3⟩,rfl⟩ | ⟨h1,h2,h3⟩⟩:=hq
  ·have hk:=V2 H0 g3
   have hK:=oF (X:=ai.cells [.p (.int .i64 (Vb.back.many:Int)),.p (.func (.func (kC .back)) [] [])] 99) hk
   have rP:=hk.len
   have he:(aD F s).1={F with b:=x,marks:=fs}:=by
    have:aD F s=bp F .back n:=by unfold aD;rw[if_neg (by omega),hpa]
    rw[this]
    unfold bp
    rw[hm]
    simp
   have t6:dR (lX F.b F.aT (.row 6 (l0.length+1)) (c9 (l0++[r])) (ai.cells [.p (.int .i64 (Vb.back.many:Int)),.p (.func (.func (kC .back)) [] [])] 99)) [0,1,2,3,4,5,6] 6=some 6:=Tr _ _ _ _ _ rfl
   have k0:=fk (H:=lX F.b F.aT (.row 6 (l0.length+1)) (c9 (l0++[r])) (ai.cells [.p (.int .i64 (Vb.back.many:Int)),.p (.func (.func (kC .back)) [] [])] 99)) (ks:=[0,1,2,3,4,5,6]) (H0:=H0) (j:=0) (i:=0) (x:= .cells (r.cells++F.aT.cells.map .p++[.row 6 l0.length,.p (.bool true)]) 87) (by decide) rP rfl Kn (by rw[g3];rfl)
   have k6:=fk (H:=lX F.b F.aT (.row 6 (l0.length+1)) (c9 (l0++[r])) (ai.cells [.p (.int .i64 (Vb.back.many:Int)),.p (.func (.func (kC .back)) [] [])] 99)) (ks:=[0,1,2,3,4,5,6]) (H0:=H0) (j:=6) (i:=6) (x:=c9 (l0++[r])) (by decide) rP rfl Kn (by rw[g3];rfl)
   rw[ie] at k6
   rw[vc (by simp only[aY,t6]),LO] at k0
   exact⟨rfl,nY hk,.inl ⟨fs,x,l0,r,hm,rfl,rfl,he,dh (by decide) (by decide) k0,dh (by decide) (by decide) k6⟩⟩
  ·exact mS
theorem Xq(F:bT)(s:Bs)(hF:kO F)(n:List Int)(hpa:bO s=some (.keep,n))(hs:s.length<=120)(z:Bool)(l:List RB)(hz:z=true->l=[])(hl:l.length=F.marks.length):
    az Tryz.prog 13 [.ptr 0 0,.p (.str (sB s))] (fq F.b F.aT (mK z l) (mL z l)) (fun x H2=>x=xy F s∧bW (fq F.b F.aT (mK z l) (mL z l)) H2∧((∃ fs x l0 r,F.marks=fs++[x]∧l=l0++[r]∧z=false∧(aD F s).1={F with marks:=fs}∧Yv F l0 r H2)∨((aD F s).2.2≠0∧aD F s=(F,[],(aD F s).2.2)∧Iy F.b F.aT (mK z l) (mL z l) H2))):=by
 rcases zM l with rfl | ⟨l0,r,rfl⟩
 ·have hm:F.marks=[]:=ZA hl.symm
  refine fun w I ρ us hi gz=>(tq F s hF .keep n hpa hs (mK z []) (mL z []) (NX z []) (LF z []) _ _ (Jy F n (mK z []) (mL z []) hm (HB z)) (fun r H2 hq=>hq.elim) (fun y H2 hq=>DP F n .keep _ _ _ _ y H2 hq) w I ρ us hi gz).mono fun e w2 ⟨u,x,J,σ,H2,e1,hq,e2⟩=>⟨u,x,J,σ,H2,e1,?_,e2⟩
  exact Da
 ·have hzf:z=false:=by
    cases z with
    | false=>rfl
    | true=>have:=hz rfl;simp at this
  subst hzf
  obtain⟨fs,x,hm⟩:∃ fs x,F.marks=fs++[x]:=by
   exact A9
  have hl0:l0.length=fs.length:=by rw[hm] at hl;simpa using hl
  have h8:l0.length<=8:=by have:=hF.mm;rw[hm] at this;simp at this;omega
  have eu:mK false (l0++[r])= .row 6 (l0.length+1):=by show V.row 6 _=_;rw[Zc];rfl
  have hd:=JU F n l0 r fs x hm hl0 h8
  have V2:∀ H2:List ai,H2=[cB F.b F.aT (.row 6 l0.length) 1 2 3 4 5,c7 F.b.aq,cY F.b.ag,c8 F.b.au,bu F.b.plan,bu F.b.b9,c9 (l0++[r]),.cells r.cells y6,.cells r.cells y6]->bW (fq F.b F.aT (.row 6 (l0.length+1)) (c9 (l0++[r]))) H2:=fun H2 e=>by
   subst e
   exact qn
  rw[eu]
  show az _ _ _ (fq F.b F.aT (.row 6 (l0.length+1)) (c9 (l0++[r]))) _
  refine fun w I ρ us hi gz=>(tq F s hF .keep n hpa hs (.row 6 (l0.length+1)) (c9 (l0++[r])) (AD _ _) (fun σ=>ie σ _) _ _ hd (fun r' H2 hq=>⟨hq.1,hq.2.1,V2 H2 hq.2.2⟩) (fun y H2 hq=>hq.elim) w I ρ us hi gz).mono fun e w2 ⟨u,x',J,σ,H2,e1,hq,e2⟩=>⟨u,x',J,σ,H2,e1,?_,e2⟩
  obtain⟨rfl,⟨h0,H0,y,w',⟨g1,g2,g3⟩,rfl⟩ | ⟨h1,h2,h3⟩⟩:=hq
  ·have hk:=V2 H0 g3
   have hK:=oF (X:=ai.cells [.p (.int .i64 (Vb.keep.many:Int)),.p (.func (.func (kC .keep)) [] [])] 99) hk
   have rP:=hk.len
   have he:(aD F s).1={F with marks:=fs}:=by
    have:aD F s=bp F .keep n:=by unfold aD;rw[if_neg (by omega),hpa]
    rw[this]
    unfold bp
    rw[hm]
    simp
   have t6:dR (lX F.b F.aT (.row 6 (l0.length+1)) (c9 (l0++[r])) (ai.cells [.p (.int .i64 (Vb.keep.many:Int)),.p (.func (.func (kC .keep)) [] [])] 99)) [0,1,2,3,4,5,6] 6=some 6:=Tr _ _ _ _ _ rfl
   have k0:=fk (H:=lX F.b F.aT (.row 6 (l0.length+1)) (c9 (l0++[r])) (ai.cells [.p (.int .i64 (Vb.keep.many:Int)),.p (.func (.func (kC .keep)) [] [])] 99)) (ks:=[0,1,2,3,4,5,6]) (H0:=H0) (j:=0) (i:=0) (x:=cB F.b F.aT (.row 6 l0.length) 1 2 3 4 5) (by decide) rP rfl Kn (by rw[g3];rfl)
   have k6:=fk (H:=lX F.b F.aT (.row 6 (l0.length+1)) (c9 (l0++[r])) (ai.cells [.p (.int .i64 (Vb.keep.many:Int)),.p (.func (.func (kC .keep)) [] [])] 99)) (ks:=[0,1,2,3,4,5,6]) (H0:=H0) (j:=6) (i:=6) (x:=c9 (l0++[r])) (by decide) rP rfl Kn (by rw[g3];rfl)
   rw[ie] at k6
   have h5:jT H0 (uD 1) F.b:=by rw[g3];exact⟨rfl,rfl,rfl,rfl,rfl⟩
   have e0:=lD (q:=uD 1) (p:=F.aT) (um:= .row 6 l0.length) (oO:= .row 6 l0.length) hK h5 (by simp only[aY];rw[show dR _ _ 6=some 6 from t6])
   have a5:=iK (H:=lX F.b F.aT (.row 6 (l0.length+1)) (c9 (l0++[r])) (ai.cells [.p (.int .i64 (Vb.keep.many:Int)),.p (.func (.func (kC .keep)) [] [])] 99)) (ks:=[0,1,2,3,4,5,6]) (by decide) rP (fun i hi=>ZJ (Aq hi) Kn) h5
   obtain⟨b1,b2,b3,b4,b5⟩:=a5
   exact⟨rfl,nY hk,.inl ⟨fs,x,l0,r,hm,rfl,rfl,he,dh (by decide) (by decide) (k0.trans (congrArg some e0)),⟨dh (by decide) (by decide) b1,dh (by decide) (by decide) b2,dh (by decide) (by decide) b3,dh (by decide) (by decide) b4,dh (by decide) (by decide) b5⟩,dh (by decide) (by decide) k6⟩⟩
  ·exact mS
def k7(c im:Nat)(q:P5):List Nat:=c::(q.l++[im])
theorem tD{c:Nat}{F:bT}{z:Bool}{H:List ai}{q:P5}{im:Nat}{qs:List P5}(h:e8 c F z H q im qs):(k7 c im q).Nodup:=by
 have hnd:=h.nd
 rw[ZB,ZB,ZW] at hnd
 obtain⟨n1,n2,n3,n4,n5⟩:=hnd
 unfold k7
 rw[ZB,ZW]
 refine⟨fun hm=> ?_,n3,by simp,fun a ha b hb e=> ?_⟩
 ·rcases Zq.1 hm with hm | hm
  ·exact n1 (Zl _ (ZU _ hm))
  ·exact n1 (by rw[ZK.1 hm];exact Zv)
 ·rw[ZK.1 hb] at e
  subst e
  exact n2 (ZU _ ha)
theorem o6{c:Nat}{F:bT}{z:Bool}{H:List ai}{q:P5}{im:Nat}{qs:List P5}(h:e8 c F z H q im qs):∀ i∈k7 c im q,c<=i∧i<H.length:=fun i hi=>by
 rcases Zw.1 hi with rfl | hi
 ·exact⟨Zf _,(Za.1 h.fl).1⟩
 ·rcases Zq.1 hi with hi | hi
  ·exact⟨h.low i (Zl _ (ZU _ hi)),h.a5.lt i hi⟩
  ·rw[ZK.1 hi]
   exact⟨h.low im Zv,(Za.1 h.mb).1⟩
theorem sZ{c:Nat}{F:bT}{z:Bool}{H:List ai}{q:P5}{im:Nat}{qs:List P5}(h:e8 c F z H q im qs):∀ i∈qs.flatMap P5.l,i∉k7 c im q:=fun i hi hm=>by
 have hnd:=h.nd
 rw[ZB,ZB,ZW] at hnd
 obtain⟨n1,n2,n3,n4,n5⟩:=hnd
 rcases Zw.1 hm with e | hm
 ·exact n1 (Zl _ (ZG _ (e▸hi)))
 ·rcases Zq.1 hm with hm | hm
  ·exact n5 i hm i hi rfl
  ·rw[ZK.1 hm] at hi
   exact n2 (ZG _ hi)
structure x7 (c:Nat) (F:bT) (z:Bool) (H:List ai) (q:P5) (im:Nat) (qs:List P5) (l:List RB) (H' H0:List ai):Prop where
 fa:e8 c F z H q im qs
 e:H'=H.set im (mL z l)
 k:fQ H' (k7 c im q) H0
theorem x7.len{c:Nat}{F:bT}{z:Bool}{H:List ai}{q:P5}{im:Nat}{qs:List P5}{l:List RB}{H' H0:List ai}(h:x7 c F z H q im qs l H' H0):H'.length=H.length:=by rw[h.e,yX]
theorem x7.lt{c:Nat}{F:bT}{z:Bool}{H:List ai}{q:P5}{im:Nat}{qs:List P5}{l:List RB}{H' H0:List ai}(h:x7 c F z H q im qs l H' H0):∀ i∈k7 c im q,i<H'.length:=fun i hi=>by rw[h.len];exact(o6 h.fa i hi).2
theorem x7.out{c:Nat}{F:bT}{z:Bool}{H:List ai}{q:P5}{im:Nat}{qs:List P5}{l:List RB}{H' H0:List ai}(h:x7 c F z H q im qs l H' H0){i:Nat}(hi:i<H.length)(hk:i∉k7 c im q):(bg H' (k7 c im q) H0)[i]? =H[i]? :=by
 rw[dz (tD h.fa) h.k.1 (by rw[h.len];exact hi) hk,h.e,Zt,if_neg (fun e=>hk (by rw[<- e];exact Zl _ (ZG _ (ZK.2 rfl))))]
theorem x7.at_{c:Nat}{F:bT}{z:Bool}{H:List ai}{q:P5}{im:Nat}{qs:List P5}{l:List RB}{H' H0:List ai}(h:x7 c F z H q im qs l H' H0){j:Nat}{x:ai}(hx:H0[j]? =some x):(bg H' (k7 c im q) H0)[mJ H' (k7 c im q) j]? =some (aH (dR H' (k7 c im q)) x):=rO (tD h.fa) h.k.1 h.lt hx
theorem x7.p0{c:Nat}{F:bT}{z:Bool}{H:List ai}{q:P5}{im:Nat}{qs:List P5}{l:List RB}{H' H0:List ai}(h:x7 c F z H q im qs l H' H0):mJ H' (k7 c im q) 0=c:=rfl
theorem x7.p6{c:Nat}{F:bT}{z:Bool}{H:List ai}{q:P5}{im:Nat}{qs:List P5}{l:List RB}{H' H0:List ai}(h:x7 c F z H q im qs l H' H0):mJ H' (k7 c im q) 6=im:=rfl
theorem x7.ats{c:Nat}{F:bT}{z:Bool}{H:List ai}{q:P5}{im:Nat}{qs:List P5}{l:List RB}{H' H0:List ai}(h:x7 c F z H q im qs l H' H0):qE (bg H' (k7 c im q) H0) qs F.marks:=
 h.fa.ats.congr fun i hi=>h.out (h.fa.ats.lt i hi) (sZ h.fa i hi)
theorem x7.new{c:Nat}{F:bT}{z:Bool}{H:List ai}{q:P5}{im:Nat}{qs:List P5}{l:List RB}{H' H0:List ai}(h:x7 c F z H q im qs l H' H0)(j:Nat):c<=mJ H' (k7 c im q) j∧mJ H' (k7 c im q) j∉qs.flatMap P5.l:=by
 rcases zd H' (k7 c im q) j with hm | hm
 ·exact⟨(o6 h.fa _ hm).1,fun hq=>sZ h.fa _ hq hm⟩
 ·rw[h.len] at hm
  have hc:=(o6 h.fa c Zv).2
  exact⟨by omega,fun hq=>by have:=h.fa.ats.lt _ hq;omega⟩
theorem qE.set{H:List ai}{qs:List P5}{bs:List bI}{i:Nat}{y:ai}(h:qE H qs bs)(hi:i∉qs.flatMap P5.l):qE (H.set i y) qs bs:=h.congr fun j hj=>by
 rw[Zt,if_neg (fun e=>hi (by rw[e];exact hj))]
theorem vo{ps:List (V×V)}{cs cs' t:List V}{e:TypeId}(h:cZ (gR ps) cs cs'):mT ps (.row (cs++t) e) (.row cs' e):= .inr ⟨cs,cs',e,h,.inr ⟨t,rfl,rfl⟩⟩
theorem yC{ps:List (V×V)}{cs cs':List V}{e:TypeId}(h:cZ (gR ps) cs cs'):mT ps (.row cs e) (.row cs' e):=by
 have:=vo (e:=e) (t:=[]) h
 rwa [ZX] at this
theorem eD.trans{ps:List (V×V)}{H H2:List ai}{i:Nat}{x y:ai}(h:eD ps H H2)(hx:H2[i]? =some x)(hx0:H[i]? =some x)(hy:mT ps x y):eD ps H (H2.set i y):=by
 refine⟨by rw[yX];exact h.1,fun j a b ha hb=> ?_⟩
 rw[Zt] at hb
 split at hb
 ·rename_i e
  subst e
  split at hb
  ·cases hb
   rw[hx0] at ha;cases ha;exact hy
  ·cases hb
 ·exact h.2 j a b ha hb
section
variable {c:Nat} {F F':bT} {z z':Bool} {H H' H0:List ai} {q q0:P5} {im:Nat} {qs ET:List P5} {l:List RB} {ps:List (V×V)}
theorem OG(hb:x7 c F z H q im qs l H' H0){ns:List Nat}(h:ns.Nodup):(ns.map (mJ H' (k7 c im q))).Nodup:=sF (tD hb.fa) hb.lt h
theorem LV(hb:x7 c F z H q im qs l H' H0){um0:V}{M0:ai}(hp:F'.aT=F.aT)(hm:z'=true->F'.marks=[])(hq:qE (bg H' (k7 c im q) H0) ET F'.marks)(hsub:∀ i∈ET.flatMap P5.l,i∈qs.flatMap P5.l)(hnq:(ET.flatMap P5.l).Nodup)(h0:H0[0]? =some (cB F'.b F.aT um0 q0.a q0.b q0.c q0.d q0.e))(hn0:(0::6::q0.l).Nodup)(h5:jT H0 q0 F'.b)(h6:H0[6]? =some M0)(hM:∀ σ,aH σ M0=M0)
    (XT:aY (dR H' (k7 c im q)) um0=sI im F' z')(Sm:mT ps M0 (D1 ET F' z')):∃ H3,eD ps (bg H' (k7 c im q) H0) H3∧(∃ z q im qs,e8 c F' z H3 q im qs)∧∀ i,i<c->H3[i]? =H[i]? :=by
 obtain⟨q',eq'⟩:∃ q',q'=q0.map (mJ H' (k7 c im q)):=⟨_,rfl⟩
 have Wf:=OG hb hn0
 rw[ZD,ZD,hb.p0,hb.p6,<- P5.uI,<- eq'] at Wf
 have nd2:=Wf
 rw[ZB,ZB] at nd2
 obtain⟨n1,n2,n3⟩:=nd2
 have a5:jT (bg H' (k7 c im q) H0) q' F'.b:=by rw[eq'];exact iK (tD hb.fa) hb.k.1 hb.lt h5
 have k0:=hb.at_ h0
 rw[hb.p0,lD hb.k h5 XT] at k0
 have k6:=hb.at_ h6
 rw[hb.p6,hM] at k6
 have B3:im≠c:=fun e=>n1 (by rw[e];exact Zv)
 have RZ:im∉ET.flatMap P5.l:=fun hm=>sZ hb.fa im (hsub im hm) (Zl _ (ZG _ (ZK.2 rfl)))
 have Y6:c∉ET.flatMap P5.l:=fun hm=>sZ hb.fa c (hsub c hm) Zv
 have hnew:∀ i∈q'.l,c<=i∧i∉qs.flatMap P5.l:=fun i hi=>by
  rw[eq',P5.uI] at hi
  obtain⟨j,_,rfl⟩:=zl.1 hi
  exact hb.new j
 refine⟨(bg H' (k7 c im q) H0).set im (D1 ET F' z'),eD.set k6 Sm,⟨z',q',im,ET,⟨?_,a5.set n2,fO k6,hm,hq.set RZ,?_,?_⟩⟩,fun i hi=> ?_⟩
 ·rw[hp]
  have:=bQ (y:=D1 ET F' z') B3 k0
  rw[eq']
  exact this
 ·rw[ZB,ZB,ZW]
  refine⟨fun hm=> ?_,fun hm=> ?_,n3,hnq,fun a ha b hb' e=>(hnew a ha).2 (by rw[e];exact hsub b hb')⟩
  ·rcases Zw.1 hm with e | hm
   ·exact B3 e.symm
   ·rcases Zq.1 hm with hm | hm
    ·exact n1 (Zl _ hm)
    ·exact Y6 hm
  ·rcases Zq.1 hm with hm | hm
   ·exact n2 hm
   ·exact RZ hm
 ·intro i hi
  rcases Zw.1 hi with rfl | hi
  ·exact hb.fa.low i Zv
  ·rcases Zq.1 hi with hi | hi
   ·exact(hnew i hi).1
   ·exact hb.fa.low i (Zl _ (ZG _ (hsub i hi)))
 ·have hcl:=(o6 hb.fa c Zv).2
  have pU:=(o6 hb.fa im (Zl _ (ZG _ (ZK.2 rfl)))).1
  rw[Zt,if_neg (by omega)]
  exact hb.out (by omega) fun hm=>by have:=(o6 hb.fa i hm).1;omega
theorem qE.snoc{H:List ai}{qs:List P5}{bs:List bI}{q:P5}{b:bI}(h:qE H qs bs)(hq:jT H q b):qE H (qs++[q]) (bs++[b]):=by
 induction h with
 | nil=>exact .cons hq .nil
 | cons h _ ih=>exact .cons h ih
theorem NQ(hb:x7 c F z H q im qs l H' H0)(hl:l.length=F.marks.length)(Sm:cZ (gR ps) (ni l) (pQ qs F.marks))(hQ:KE F (ni l) l.length H0):∃ H3,eD ps (bg H' (k7 c im q) H0) H3∧(∃ z q im qs,e8 c {F with marks:=F.marks++[F.b]} z H3 q im qs)∧∀ i,i<c->H3[i]? =H[i]? :=by
 obtain⟨h0,h5,WM,h28⟩:=hQ
 obtain⟨q',eq'⟩:∃ q',q'=(uD 1).map (mJ H' (k7 c im q)):=⟨_,rfl⟩
 obtain⟨q1,eq1⟩:∃ q1,q1=(P5.mk 22 21 23 24 25).map (mJ H' (k7 c im q)):=⟨_,rfl⟩
 obtain⟨i,ei⟩:∃ i,i=mJ H' (k7 c im q) 28:=⟨_,rfl⟩
 have Wf:=OG hb (show((0:Nat)::28::((uD 1).l++(P5.mk 22 21 23 24 25).l)).Nodup by decide)
 rw[ZD,ZD,ZC,hb.p0,<- P5.uI,<- P5.uI,<- eq',<- eq1,<- ei] at Wf
 rw[ZB,ZB,ZW] at Wf
 obtain⟨n1,n2,n3,n4,n5⟩:=Wf
 have a5:jT (bg H' (k7 c im q) H0) q' F.b:=by rw[eq'];exact iK (tD hb.fa) hb.k.1 hb.lt h5
 have a5':jT (bg H' (k7 c im q) H0) q1 F.b:=by rw[eq1];exact iK (tD hb.fa) hb.k.1 hb.lt WM
 have pu:aY (dR H' (k7 c im q)) (.row 28 (l.length+1))= .row i (l.length+1):=by
  have:=jn hb.k h28 rfl
  simp only[aY,this,<- ei]
 have k0:=hb.at_ h0
 have e0:=lD (q:=uD 1) (p:=F.aT) hb.k h5 pu
 have k0:(bg H' (k7 c im q) H0)[c]? =some (cB F.b F.aT (.row i (l.length+1)) q'.a q'.b q'.c q'.d q'.e):=by
  rw[eq']
  exact k0.trans (congrArg some e0)
 have k28:=hb.at_ h28
 have e28:aH (dR H' (k7 c im q)) (.row (ni l++di 22 21 23 24 25 F.b) y6)= .row (ni l++tC q1 F.b) y6:=by
  show ai.row (bw _ (_++_)) _=_
  rw[bF,uf,eq1]
  exact congrArg (fun t=>ai.row (ni l++t) y6) (uF (q:=⟨22,21,23,24,25⟩) hb.k WM)
 rw[e28,<- ei] at k28
 have hnew:∀ j∈i::(q'.l++q1.l),c<=j∧j∉qs.flatMap P5.l:=fun j hj=>by
  rcases Zw.1 hj with rfl | hj
  ·rw[ei];exact hb.new 28
  ·rcases Zq.1 hj with hj | hj
   ·rw[eq',P5.uI] at hj
    obtain⟨k,_,rfl⟩:=zl.1 hj
    exact hb.new k
   ·rw[eq1,P5.uI] at hj
    obtain⟨k,_,rfl⟩:=zl.1 hj
    exact hb.new k
 have hci:i≠c:=fun e=>n1 (by rw[e];exact Zv)
 have hfl:(qs++[q1]).flatMap P5.l=qs.flatMap P5.l++q1.l:=by rw[Hp];simp
 have hqn:(qs.flatMap P5.l).Nodup:=by
  have:=hb.fa.nd
  rw[ZB,ZB,ZW] at this
  exact this.2.2.2.1
 have aao:qE (bg H' (k7 c im q) H0) (qs++[q1]) (F.marks++[F.b]):=qE.snoc hb.ats a5'
 have Y6:c∉qs.flatMap P5.l:=fun hm=>sZ hb.fa c hm Zv
 refine⟨(bg H' (k7 c im q) H0).set i (.row (pQ (qs++[q1]) (F.marks++[F.b])) y6),eD.set k28 (yC (by rw[xq qs F.marks q1 F.b hb.fa.ats.len];exact cZ.app _ _ _ _ Sm (cZ.refl gR.refl _))),⟨false,q',i,qs++[q1],⟨?_,a5.set (fun hm=>n2 (ZU _ hm)),fO k28,(fun h=>by cases h),?_,?_,?_⟩⟩,fun j hj=> ?_⟩
 ·have e:sI i {F with marks:=F.marks++[F.b]} false= .row i (l.length+1):=by
    show V.row i (F.marks++[F.b]).length=_
    rw[Zc,hl];rfl
  rw[e]
  exact bQ hci k0
 ·refine aao.set ?_
  rw[hfl]
  intro hm
  exact Dz
 ·rw[hfl,ZB,ZB,ZW,ZW]
  refine⟨fun hm=> ?_,fun hm=> ?_,n3,⟨hqn,n4,fun a ha b hb' e=>(hnew b (Zl _ (ZG _ hb'))).2 (e▸ha)⟩,fun a ha b hb' e=> ?_⟩
  ·rcases Zw.1 hm with e | hm
   ·exact hci e.symm
   ·rcases Zq.1 hm with hm | hm
    ·exact n1 (Zl _ (ZU _ hm))
    ·rcases Zq.1 hm with hm | hm
     ·exact Y6 hm
     ·exact n1 (Zl _ (ZG _ hm))
  ·rcases Zq.1 hm with hm | hm
   ·exact n2 (ZU _ hm)
   ·exact Dz
  ·subst e
   rcases Zq.1 hb' with hb' | hb'
   ·exact(hnew a (Zl _ (ZU _ ha))).2 hb'
   ·exact n5 a ha a hb' rfl
 ·intro j hj
  rw[hfl] at hj
  rcases Zw.1 hj with rfl | hj
  ·exact(hnew j Zv).1
  ·rcases Zq.1 hj with hj | hj
   ·exact(hnew j (Zl _ (ZU _ hj))).1
   ·rcases Zq.1 hj with hj | hj
    ·exact hb.fa.low j (Zl _ (ZG _ hj))
    ·exact(hnew j (Zl _ (ZG _ hj))).1
 ·have hcl:=(o6 hb.fa c Zv).2
  have:=(hnew i Zv).1
  rw[Zt,if_neg (by omega)]
  exact hb.out (by omega) fun hm=>by have:=(o6 hb.fa j hm).1;omega
end
theorem qE.last{H:List ai}:∀{fs:List bI} {qs:List P5} {x:bI},qE H qs (fs++[x])->∃ xR q9,qs=xR++[q9]∧qE H xR fs∧jT H q9 x
 | [],_,_,.cons h .nil=>⟨[],_,rfl,.nil,h⟩
 | _::fs,_,_,.cons h t=>by
  obtain⟨xR,q9,rfl,h1,h2⟩:=qE.last (fs:=fs) t
  exact⟨_::xR,q9,rfl,.cons h h1,h2⟩
section
variable {c:Nat} {F F':bT} {z z':Bool} {H H' H0:List ai} {q q0:P5} {im:Nat} {qs ET:List P5} {l:List RB} {ps:List (V×V)}
theorem ot(xR:List P5)(q9:P5):(xR++[q9]).flatMap P5.l=xR.flatMap P5.l++q9.l:=by rw[Hp];simp
theorem Mj{xR:List P5}{q9:P5}{l0:List RB}{r:RB}{fs:List bI}{x:bI}(hb:x7 c F false H q im (xR++[q9]) l H' H0)(hm:F.marks=fs++[x])(hl0:l0.length=fs.length)(ef:qE H xR fs)(ha9:jT H q9 x)(h1:cZ (gR ps) (ni l0) (pQ xR fs))(h2:cZ (gR ps) r.cells (tC q9 x))(hQ:S8 F l0 r H0):
    ∃ H3,eD ps (bg H' (k7 c im q) H0) H3∧(∃ z q im qs,e8 c {F with b:=x,marks:=fs} z H3 q im qs)∧∀ i,i<c->H3[i]? =H[i]? :=by
 obtain⟨g0,g6⟩:=hQ
 have t6:dR H' (k7 c im q) 6=some im:=jn hb.k g6 rfl
 have e0:aH (dR H' (k7 c im q)) (.cells (r.cells++F.aT.cells.map .p++[.row 6 l0.length,.p (.bool true)]) 87)= .cells (r.cells++F.aT.cells.map .p++[.row im l0.length,.p (.bool true)]) 87:=by
  rw[bR,bF,bF,aX,LO]
  simp only[bK,b8,dV,aY,t6]
 have k0:=hb.at_ g0
 rw[hb.p0,e0] at k0
 have k6:=hb.at_ g6
 rw[hb.p6,ie] at k6
 have hnd:=hb.fa.nd
 rw[ot,ZB,ZB,ZW,ZW] at hnd
 obtain⟨n1,n2,n3,⟨n4,n5,n6⟩,n7⟩:=hnd
 have pU:im∈k7 c im q:=Zl _ (ZG _ (ZK.2 rfl))
 have hold:∀ i∈xR.flatMap P5.l++q9.l,i<H.length∧i∉k7 c im q∧c<=i:=fun i hi=>by
  have hi2:i∈(xR++[q9]).flatMap P5.l:=by rw[ot];exact hi
  exact⟨hb.fa.ats.lt i hi2,sZ hb.fa i hi2,hb.fa.low i (Zl _ (ZG _ hi2))⟩
 have B3:im≠c:=fun e=>n1 (by rw[e];exact Zv)
 obtain⟨H1,Sw⟩:∃ H1,H1=(bg H' (k7 c im q) H0).set c (cB x F.aT (.row im l0.length) q9.a q9.b q9.c q9.d q9.e):=⟨_,rfl⟩
 have k61:H1[im]? =some (c9 (l0++[r])):=by rw[Sw];exact bQ (Ne.symm B3) k6
 have XE:eD ps (bg H' (k7 c im q) H0) H1:=by
  rw[Sw]
  refine eD.set k0 (.inr ⟨_,_,_,?_,.inl ⟨rfl,rfl⟩⟩)
  exact cZ.app _ _ _ _ (cZ.app _ _ _ _ h2 (cZ.refl gR.refl _)) (cZ.refl gR.refl _)
 have oS:mT ps (c9 (l0++[r])) (.row (pQ xR fs) y6):=by
  unfold c9
  rw[xj]
  exact vo h1
 have same:∀ i,i<H.length->i∉k7 c im q->(H1.set im (.row (pQ xR fs) y6))[i]? =H[i]? :=fun i hi hk=>by
  rw[Zt,if_neg (fun e:im=i=>hk (by rw[<- e];exact pU)),Sw,Zt,if_neg (fun e=>hk (by rw[<- e];exact Zv))]
  exact hb.out hi hk
 have a9:jT (H1.set im (.row (pQ xR fs) y6)) q9 x:=by
  obtain⟨b1,b2,b3,b4,b5⟩:=ha9
  have g:∀ i∈q9.l,(H1.set im (.row (pQ xR fs) y6))[i]? =H[i]? :=fun i hi=>same i (hold i (ZG _ hi)).1 (hold i (ZG _ hi)).2.1
  refine⟨?_,?_,?_,?_,?_⟩
  ·rw[g q9.a (by simp[P5.l])];exact b1
  ·rw[g q9.b (by simp[P5.l])];exact b2
  ·rw[g q9.c (by simp[P5.l])];exact b3
  ·rw[g q9.d (by simp[P5.l])];exact b4
  ·rw[g q9.e (by simp[P5.l])];exact b5
 have eu:sI im {F with b:=x,marks:=fs} false= .row im l0.length:=by rw[hl0];rfl
 refine⟨H1.set im (.row (pQ xR fs) y6),eD.trans XE k61 k6 oS,⟨false,q9,im,xR,⟨?_,a9,fO k61,(fun h=>by cases h),?_,?_,?_⟩⟩,fun i hi=> ?_⟩
 ·rw[eu]
  refine bQ B3 ?_
  rw[Sw]
  exact fO k0
 ·exact ef.congr fun i hi=>same i (hold i (ZU _ hi)).1 (hold i (ZU _ hi)).2.1
 ·rw[ZB,ZB,ZW]
  refine⟨fun hm=> ?_,fun hm=> ?_,n5,n4,fun a ha b hb' e=>n6 b hb' a ha e.symm⟩
  ·rcases Zw.1 hm with e | hm
   ·exact B3 e.symm
   ·refine(hold c ?_).2.1 Zv
    exact Du
  ·refine(hold im ?_).2.1 pU
   exact Du
 ·intro i hi
  rcases Zw.1 hi with rfl | hi
  ·exact hb.fa.low i Zv
  ·refine(hold i ?_).2.2
   rcases Zq.1 hi with hi | hi
   ·exact ZG _ hi
   ·exact ZU _ hi
 ·have hcl:=(o6 hb.fa c Zv).2
  exact same i (by omega) fun hm=>by have:=(o6 hb.fa i hm).1;omega
theorem Om{F:bT}{n:List Int}(h:(bp F .mark n).2.2=0):(bp F .mark n).1={F with marks:=F.marks++[F.b]}:=by
 revert h
 unfold bp
 dsimp only
 split
 ·intro h;cases h
 ·intro _;rfl
theorem A3(h:e8 c F z H q im qs)(hF:kO F)(s:Bs)(v:Vb)(n:List Int)(hpa:bO s=some (v,n))(hv:lT v=false)(hs:s.length<=120)(hz:z=true->l=[])(hl:l.length=F.marks.length)(Sm:cZ (gR ps) (ni l) (pQ qs F.marks)):ay Tryz.prog 13 [.ptr c 0,.p (.str (sB s))] (H.set im (mL z l)) (fun x H2=>∃ H3,eD ps H2 H3∧Cr c F s H x H3) (fun _ H2=>∃ H3:List ai,eD ps H2 H3∧False):=by
 obtain⟨H',NN⟩:∃ H',H'=H.set im (mL z l):=⟨_,rfl⟩
 rw[<- NN]
 have hnd:=h.nd
 rw[ZB,ZB,ZW] at hnd
 obtain⟨n1,n2,n3,n4,n5⟩:=hnd
 have B3:im≠c:=fun e=>n1 (by rw[e];exact Zv)
 have RZ:im∉q.l:=fun hm=>n2 (ZU _ hm)
 have g0:H'[c]? =some (cB F.b F.aT (sI im F z) q.a q.b q.c q.d q.e):=by rw[NN];exact bQ B3 h.fl
 have g5:jT H' q F.b:=by rw[NN];exact h.a5.set RZ
 have gm:H'[im]? =some (mL z l):=by rw[NN];exact fO h.mb
 have XT:aY (oD H' (k7 c im q)) (sI im F z)=mK z l:=by
  cases z with
  | true=>rfl
  | false=>
   have e:=BF (tD h) (j:=6) rfl gm rfl
   show aY _ (.row im F.marks.length)= .row 6 l.length
   simp only[aY,e,hl]
 -- what is left
 have beh:∀ H0,bW (fq F.b F.aT (mK z l) (mL z l)) H0->x7 c F z H q im qs l H' H0:=fun H0 hk=>⟨h,NN,hk.out g0 g5 gm⟩
 have hM:=LF z l
 have err:∀ H0,bW (fq F.b F.aT (mK z l) (mL z l)) H0->aD F s=(F,[],(aD F s).2.2)->Iy F.b F.aT (mK z l) (mL z l) H0->∃ H3,eD ps (bg H' (k7 c im q) H0) H3∧(∃ z q im qs,e8 c (aD F s).1 z H3 q im qs)∧∀ i,i<c->H3[i]? =H[i]? :=fun H0 hk he ⟨e0,e5,e6,_⟩=>by
  rw[he]
  have hb:=beh H0 hk
  refine LV (F':=F) (z':=z) (ET:=qs) (q0:=⟨13,12,14,15,16⟩) hb rfl h.mz hb.ats (fun _ hi=>hi) n4 e0 (by decide) e5 e6 hM ?_ ?_
  ·cases z with
   | true=>rfl
   | false=>
    have:=jn hb.k e6 rfl
    rw[hb.p6] at this
    show aY _ (.row 6 l.length)= .row im F.marks.length
    simp only[aY,this,hl]
  ·cases z with
   | true=>exact .inl rfl
   | false=>exact yC Sm
 have fin:∀ Qr:V->List ai->Prop,ay Tryz.prog 13 [.ptr 0 0,.p (.str (sB s))] (fq F.b F.aT (mK z l) (mL z l)) Qr (fun _ _=>False)->(∀ x H0,Qr x H0->x=xy F s∧bW (fq F.b F.aT (mK z l) (mL z l)) H0∧∃ H3,eD ps (bg H' (k7 c im q) H0) H3∧(∃ z q im qs,e8 c (aD F s).1 z H3 q im qs)∧∀ i,i<c->H3[i]? =H[i]?)->ay Tryz.prog 13 [.ptr c 0,.p (.str (sB s))] H' (fun x H2=>∃ H3,eD ps H2 H3∧Cr c F s H x H3) (fun _ H2=>∃ H3:List ai,eD ps H2 H3∧False):=fun Qr hc hQ=>by
  refine(TJ (tD h) g0 g5 gm hM XT hc fun x H0 hq=>(hQ x H0 hq).2.1).mono (fun x H2 hx=> ?_) (fun _ _ h=>h.elim)
  obtain⟨x0,H0,hq,rfl,rfl⟩:=hx
  obtain⟨rfl,hk,H3,h1,h2,h3⟩:=hQ x0 H0 hq
  exact⟨H3,h1,rfl,h2,h3⟩
 have VO:¬ 120<s.length:=by omega
 cases v <;> first | cases hv | skip
 ·refine fin _ (az.Kd (WT F s hF n hpa hs z l hz hl)) fun x H0 ⟨hx,hk,hc⟩=>⟨hx,hk,?_⟩
  rcases hc with⟨h0,hQ⟩ | ⟨_,he,hE⟩
  ·have e:(aD F s).1={F with marks:=F.marks++[F.b]}:=by
     have e1:aD F s=bp F .mark n:=by unfold aD;rw[if_neg VO,hpa]
     rw[e1] at h0 ⊢
     exact Om h0
   rw[e]
   exact NQ (beh H0 hk) hl Sm hQ
  ·exact err H0 hk he hE
 ·refine fin _ (az.Kd (W7 F s hF n hpa hs z l hz hl)) fun x H0 ⟨hx,hk,hc⟩=>⟨hx,hk,?_⟩
  rcases hc with⟨fs,y,l0,r,hm,el,ez,e,hQ⟩ | ⟨_,he,hE⟩
  ·have ef:=h.ats
   rw[hm] at ef
   obtain⟨xR,q9,rfl,Qx,ha9⟩:=ef.last
   subst ez
   have hl0:l0.length=fs.length:=by rw[el,hm] at hl;simpa using hl
   have hb:=beh H0 hk
   have KY:=Sm
   rw[el,hm] at KY
   obtain⟨t1,t2⟩:=yp Qx.len hl0 KY
   rw[e]
   exact Mj hb hm hl0 Qx ha9 t1 t2 hQ
  ·exact err H0 hk he hE
 ·refine fin _ (az.Kd (Xq F s hF n hpa hs z l hz hl)) fun x H0 ⟨hx,hk,hc⟩=>⟨hx,hk,?_⟩
  rcases hc with⟨fs,y,l0,r,hm,el,ez,e,hQ⟩ | ⟨_,he,hE⟩
  ·have ef:=h.ats
   rw[hm] at ef
   obtain⟨xR,q9,rfl,Qx,ha9⟩:=ef.last
   subst ez
   have hl0:l0.length=fs.length:=by rw[el,hm] at hl;simpa using hl
   have hb:=beh H0 hk
   have KY:=Sm
   rw[el,hm] at KY
   obtain⟨t1,t2⟩:=yp Qx.len hl0 KY
   obtain⟨k0,k5,k6⟩:=hQ
   have t6:=jn hb.k k6 rfl
   rw[hb.p6] at t6
   have iW:=hb.ats
   rw[hm] at iW
   obtain⟨qa,qb,eqq,aar,_⟩:=iW.last
   obtain⟨rfl,_⟩:=List.append_inj' eqq rfl
   rw[e]
   rw[ot,ZW] at n4
   refine LV (F':={F with marks:=fs}) (z':=false) (ET:=xR) (q0:=uD 1) (um0:= .row 6 l0.length) (M0:=c9 (l0++[r])) hb rfl (fun h=>by cases h) aar (fun i hi=>by rw[ot];exact ZU _ hi) n4.1 k0 (by decide) k5 k6 (fun σ=>ie σ _) ?_ ?_
   ·show aY _ (.row 6 l0.length)= .row im fs.length
    simp only[aY,t6,hl0]
   ·unfold c9
    rw[xj]
    exact vo t1
  ·exact err H0 hk he hE
theorem step_mk(h:e8 c F z H q im qs)(hF:kO F)(s:Bs)(v:Vb)(n:List Int)(hpa:bO s=some (v,n))(hv:lT v=false)(hs:s.length<=120):ay Tryz.prog 13 [.ptr c 0,.p (.str (sB s))] H (Cr c F s H) (fun _ _=>False):=by
 cases z with
 | true=>
  have hm:=h.mz rfl
  have hqs:qs=[]:=ZA (by rw[h.ats.len,hm];rfl)
  have e:H.set im (mL true [])=H:=by
   have:H[im]? =some (mL true []):=h.mb
   apply Fm
   intro i
   rw[Zt]
   split
   ·rename_i e;subst e
    rw[if_pos (Za.1 this).1,this]
   ·rfl
  have:=A3 (ps:=[]) (l:=[]) h hF s v n hpa hv hs (fun _=>rfl) (by rw[hm];rfl) (by rw[hm,hqs];rfl)
  rw[e] at this
  exact ay.Uy fun w I ρ hi=>⟨H,[],hi,(fun p hp=>by cases hp),this⟩
 | false=>
  refine ay.Rp im (cs:=pQ qs F.marks) (e:=y6) h.mb fun cs' ps Wq=> ?_
  obtain⟨l,rfl,hl⟩:=zb qs F.marks cs' h.ats.len Wq
  exact A3 h hF s v n hpa hv hs (fun h=>by cases h) hl (wg _ _ Wq)
theorem tv(h:e8 c F z H q im qs)(hF:kO F)(s:Bs):ay Tryz.prog 13 [.ptr c 0,.p (.str (sB s))] H (Cr c F s H) (fun _ _=>False):=by
 by_cases hp:s.length<=120->∀ v n,bO s=some (v,n)->lT v=true
 ·exact P6 h hF s hp
 ·have hs:s.length<=120:=Decidable.byContradiction fun hs=>hp fun h=>absurd h hs
  cases hpa:bO s with
  | none=>exact absurd (fun _ v n h=>by rw[hpa] at h;cases h) hp
  | some vn=>
   obtain⟨v,n⟩:=vn
   cases hv:lT v with
   | true=>exact absurd (fun _ v' n' h=>by rw[hpa] at h;cases h;exact hv) hp
   | false=>exact step_mk h hF s v n hpa hv hs
end
theorem OC{pre Q0:List ai}{b:bI}:jT (pre++(eM b++Q0)) (uD pre.length) b:=by
 have g:∀(k:Nat) (x:ai),(eM b)[k]? =some x->(pre++(eM b++Q0))[pre.length+k]? =some x:=fun k x hx=>by
  rw[Zj (by omega),ZH,Zd (Za.1 hx).1]
  exact hx
 exact⟨g 0 _ rfl,g 1 _ rfl,g 2 _ rfl,g 3 _ rfl,g 4 _ rfl⟩
theorem Ht:∀(bs:List bI) (pre Q0:List ai),qE (pre++(bs.flatMap eM++Q0)) (kj pre.length bs.length) bs
 | [],_,_=> .nil
 | b::bs,pre,Q0=>by
  have e:pre++((b::bs).flatMap eM++Q0)=pre++(eM b++(bs.flatMap eM++Q0)):=by rw[ZI,ZQ]
  have h2:=Ht bs (pre++eM b) Q0
  rw[Zc,ZQ,show(eM b).length=5 from rfl] at h2
  rw[e]
  exact .cons OC h2
theorem en(pre:List ai)(F:bT)(z:Bool)(hz:z=true->F.marks=[]):e8 pre.length F z (pre++bH pre.length F z) (uD (pre.length+2)) (pre.length+1) (kj (pre.length+7) F.marks.length):=by
 have e1:pre++bH pre.length F z=(pre++[cB F.b F.aT (sI (pre.length+1) F z) (pre.length+2) (pre.length+3) (pre.length+4) (pre.length+5) (pre.length+6),D1 (kj (pre.length+7) F.marks.length) F z])++(eM F.b++(F.marks.flatMap eM++dG (40 - 5*F.marks.length))):=by
  unfold bH
  simp only[ZQ,Po,Px]
 have e2:pre++bH pre.length F z=(pre++[cB F.b F.aT (sI (pre.length+1) F z) (pre.length+2) (pre.length+3) (pre.length+4) (pre.length+5) (pre.length+6),D1 (kj (pre.length+7) F.marks.length) F z]++eM F.b)++(F.marks.flatMap eM++dG (40 - 5*F.marks.length)):=by
  rw[e1];simp only[ZQ]
 have g0:(pre++bH pre.length F z)[pre.length]? =some (cB F.b F.aT (sI (pre.length+1) F z) (pre.length+2) (pre.length+3) (pre.length+4) (pre.length+5) (pre.length+6)):=by
  rw[Zj (Zf _),OX];rfl
 have g1:(pre++bH pre.length F z)[pre.length+1]? =some (D1 (kj (pre.length+7) F.marks.length) F z):=by
  rw[Zj (by omega),ZH];rfl
 have hl:(pre.length::(pre.length+1)::((uD (pre.length+2)).l++(kj (pre.length+7) F.marks.length).flatMap P5.l))=List.range' pre.length (7+5*F.marks.length):=by
  rw[tc,<- List.range'_append_1]
  rfl
 refine⟨g0,?_,g1,hz,?_,?_,?_⟩
 ·rw[e1]
  have:=OC (pre:=pre++[cB F.b F.aT (sI (pre.length+1) F z) (pre.length+2) (pre.length+3) (pre.length+4) (pre.length+5) (pre.length+6),D1 (kj (pre.length+7) F.marks.length) F z]) (Q0:=F.marks.flatMap eM++dG (40 - 5*F.marks.length)) (b:=F.b)
  rw[Zc] at this
  exact this
 ·rw[e2]
  have:=Ht F.marks (pre++[cB F.b F.aT (sI (pre.length+1) F z) (pre.length+2) (pre.length+3) (pre.length+4) (pre.length+5) (pre.length+6),D1 (kj (pre.length+7) F.marks.length) F z]++eM F.b) (dG (40 - 5*F.marks.length))
  rw[Zc,Zc] at this
  exact this
 ·rw[hl];exact List.nodup_range'
 ·intro i hi
  have:i∈List.range' pre.length (7+5*F.marks.length):=by rw[<- hl];exact Zl _ hi
  exact(OZ.1 this).1
theorem HF{R:Option Nat}{N κ:Nat}{Q:Post}{T T2:Tm}{o:Oper}{ops:Array Oper}{rest:List Oper}{f:Operand}{xs:Array Operand}{ts:Array TypeId}(d:Nat)(pre:List ai)(F:bT)(z:Bool)(s:Bs)(hF:kO F)(hz:z=true->F.marks=[])(hpre:∀(i:Nat) (x:ai),pre[i]? =some x->IE (pre.length+1) x)(hκ:κ<=pre.length)
    (ho:o.op= .call {callee:= .value f,args:=xs,argTypes:=ts})(hd:o.dst=some d)(hN:aU N (some d)=true)(hg:o.guard=none)(hf:ev T f=some (.p (.func (.func 13) [] [])))(hxs:jU T xs.toList=some [.ptr pre.length 0,.p (.str (sB s))])(TG:ak Tryz.prog 13=true)(hT:Sub T2 T)(hl:eV (below (pre.length+1)) T2=T2)
    (next:∀ z',(z'=true->(aD F s).1.marks=[])->aj Tryz.prog R N κ ops rest Q ((d,xy F s)::T2) (pre++bH pre.length (aD F s).1 z')):aj Tryz.prog R N κ ops (o::rest) Q T (pre++bH pre.length F z):=by
 refine aj.dH d (tv (en pre F z hz) hF s) ho hd hN hg hf hxs rfl TG (fun _ _ h=>h.elim) fun x H3 hx=> ?_
 obtain⟨rfl,⟨z',q,im,qs,hfl⟩,hlow⟩:=hx
 refine aj.to (wU hfl rfl (fun i x hi=>⟨?_,hpre i x hi⟩) hκ (T2:=(d,xy F s)::T2) ?_ ?_) (next z' hfl.mz)
 ·have:=(Za.1 hi).1
  rw[hlow i this,Zd this]
  exact hi
 ·intro s' v hv
  simp only[lk] at hv ⊢
  cases hb:Nat.beq d s' with
  | true=>rw[hb] at hv;exact hv
  | false=>rw[hb] at hv;exact hT s' v hv
 ·show(d,xy F s)::eV _ T2=_
  rw[hl]
theorem To.rot{P:Program}{κ N:Nat}{T:Tm}(A B C:List ai)(hκ:κ<=A.length):∃ σ:Nat->Option Nat,(∀ i,i<A.length->σ i=some i)∧(∀ k,k<B.length->σ (A.length+k)=some (A.length+C.length+k))∧(∀ j,j<C.length->σ (A.length+B.length+j)=some (A.length+j))∧
    To P κ N T (A++(B++C)) (eV σ T) (A.map (aH σ)++(C.map (aH σ)++B.map (aH σ))):=by
 obtain⟨ks,yP⟩:∃ ks,ks=List.range A.length++(List.range' (A.length+B.length) C.length++List.range' A.length B.length):=⟨_,rfl⟩
 have hnk:ks.Nodup:=by
  rw[yP,ZW,ZW]
  refine⟨List.nodup_range,⟨List.nodup_range',List.nodup_range',fun a ha b hb=> ?_⟩,fun a ha b hb=> ?_⟩
  ·have h1:=OZ.1 ha
   have h2:=OZ.1 hb
   omega
  ·have h1:=ZZ.1 ha
   rcases Zq.1 hb with hb | hb
   ·have h2:=OZ.1 hb;omega
   ·have h2:=OZ.1 hb;omega
 have g1:∀ i,i<A.length->ks[i]? =some i:=fun i hi=>by
  exact Df
 have g2:∀ j,j<C.length->ks[A.length+j]? =some (A.length+B.length+j):=fun j hj=>by
  rw[yP,Zj (by rw[Mi];omega),Mi,ZH,Zd (by rw[TK];exact hj),Ws hj,ZL]
 have g3:∀ k,k<B.length->ks[A.length+C.length+k]? =some (A.length+k):=fun k hk=>by
  rw[yP,Zj (by rw[Mi];omega),Mi,Mz,ZH,Zj (by rw[TK];omega),TK,ZH,Ws hk,ZL]
 refine⟨pl ks,fun i hi=>mF hnk (g1 i hi),fun k hk=>mF hnk (g3 k hk),fun j hj=>mF hnk (g2 j hj),?_⟩
 have hkeep:jK κ (A++(B++C)).length ks=true:=by
  unfold jK
  simp only[Zm,beq_iff_eq,Zz,Zn]
  refine⟨⟨?_,fun i hi=> ?_⟩,hnk⟩
  ·exact D7
  ·have:i<(A++(B++C)).length:=by
     rw[Zc,Zc]
     rw[yP] at hi
     rcases Zq.1 hi with hi | hi
     ·have:=ZZ.1 hi;omega
     ·rcases Zq.1 hi with hi | hi
      ·have:=OZ.1 hi;omega
      ·have:=OZ.1 hi;omega
   simpa[Nat.blt,Zx] using this
 have hk:=To.keep (P:=P) (κ:=κ) (N:=N) (T:=T) (H:=A++(B++C)) ks hkeep
 refine To.xO hk ?_
 have seg:∀(s n:Nat) (X:List ai),X.length=n->(∀ i,i<n->(A++(B++C))[s+i]? =X[i]?)->(List.range' s n).map (fun i=>aH (pl ks) ((A++(B++C)).getD i .dead))=X.map (aH (pl ks)):=fun s n X hX h=>by
  apply Fm
  intro i
  rw[Zs,Zs]
  rcases ZM i n with hi | hi
  ·rw[Ws hi,ZL]
   have hx:=Zb (show i<X.length by omega)
   show some (aH (pl ks) ((A++(B++C)).getD (s+i) .dead))=_
   rw[Ze,h i hi,hx]
   rfl
  ·rw[ZF (by rw[TK];exact hi),ZF (by omega)]
   rfl
 generalize pl ks=σ at seg ⊢
 rw[yP,ZC,ZC,List.range_eq_range',seg 0 A.length A rfl (fun i hi=>by rw[zq,Zd hi]),
  seg (A.length+B.length) C.length C rfl (fun i hi=>by rw[Zj (by omega),Zj (by omega)];congr 1;omega),
  seg A.length B.length B rfl (fun i hi=>by rw[Zj (by omega),ZH,Zd hi])]
theorem IP(l:List bI):(l.flatMap eM).length=5*l.length:=by
 induction l with
 | nil=>rfl
 | cons b l ih=>rw[ZI,Zc,ih,Zo];show 5+_=_;omega
theorem fj{c:Nat}{F:bT}{z:Bool}(hm:F.marks.length<=8):(bH c F z).length=47:=by
 unfold bH
 rw[Zo,Zo,Zc,Zc,IP,oz]
 show 5+_+_+1+1=47
 omega
theorem yJ{σ:Nat->Option Nat}(b:bI):(eM b).map (aH σ)=eM b:=by
 unfold eM c7 cY c8 bu
 simp only[ZD,C5,bC]
theorem yt{σ:Nat->Option Nat}:∀ l:List bI,(l.flatMap eM).map (aH σ)=l.flatMap eM
 | []=>rfl
 | b::l=>by rw[ZI,ZC,yJ,yt l]
theorem yu{σ:Nat->Option Nat}:∀ r,(dG r).map (aH σ)=dG r
 | 0=>rfl
 | r+1=>by show ai.dead::(dG r).map (aH σ)=_;rw[yu r];rfl
theorem qF{c c2:Nat}{F:bT}{z:Bool}{σ:Nat->Option Nat}(hm:F.marks.length<=8)(h:∀ k,k<47->σ (c+k)=some (c2+k)):(bH c F z).map (aH σ)=bH c2 F z:=by
 unfold bH
 rw[ZD,ZD,ZC,ZC,yJ,yt,yu]
 have f1:aH σ (cB F.b F.aT (sI (c+1) F z) (c+2) (c+3) (c+4) (c+5) (c+6))=cB F.b F.aT (sI (c2+1) F z) (c2+2) (c2+3) (c2+4) (c2+5) (c2+6):=
  G0 (q:=uD (c+2)) (i:=c2+2) (by
   cases z with
   | true=>rfl
   | false=>
    have:=h 1 (by decide)
    show aY σ (.row (c+1) _)=_
    simp only[aY,this]
    rfl) fun k x hx=>by
   have hk:k<5:=(Za.1 hx).1
   have e:x=c+2+k:=by
    match k,hk with
    | 0,_=>cases hx;rfl
    | 1,_=>cases hx;rfl
    | 2,_=>cases hx;rfl
    | 3,_=>cases hx;rfl
    | 4,_=>cases hx;rfl
   rw[e,Mz,h (2+k) (by omega),Mz]
 have f2:aH σ (D1 (kj (c+7) F.marks.length) F z)=D1 (kj (c2+7) F.marks.length) F z:=by
  cases z with
  | true=>rfl
  | false=>
   show ai.row (bw _ _) _=_
   rw[Ay (kj (c+7) F.marks.length) F.marks (c2+7) (Eb _ _) fun k x hx=> ?_]
   ·rfl
   ·rw[tc] at hx
    have hk:k<5*F.marks.length:=by
     have:=(Za.1 hx).1
     rwa [TK] at this
    rw[Ws hk] at hx
    cases hx
    rw[ZL,Mz,h (7+k) (by omega),Mz]
 rw[f1,f2]
end Go.Proofs.YtibffijhebobmaaGreatDoor
end
