/-
 Chapter 15, the program: a floor with its marks among own blocks, at any places, and in its own order.
 Chapter 15, the program: a floor is brought into its own order.
 Chapter 15, the program: what a line does to a floor, without what its marks hold.
 Chapter 15, the program: a line that leaves the marks alone.
 Chapter 15, the program: a line that leaves the marks alone, whole.
 Chapter 15, the program: a line that leaves the marks alone, done by a floor with its marks.
 Chapter 15, the program: seven own blocks of a floor (its struct, its rows, its marks) among others; marks as exact slices.
 Chapter 15, the program: lines that set a mark, go back to one, or keep what was entered.
 Chapter 15, the program: what mark, back and keep do, as lines.
 Chapter 15, the program: what back and keep do, as lines.
 Chapter 15, the program: a floor with its marks, wherever it lies, does a line that turns its marks.
 Chapter 15, the program: a floor with its marks does any line.
 Chapter 15, the program: a floor does a line, whole.
 Chapter 15, the program: a call of Line on a floor in its own order.
 Chapter 15, the program: a floor changes its place among own blocks.
-/
import Derived.Test.YtibffijhebobmaaGreatDoorMzTE
import Derived.Test.YtibffijhebobmaaGreatDoorFaTF
theorem D8{A:Prop}(h:A:=by
 obtain⟨rfl,⟨_,_,_,_,h,_⟩ | ⟨h1,h2,h3⟩⟩:=hq
 ·exact h.elim
 ·exact nr):A:=h
theorem qG{A:Prop}(h:A:=by
 exact⟨ZR rfl,fun j x y hj hx hd hy=>by
  match j,hj with
  | 0,_=>cases hx;cases hd
  | 1,_=>cases hx;cases hy;exact hd
  | 2,_=>cases hx;cases hy;exact hd
  | 3,_=>cases hx;cases hy;exact hd
  | 4,_=>cases hx;cases hy;exact hd
  | 5,_=>cases hx;cases hy;exact hd
  | 6,_=>cases hx;cases hd⟩):A:=h
theorem rC{A:Prop}(h:A:=by
 have hi:i<n:=by
  rcases ZS i n with h | h
  ·exact h
  ·have:below n i=none:=by unfold below;rw[if_neg (by simp[Nat.blt];omega)]
   simp only[bf,this] at e
   cases e
 simp only[bf,h i hi]):A:=h
theorem DY{A:Prop}(h:A:=by
 exact⟨ZR rfl,fun j x y hj hx hd hy=>by
  match j,hj with
  | 0,_=>cases hx;cases hd
  | 1,_=>cases hx;cases hy;exact hd
  | 2,_=>cases hx;cases hy;exact hd
  | 3,_=>cases hx;cases hy;exact hd
  | 4,_=>cases hx;cases hy;exact hd
  | 5,_=>cases hx;cases hy;exact hd
  | 6,_=>cases hy;rfl⟩):A:=h
theorem Dp{A:Prop}(h:A:=by
 exact⟨rfl,nq hk,.inl ⟨h0,fin (x:= .top) rfl hk (by rw[g3];rfl) (by rw[g3];exact⟨rfl,rfl,rfl,rfl,rfl⟩) (by rw[g3];exact⟨rfl,rfl,rfl,rfl,rfl⟩) (by rw[g3];rfl)⟩⟩):A:=h
theorem nr{A:Prop}(h:A:=by
 exact⟨rfl,h3.2.2.2,.inr ⟨h1,h2,h3⟩⟩):A:=h
theorem CN{A:Prop}(h:A:=by
 exact⟨dz (by decide) (by decide) g1,dz (by decide) (by decide) g2,dz (by decide) (by decide) g3,dz (by decide) (by decide) g4,dz (by decide) (by decide) g5⟩):A:=h
theorem BE{A:Prop}(h:A:=by
 rcases Zo.1 hm with hm | hm
 ·exact(hnew i Zt).2 hm
 ·exact n2 (ZG _ hm)):A:=h
theorem E8{A:Prop}(h:A:=by
 rcases Zo.1 hm with hm | hm
 ·exact ZG _ hm
 ·exact ZX _ hm):A:=h
theorem EN{A:Prop}(h:A:=by
 rw[yj,Yl (by rw[KO];exact hκ),List.take_range,KI hκ]):A:=h
theorem DU{A:Prop}(h:A:=by
 rcases AK F.marks with h | ⟨fs,x,h⟩
 ·rw[h] at hl;simp at hl
 ·exact⟨fs,x,h⟩):A:=h
theorem Bw{A:Prop}(h:A:=by
 rw[yj,Zd (by rw[KO];exact hi),XR hi]):A:=h
set_option linter.unusedSimpArgs false
set_option linter.unusedVariables false
section
set_option maxRecDepth 100000
namespace Go.Proofs.YtibffijhebobmaaGreatDoor
open Go.AF
mutual
theorem nO{n:Nat}{σ:Nat->Option Nat}(h:∀ i,i<n->σ i=some i):∀ v:V,bf (below n) v=v->bf σ v=v
 | .p _,_=>rfl
 | .ptr i off,e=>by
  exact rC
 | .row i len,e=>by
  exact rC
 | .sl i off len,e=>by
  exact rC
 | .map i,e=>by
  exact rC
 | .func fn fi ca,e=>by
  simp only[bf,V.func.injEq,true_and] at e ⊢
  exact⟨iM h fi e.1,iM h ca e.2⟩
 | .iface t v,e=>by
  simp only[bf,V.iface.injEq,true_and] at e ⊢
  exact nO h v e
 | .agg cs,e=>by
  simp only[bf,V.agg.injEq] at e ⊢
  exact iM h cs e
 | .tuple cs,e=>by
  simp only[bf,V.tuple.injEq] at e ⊢
  exact iM h cs e
 | .opt g v,e=>by
  simp only[bf,V.opt.injEq,true_and] at e ⊢
  exact nO h v e
 | .raw _ _ _,_=>rfl
 | .z0,_=>rfl
 | .top,_=>rfl
theorem iM{n:Nat}{σ:Nat->Option Nat}(h:∀ i,i<n->σ i=some i):∀ vs:List V,bA (below n) vs=vs->bA σ vs=vs
 | [],_=>rfl
 | v::vs,e=>by
  simp only[bA,List.cons.injEq] at e ⊢
  exact⟨nO h v e.1,iM h vs e.2⟩
end
theorem EF{n:Nat}{σ:Nat->Option Nat}(h:∀ i,i<n->σ i=some i):∀ T:Tm,eV (below n) T=T->eV σ T=T
 | [],_=>rfl
 | (s,v)::T,e=>by
  simp only[eV,List.cons.injEq,Prod.mk.injEq,true_and] at e ⊢
  exact⟨nO h v e.1,EF h T e.2⟩
def IU(n:Nat):ah->Prop
 | .cells cs _=>bA (below n) cs=cs
 | .row cs _=>bA (below n) cs=cs
 | .gV cs _=>bA (below n) cs=cs
 | .loop r _ _=>eV (below n) r.T=r.T
 | .dead=>True
 | _=>False
theorem MO{n:Nat}{σ:Nat->Option Nat}(h:∀ i,i<n->σ i=some i){x:ah}(e:IU n x):aE σ x=x:=by
 cases x with
 | cells cs t=>show ah.cells (bA σ cs) t=_;rw[iM h cs e]
 | row cs t=>show ah.row (bA σ cs) t=_;rw[iM h cs e]
 | gV cs t=>show ah.gV (bA σ cs) t=_;rw[iM h cs e]
 | loop r st pe=>show ah.loop {r with T:=eV σ r.T} st pe=_;rw[EF h r.T e]
 | dead=>rfl
 | _=>exact e.elim
theorem mA{ks:List Nat}(hn:ks.Nodup){j i:Nat}(h:ks[j]? =some i):pl ks i=some j:=by
 have hj:=(Za.1 h).1
 have e:=(Za.1 h).2
 unfold pl List.idxOf?
 rw[ZaV]
 refine⟨hj,by simp[e],fun k hk=> ?_⟩
 intro hc
 have hc:ks[k]=i:=by simpa using hc
 have:k=j:=(Yi (by omega) hn).1 (by rw[Zc (by omega),hc,h])
 omega
structure P5 where
 a:Nat
 b:Nat
 c:Nat
 d:Nat
 e:Nat
def P5.l(q:P5):List Nat:=[q.a,q.b,q.c,q.d,q.e]
def tM(q:P5)(b:bN):List V:=dF q.a q.b q.c q.d q.e b
def eU(b:bN):List ah:=[dn b.au,cV b.ai,de b.aq,bz b.plan,bz b.bZ]
def uq(i:Nat):P5:=⟨i,i+1,i+2,i+3,i+4⟩
def pJ:List P5->List bN->List V
 | q::qs,b::bs=>tM q b++pJ qs bs
 | _,_=>[]
def kz(i:Nat):Nat->List P5
 | 0=>[]
 | n+1=>uq i::kz (i+5) n
def tn(im:Nat)(F:cW)(z:Bool):V:=bif z then .z0 else .row im F.marks.length
def DG(qs:List P5)(F:cW)(z:Bool):ah:=bif z then .dead else .row (pJ qs F.marks) zb
def cD(c:Nat)(F:cW)(z:Bool):List ah:=cH F.b F.aV (tn (c+1) F z) (c+2) (c+3) (c+4) (c+5) (c+6)::DG (kz (c+7) F.marks.length) F z::(eU F.b++F.marks.flatMap eU++dR (40 - 5*F.marks.length))
def jS(H:List ah)(q:P5)(b:bN):Prop:=H[q.a]? =some (dn b.au)∧H[q.b]? =some (cV b.ai)∧H[q.c]? =some (de b.aq)∧H[q.d]? =some (bz b.plan)∧H[q.e]? =some (bz b.bZ)
inductive qv (H:List ah):List P5->List bN->Prop
 | nil:qv H [] []
 | cons {q:P5} {b:bN} {qs:List P5} {bs:List bN} (h:jS H q b) (t:qv H qs bs):qv H (q::qs) (b::bs)
structure fV (c:Nat) (F:cW) (z:Bool) (H:List ah) (q:P5) (im:Nat) (qs:List P5):Prop where
 fl:H[c]? =some (cH F.b F.aV (tn im F z) q.a q.b q.c q.d q.e)
 a5:jS H q F.b
 mb:H[im]? =some (DG qs F z)
 mz:z=true->F.marks=[]
 ats:qv H qs F.marks
 nd:(c::im::(q.l++qs.flatMap P5.l)).Nodup
 low:∀ i∈(im::(q.l++qs.flatMap P5.l)),c<=i
theorem qv.len{H:List ah}{qs:List P5}{bs:List bN}(h:qv H qs bs):qs.length=bs.length:=by
 induction h with
 | nil=>rfl
 | cons _ _ ih=>rw[Zm,Zm,ih]
theorem tj:∀(r i:Nat),i<r->(dR r)[i]? =some .dead
 | 0,i,h=>by omega
 | r+1,0,_=>rfl
 | r+1,i+1,h=>tj r i (by omega)
theorem oJ:∀ r,(dR r).length=r
 | 0=>rfl
 | r+1=>by show(dR r).length+1=_;rw[oJ r]
theorem rM{σ:Nat->Option Nat}{H:List ah}{q:P5}{b:bN}(h:jS H q b):q.l.map (fun i=>aE σ (H.getD i .dead))=eU b:=by
 obtain⟨h1,h2,h3,h4,h5⟩:=h
 have g:∀{i:Nat} {x:ah},H[i]? =some x->H.getD i .dead=x:=fun hx=>by rw[Ze,hx];rfl
 show[aE σ (H.getD q.a .dead),aE σ (H.getD q.b .dead),aE σ (H.getD q.c .dead),aE σ (H.getD q.d .dead),aE σ (H.getD q.e .dead)]=_
 rw[g h1,g h2,g h3,g h4,g h5]
 simp only[dn,cV,de,bz,bE]
 rfl
theorem Km{σ:Nat->Option Nat}{H:List ah}{qs:List P5}{bs:List bN}(h:qv H qs bs):(qs.flatMap P5.l).map (fun i=>aE σ (H.getD i .dead))=bs.flatMap eU:=by
 induction h with
 | nil=>rfl
 | cons h _ ih=>rw[ZH,ZA,rM h,ih,ZH]
theorem HO{σ:Nat->Option Nat}{q:P5}{b:bN}{i:Nat}(h:∀(k x:Nat),q.l[k]? =some x->σ x=some (i+k)):bA σ (tM q b)=tM (uq i) b:=by
 unfold tM dF
 simp only[bK,cj,ef,cJ (h 0 q.a rfl),cJ (h 1 q.b rfl),cJ (h 2 q.c rfl),cJ (h 3 q.d rfl),cJ (h 4 q.e rfl)]
 rfl
theorem zR{σ:Nat->Option Nat}:∀(qs:List P5) (bs:List bN) (i:Nat),qs.length=bs.length->(∀(k x:Nat),(qs.flatMap P5.l)[k]? =some x->σ x=some (i+k))->bA σ (pJ qs bs)=pJ (kz i bs.length) bs
 | [],[],_,_,_=>rfl
 | q::qs,b::bs,i,hl,h=>by
  show bA σ (tM q b++pJ qs bs)=tM (uq i) b++pJ (kz (i+5) bs.length) bs
  rw[bF,HO (i:=i) fun k x hk=>h k x (by
   rw[ZH,Zd (Za.1 hk).1];exact hk),zR qs bs (i+5) (by simpa using hl) fun k x hk=>by
   have:=h (5+k) x (by rw[ZH,Zj (by show 5<=5+k;omega),show 5+k - q.l.length=k by show 5+k - 5=k;omega];exact hk)
   rw[this,NU]]
 | [],_::_,_,hl,_=>by cases hl
 | _::_,[],_,hl,_=>by cases hl
theorem HG{σ:Nat->Option Nat}{b:bN}{p:Di.bn}{um oz:V}{q:P5}{i:Nat}(hu:bf σ um=oz)(h:∀(k x:Nat),q.l[k]? =some x->σ x=some (i+k)):aE σ (cH b p um q.a q.b q.c q.d q.e)=cH b p oz i (i+1) (i+2) (i+3) (i+4):=by
 unfold cH
 rw[bS,bF,bF,aP]
 have e:=HO (σ:=σ) (b:=b) (i:=i) h
 unfold tM at e
 rw[e]
 simp only[bK,cj,ef,hu]
 rfl
theorem jS.lt{H:List ah}{q:P5}{b:bN}(h:jS H q b):∀ i∈q.l,i<H.length:=by
 obtain⟨h1,h2,h3,h4,h5⟩:=h
 intro i hi
 simp only[P5.l,Zr,KF,or_false] at hi
 rcases hi with rfl | rfl | rfl | rfl | rfl
 ·exact(Za.1 h1).1
 ·exact(Za.1 h2).1
 ·exact(Za.1 h3).1
 ·exact(Za.1 h4).1
 ·exact(Za.1 h5).1
theorem qv.lt{H:List ah}{qs:List P5}{bs:List bN}(h:qv H qs bs):∀ i∈qs.flatMap P5.l,i<H.length:=by
 induction h with
 | nil=>intro i hi;cases hi
 | cons h _ ih=>
  intro i hi
  rw[ZH] at hi
  rcases Zo.1 hi with hi | hi
  ·exact h.lt i hi
  ·exact ih i hi
theorem qE{P:Program}{κ N c:Nat}{T T2:Tm}{F:cW}{z:Bool}{H pre:List ah}{q:P5}{im:Nat}{qs:List P5}(h:fV c F z H q im qs)(hc:pre.length=c)(hpre:∀(i:Nat) (x:ah),pre[i]? =some x->H[i]? =some x∧IU (c+1) x)(hκ:κ<=c)(hT:Sub T2 T)(hl:eV (below (c+1)) T2=T2):To P κ N T H T2 (pre++cD c F z):=by
 obtain⟨r,er⟩:∃ r,r=40 - 5*F.marks.length:=⟨_,rfl⟩
 obtain⟨A,eA⟩:∃ A,A=c::im::(q.l++qs.flatMap P5.l):=⟨_,rfl⟩
 obtain⟨ks,yj⟩:∃ ks,ks=List.range c++(A++List.range' H.length r):=⟨_,rfl⟩
 have hcl:c<H.length:=(Za.1 h.fl).1
 have Rw:∀ i∈A,c<=i∧i<H.length:=by
  rw[eA]
  intro i hi
  rcases Zr.1 hi with rfl | hi
  ·exact⟨Zf _,hcl⟩
  ·refine⟨h.low i hi,?_⟩
   rcases Zr.1 hi with rfl | hi
   ·exact(Za.1 h.mb).1
   ·rcases Zo.1 hi with hi | hi
    ·exact h.a5.lt i hi
    ·exact h.ats.lt i hi
 have hnA:A.Nodup:=by rw[eA];exact h.nd
 have hnk:ks.Nodup:=by
  rw[yj,ZY,ZY]
  refine⟨List.nodup_range,⟨hnA,List.nodup_range',fun a ha b hb=> ?_⟩,fun a ha b hb=> ?_⟩
  ·have h1:=(Rw a ha).2
   have h2:=(K5.1 hb).1
   omega
  ·have h1:=xJ.1 ha
   rcases Zo.1 hb with hb | hb
   ·have:=(Rw b hb).1;omega
   ·have h2:=(K5.1 hb).1
    omega
 have gi:∀ i,i<c->ks[i]? =some i:=fun i hi=>by
  exact Bw
 have gA:∀(k x:Nat),A[k]? =some x->ks[c+k]? =some x:=fun k x hx=>by
  rw[yj,Zj (by rw[KO];omega),KO,ZJ,Zd (Za.1 hx).1]
  exact hx
 have pi:∀ i,i<c->pl ks i=some i:=fun i hi=>mA hnk (gi i hi)
 have pA:∀(k x:Nat),A[k]? =some x->pl ks x=some (c+k):=fun k x hx=>mA hnk (gA k x hx)
 have pc:pl ks c=some c:=by have:=pA 0 c (by rw[eA];rfl);rwa [KC] at this
 have pm:pl ks im=some (c+1):=pA 1 im (by rw[eA];rfl)
 have pq:∀(k x:Nat),q.l[k]? =some x->pl ks x=some (c+2+k):=fun k x hx=>by
  have:=pA (2+k) x (by rw[eA,S2 2 k];show(q.l++qs.flatMap P5.l)[k]? =some x;rw[Zd (Za.1 hx).1];exact hx)
  rw[this,NU]
 have pqs:∀(k x:Nat),(qs.flatMap P5.l)[k]? =some x->pl ks x=some (c+7+k):=fun k x hx=>by
  have:=pA (7+k) x (by rw[eA,show 7+k=5+k+2 by omega];show(q.l++qs.flatMap P5.l)[5+k]? =some x;rw[Zj (by show 5<=5+k;omega),show 5+k - q.l.length=k by show 5+k - 5=k;omega];exact hx)
  rw[this,NU]
 have YO:∀ i,i<c+1->pl ks i=some i:=fun i hi=>by
  rcases ZS i c with h | h
  ·exact pi i h
  ·obtain rfl:i=c:=by omega
   exact pc
 have hd:∀ i,i<H.length->(H++dR r).getD i .dead=H.getD i .dead:=fun i hi=>by
  rw[Ze,Ze,Zd hi]
 have hkeep:jA κ (H++dR r).length ks=true:=by
  unfold jA
  simp only[Zn,beq_iff_eq,Zx,Zq]
  refine⟨⟨?_,fun i hi=> ?_⟩,hnk⟩
  ·exact EN
  ·have:i<(H++dR r).length:=by
     rw[Zb,oJ]
     rw[yj] at hi
     rcases Zo.1 hi with hi | hi
     ·have:=xJ.1 hi;omega
     ·rcases Zo.1 hi with hi | hi
      ·have:=(Rw i hi).2;omega
      ·have:=(K5.1 hi).2;omega
   simpa[Nat.blt,Zw] using this
 have hmap:(ks.map fun i=>aE (pl ks) ((H++dR r).getD i .dead))=pre++cD c F z:=by
  have e1:(List.range c).map (fun i=>aE (pl ks) ((H++dR r).getD i .dead))=pre:=by
   apply Fp
   intro i
   rw[Zu]
   rcases ZS i c with hi | hi
   ·rw[XR hi]
    have hx:=Zc (show i<pre.length by omega)
    obtain⟨h1,h2⟩:=hpre i _ hx
    rw[hx]
    show some (aE (pl ks) ((H++dR r).getD i .dead))=_
    rw[hd i (Za.1 h1).1,Ze,h1]
    exact congrArg some (MO YO h2)
   ·rw[ZF (by rw[KO];exact hi),ZF (by omega)]
    rfl
  have e2:A.map (fun i=>aE (pl ks) ((H++dR r).getD i .dead))=A.map (fun i=>aE (pl ks) (H.getD i .dead)):=V1 fun i hi=>by rw[hd i (Rw i hi).2]
  have e3:A.map (fun i=>aE (pl ks) (H.getD i .dead))=cH F.b F.aV (tn (c+1) F z) (c+2) (c+3) (c+4) (c+5) (c+6)::DG (kz (c+7) F.marks.length) F z::(eU F.b++F.marks.flatMap eU):=by
   rw[eA,Zz,Zz,ZA,rM h.a5,Km h.ats]
   have f1:H.getD c .dead=cH F.b F.aV (tn im F z) q.a q.b q.c q.d q.e:=by rw[Ze,h.fl];rfl
   have f2:H.getD im .dead=DG qs F z:=by rw[Ze,h.mb];rfl
   rw[f1,f2,HG (oz:=tn (c+1) F z) (i:=c+2) (by
    cases z with
    | true=>rfl
    | false=>show bf _ (.row im _)=_;simp only[bf,pm];rfl) pq]
   have f3:aE (pl ks) (DG qs F z)=DG (kz (c+7) F.marks.length) F z:=by
    cases z with
    | true=>rfl
    | false=>show ah.row (bA _ _) _=_;rw[zR qs F.marks (c+7) h.ats.len pqs];rfl
   rw[f3]
  have e4:(List.range' H.length r).map (fun i=>aE (pl ks) ((H++dR r).getD i .dead))=dR r:=by
   apply Fp
   intro i
   rw[Zu]
   rcases ZS i r with hi | hi
   ·rw[Wo hi,tj r i hi]
    show some (aE (pl ks) ((H++dR r).getD (H.length+1*i) .dead))=_
    rw[Ze,ZO,Zj (by omega),ZJ,tj r i hi]
    rfl
   ·rw[ZF (by rw[VR];exact hi),ZF (by rw[oJ];exact hi)]
    rfl
  rw[yj] at e1 e2 e3 e4 ⊢
  rw[ZA,ZA,e1,e2,e3,e4,er]
  unfold cD
  simp only[OK,ZK]
 have hk:=To.keep (P:=P) (κ:=κ) (N:=N) (T:=T) (H:=H++dR r) ks hkeep
 rw[hmap] at hk
 refine(To.Qo r).trans (hk.trans (To.sub fun s v hv=> ?_))
 rw[rm,hT s v hv]
 have h2:lk (eV (below (c+1)) T2) s=some v:=by rw[hl];exact hv
 rw[rm,hv] at h2
 exact congrArg some (nO YO v (ZD h2))
theorem Dr:∀(n i:Nat),(kz i n).length=n
 | 0,_=>rfl
 | n+1,i=>by show(kz (i+5) n).length+1=_;rw[Dr n]
theorem tD:∀(n i:Nat),(kz i n).flatMap P5.l=List.range' i (5*n)
 | 0,_=>rfl
 | n+1,i=>by
  show(uq i).l++(kz (i+5) n).flatMap P5.l=_
  rw[tD n,show 5*(n+1)=5+5*n by omega,<- List.range'_append_1]
  rfl
def KL(b:bN)(p:Di.bn)(um:V)(k:Nat)(H:List ah):Prop:=∃ q:P5,(k::q.l).Nodup∧H[k]? =some (cH b p um q.a q.b q.c q.d q.e)∧jS H q b
def P5.map(f:Nat->Nat)(q:P5):P5:=⟨f q.a,f q.b,f q.c,f q.d,f q.e⟩
theorem P5.vv(f:Nat->Nat)(q:P5):(q.map f).l=q.l.map f:=rfl
theorem iK{H H0:List ah}{ks:List Nat}{q:P5}{b:bN}(hn:ks.Nodup)(hl:ks.length<=H0.length)(hlt:∀ i∈ks,i<H.length)(h:jS H0 q b):jS (bp H ks H0) (q.map (mI H ks)) b:=by
 obtain⟨h1,h2,h3,h4,h5⟩:=h
 have g:∀{i n:Nat} {cs:List PV} {e:TypeId},H0[i]? =some (dU (cs.map .p) e n)->(bp H ks H0)[mI H ks i]? =some (dU (cs.map .p) e n):=fun hx=>by
  rw[qR hn hl hlt hx,bE]
 exact⟨g h1,g h2,g h3,g h4,g h5⟩
theorem wT{H H0:List ah}{ks:List Nat}{q:P5}{b:bN}(hK:fL H ks H0)(h:jS H0 q b):bA (dS H ks) (tM q b)=tM (q.map (mI H ks)) b:=by
 obtain⟨h1,h2,h3,h4,h5⟩:=h
 unfold tM dF
 simp only[bK,cj,ef]
 rw[nI hK h1,nI hK h2,nI hK h3,nI hK h4,nI hK h5]
 rfl
theorem lq{H H0:List ah}{ks:List Nat}{q:P5}{b:bN}{p:Di.bn}{um oz:V}(hK:fL H ks H0)(h:jS H0 q b)(hu:bf (dS H ks) um=oz):aE (dS H ks) (cH b p um q.a q.b q.c q.d q.e)=cH b p oz (mI H ks q.a) (mI H ks q.b) (mI H ks q.c) (mI H ks q.d) (mI H ks q.e):=by
 unfold cH
 rw[bS,bF,bF,aP]
 have e:=wT hK h
 unfold tM at e
 rw[e]
 simp only[bK,cj,ef,hu]
 rfl
theorem vi{H:List ah}{ks:List Nat}{j i:Nat}(h:ks[j]? =some i):mI H ks j=i:=by
 unfold mI
 rw[h]
theorem KL.back{H H0:List ah}{ks:List Nat}{k k2:Nat}{b:bN}{p:Di.bn}{um oz:V}(h:KL b p um k H0)(hn:ks.Nodup)(hK:fL H ks H0)(hlt:∀ i∈ks,i<H.length)(hk:ks[k]? =some k2)(hu:bf (dS H ks) um=oz):KL b p oz k2 (bp H ks H0):=by
 obtain⟨q,h1,h2,h3⟩:=h
 refine⟨q.map (mI H ks),?_,?_,iK hn hK.1 hlt h3⟩
 ·have:=sY (H:=H) hn hlt h1
  rw[Zz,vi hk] at this
  exact this
 ·have:=qR hn hK.1 hlt h2
  rw[vi hk,lq hK h3 hu] at this
  exact this
theorem KL.set{H:List ah}{k i:Nat}{b:bN}{p:Di.bn}{um:V}{x y:ah}(h:KL b p um k H)(hi:H[i]? =some x)(hne:i≠k)(hx:∀ q:P5,jS H q b->i∉q.l):KL b p um k (H.set i y):=by
 obtain⟨q,h1,h2,h3⟩:=h
 have hq:=hx q h3
 simp only[P5.l,Zr,KF,or_false,not_or] at hq
 obtain⟨k1,k2,k3,k4,k5⟩:=h3
 exact⟨q,h1,bO hne h2,bO hq.1 k1,bO hq.2.1 k2,bO hq.2.2.1 k3,bO hq.2.2.2.1 k4,bO hq.2.2.2.2 k5⟩
theorem OG{H:List ah}{ks:List Nat}{q:P5}{b:bN}{p:Di.bn}{um oz:V}(hn:ks.Nodup)(h1:ks[1]? =some q.a)(h2:ks[2]? =some q.b)(h3:ks[3]? =some q.c)(h4:ks[4]? =some q.d)(h5:ks[5]? =some q.e)(h:jS H q b)(hu:bf (oe H ks) um=oz):aE (oe H ks) (cH b p um q.a q.b q.c q.d q.e)=cH b p oz 1 2 3 4 5:=by
 obtain⟨g1,g2,g3,g4,g5⟩:=h
 have gd:∀{i:Nat} {x:ah},H[i]? =some x->H.getD i .dead=x:=fun hx=>by rw[Ze,hx];rfl
 unfold cH dF
 rw[bS,bF,bF,aP]
 simp only[bK,cj,ef,hu]
 rw[gq (mA hn h1) (gd g1),gq (mA hn h2) (gd g2),gq (mA hn h3) (gd g3),gq (mA hn h4) (gd g4),gq (mA hn h5) (gd g5)]
theorem No{H:List ah}{k:Nat}{q:P5}{b:bN}{p:Di.bn}{um oz:V}(hn:(k::q.l).Nodup)(h0:H[k]? =some (cH b p um q.a q.b q.c q.d q.e))(h:jS H q b)(hu:bf (oe H (k::q.l)) um=oz):((k::q.l).map fun i=>aE (oe H (k::q.l)) (H.getD i .dead))=mQ b p oz:=by
 have gd:∀{i:Nat} {x:ah},H[i]? =some x->H.getD i .dead=x:=fun hx=>by rw[Ze,hx];rfl
 rw[Zz,rM h,gd h0,OG hn rfl rfl rfl rfl rfl h hu]
 rfl
def wD(b:bN)(p:Di.bn)(um:V)(H:List ah):Prop:=6<=H.length∧∀(j:Nat) (x y:ah),0<j->j<6->(mQ b p um)[j]? =some x->x.live=false->H[j]? =some y->y.live=false
theorem DP.dead{b:bN}{p:Di.bn}{um:V}{H:List ah}(h:DP b p um H):wD b p um H:=⟨h.1,fun j x y h0 h6 hx hl hy=>by
 rcases h.2 j y h0 h6 hy with rfl | h2
 ·rfl
 ·rw[hx] at h2;cases h2;exact hl⟩
theorem wD.k{b:bN}{p:Di.bn}{oz:V}{H H0:List ah}{k:Nat}{q:P5}{x0:ah}(h:wD b p oz H0)(h0:H[k]? =some x0)(hl0:x0.live=true)(ha:jS H q b):fL H (k::q.l) H0:=by
 refine⟨h.1,fun j i y hk hl hy=> ?_⟩
 have gd:∀{i:Nat} {x:ah},H[i]? =some x->H.getD i .dead=x:=fun hx=>by rw[Ze,hx];rfl
 obtain⟨g1,g2,g3,g4,g5⟩:=ha
 have hj:j<6:=(Za.1 hk).1
 match j,hj with
 | 0,_=>cases hk;rw[gd h0,hl0] at hl;cases hl
 | 1,_=>cases hk;rw[gd g1] at hl;exact h.2 1 _ y (by decide) (by decide) rfl hl hy
 | 2,_=>cases hk;rw[gd g2] at hl;exact h.2 2 _ y (by decide) (by decide) rfl hl hy
 | 3,_=>cases hk;rw[gd g3] at hl;exact h.2 3 _ y (by decide) (by decide) rfl hl hy
 | 4,_=>cases hk;rw[gd g4] at hl;exact h.2 4 _ y (by decide) (by decide) rfl hl hy
 | 5,_=>cases hk;rw[gd g5] at hl;exact h.2 5 _ y (by decide) (by decide) rfl hl hy
theorem At6.q{b:bN}{p:Di.bn}{um:V}{H:List ah}(h:At6 b p um H):KL b p um 0 H:=by
 obtain⟨i1,i2,i3,i4,i5,h0,h1,h2,h3,h4,h5,h6⟩:=h
 exact⟨⟨i1,i2,i3,i4,i5⟩,h0,h1,h2,h3,h4,h5,h6⟩
def aaP(F:cW)(x:cW×Bs×Int):Prop:=x.2.2≠0->x=(F,[],x.2.2)
theorem aaC(F:cW)(v:Vb)(n:List Int):aaP F (bH F v n):=by
 cases v <;> unfold bH <;> dsimp only <;> (repeat' split) <;> (intro h;first | rfl | exact absurd rfl h)
theorem HW{F:cW}{v:Vb}{n:List Int}(h:(bH F v n).2.2≠0):bH F v n=(F,[],(bH F v n).2.2):=aaC F v n h
theorem qf{cs:List V}{e n:Nat}{xs:List V}{t:TypeId}:(dU cs e n:ah)≠ .cells xs t:=by
 cases n <;> (intro h;cases h)
theorem Ia{H:List ah}{q:P5}{b:bN}{i:Nat}{xs:List V}{t:TypeId}(hi:H[i]? =some (.cells xs t))(h:jS H q b):i∉q.l:=by
 obtain⟨h1,h2,h3,h4,h5⟩:=h
 intro hm
 simp only[P5.l,Zr,KF,or_false] at hm
 rcases hm with rfl | rfl | rfl | rfl | rfl
 ·rw[hi] at h1;exact qf (ZD h1).symm
 ·rw[hi] at h2;exact qf (ZD h2).symm
 ·rw[hi] at h3;exact qf (ZD h3).symm
 ·rw[hi] at h4;exact qf (ZD h4).symm
 ·rw[hi] at h5;exact qf (ZD h5).symm
def VQ7(F:cW)(v:Vb)(n:List Int)(um:V):V->List ah->Prop:=fun r H2=>(bH F v n).2.2=0∧r= .p (.str (sB (bH F v n).2.1))∧KL (bH F v n).1.b F.aV um 0 H2∧bX (fm F.b F.aV um .dead) H2
def VP7(F:cW)(v:Vb)(n:List Int)(um:V):PV->List ah->Prop:=fun y H2=>(bH F v n).2.2≠0∧y= .iface 94 (.agg [.int .i64 (bH F v n).2.2])∧(∃ cs:List V,cs.length=7∧H2[0]? =some (.cells (cs++F.aV.cells.map .p++[um,.p (.bool true)]) 87))∧bX (fm F.b F.aV um .dead) H2
theorem Iv{b:bN}{p:Di.bn}{um:V}{H0:List ah}(h:wD b p um H0):bX (fm b p um .dead) (bp (fm b p um .dead) [0,1,2,3,4,5] H0):=by
 have hl:(6:Nat)<=H0.length:=h.1
 refine⟨by rw[tc (ks:=[0,1,2,3,4,5]) hl];show 7<=7+_;omega,fun j x y hj hx hd hy=> ?_⟩
 have hin:∀ j,0<j->j<6->([0,1,2,3,4,5]:List Nat)[j]? =some j->(mQ b p um)[j]? =some x->(bp (fm b p um .dead) [0,1,2,3,4,5] H0)[j]? =some y->y.live=false:=fun j h0 h6 hk hx hy=>by
  have hj0:j<H0.length:=by omega
  have e:=fy (H:=fm b p um .dead) (ks:=[0,1,2,3,4,5]) (by decide) hl hk (show j<7 by omega) (Zc hj0)
  rw[hy] at e
  rw[ZD e,cg]
  exact h.2 j x _ h0 h6 hx hd (Zc hj0)
 match j,hj with
 | 0,_=>cases hx;cases hd
 | 1,_=>exact hin 1 (by decide) (by decide) rfl hx hy
 | 2,_=>exact hin 2 (by decide) (by decide) rfl hx hy
 | 3,_=>exact hin 3 (by decide) (by decide) rfl hx hy
 | 4,_=>exact hin 4 (by decide) (by decide) rfl hx hy
 | 5,_=>exact hin 5 (by decide) (by decide) rfl hx hy
 | 6,_=>
  have e:=dL (H:=fm b p um .dead) (ks:=[0,1,2,3,4,5]) (H0:=H0) (i:=6) (by decide) hl Kn (by decide)
  rw[hy] at e
  rw[ZD e];rfl
theorem VC.to7{v:Vb}{g:FuncId}(h:VC v g)(F:cW)(n:List Int)(a:Option Addr)(m c:Nat)(hF:mJ F)(hl:n.length=v.many)(hn:∀ x∈n,0<=x∧x<10000000000000):av Tryz.prog g [.ptr 0 0,.p (Di.bw n)] (fm F.b F.aV (.raw a m c) .dead) (VQ7 F v n (.raw a m c)) (VP7 F v n (.raw a m c)):=by
 have a5:jS (fm F.b F.aV (.raw a m c) .dead) (uq 1) F.b:=⟨rfl,rfl,rfl,rfl,rfl⟩
 have kk:∀{H0:List ah},wD F.b F.aV (.raw a m c) H0->fL (fm F.b F.aV (.raw a m c) .dead) [0,1,2,3,4,5] H0:=fun hd=>hd.k (k:=0) (q:=uq 1) rfl rfl a5
 have hf:=(h F n a m c hF hl hn).zG (H:=fm F.b F.aV (.raw a m c) .dead) (args:=[.ptr 0 0,.p (Di.bw n)]) [0,1,2,3,4,5] rfl (No (k:=0) (q:=uq 1) (by decide) rfl a5 rfl) rfl (fun v0 H0 hq=>kk hq.2.2.2.dead) (fun y H0 hq=>kk hq.2.2.2.dead)
 refine hf.mono (fun r H2 hq=> ?_) (fun y H2 hq=> ?_)
 ·obtain⟨v0,H0,⟨h1,rfl,h3,h4⟩,rfl,rfl⟩:=hq
  refine⟨h1,rfl,(h3.q).back (by decide) (kk h4.dead) (fun i hi=> ?_) rfl rfl,Iv h4.dead⟩
  have:i<6:=by simp at hi;omega
  show i<7
  omega
 ·obtain⟨H0,⟨h1,rfl,⟨cs,hc,h3⟩,h4⟩,rfl⟩:=hq
  refine⟨h1,rfl,⟨bA (dS (fm F.b F.aV (.raw a m c) .dead) [0,1,2,3,4,5]) cs,by rw[dI];exact hc,?_⟩,Iv h4.dead⟩
  have e:=fy (H:=fm F.b F.aV (.raw a m c) .dead) (ks:=[0,1,2,3,4,5]) (j:=0) (i:=0) (by decide) h4.1 rfl Kn h3
  rw[e,wq rfl]
def lI(v:Vb):Bool:=match v with
 | .mark=>false
 | .back=>false
 | .keep=>false
 | _=>true
theorem Ub(v:Vb)(h:lI v=true):VC v (kM v):=by
 cases v <;> first | cases h | skip
 ·exact UP
 ·exact US
 ·exact T5
 ·exact Ld
 ·exact W4
 ·exact Vu
 ·exact P0
 ·exact VU
 ·exact VS
 ·exact UQ
theorem iy{H:List ah}{b:bN}{p:Di.bn}{um:V}{e:Int}{j:Nat}(h0:j≠0)(h8:j≠8)(h9:j≠9)(hj:j<H.length):(gv H b p um e)[j]? =H[j]? :=by
 unfold gv
 rw[Zv,if_neg (Ne.symm h9),Zv,if_neg (Ne.symm h8),Zv,if_neg (Ne.symm h0),Zd hj]
theorem Ig{H:List ah}{b:bN}{p:Di.bn}{um:V}{e:Int}:(gv H b p um e)[0]? =some (cH b p um 13 12 14 15 16):=by
 unfold gv
 refine bO (by decide) (bO (by decide) ?_)
 rw[Zv,if_pos rfl,if_pos (by simp)]
theorem sJ{H:List ah}{b:bN}{p:Di.bn}{um:V}{e:Int}:(gv H b p um e).length=H.length+1:=by
 unfold gv
 simp
def G3(n:Nat)(H0 H:List ah):Prop:=∀(j:Nat) (x y:ah),0<j->j<n->H0[j]? =some x->x.live=false->H[j]? =some y->y.live=false
theorem Dh{H:List ah}{b:bN}{p:Di.bn}{um:V}{e:Int}(hl:17<H.length)(h5:jS H ⟨13,12,14,15,16⟩ b):KL b p um 0 (gv H b p um e):=by
 obtain⟨h1,h2,h3,h4,h6⟩:=h5
 refine⟨⟨13,12,14,15,16⟩,by decide,Ig,?_,?_,?_,?_,?_⟩
 ·rw[iy (by decide) (by decide) (by decide) (show 13<H.length by omega)];exact h1
 ·rw[iy (by decide) (by decide) (by decide) (show 12<H.length by omega)];exact h2
 ·rw[iy (by decide) (by decide) (by decide) (show 14<H.length by omega)];exact h3
 ·rw[iy (by decide) (by decide) (by decide) (show 15<H.length by omega)];exact h4
 ·rw[iy (by decide) (by decide) (by decide) (show 16<H.length by omega)];exact h6
theorem pR{H H0:List ah}{b:bN}{p:Di.bn}{um:V}{e:Int}{n:Nat}(hn:n<=8)(hl:17<H.length)(h:G3 n H0 H):G3 n H0 (gv H b p um e):=fun j x y h0 h6 hx hd hy=>by
 rw[iy (by omega) (by omega) (by omega) (by omega)] at hy
 exact h j x y h0 h6 hx hd hy
def lT(b:bN)(p:Di.bn)(um:V)(M X:ah):List ah:=LH b p um M++[X]
theorem PO(b:bN)(p:Di.bn)(um:V)(M X:ah):jS (lT b p um M X) ⟨13,12,14,15,16⟩ b:=⟨rfl,rfl,rfl,rfl,rfl⟩
theorem Dw{b:bN}{p:Di.bn}{um:V}{M X:ah}{H0:List ah}(hl:7<=H0.length):jS (bp (lT b p um M X) [0,1,2,3,4,5,6] H0) ⟨13,12,14,15,16⟩ b:=by
 have g:∀(i:Nat) (x:ah),i<19->i∉([0,1,2,3,4,5,6]:List Nat)->(lT b p um M X)[i]? =some x->(bp (lT b p um M X) [0,1,2,3,4,5,6] H0)[i]? =some x:=fun i x hi hk hx=>by
  rw[dL (ks:=[0,1,2,3,4,5,6]) (by decide) hl (show i<19 from hi) hk];exact hx
 exact⟨g 13 _ (by decide) (by decide) rfl,g 12 _ (by decide) (by decide) rfl,g 14 _ (by decide) (by decide) rfl,g 15 _ (by decide) (by decide) rfl,g 16 _ (by decide) (by decide) rfl⟩
theorem rH{b:bN}{p:Di.bn}{um:V}{M X:ah}{H0:List ah}(hl:7<=H0.length):18<(bp (lT b p um M X) [0,1,2,3,4,5,6] H0).length:=by
 rw[tc (ks:=[0,1,2,3,4,5,6]) hl]
 show 18<19+_
 omega
theorem qg{b:bN}{p:Di.bn}{um:V}{M X:ah}{H0:List ah}(h:bX (fm b p um M) H0):G3 7 (fm b p um M) (bp (lT b p um M X) [0,1,2,3,4,5,6] H0):=fun j x y h0 h7 hx hd hy=>by
 have hl:=h.len
 have hk:([0,1,2,3,4,5,6]:List Nat)[j]? =some j:=by
  match j,h7 with
  | 0,_=>rfl
  | 1,_=>rfl
  | 2,_=>rfl
  | 3,_=>rfl
  | 4,_=>rfl
  | 5,_=>rfl
  | 6,_=>rfl
 have hj0:j<H0.length:=by omega
 have e:=fy (H:=lT b p um M X) (ks:=[0,1,2,3,4,5,6]) (by decide) hl hk (show j<19 by omega) (Zc hj0)
 rw[hy] at e
 rw[ZD e,cg]
 exact h.dead j x _ h7 hx hd (Zc hj0)
theorem oG{b:bN}{p:Di.bn}{um:V}{M X:ah}{H0:List ah}(h:bX (fm b p um M) H0):fL (lT b p um M X) [0,1,2,3,4,5,6] H0:=h.k (xq b p um M X)
theorem xz{b:bN}{p:Di.bn}{um:V}{M:ah}{H:List ah}(hl:6<=H.length)(h:G3 7 (fm b p um M) H):wD b p um H:=⟨hl,fun j x y h0 h6 hx hd hy=>h j x y h0 (by omega) (by
 match j,h6 with
 | 1,_=>exact hx
 | 2,_=>exact hx
 | 3,_=>exact hx
 | 4,_=>exact hx
 | 5,_=>exact hx
 | 0,_=>omega) hd hy⟩
theorem AG{i:Nat}(hi:i∈([0,1,2,3,4,5,6]:List Nat)):i<7:=by simp at hi;omega
def Wh(F:cW)(s:Bs)(um:V):V->List ah->Prop:=fun x H2=>x= .p (.tuple [.str (sB (aI F s).2.1),.int .i64 (aI F s).2.2])∧KL (aI F s).1.b F.aV um 0 H2∧wD F.b F.aV um H2
theorem HB{F:cW}(hF:mJ F):F.b.au.length<=1000∧F.b.ai.length<=1000∧F.b.aq.length<=1000∧F.b.plan.length<=1000∧F.b.bZ.length<=1000:=by
 have h1:=Rx.dc hF.b.cd
 have h2:=hF.b.sk
 have h3:=hF.b.dr
 have h4:=hF.b.ck
 obtain⟨u,hu⟩:=hF.b.Kv
 have h5:=iP hu
 omega
theorem PY(F:cW)(s:Bs)(hF:mJ F)(hp:s.length<=120->∀ v n,cF s=some (v,n)->lI v=true)(a:Option Addr)(m c:Nat):av Tryz.prog 13 [.ptr 0 0,.p (.str (sB s))] (mQ F.b F.aV (.raw a m c)) (Wh F s (.raw a m c)) (fun _ _=>False):=by
 refine av.pad ?_
 show av _ _ _ (fm F.b F.aV (.raw a m c) .dead) _ _
 obtain⟨l1,l2,l3,l4,l5⟩:=HB hF
 have hu:∀ σ:Nat->Option Nat,(ah.dead.live=true->σ 6=some 6)->bf σ (.raw a m c)= .raw a m c:=fun σ _=>rfl
 have hM:∀ σ,aE σ .dead= .dead:=fun σ=>rfl
 have err:∀(X:ah) (e:Int) (x:V) (H2:List ah),aI F s=(F,[],e)->(x= .p (.tuple [.str (sB []),.int .i64 e])∧H2=gv (lT F.b F.aV (.raw a m c) .dead X) F.b F.aV (.raw a m c) e)->Wh F s (.raw a m c) x H2:=fun X e x H2 he ⟨hx,hH⟩=>by
  subst hx hH
  unfold Wh
  rw[he]
  refine⟨rfl,Dh Kn (PO _ _ _ _ _),xz (M:=ah.dead) (by rw[sJ];exact ZR rfl) (pR (H:=lT F.b F.aV (.raw a m c) .dead X) (n:=7) (by decide) Kn fun j x y h0 h7 hx hd hy=> ?_)⟩
  have e:(lT F.b F.aV (.raw a m c) .dead X)[j]? =(fm F.b F.aV (.raw a m c) .dead)[j]? :=by
   match j,h7 with
   | 0,_=>rfl
   | 1,_=>rfl
   | 2,_=>rfl
   | 3,_=>rfl
   | 4,_=>rfl
   | 5,_=>rfl
   | 6,_=>rfl
  rw[e,hx] at hy
  cases hy;exact hd
 rcases ZS 120 s.length with hs | hs
 ·refine(ax.LQ (I8 F.b F.aV (.raw a m c) .dead hu hM l1 l2 l3 l4 l5 s hs)).mono (fun x H2 hq=> ?_) (fun _ _ h=>h)
  obtain⟨rfl,rfl⟩:=hq
  have he:aI F s=(F,[],3):=by unfold aI;rw[if_pos hs]
  unfold Wh
  rw[he]
  refine⟨rfl,⟨uq 1,by decide,rfl,rfl,rfl,rfl,rfl,rfl⟩,ZR rfl,fun j x y h0 h6 hx hd hy=> ?_⟩
  have e:(fm F.b F.aV (.raw a m c) .dead++[.cells [.ptr 0 0] 30,.cells [.p (.str (sB []))] 9,.cells [.p (.int .i64 3)] 41])[j]? =(mQ F.b F.aV (.raw a m c))[j]? :=by
   match j,h6 with
   | 0,_=>rfl
   | 1,_=>rfl
   | 2,_=>rfl
   | 3,_=>rfl
   | 4,_=>rfl
   | 5,_=>rfl
  rw[e,hx] at hy
  cases hy;exact hd
 ·obtain⟨w,l,hw⟩:=wI s
  have Xp:¬ 120<s.length:=by omega
  have form:cF s=none->aI F s=(F,[],8):=fun h=>by unfold aI;rw[if_neg Xp,h]
  cases hv:ju w with
  | none=>exact(ax.LQ (Uo F.b F.aV (.raw a m c) .dead hu hM l1 l2 l3 l4 l5 s hs w l hw hv)).mono (err _ 8 · · (form (y6 hw hv))) (fun _ _ h=>h)
  | some v=>
   by_cases hm:l.length=v.many
   ·by_cases hC:∀ x∈l,hO x
    ·have hpa:=y3 hw hv hm hC
     obtain⟨tY,TG⟩:=ve hpa
     have hvp:=hp hs v _ hpa
     have he:aI F s=bH F v (l.map gF):=by unfold aI;rw[if_neg Xp,hpa]
     have hd:=(Ub v hvp).to7 F (l.map gF) a m c hF tY TG
     refine(ax.LQ (HI F.b F.aV (.raw a m c) .dead hu hM l1 l2 l3 l4 l5 s hs w l hw v hv hm hC (bH F v (l.map gF)).2.1 (bH F v (l.map gF)).2.2 _ _ hd (fun r H2 h=>⟨h.2.1,h.2.2.2⟩) (fun y H2 h=>⟨h.2.1,h.2.2.2,h.2.2.1⟩))).mono (fun x H2 hq=> ?_) (fun _ _ h=>h)
     rcases hq with⟨rfl,H0,⟨h1,_,h3,h4⟩,rfl⟩ | ⟨rfl,H0,⟨h1,_,_,h4⟩,rfl⟩
     ·have rT:=h4.len
      have hK:=oG (X:=ah.cells [.p (.int .i64 (v.many:Int)),.p (.func (.func (kM v)) [] [])] 99) h4
      have hlen:=rH (b:=F.b) (p:=F.aV) (um:= .raw a m c) (M:= .dead) (X:=ah.cells [.p (.int .i64 (v.many:Int)),.p (.func (.func (kM v)) [] [])] 99) rT
      unfold lT at hlen
      have hfl:=h3.back (H:=lT F.b F.aV (.raw a m c) .dead (ah.cells [.p (.int .i64 (v.many:Int)),.p (.func (.func (kM v)) [] [])] 99)) (ks:=[0,1,2,3,4,5,6]) (k2:=0) (oz:= .raw a m c) (by decide) hK (fun i hi=>ZQ (AG hi) Kn) rfl rfl
      have k8:=dL (H:=lT F.b F.aV (.raw a m c) .dead (ah.cells [.p (.int .i64 (v.many:Int)),.p (.func (.func (kM v)) [] [])] 99)) (ks:=[0,1,2,3,4,5,6]) (H0:=H0) (i:=8) (by decide) rT Kn (by decide)
      have k9:=dL (H:=lT F.b F.aV (.raw a m c) .dead (ah.cells [.p (.int .i64 (v.many:Int)),.p (.func (.func (kM v)) [] [])] 99)) (ks:=[0,1,2,3,4,5,6]) (H0:=H0) (i:=9) (by decide) rT Kn (by decide)
      unfold Wh
      rw[he]
      refine⟨by rw[h1],?_,?_⟩
      ·refine KL.set (KL.set hfl k8 (by decide) fun q hq=>Ia k8 hq) (bO (by decide) k9) (by decide) fun q hq=>Ia (bO (by decide) k9) hq
      ·refine xz (M:= .dead) (by rw[ZZ,ZZ];omega) fun j x y h0 h7 hx hd hy=> ?_
       rw[Zv,if_neg (by omega),Zv,if_neg (by omega)] at hy
       exact qg h4 j x y h0 h7 hx hd hy
     ·have rT:=h4.len
      have hlen:=rH (b:=F.b) (p:=F.aV) (um:= .raw a m c) (M:= .dead) (X:=ah.cells [.p (.int .i64 (v.many:Int)),.p (.func (.func (kM v)) [] [])] 99) rT
      unfold lT at hlen
      have e2:=HW h1
      unfold Wh
      rw[he]
      refine⟨by rw[e2],?_,?_⟩
      ·have:=Dh (p:=F.aV) (um:= .raw a m c) (e:=(bH F v (l.map gF)).2.2) (Nat.lt_of_succ_lt hlen) (Dw (b:=F.b) (p:=F.aV) (um:= .raw a m c) (M:= .dead) (X:=ah.cells [.p (.int .i64 (v.many:Int)),.p (.func (.func (kM v)) [] [])] 99) rT)
       rw[e2]
       exact this
      ·exact xz (by rw[sJ];omega) (pR (by decide) (by omega) (qg h4))
    ·exact(ax.LQ (Vl F.b F.aV (.raw a m c) .dead hu hM l1 l2 l3 l4 l5 s hs w l hw v hv hm hC)).mono (err _ 8 · · (form (za hw hv hC))) (fun _ _ h=>h)
   ·exact(ax.LQ (UU F.b F.aV (.raw a m c) .dead hu hM l1 l2 l3 l4 l5 s hs w l hw v hv hm)).mono (err _ 8 · · (form (yF hw hv hm))) (fun _ _ h=>h)
theorem PU{F:cW}{v:Vb}{n:List Int}(h:lI v=true):(bH F v n).1.marks=F.marks∧(bH F v n).1.aV=F.aV:=by
 cases v <;> first | cases h | skip
 all_goals (unfold bH;dsimp only;repeat' split) <;> exact⟨rfl,rfl⟩
theorem Ke{F:cW}{s:Bs}(hp:s.length<=120->∀ v n,cF s=some (v,n)->lI v=true):(aI F s).1.marks=F.marks∧(aI F s).1.aV=F.aV:=by
 unfold aI
 split
 ·exact⟨rfl,rfl⟩
 ·rename_i hs
  split
  ·exact⟨rfl,rfl⟩
  ·rename_i v n h
   exact PU (hp (by omega) v n h)
theorem yu(H:List ah)(ks:List Nat)(j:Nat):mI H ks j∈ks∨H.length<=mI H ks j:=by
 unfold mI
 cases hk:ks[j]? with
 | some i=>exact .inl (Zg hk)
 | none=>exact .inr (RX _ _)
theorem qv.congr{H H3:List ah}{qs:List P5}{bs:List bN}(h:qv H qs bs)(he:∀ i∈qs.flatMap P5.l,H3[i]? =H[i]?):qv H3 qs bs:=by
 induction h with
 | nil=>exact .nil
 | cons h t ih=>
  obtain⟨h1,h2,h3,h4,h5⟩:=h
  rename_i q b qs bs
  have g:∀ i∈q.l,H3[i]? =H[i]? :=fun i hi=>he i (by rw[ZH];exact ZX _ hi)
  refine .cons ⟨?_,?_,?_,?_,?_⟩ (ih fun i hi=>he i (by rw[ZH];exact ZG _ hi))
  ·rw[g q.a (by simp[P5.l])];exact h1
  ·rw[g q.b (by simp[P5.l])];exact h2
  ·rw[g q.c (by simp[P5.l])];exact h3
  ·rw[g q.d (by simp[P5.l])];exact h4
  ·rw[g q.e (by simp[P5.l])];exact h5
theorem jS.set{H:List ah}{q:P5}{b:bN}{i:Nat}{y:ah}(h:jS H q b)(hi:i∉q.l):jS (H.set i y) q b:=by
 simp only[P5.l,Zr,KF,or_false,not_or] at hi
 obtain⟨h1,h2,h3,h4,h5⟩:=h
 exact⟨bO hi.1 h1,bO hi.2.1 h2,bO hi.2.2.1 h3,bO hi.2.2.2.1 h4,bO hi.2.2.2.2 h5⟩
def Ex(c:Nat)(F:cW)(s:Bs)(H:List ah):V->List ah->Prop:=fun x H3=>x= .p (.tuple [.str (sB (aI F s).2.1),.int .i64 (aI F s).2.2])∧(∃ z q im qs,fV c (aI F s).1 z H3 q im qs)∧∀ i,i<c->H3[i]? =H[i]?
theorem Lq(im:Nat)(F:cW)(z:Bool):R1 (tn im F z)=true:=by cases z <;> rfl
theorem QF{b:bN}{p:Di.bn}{um oz:V}{q:P5}:nK [(um,oz)] (cH b p um q.a q.b q.c q.d q.e) (cH b p oz q.a q.b q.c q.d q.e):=
 .inr ⟨_,_,_,cZ.app _ _ _ _ (cZ.refl gI.refl (dF q.a q.b q.c q.d q.e b++p.cells.map V.p)) (show cZ (gI [(um,oz)]) [um,.p (.bool true)] [oz,.p (.bool true)] from⟨_,_,rfl,.inr (ZI.2 rfl),_,_,rfl,.inl rfl,rfl⟩),.inl ⟨rfl,rfl⟩⟩
theorem RU{H:List ah}{ks:List Nat}(hn:ks.Nodup)(hlt:∀ i∈ks,i<H.length):(ks.all (fun i=>Nat.blt i H.length)&&decide ks.Nodup)=true:=by
 simp only[Zn,Zx,Zq]
 exact⟨fun i hi=>by simpa[Nat.blt,Zw] using hlt i hi,hn⟩
theorem QZ{c:Nat}{F:cW}{z:Bool}{H:List ah}{q:P5}{im:Nat}{qs:List P5}(h:fV c F z H q im qs)(hF:mJ F)(s:Bs)(hp:s.length<=120->∀ v n,cF s=some (v,n)->lI v=true):av Tryz.prog 13 [.ptr c 0,.p (.str (sB s))] H (Ex c F s H) (fun _ _=>False):=by
 have hcl:c<H.length:=(Za.1 h.fl).1
 have hnd:=h.nd
 rw[ZC,ZC,ZY] at hnd
 obtain⟨n1,n2,n3,n4,n5⟩:=hnd
 have hks:(c::q.l).Nodup:=ZC.2 ⟨fun hm=>n1 (Zh _ (ZX _ hm)),n3⟩
 have YM:c∉q.l:=(ZC.1 hks).1
 have Xg:im≠c:=fun e=>n1 (by rw[e];exact Zt)
 have aae:im<H.length:=(Za.1 h.mb).1
 have hlt:∀ i∈c::q.l,i<H.length:=fun i hi=>by
  rcases Zr.1 hi with rfl | hi
  ·exact hcl
  ·exact h.a5.lt i hi
 have hlow:∀ i∈c::q.l,c<=i:=fun i hi=>by
  rcases Zr.1 hi with rfl | hi
  ·exact Zf _
  ·exact h.low i (Zh _ (ZX _ hi))
 obtain⟨hsm,hsp⟩:=Ke (F:=F) hp
 refine av.NW c (pre:=dF q.a q.b q.c q.d q.e F.b++F.aV.cells.map V.p) (um:=tn im F z) (post:=[.p (.bool true)]) h.fl (Lq im F z) fun a m c0=> ?_
 obtain⟨H',Ly⟩:∃ H',H'=H.set c (cH F.b F.aV (.raw a m c0) q.a q.b q.c q.d q.e):=⟨_,rfl⟩
 have hl':H'.length=H.length:=by rw[Ly,ZZ]
 have g0:H'[c]? =some (cH F.b F.aV (.raw a m c0) q.a q.b q.c q.d q.e):=by rw[Ly];exact fI h.fl
 have g5:jS H' q F.b:=by rw[Ly];exact h.a5.set YM
 have gx:∀ i,i≠c->H'[i]? =H[i]? :=fun i hi=>by rw[Ly,Zv,if_neg (Ne.symm hi)]
 have hlt':∀ i∈c::q.l,i<H'.length:=fun i hi=>by rw[hl'];exact hlt i hi
 have hfr:=(PY F s hF hp a m c0).zG (H:=H') (args:=[.ptr c 0,.p (.str (sB s))]) (c::q.l) (by
     have e:oe H' (c::q.l) c=some 0:=by
      unfold oe
      rw[Ze,g0]
      exact(if_pos rfl).trans (mA hks rfl)
     show[bf _ _,bf _ _]=_
     simp only[bf,e]) (No hks g0 g5 rfl) (RU hks hlt') (fun v0 H0 hq=>hq.2.2.k g0 rfl g5) (fun _ _ h=>h.elim)
 show av _ _ _ (H.set c (cH F.b F.aV (.raw a m c0) q.a q.b q.c q.d q.e)) _ _
 rw[<- Ly]
 refine hfr.mono (fun x H2 hx=> ?_) (fun _ _ h=>by obtain⟨_,h,_⟩:=h;exact h.elim)
 obtain⟨v0,H0,⟨rfl,⟨q0,k1,k2,k3⟩,k4⟩,rfl,rfl⟩:=hx
 have hK:fL H' (c::q.l) H0:=k4.k g0 rfl g5
 have hl6:(c::q.l).length<=H0.length:=k4.1
 obtain⟨q',eq'⟩:∃ q',q'=q0.map (mI H' (c::q.l)):=⟨_,rfl⟩
 have a5:jS (bp H' (c::q.l) H0) q' (aI F s).1.b:=by rw[eq'];exact iK hks hl6 hlt' k3
 have fl2:(bp H' (c::q.l) H0)[c]? =some (cH (aI F s).1.b F.aV (.raw a m c0) q'.a q'.b q'.c q'.d q'.e):=by
  have:=fy (H:=H') hks hl6 (j:=0) (i:=c) rfl (by rw[hl'];exact hcl) k2
  rw[this,lq hK k3 rfl,eq']
  rfl
 have hq':(c::q'.l).Nodup:=by
  have:=sY (H:=H') hks hlt' k1
  rw[Zz,vi (i:=c) rfl] at this
  rw[eq'];exact this
 have Yj:c∉q'.l:=(ZC.1 hq').1
 have hcases:∀ i∈q'.l,i∈c::q.l∨H.length<=i:=fun i hi=>by
  rw[eq',P5.vv] at hi
  obtain⟨j,_,rfl⟩:=uE.1 hi
  rcases yu H' (c::q.l) j with h | h
  ·exact .inl h
  ·exact .inr (by rw[<- hl'];exact h)
 have out:∀ i,i<H.length->i∉c::q.l->((bp H' (c::q.l) H0).set c (cH (aI F s).1.b F.aV (tn im F z) q'.a q'.b q'.c q'.d q'.e))[i]? =H[i]? :=fun i hi hk=>by
  have hic:i≠c:=fun e=>hk (by rw[e];exact Zt)
  rw[Zv,if_neg (Ne.symm hic),dL hks hl6 (by rw[hl'];exact hi) hk,gx i hic]
 have XP:im∉c::q.l:=fun hm=>by
  rcases Zr.1 hm with e | hm
  ·exact Xg e
  ·exact n2 (ZX _ hm)
 have Xc:∀ i∈qs.flatMap P5.l,i∉c::q.l:=fun i hi hm=>by
  rcases Zr.1 hm with e | hm
  ·exact n1 (Zh _ (ZG _ (e▸hi)))
  ·exact n5 i hm i hi rfl
 refine⟨_,e8.set fl2 (QF (oz:=tn im F z)),rfl,⟨z,q',im,qs,?_⟩,fun i hi=>out i (by omega) fun hm=>by have:=hlow i hm;omega⟩
 have Ww:tn im (aI F s).1 z=tn im F z:=by unfold tn;rw[hsm]
 refine⟨?_,a5.set Yj,?_,fun hz=>by rw[hsm];exact h.mz hz,?_,?_,?_⟩
 ·rw[Ww,hsp]
  exact fI fl2
 ·rw[out im aae XP,h.mb]
  unfold DG
  rw[hsm]
 ·rw[hsm]
  exact h.ats.congr fun i hi=>out i (h.ats.lt i hi) (Xc i hi)
 ·rw[ZC,ZC,ZY]
  refine⟨fun hm=> ?_,fun hm=> ?_,(ZC.1 hq').2,n4,fun a ha b hb e=> ?_⟩
  ·rcases Zr.1 hm with e | hm
   ·exact Xg e.symm
   ·rcases Zo.1 hm with hm | hm
    ·exact Yj hm
    ·exact n1 (Zh _ (ZG _ hm))
  ·rcases Zo.1 hm with hm | hm
   ·rcases hcases im hm with h | h
    ·exact XP h
    ·omega
   ·exact n2 (ZG _ hm)
  ·subst e
   rcases hcases a ha with h2 | h2
   ·exact Xc a hb h2
   ·have:=h.ats.lt a hb;omega
 ·intro i hi
  rcases Zr.1 hi with rfl | hi
  ·exact h.low i Zt
  ·rcases Zo.1 hi with hi | hi
   ·rcases hcases i hi with h2 | h2
    ·exact hlow i h2
    ·omega
   ·exact h.low i (Zh _ (ZG _ hi))
theorem bX.out{b:bN}{p:Di.bn}{um oz:V}{M:ah}{H H0:List ah}{c im:Nat}{q:P5}(h:bX (fm b p oz M) H0)(h0:H[c]? =some (cH b p um q.a q.b q.c q.d q.e))(ha:jS H q b)(hm:H[im]? =some M):fL H (c::(q.l++[im])) H0:=by
 refine⟨h.len,fun j i y hk hl hy=> ?_⟩
 have gd:∀{i:Nat} {x:ah},H[i]? =some x->H.getD i .dead=x:=fun hx=>by rw[Ze,hx];rfl
 obtain⟨g1,g2,g3,g4,g5⟩:=ha
 have hj:j<7:=(Za.1 hk).1
 match j,hj with
 | 0,_=>cases hk;rw[gd h0] at hl;cases hl
 | 1,_=>cases hk;rw[gd g1] at hl;exact h.dead 1 _ y (by decide) rfl hl hy
 | 2,_=>cases hk;rw[gd g2] at hl;exact h.dead 2 _ y (by decide) rfl hl hy
 | 3,_=>cases hk;rw[gd g3] at hl;exact h.dead 3 _ y (by decide) rfl hl hy
 | 4,_=>cases hk;rw[gd g4] at hl;exact h.dead 4 _ y (by decide) rfl hl hy
 | 5,_=>cases hk;rw[gd g5] at hl;exact h.dead 5 _ y (by decide) rfl hl hy
 | 6,_=>cases hk;rw[gd hm] at hl;exact h.dead 6 _ y (by decide) rfl hl hy
theorem Rm{H:List ah}{c im:Nat}{q:P5}{b:bN}{p:Di.bn}{um oz:V}{M:ah}(hn:(c::(q.l++[im])).Nodup)(h0:H[c]? =some (cH b p um q.a q.b q.c q.d q.e))(h:jS H q b)(hm:H[im]? =some M)(hM:∀ σ,aE σ M=M)(hu:bf (oe H (c::(q.l++[im]))) um=oz):((c::(q.l++[im])).map fun i=>aE (oe H (c::(q.l++[im]))) (H.getD i .dead))=fm b p oz M:=by
 have gd:∀{i:Nat} {x:ah},H[i]? =some x->H.getD i .dead=x:=fun hx=>by rw[Ze,hx];rfl
 rw[Zz,ZA,rM h,gd h0,OG hn rfl rfl rfl rfl rfl h hu,Zz,gd hm,hM]
 rfl
theorem B8{H:List ah}{ks:List Nat}{i j:Nat}{x:ah}(hn:ks.Nodup)(hk:ks[j]? =some i)(hx:H[i]? =some x)(hl:x.live=true):oe H ks i=some j:=by
 unfold oe
 rw[Ze,hx]
 exact(if_pos hl).trans (mA hn hk)
theorem U3{g:FuncId}{H:List ah}{c im:Nat}{q:P5}{b:bN}{p:Di.bn}{um oz:V}{M:ah}{y:PV}{Qr:V->List ah->Prop}(hn:(c::(q.l++[im])).Nodup)(h0:H[c]? =some (cH b p um q.a q.b q.c q.d q.e))(h:jS H q b)(hm:H[im]? =some M)(hM:∀ σ,aE σ M=M)(hu:bf (oe H (c::(q.l++[im]))) um=oz)
    (hc:av Tryz.prog g [.ptr 0 0,.p y] (fm b p oz M) Qr (fun _ _=>False))(hK:∀ x H0,Qr x H0->bX (fm b p oz M) H0):av Tryz.prog g [.ptr c 0,.p y] H (fun x H2=>∃ x0 H0,Qr x0 H0∧x=bf (dS H (c::(q.l++[im]))) x0∧H2=bp H (c::(q.l++[im])) H0) (fun _ _=>False):=by
 have hlt:∀ i∈c::(q.l++[im]),i<H.length:=fun i hi=>by
  rcases Zr.1 hi with rfl | hi
  ·exact(Za.1 h0).1
  ·rcases Zo.1 hi with hi | hi
   ·exact h.lt i hi
   ·rw[ZI.1 hi];exact(Za.1 hm).1
 refine(hc.zG (H:=H) (args:=[.ptr c 0,.p y]) (c::(q.l++[im])) ?_ (Rm hn h0 h hm hM hu) (RU hn hlt) (fun x H0 hq=>(hK x H0 hq).out h0 h hm) (fun _ _ h=>h.elim)).mono (fun _ _ h=>h) (fun _ _ ⟨_,h,_⟩=>h.elim)
 have e:=B8 hn (j:=0) rfl h0 rfl
 show[bf _ _,bf _ _]=_
 simp only[bf,e]
theorem Lh{ps:List (V×V)}{q:P5}{b:bN}{cs t:List V}(h:cZ (nD ps) (tM q b++t) cs):∃(r:RB) (Io:List V),cs=r.cells++Io∧cZ (nD ps) t Io:=by
 have sl:∀ i n,R1 (aZ i n)=true:=fun i n=>by cases n <;> rfl
 have ch:∀{i n:Nat} {v':V},nD ps (aZ i n) v'->∃ s:RS,v'=s.v:=fun h=>by
  rcases h with⟨h,_⟩ | ⟨_,⟨a,n,c,e⟩,_⟩
  ·rw[sl] at h;cases h
  ·exact⟨⟨a,n,c⟩,e⟩
 have cp:∀{x:PV} {v':V},nD ps (.p x) v'->v'= .p x:=fun h=>by
  rcases h with⟨_,h⟩ | ⟨h,_⟩
  ·exact h
  ·cases h
 obtain⟨d1,e1,rfl,h1,d2,e2,rfl,h2,d3,e3,rfl,h3,d4,e4,rfl,h4,d5,e5,rfl,h5,d6,e6,rfl,h6,d7,e7,rfl,h7,h8⟩:=h
 obtain⟨s1,rfl⟩:=ch h1
 obtain⟨s2,rfl⟩:=ch h2
 obtain⟨s3,rfl⟩:=ch h3
 obtain⟨s4,rfl⟩:=ch h4
 obtain⟨s7,rfl⟩:=ch h7
 rw[cp h5,cp h6]
 exact⟨⟨s1,s2,s3,s4,b.bad,b.good,s7⟩,e7,rfl,h8⟩
theorem yh{ps:List (V×V)}:∀(qs:List P5) (bs:List bN) (cs:List V),qs.length=bs.length->cZ (nD ps) (pJ qs bs) cs->∃ l:List RB,cs=nG l∧l.length=bs.length
 | [],[],cs,_,h=>⟨[],show cs=[] from h,rfl⟩
 | q::qs,b::bs,cs,hl,h=>by
  obtain⟨r,Io,rfl,h2⟩:=Lh (q:=q) (b:=b) (t:=pJ qs bs) h
  obtain⟨l,rfl,h3⟩:=yh qs bs Io (by simpa using hl) h2
  exact⟨r::l,rfl,by rw[Zm,Zm,h3]⟩
 | [],_::_,_,hl,_=>by cases hl
 | _::_,[],_,hl,_=>by cases hl
theorem u9:∀(qs:List P5) (bs:List bN) (q:P5) (b:bN),qs.length=bs.length->pJ (qs++[q]) (bs++[b])=pJ qs bs++tM q b
 | [],[],q,b,_=>by show tM q b++[]=[]++tM q b;rw[ZT];rfl
 | q0::qs,b0::bs,q,b,hl=>by
  show tM q0 b0++pJ (qs++[q]) (bs++[b])=(tM q0 b0++pJ qs bs)++tM q b
  rw[u9 qs bs q b (by simpa using hl),ZK]
 | [],_::_,_,_,hl=>by cases hl
 | _::_,[],_,_,hl=>by cases hl
theorem GS:∀(qs:List P5) (bs:List bN),qs.length=bs.length->(pJ qs bs).length=bs.length*7
 | [],[],_=>rfl
 | q::qs,b::bs,hl=>by
  show(tM q b++pJ qs bs).length=_
  rw[Zb,GS qs bs (by simpa using hl),Zm]
  show 7+_=_
  omega
 | [],_::_,hl=>by cases hl
 | _::_,[],hl=>by cases hl
theorem wQ(l:List RB)(r:RB):nG (l++[r])=nG l++r.cells:=by unfold nG;rw[IC];simp
theorem zf{ps:List (V×V)}{qs:List P5}{bs:List bN}{q:P5}{b:bN}{l:List RB}{r:RB}(hl:qs.length=bs.length)(xG:l.length=bs.length)(h:cZ (gI ps) (nG (l++[r])) (pJ (qs++[q]) (bs++[b]))):cZ (gI ps) (nG l) (pJ qs bs)∧cZ (gI ps) r.cells (tM q b):=by
 rw[wQ,u9 qs bs q b hl] at h
 obtain⟨l1,l2,e,h1,h2⟩:=cZ.split _ _ _ h
 have e1:l1.length=(pJ qs bs).length:=by rw[cZ.len _ _ h1,rS,GS qs bs hl,xG]
 obtain⟨e2,e3⟩:=List.append_inj e.symm e1
 subst e2 e3
 exact⟨h1,h2⟩
def sK(F:cW)(s:Bs):V:= .p (.tuple [.str (sB (aI F s).2.1),.int .i64 (aI F s).2.2])
def Jd(b:bN)(p:Di.bn)(um:V)(M:ah)(H:List ah):Prop:=H[0]? =some (cH b p um 13 12 14 15 16)∧jS H ⟨13,12,14,15,16⟩ b∧H[6]? =some M∧bX (fm b p um M) H
theorem yf(b:bN)(p:Di.bn)(um:V)(M:ah)(X:List ah):bX (fm b p um M) (fm b p um M++X):=⟨by rw[Zb];exact RX 7 _,fun j x y hj hx hd hy=>by
 rw[n8 hx] at hy;cases hy;exact hd⟩
theorem Ac{b:bN}{p:Di.bn}{um:V}{M X:ah}{H0:List ah}{e:Int}(h:bX (fm b p um M) H0):bX (fm b p um M) (gv (bp (lT b p um M X) [0,1,2,3,4,5,6] H0) b p um e):=by
 have hlen:=rH (b:=b) (p:=p) (um:=um) (M:=M) (X:=X) h.len
 refine⟨by rw[sJ];omega,fun j x y hj hx hd hy=> ?_⟩
 rcases Vz j with rfl | h0
 ·cases hx;cases hd
 ·exact pR (by decide) (by omega) (qg h) j x y h0 hj hx hd hy
theorem QA{b:bN}{p:Di.bn}{um:V}{M X:ah}{H0:List ah}{e:Int}(hM:∀ σ,aE σ M=M)(h:bX (fm b p um M) H0)(h6:H0[6]? =some M):Jd b p um M (gv (bp (lT b p um M X) [0,1,2,3,4,5,6] H0) b p um e):=by
 have hlen:=rH (b:=b) (p:=p) (um:=um) (M:=M) (X:=X) h.len
 obtain⟨g1,g2,g3,g4,g5⟩:=Dw (b:=b) (p:=p) (um:=um) (M:=M) (X:=X) h.len
 have gg:∀{i:Nat} {x:ah},i≠0->i≠8->i≠9->i<18->(bp (lT b p um M X) [0,1,2,3,4,5,6] H0)[i]? =some x->(gv (bp (lT b p um M X) [0,1,2,3,4,5,6] H0) b p um e)[i]? =some x:=fun a1 a2 a3 a4 hx=>by
  rw[iy a1 a2 a3 (by omega)];exact hx
 refine⟨Ig,⟨gg (by decide) (by decide) (by decide) (by decide) g1,gg (by decide) (by decide) (by decide) (by decide) g2,gg (by decide) (by decide) (by decide) (by decide) g3,gg (by decide) (by decide) (by decide) (by decide) g4,gg (by decide) (by decide) (by decide) (by decide) g5⟩,gg (by decide) (by decide) (by decide) (by decide) ?_,Ac h⟩
 have:=fy (H:=lT b p um M X) (ks:=[0,1,2,3,4,5,6]) (j:=6) (i:=6) (by decide) h.len rfl Kn h6
 rw[this,hM]
theorem z6(l:List RB)(k:Nat):∀ σ:Nat->Option Nat,((di l).live=true->σ 6=some 6)->bf σ (.row 6 k)= .row 6 k:=fun σ h=>by simp only[bf,h rfl]
theorem Yd:∀ σ:Nat->Option Nat,(ah.dead.live=true->σ 6=some 6)->bf σ .z0= .z0:=fun σ _=>rfl
def K3(F:cW)(cs:List V)(k:Nat)(H:List ah):Prop:=H[0]? =some (cH F.b F.aV (.row 28 (k+1)) 1 2 3 4 5)∧jS H (uq 1) F.b∧jS H ⟨22,21,23,24,25⟩ F.b∧H[28]? =some (.row (cs++dF 22 21 23 24 25 F.b) zb)
theorem dz{H:List ah}{i:Nat}{x y z:ah}(h8:i≠8)(h9:i≠9)(h:H[i]? =some x):((H.set 8 y).set 9 z)[i]? =some x:=bO (Ne.symm h9) (bO (Ne.symm h8) h)
theorem nq{b:bN}{p:Di.bn}{um:V}{M X y z:ah}{H0:List ah}(h:bX (fm b p um M) H0):bX (fm b p um M) (((bp (lT b p um M X) [0,1,2,3,4,5,6] H0).set 8 y).set 9 z):=by
 have hlen:=rH (b:=b) (p:=p) (um:=um) (M:=M) (X:=X) h.len
 refine⟨by rw[ZZ,ZZ];omega,fun j x w hj hx hd hy=> ?_⟩
 rw[Zv,if_neg (by omega),Zv,if_neg (by omega)] at hy
 rcases Vz j with rfl | h0
 ·cases hx;cases hd
 ·exact qg h j x w h0 hj hx hd hy
theorem Jo{s:Bs}{v:Vb}{n:List Int}(h:cF s=some (v,n)):∃ w l,b7 s=w::l∧ju w=some v∧l.length=v.many∧(∀ x∈l,hO x)∧n=l.map gF:=by
 obtain⟨w,l,hw⟩:=wI s
 cases hv:ju w with
 | none=>rw[y6 hw hv] at h;cases h
 | some v'=>
  by_cases hm:l.length=v'.many
  ·by_cases hC:∀ x∈l,hO x
   ·rw[y3 hw hv hm hC] at h
    cases h
    exact⟨w,l,hw,hv,hm,hC,rfl⟩
   ·rw[za hw hv hC] at h;cases h
  ·rw[yF hw hv hm] at h;cases h
theorem so(F:cW)(s:Bs)(hF:mJ F)(v:Vb)(n:List Int)(hpa:cF s=some (v,n))(hs:s.length<=120)(um:V)(M:ah)(hu:∀ σ:Nat->Option Nat,(M.live=true->σ 6=some 6)->bf σ um=um)(hM:∀ σ,aE σ M=M)(Qr:V->List ah->Prop)(Qp:PV->List ah->Prop)
    (hd:av Tryz.prog (kM v) [.ptr 0 0,.p (Di.bw n)] (fm F.b F.aV um M) Qr Qp)(hr:∀ r H2,Qr r H2->(bH F v n).2.2=0∧r= .p (.str (sB (bH F v n).2.1))∧bX (fm F.b F.aV um M) H2)(hp:∀ y H2,Qp y H2->(bH F v n).2.2≠0∧y= .iface 94 (.agg [.int .i64 (bH F v n).2.2])∧bX (fm F.b F.aV um M) H2∧H2[6]? =some M∧∃ cs,cs.length=7∧H2[0]? =some (.cells (cs++F.aV.cells.map .p++[um,.p (.bool true)]) 87)):
    ax Tryz.prog 13 [.ptr 0 0,.p (.str (sB s))] (fm F.b F.aV um M) (fun x H2=>x=sK F s∧(((aI F s).2.2=0∧∃ H0 y z,Qr (.p (.str (sB (bH F v n).2.1))) H0∧H2=(((bp (lT F.b F.aV um M (ah.cells [.p (.int .i64 (v.many:Int)),.p (.func (.func (kM v)) [] [])] 99)) [0,1,2,3,4,5,6] H0).set 8 y).set 9 z))∨((aI F s).2.2≠0∧aI F s=(F,[],(aI F s).2.2)∧Jd F.b F.aV um M H2))):=by
 obtain⟨w,l,hw,hv,hm,hC,rfl⟩:=Jo hpa
 obtain⟨l1,l2,l3,l4,l5⟩:=HB hF
 have he:aI F s=bH F v (l.map gF):=by unfold aI;rw[if_neg (by omega),hpa]
 have h:=HI F.b F.aV um M hu hM l1 l2 l3 l4 l5 s hs w l hw v hv hm hC (bH F v (l.map gF)).2.1 (bH F v (l.map gF)).2.2 Qr Qp hd (fun r H2 hq=>(hr r H2 hq).2) (fun y H2 hq=>⟨(hp y H2 hq).2.1,(hp y H2 hq).2.2.1,(hp y H2 hq).2.2.2.2⟩)
 refine fun w' I ρ us hi fX=>(h w' I ρ us hi fX).mono fun e w2 ⟨u,x,J,σ,H2,e1,hq,e2⟩=>⟨u,x,J,σ,H2,e1,?_,e2⟩
 unfold sK
 rw[he]
 rcases hq with⟨rfl,H0,hq,rfl⟩ | ⟨rfl,H0,hq,rfl⟩
 ·obtain⟨h0,_,hk⟩:=hr _ _ hq
  exact⟨by rw[h0],.inl ⟨h0,H0,_,_,hq,rfl⟩⟩
 ·obtain⟨h0,_,hk,h6,_⟩:=hp _ _ hq
  have e3:=HW h0
  exact⟨by rw[e3],.inr ⟨h0,e3,QA hM hk h6⟩⟩
def mH(z:Bool)(l:List RB):V:=bif z then .z0 else .row 6 l.length
def mL(z:Bool)(l:List RB):ah:=bif z then .dead else di l
theorem My(z:Bool)(l:List RB):∀ σ:Nat->Option Nat,((mL z l).live=true->σ 6=some 6)->bf σ (mH z l)=mH z l:=by
 cases z with
 | true=>exact Yd
 | false=>exact z6 l l.length
theorem NL(z:Bool)(l:List RB):∀ σ,aE σ (mL z l)=mL z l:=by
 cases z with
 | true=>exact fun _=>rfl
 | false=>exact fun σ=>gT σ l
theorem Pm{b:bN}{p:Di.bn}{um:V}{M X:ah}(j:Nat):mI (lT b p um M X) [0,1,2,3,4,5,6] (7+j)=19+j:=by
 unfold mI
 have:([0,1,2,3,4,5,6]:List Nat)[7+j]? =none:=ZF (by show 7<=7+j;omega)
 rw[this]
 show 19+(7+j - 7)=19+j
 omega
theorem YW(F:cW)(s:Bs)(hF:mJ F)(n:List Int)(hpa:cF s=some (.mark,n))(hs:s.length<=120)(z:Bool)(l:List RB)(hz:z=true->l=[])(hl:l.length=F.marks.length):
    ax Tryz.prog 13 [.ptr 0 0,.p (.str (sB s))] (fm F.b F.aV (mH z l) (mL z l)) (fun x H2=>x=sK F s∧bX (fm F.b F.aV (mH z l) (mL z l)) H2∧(((aI F s).2.2=0∧K3 F (nG l) l.length H2)∨((aI F s).2.2≠0∧aI F s=(F,[],(aI F s).2.2)∧Jd F.b F.aV (mH z l) (mL z l) H2))):=by
 have fin:∀{x:V} {H2 H0:List ah} {y w X:ah},H2=(((bp (lT F.b F.aV (mH z l) (mL z l) X) [0,1,2,3,4,5,6] H0).set 8 y).set 9 w)->bX (fm F.b F.aV (mH z l) (mL z l)) H0->H0[0]? =some (cH F.b F.aV (.row 16 (l.length+1)) 1 2 3 4 5)->jS H0 (uq 1) F.b->jS H0 ⟨10,9,11,12,13⟩ F.b->H0[16]? =some (.row (nG l++dF 10 9 11 12 13 F.b) zb)->K3 F (nG l) l.length H2:=fun{x H2 H0 y w X} e hk h0 h5 WM h16=>by
  subst e
  have hK:=oG (X:=X) hk
  have rT:=hk.len
  have hn:([0,1,2,3,4,5,6]:List Nat).Nodup:=by decide
  have hlt:∀ i∈([0,1,2,3,4,5,6]:List Nat),i<(lT F.b F.aV (mH z l) (mL z l) X).length:=fun i hi=>ZQ (AG hi) Kn
  have p16:bf (dS (lT F.b F.aV (mH z l) (mL z l) X) [0,1,2,3,4,5,6]) (.row 16 (l.length+1))= .row 28 (l.length+1):=by
   have:=jm hK h16 rfl
   rw[show(16:Nat)=7+9 from rfl,Pm] at this
   simp only[bf,this]
  have k0:=fy (H:=lT F.b F.aV (mH z l) (mL z l) X) hn rT (j:=0) (i:=0) rfl Kn h0
  have e0:=lq (q:=uq 1) (p:=F.aV) hK h5 p16
  have a5:=iK (H:=lT F.b F.aV (mH z l) (mL z l) X) hn rT hlt h5
  have a5':=iK (H:=lT F.b F.aV (mH z l) (mL z l) X) hn rT hlt WM
  have k16:=qR (H:=lT F.b F.aV (mH z l) (mL z l) X) hn rT hlt h16
  have e16:aE (dS (lT F.b F.aV (mH z l) (mL z l) X) [0,1,2,3,4,5,6]) (.row (nG l++dF 10 9 11 12 13 F.b) zb)= .row (nG l++dF 22 21 23 24 25 F.b) zb:=by
   show ah.row (bA _ (_++_)) _=_
   rw[bF,ux]
   have:=wT (q:=⟨10,9,11,12,13⟩) hK WM
   exact congrArg (fun t=>ah.row (nG l++t) zb) this
  refine⟨dz (by decide) (by decide) (k0.trans (congrArg some e0)),?_,?_,?_⟩
  ·obtain⟨g1,g2,g3,g4,g5⟩:=a5
   exact CN
  ·obtain⟨g1,g2,g3,g4,g5⟩:=a5'
   exact CN
  ·rw[e16] at k16
   exact dz (by decide) (by decide) k16
 have kf:bX (fm F.b F.aV (mH z l) (mL z l)) (fm F.b F.aV (mH z l) (mL z l)):=by
  have:=yf F.b F.aV (mH z l) (mL z l) []
  rwa [ZT] at this
 cases z with
 | true=>
  have hl0:l=[]:=hz rfl
  subst hl0
  refine fun w I ρ us hi fX=>(so F s hF .mark n hpa hs .z0 .dead Yd (fun _=>rfl) _ _ (TM F n hF hl) (fun r H2 hq=>⟨hq.1,hq.2.1,?_⟩) (fun y H2 hq=>⟨hq.1,hq.2.1,by rw[hq.2.2];exact kf,by rw[hq.2.2];rfl,dF 1 2 3 4 5 F.b,rfl,by rw[hq.2.2];rfl⟩) w I ρ us hi fX).mono fun e w2 ⟨u,x,J,σ,H2,e1,hq,e2⟩=>⟨u,x,J,σ,H2,e1,?_,e2⟩
  ·rw[hq.2.2]
   exact DY
  ·obtain⟨rfl,h | ⟨h1,h2,h3⟩⟩:=hq
   ·obtain⟨h0,H0,y,w',⟨g1,g2,g3⟩,rfl⟩:=h
    have hk:bX (fm F.b F.aV .z0 .dead) H0:=by
     rw[g3]
     exact DY
    exact Dp
   ·exact nr
 | false=>
  refine fun w I ρ us hi fX=>(so F s hF .mark n hpa hs (.row 6 l.length) (di l) (z6 l l.length) (fun σ=>gT σ l) _ _ (T8 F n l hF hl) (fun r H2 hq=>⟨hq.1,hq.2.1,?_⟩) (fun y H2 hq=>⟨hq.1,hq.2.1,by rw[hq.2.2];exact kf,by rw[hq.2.2];rfl,dF 1 2 3 4 5 F.b,rfl,by rw[hq.2.2];rfl⟩) w I ρ us hi fX).mono fun e w2 ⟨u,x,J,σ,H2,e1,hq,e2⟩=>⟨u,x,J,σ,H2,e1,?_,e2⟩
  ·rw[hq.2.2]
   exact qG
  ·obtain⟨rfl,h | ⟨h1,h2,h3⟩⟩:=hq
   ·obtain⟨h0,H0,y,w',⟨g1,g2,g3⟩,rfl⟩:=h
    have hk:bX (fm F.b F.aV (.row 6 l.length) (di l)) H0:=by
     rw[g3]
     exact qG
    exact Dp
   ·exact nr
def Sm(F:cW)(l:List RB)(r:RB)(H:List ah):Prop:=H[0]? =some (.cells (r.cells++F.aV.cells.map .p++[.row 6 l.length,.p (.bool true)]) 87)∧H[6]? =some (di (l++[r]))
def Z1(F:cW)(l:List RB)(r:RB)(H:List ah):Prop:=H[0]? =some (cH F.b F.aV (.row 6 l.length) 1 2 3 4 5)∧jS H (uq 1) F.b∧H[6]? =some (di (l++[r]))
theorem L5(σ:Nat->Option Nat)(r:RB):bA σ r.cells=r.cells:=rfl
theorem BO(F:cW)(n:List Int)(v:Vb)(um:V)(M:ah)(X1 X2:ah)(y:PV)(H2:List ah)(hq:(bH F v n).2.2≠0∧y= .iface 94 (.agg [.int .i64 (bH F v n).2.2])∧H2=[cH F.b F.aV um 1 2 3 4 5,dn F.b.au,cV F.b.ai,de F.b.aq,bz F.b.plan,bz F.b.bZ,M,X1,X2]):
    (bH F v n).2.2≠0∧y= .iface 94 (.agg [.int .i64 (bH F v n).2.2])∧bX (fm F.b F.aV um M) H2∧H2[6]? =some M∧∃ cs,cs.length=7∧H2[0]? =some (.cells (cs++F.aV.cells.map .p++[um,.p (.bool true)]) 87):=by
 obtain⟨h1,h2,rfl⟩:=hq
 exact⟨h1,h2,yf F.b F.aV um M [X1,X2],rfl,dF 1 2 3 4 5 F.b,rfl,rfl⟩
theorem AK{α:Type}(l:List α):l=[]∨∃ l0 x,l=l0++[x]:=by
 rcases List.eq_nil_or_concat l with h | ⟨l0,x,h⟩
 ·exact .inl h
 ·exact .inr ⟨l0,x,by rw[h,List.concat_eq_append]⟩
theorem Ii(z:Bool):Gd (mH z [])=some 0:=by cases z <;> rfl
theorem WK(F:cW)(s:Bs)(hF:mJ F)(n:List Int)(hpa:cF s=some (.back,n))(hs:s.length<=120)(z:Bool)(l:List RB)(hz:z=true->l=[])(hl:l.length=F.marks.length):
    ax Tryz.prog 13 [.ptr 0 0,.p (.str (sB s))] (fm F.b F.aV (mH z l) (mL z l)) (fun x H2=>x=sK F s∧bX (fm F.b F.aV (mH z l) (mL z l)) H2∧((∃ fs x l0 r,F.marks=fs++[x]∧l=l0++[r]∧z=false∧(aI F s).1={F with b:=x,marks:=fs}∧Sm F l0 r H2)∨((aI F s).2.2≠0∧aI F s=(F,[],(aI F s).2.2)∧Jd F.b F.aV (mH z l) (mL z l) H2))):=by
 rcases AK l with rfl | ⟨l0,r,rfl⟩
 ·have hm:F.marks=[]:=ZB hl.symm
  refine fun w I ρ us hi fX=>(so F s hF .back n hpa hs (mH z []) (mL z []) (My z []) (NL z []) _ _ (JG F n (mH z []) (mL z []) hm (Ii z)) (fun r H2 hq=>hq.elim) (fun y H2 hq=>BO F n .back _ _ _ _ y H2 hq) w I ρ us hi fX).mono fun e w2 ⟨u,x,J,σ,H2,e1,hq,e2⟩=>⟨u,x,J,σ,H2,e1,?_,e2⟩
  exact D8
 ·have hzf:z=false:=by
    cases z with
    | false=>rfl
    | true=>have:=hz rfl;simp at this
  subst hzf
  obtain⟨fs,x,hm⟩:∃ fs x,F.marks=fs++[x]:=by
   exact DU
  have hl0:l0.length=fs.length:=by rw[hm] at hl;simpa using hl
  have h8:l0.length<=8:=by have:=hF.mm;rw[hm] at this;simp at this;omega
  have eu:mH false (l0++[r])= .row 6 (l0.length+1):=by show V.row 6 _=_;rw[Zb];rfl
  have hd:=JJ F n l0 r fs x hm hl0 h8
  have VH:∀ H2:List ah,H2=[.cells (r.cells++F.aV.cells.map .p++[.row 6 l0.length,.p (.bool true)]) 87,dn F.b.au,cV F.b.ai,de F.b.aq,bz F.b.plan,bz F.b.bZ,di (l0++[r]),.cells r.cells zb,.cells r.cells zb]->bX (fm F.b F.aV (.row 6 (l0.length+1)) (di (l0++[r]))) H2:=fun H2 e=>by
   subst e
   exact qG
  rw[eu]
  show ax _ _ _ (fm F.b F.aV (.row 6 (l0.length+1)) (di (l0++[r]))) _
  refine fun w I ρ us hi fX=>(so F s hF .back n hpa hs (.row 6 (l0.length+1)) (di (l0++[r])) (z6 _ _) (fun σ=>gT σ _) _ _ hd (fun r' H2 hq=>⟨hq.1,hq.2.1,VH H2 hq.2.2⟩) (fun y H2 hq=>hq.elim) w I ρ us hi fX).mono fun e w2 ⟨u,x',J,σ,H2,e1,hq,e2⟩=>⟨u,x',J,σ,H2,e1,?_,e2⟩
  obtain⟨rfl,⟨h0,H0,y,w',⟨g1,g2,g3⟩,rfl⟩ | ⟨h1,h2,h3⟩⟩:=hq
  ·have hk:=VH H0 g3
   have hK:=oG (X:=ah.cells [.p (.int .i64 (Vb.back.many:Int)),.p (.func (.func (kM .back)) [] [])] 99) hk
   have rT:=hk.len
   have he:(aI F s).1={F with b:=x,marks:=fs}:=by
    have:aI F s=bH F .back n:=by unfold aI;rw[if_neg (by omega),hpa]
    rw[this]
    unfold bH
    rw[hm]
    simp
   have t6:dS (lT F.b F.aV (.row 6 (l0.length+1)) (di (l0++[r])) (ah.cells [.p (.int .i64 (Vb.back.many:Int)),.p (.func (.func (kM .back)) [] [])] 99)) [0,1,2,3,4,5,6] 6=some 6:=Uc _ _ _ _ _ rfl
   have k0:=fy (H:=lT F.b F.aV (.row 6 (l0.length+1)) (di (l0++[r])) (ah.cells [.p (.int .i64 (Vb.back.many:Int)),.p (.func (.func (kM .back)) [] [])] 99)) (ks:=[0,1,2,3,4,5,6]) (H0:=H0) (j:=0) (i:=0) (x:= .cells (r.cells++F.aV.cells.map .p++[.row 6 l0.length,.p (.bool true)]) 87) (by decide) rT rfl Kn (by rw[g3];rfl)
   have k6:=fy (H:=lT F.b F.aV (.row 6 (l0.length+1)) (di (l0++[r])) (ah.cells [.p (.int .i64 (Vb.back.many:Int)),.p (.func (.func (kM .back)) [] [])] 99)) (ks:=[0,1,2,3,4,5,6]) (H0:=H0) (j:=6) (i:=6) (x:=di (l0++[r])) (by decide) rT rfl Kn (by rw[g3];rfl)
   rw[gT] at k6
   rw[wq (by simp only[bf,t6]),L5] at k0
   exact⟨rfl,nq hk,.inl ⟨fs,x,l0,r,hm,rfl,rfl,he,dz (by decide) (by decide) k0,dz (by decide) (by decide) k6⟩⟩
  ·exact nr
theorem Xz(F:cW)(s:Bs)(hF:mJ F)(n:List Int)(hpa:cF s=some (.keep,n))(hs:s.length<=120)(z:Bool)(l:List RB)(hz:z=true->l=[])(hl:l.length=F.marks.length):
    ax Tryz.prog 13 [.ptr 0 0,.p (.str (sB s))] (fm F.b F.aV (mH z l) (mL z l)) (fun x H2=>x=sK F s∧bX (fm F.b F.aV (mH z l) (mL z l)) H2∧((∃ fs x l0 r,F.marks=fs++[x]∧l=l0++[r]∧z=false∧(aI F s).1={F with marks:=fs}∧Z1 F l0 r H2)∨((aI F s).2.2≠0∧aI F s=(F,[],(aI F s).2.2)∧Jd F.b F.aV (mH z l) (mL z l) H2))):=by
 rcases AK l with rfl | ⟨l0,r,rfl⟩
 ·have hm:F.marks=[]:=ZB hl.symm
  refine fun w I ρ us hi fX=>(so F s hF .keep n hpa hs (mH z []) (mL z []) (My z []) (NL z []) _ _ (IX F n (mH z []) (mL z []) hm (Ii z)) (fun r H2 hq=>hq.elim) (fun y H2 hq=>BO F n .keep _ _ _ _ y H2 hq) w I ρ us hi fX).mono fun e w2 ⟨u,x,J,σ,H2,e1,hq,e2⟩=>⟨u,x,J,σ,H2,e1,?_,e2⟩
  exact D8
 ·have hzf:z=false:=by
    cases z with
    | false=>rfl
    | true=>have:=hz rfl;simp at this
  subst hzf
  obtain⟨fs,x,hm⟩:∃ fs x,F.marks=fs++[x]:=by
   exact DU
  have hl0:l0.length=fs.length:=by rw[hm] at hl;simpa using hl
  have h8:l0.length<=8:=by have:=hF.mm;rw[hm] at this;simp at this;omega
  have eu:mH false (l0++[r])= .row 6 (l0.length+1):=by show V.row 6 _=_;rw[Zb];rfl
  have hd:=IS F n l0 r fs x hm hl0 h8
  have VH:∀ H2:List ah,H2=[cH F.b F.aV (.row 6 l0.length) 1 2 3 4 5,dn F.b.au,cV F.b.ai,de F.b.aq,bz F.b.plan,bz F.b.bZ,di (l0++[r]),.cells r.cells zb,.cells r.cells zb]->bX (fm F.b F.aV (.row 6 (l0.length+1)) (di (l0++[r]))) H2:=fun H2 e=>by
   subst e
   exact qG
  rw[eu]
  show ax _ _ _ (fm F.b F.aV (.row 6 (l0.length+1)) (di (l0++[r]))) _
  refine fun w I ρ us hi fX=>(so F s hF .keep n hpa hs (.row 6 (l0.length+1)) (di (l0++[r])) (z6 _ _) (fun σ=>gT σ _) _ _ hd (fun r' H2 hq=>⟨hq.1,hq.2.1,VH H2 hq.2.2⟩) (fun y H2 hq=>hq.elim) w I ρ us hi fX).mono fun e w2 ⟨u,x',J,σ,H2,e1,hq,e2⟩=>⟨u,x',J,σ,H2,e1,?_,e2⟩
  obtain⟨rfl,⟨h0,H0,y,w',⟨g1,g2,g3⟩,rfl⟩ | ⟨h1,h2,h3⟩⟩:=hq
  ·have hk:=VH H0 g3
   have hK:=oG (X:=ah.cells [.p (.int .i64 (Vb.keep.many:Int)),.p (.func (.func (kM .keep)) [] [])] 99) hk
   have rT:=hk.len
   have he:(aI F s).1={F with marks:=fs}:=by
    have:aI F s=bH F .keep n:=by unfold aI;rw[if_neg (by omega),hpa]
    rw[this]
    unfold bH
    rw[hm]
    simp
   have t6:dS (lT F.b F.aV (.row 6 (l0.length+1)) (di (l0++[r])) (ah.cells [.p (.int .i64 (Vb.keep.many:Int)),.p (.func (.func (kM .keep)) [] [])] 99)) [0,1,2,3,4,5,6] 6=some 6:=Uc _ _ _ _ _ rfl
   have k0:=fy (H:=lT F.b F.aV (.row 6 (l0.length+1)) (di (l0++[r])) (ah.cells [.p (.int .i64 (Vb.keep.many:Int)),.p (.func (.func (kM .keep)) [] [])] 99)) (ks:=[0,1,2,3,4,5,6]) (H0:=H0) (j:=0) (i:=0) (x:=cH F.b F.aV (.row 6 l0.length) 1 2 3 4 5) (by decide) rT rfl Kn (by rw[g3];rfl)
   have k6:=fy (H:=lT F.b F.aV (.row 6 (l0.length+1)) (di (l0++[r])) (ah.cells [.p (.int .i64 (Vb.keep.many:Int)),.p (.func (.func (kM .keep)) [] [])] 99)) (ks:=[0,1,2,3,4,5,6]) (H0:=H0) (j:=6) (i:=6) (x:=di (l0++[r])) (by decide) rT rfl Kn (by rw[g3];rfl)
   rw[gT] at k6
   have h5:jS H0 (uq 1) F.b:=by rw[g3];exact⟨rfl,rfl,rfl,rfl,rfl⟩
   have e0:=lq (q:=uq 1) (p:=F.aV) (um:= .row 6 l0.length) (oz:= .row 6 l0.length) hK h5 (by simp only[bf];rw[show dS _ _ 6=some 6 from t6])
   have a5:=iK (H:=lT F.b F.aV (.row 6 (l0.length+1)) (di (l0++[r])) (ah.cells [.p (.int .i64 (Vb.keep.many:Int)),.p (.func (.func (kM .keep)) [] [])] 99)) (ks:=[0,1,2,3,4,5,6]) (by decide) rT (fun i hi=>ZQ (AG hi) Kn) h5
   obtain⟨b1,b2,b3,b4,b5⟩:=a5
   exact⟨rfl,nq hk,.inl ⟨fs,x,l0,r,hm,rfl,rfl,he,dz (by decide) (by decide) (k0.trans (congrArg some e0)),⟨dz (by decide) (by decide) b1,dz (by decide) (by decide) b2,dz (by decide) (by decide) b3,dz (by decide) (by decide) b4,dz (by decide) (by decide) b5⟩,dz (by decide) (by decide) k6⟩⟩
  ·exact nr
def k7(c im:Nat)(q:P5):List Nat:=c::(q.l++[im])
theorem tL{c:Nat}{F:cW}{z:Bool}{H:List ah}{q:P5}{im:Nat}{qs:List P5}(h:fV c F z H q im qs):(k7 c im q).Nodup:=by
 have hnd:=h.nd
 rw[ZC,ZC,ZY] at hnd
 obtain⟨n1,n2,n3,n4,n5⟩:=hnd
 unfold k7
 rw[ZC,ZY]
 refine⟨fun hm=> ?_,n3,by simp,fun a ha b hb e=> ?_⟩
 ·rcases Zo.1 hm with hm | hm
  ·exact n1 (Zh _ (ZX _ hm))
  ·exact n1 (by rw[ZI.1 hm];exact Zt)
 ·rw[ZI.1 hb] at e
  subst e
  exact n2 (ZX _ ha)
theorem pF{c:Nat}{F:cW}{z:Bool}{H:List ah}{q:P5}{im:Nat}{qs:List P5}(h:fV c F z H q im qs):∀ i∈k7 c im q,c<=i∧i<H.length:=fun i hi=>by
 rcases Zr.1 hi with rfl | hi
 ·exact⟨Zf _,(Za.1 h.fl).1⟩
 ·rcases Zo.1 hi with hi | hi
  ·exact⟨h.low i (Zh _ (ZX _ hi)),h.a5.lt i hi⟩
  ·rw[ZI.1 hi]
   exact⟨h.low im Zt,(Za.1 h.mb).1⟩
theorem tE{c:Nat}{F:cW}{z:Bool}{H:List ah}{q:P5}{im:Nat}{qs:List P5}(h:fV c F z H q im qs):∀ i∈qs.flatMap P5.l,i∉k7 c im q:=fun i hi hm=>by
 have hnd:=h.nd
 rw[ZC,ZC,ZY] at hnd
 obtain⟨n1,n2,n3,n4,n5⟩:=hnd
 rcases Zr.1 hm with e | hm
 ·exact n1 (Zh _ (ZG _ (e▸hi)))
 ·rcases Zo.1 hm with hm | hm
  ·exact n5 i hm i hi rfl
  ·rw[ZI.1 hm] at hi
   exact n2 (ZG _ hi)
structure xQ (c:Nat) (F:cW) (z:Bool) (H:List ah) (q:P5) (im:Nat) (qs:List P5) (l:List RB) (H' H0:List ah):Prop where
 fa:fV c F z H q im qs
 e:H'=H.set im (mL z l)
 k:fL H' (k7 c im q) H0
theorem xQ.len{c:Nat}{F:cW}{z:Bool}{H:List ah}{q:P5}{im:Nat}{qs:List P5}{l:List RB}{H' H0:List ah}(h:xQ c F z H q im qs l H' H0):H'.length=H.length:=by rw[h.e,ZZ]
theorem xQ.lt{c:Nat}{F:cW}{z:Bool}{H:List ah}{q:P5}{im:Nat}{qs:List P5}{l:List RB}{H' H0:List ah}(h:xQ c F z H q im qs l H' H0):∀ i∈k7 c im q,i<H'.length:=fun i hi=>by rw[h.len];exact(pF h.fa i hi).2
theorem xQ.out{c:Nat}{F:cW}{z:Bool}{H:List ah}{q:P5}{im:Nat}{qs:List P5}{l:List RB}{H' H0:List ah}(h:xQ c F z H q im qs l H' H0){i:Nat}(hi:i<H.length)(hk:i∉k7 c im q):(bp H' (k7 c im q) H0)[i]? =H[i]? :=by
 rw[dL (tL h.fa) h.k.1 (by rw[h.len];exact hi) hk,h.e,Zv,if_neg (fun e=>hk (by rw[<- e];exact Zh _ (ZG _ (ZI.2 rfl))))]
theorem xQ.at_{c:Nat}{F:cW}{z:Bool}{H:List ah}{q:P5}{im:Nat}{qs:List P5}{l:List RB}{H' H0:List ah}(h:xQ c F z H q im qs l H' H0){j:Nat}{x:ah}(hx:H0[j]? =some x):(bp H' (k7 c im q) H0)[mI H' (k7 c im q) j]? =some (aE (dS H' (k7 c im q)) x):=qR (tL h.fa) h.k.1 h.lt hx
theorem xQ.p0{c:Nat}{F:cW}{z:Bool}{H:List ah}{q:P5}{im:Nat}{qs:List P5}{l:List RB}{H' H0:List ah}(h:xQ c F z H q im qs l H' H0):mI H' (k7 c im q) 0=c:=rfl
theorem xQ.p6{c:Nat}{F:cW}{z:Bool}{H:List ah}{q:P5}{im:Nat}{qs:List P5}{l:List RB}{H' H0:List ah}(h:xQ c F z H q im qs l H' H0):mI H' (k7 c im q) 6=im:=rfl
theorem xQ.ats{c:Nat}{F:cW}{z:Bool}{H:List ah}{q:P5}{im:Nat}{qs:List P5}{l:List RB}{H' H0:List ah}(h:xQ c F z H q im qs l H' H0):qv (bp H' (k7 c im q) H0) qs F.marks:=
 h.fa.ats.congr fun i hi=>h.out (h.fa.ats.lt i hi) (tE h.fa i hi)
theorem xQ.new{c:Nat}{F:cW}{z:Bool}{H:List ah}{q:P5}{im:Nat}{qs:List P5}{l:List RB}{H' H0:List ah}(h:xQ c F z H q im qs l H' H0)(j:Nat):c<=mI H' (k7 c im q) j∧mI H' (k7 c im q) j∉qs.flatMap P5.l:=by
 rcases yu H' (k7 c im q) j with hm | hm
 ·exact⟨(pF h.fa _ hm).1,fun hq=>tE h.fa _ hq hm⟩
 ·rw[h.len] at hm
  have hc:=(pF h.fa c Zt).2
  exact⟨by omega,fun hq=>by have:=h.fa.ats.lt _ hq;omega⟩
theorem qv.set{H:List ah}{qs:List P5}{bs:List bN}{i:Nat}{y:ah}(h:qv H qs bs)(hi:i∉qs.flatMap P5.l):qv (H.set i y) qs bs:=h.congr fun j hj=>by
 rw[Zv,if_neg (fun e=>hi (by rw[e];exact hj))]
theorem xp{ps:List (V×V)}{cs cs' t:List V}{e:TypeId}(h:cZ (gI ps) cs cs'):nK ps (.row (cs++t) e) (.row cs' e):= .inr ⟨cs,cs',e,h,.inr ⟨t,rfl,rfl⟩⟩
theorem y9{ps:List (V×V)}{cs cs':List V}{e:TypeId}(h:cZ (gI ps) cs cs'):nK ps (.row cs e) (.row cs' e):=by
 have:=xp (e:=e) (t:=[]) h
 rwa [ZT] at this
theorem e8.trans{ps:List (V×V)}{H H2:List ah}{i:Nat}{x y:ah}(h:e8 ps H H2)(hx:H2[i]? =some x)(hx0:H[i]? =some x)(hy:nK ps x y):e8 ps H (H2.set i y):=by
 refine⟨by rw[ZZ];exact h.1,fun j a b ha hb=> ?_⟩
 rw[Zv] at hb
 split at hb
 ·rename_i e
  subst e
  split at hb
  ·cases hb
   rw[hx0] at ha;cases ha;exact hy
  ·cases hb
 ·exact h.2 j a b ha hb
section
variable {c:Nat} {F F':cW} {z z':Bool} {H H' H0:List ah} {q q0:P5} {im:Nat} {qs KB:List P5} {l:List RB} {ps:List (V×V)}
theorem Mt(hb:xQ c F z H q im qs l H' H0){ns:List Nat}(h:ns.Nodup):(ns.map (mI H' (k7 c im q))).Nodup:=sY (tL hb.fa) hb.lt h
theorem Le(hb:xQ c F z H q im qs l H' H0){um0:V}{M0:ah}(hp:F'.aV=F.aV)(hm:z'=true->F'.marks=[])(hq:qv (bp H' (k7 c im q) H0) KB F'.marks)(hsub:∀ i∈KB.flatMap P5.l,i∈qs.flatMap P5.l)(hnq:(KB.flatMap P5.l).Nodup)(h0:H0[0]? =some (cH F'.b F.aV um0 q0.a q0.b q0.c q0.d q0.e))(hn0:(0::6::q0.l).Nodup)(h5:jS H0 q0 F'.b)(h6:H0[6]? =some M0)(hM:∀ σ,aE σ M0=M0)
    (Ww:bf (dS H' (k7 c im q)) um0=tn im F' z')(R7:nK ps M0 (DG KB F' z')):∃ H3,e8 ps (bp H' (k7 c im q) H0) H3∧(∃ z q im qs,fV c F' z H3 q im qs)∧∀ i,i<c->H3[i]? =H[i]? :=by
 obtain⟨q',eq'⟩:∃ q',q'=q0.map (mI H' (k7 c im q)):=⟨_,rfl⟩
 have Wt:=Mt hb hn0
 rw[Zz,Zz,hb.p0,hb.p6,<- P5.vv,<- eq'] at Wt
 have nd2:=Wt
 rw[ZC,ZC] at nd2
 obtain⟨n1,n2,n3⟩:=nd2
 have a5:jS (bp H' (k7 c im q) H0) q' F'.b:=by rw[eq'];exact iK (tL hb.fa) hb.k.1 hb.lt h5
 have k0:=hb.at_ h0
 rw[hb.p0,lq hb.k h5 Ww] at k0
 have k6:=hb.at_ h6
 rw[hb.p6,hM] at k6
 have CV:im≠c:=fun e=>n1 (by rw[e];exact Zt)
 have Qe:im∉KB.flatMap P5.l:=fun hm=>tE hb.fa im (hsub im hm) (Zh _ (ZG _ (ZI.2 rfl)))
 have YM:c∉KB.flatMap P5.l:=fun hm=>tE hb.fa c (hsub c hm) Zt
 have hnew:∀ i∈q'.l,c<=i∧i∉qs.flatMap P5.l:=fun i hi=>by
  rw[eq',P5.vv] at hi
  obtain⟨j,_,rfl⟩:=uE.1 hi
  exact hb.new j
 refine⟨(bp H' (k7 c im q) H0).set im (DG KB F' z'),e8.set k6 R7,⟨z',q',im,KB,⟨?_,a5.set n2,fI k6,hm,hq.set Qe,?_,?_⟩⟩,fun i hi=> ?_⟩
 ·rw[hp]
  have:=bO (y:=DG KB F' z') CV k0
  rw[eq']
  exact this
 ·rw[ZC,ZC,ZY]
  refine⟨fun hm=> ?_,fun hm=> ?_,n3,hnq,fun a ha b hb' e=>(hnew a ha).2 (by rw[e];exact hsub b hb')⟩
  ·rcases Zr.1 hm with e | hm
   ·exact CV e.symm
   ·rcases Zo.1 hm with hm | hm
    ·exact n1 (Zh _ hm)
    ·exact YM hm
  ·rcases Zo.1 hm with hm | hm
   ·exact n2 hm
   ·exact Qe hm
 ·intro i hi
  rcases Zr.1 hi with rfl | hi
  ·exact hb.fa.low i Zt
  ·rcases Zo.1 hi with hi | hi
   ·exact(hnew i hi).1
   ·exact hb.fa.low i (Zh _ (ZG _ (hsub i hi)))
 ·have hcl:=(pF hb.fa c Zt).2
  have pY:=(pF hb.fa im (Zh _ (ZG _ (ZI.2 rfl)))).1
  rw[Zv,if_neg (by omega)]
  exact hb.out (by omega) fun hm=>by have:=(pF hb.fa i hm).1;omega
theorem qv.snoc{H:List ah}{qs:List P5}{bs:List bN}{q:P5}{b:bN}(h:qv H qs bs)(hq:jS H q b):qv H (qs++[q]) (bs++[b]):=by
 induction h with
 | nil=>exact .cons hq .nil
 | cons h _ ih=>exact .cons h ih
theorem Nn(hb:xQ c F z H q im qs l H' H0)(hl:l.length=F.marks.length)(R7:cZ (gI ps) (nG l) (pJ qs F.marks))(hQ:K3 F (nG l) l.length H0):∃ H3,e8 ps (bp H' (k7 c im q) H0) H3∧(∃ z q im qs,fV c {F with marks:=F.marks++[F.b]} z H3 q im qs)∧∀ i,i<c->H3[i]? =H[i]? :=by
 obtain⟨h0,h5,WM,h28⟩:=hQ
 obtain⟨q',eq'⟩:∃ q',q'=(uq 1).map (mI H' (k7 c im q)):=⟨_,rfl⟩
 obtain⟨q1,eq1⟩:∃ q1,q1=(P5.mk 22 21 23 24 25).map (mI H' (k7 c im q)):=⟨_,rfl⟩
 obtain⟨i,ei⟩:∃ i,i=mI H' (k7 c im q) 28:=⟨_,rfl⟩
 have Wt:=Mt hb (show((0:Nat)::28::((uq 1).l++(P5.mk 22 21 23 24 25).l)).Nodup by decide)
 rw[Zz,Zz,ZA,hb.p0,<- P5.vv,<- P5.vv,<- eq',<- eq1,<- ei] at Wt
 rw[ZC,ZC,ZY] at Wt
 obtain⟨n1,n2,n3,n4,n5⟩:=Wt
 have a5:jS (bp H' (k7 c im q) H0) q' F.b:=by rw[eq'];exact iK (tL hb.fa) hb.k.1 hb.lt h5
 have a5':jS (bp H' (k7 c im q) H0) q1 F.b:=by rw[eq1];exact iK (tL hb.fa) hb.k.1 hb.lt WM
 have pu:bf (dS H' (k7 c im q)) (.row 28 (l.length+1))= .row i (l.length+1):=by
  have:=jm hb.k h28 rfl
  simp only[bf,this,<- ei]
 have k0:=hb.at_ h0
 have e0:=lq (q:=uq 1) (p:=F.aV) hb.k h5 pu
 have k0:(bp H' (k7 c im q) H0)[c]? =some (cH F.b F.aV (.row i (l.length+1)) q'.a q'.b q'.c q'.d q'.e):=by
  rw[eq']
  exact k0.trans (congrArg some e0)
 have k28:=hb.at_ h28
 have e28:aE (dS H' (k7 c im q)) (.row (nG l++dF 22 21 23 24 25 F.b) zb)= .row (nG l++tM q1 F.b) zb:=by
  show ah.row (bA _ (_++_)) _=_
  rw[bF,ux,eq1]
  exact congrArg (fun t=>ah.row (nG l++t) zb) (wT (q:=⟨22,21,23,24,25⟩) hb.k WM)
 rw[e28,<- ei] at k28
 have hnew:∀ j∈i::(q'.l++q1.l),c<=j∧j∉qs.flatMap P5.l:=fun j hj=>by
  rcases Zr.1 hj with rfl | hj
  ·rw[ei];exact hb.new 28
  ·rcases Zo.1 hj with hj | hj
   ·rw[eq',P5.vv] at hj
    obtain⟨k,_,rfl⟩:=uE.1 hj
    exact hb.new k
   ·rw[eq1,P5.vv] at hj
    obtain⟨k,_,rfl⟩:=uE.1 hj
    exact hb.new k
 have hci:i≠c:=fun e=>n1 (by rw[e];exact Zt)
 have hfl:(qs++[q1]).flatMap P5.l=qs.flatMap P5.l++q1.l:=by rw[IC];simp
 have hqn:(qs.flatMap P5.l).Nodup:=by
  have:=hb.fa.nd
  rw[ZC,ZC,ZY] at this
  exact this.2.2.2.1
 have aaj:qv (bp H' (k7 c im q) H0) (qs++[q1]) (F.marks++[F.b]):=qv.snoc hb.ats a5'
 have YM:c∉qs.flatMap P5.l:=fun hm=>tE hb.fa c hm Zt
 refine⟨(bp H' (k7 c im q) H0).set i (.row (pJ (qs++[q1]) (F.marks++[F.b])) zb),e8.set k28 (y9 (by rw[u9 qs F.marks q1 F.b hb.fa.ats.len];exact cZ.app _ _ _ _ R7 (cZ.refl gI.refl _))),⟨false,q',i,qs++[q1],⟨?_,a5.set (fun hm=>n2 (ZX _ hm)),fI k28,(fun h=>by cases h),?_,?_,?_⟩⟩,fun j hj=> ?_⟩
 ·have e:tn i {F with marks:=F.marks++[F.b]} false= .row i (l.length+1):=by
    show V.row i (F.marks++[F.b]).length=_
    rw[Zb,hl];rfl
  rw[e]
  exact bO hci k0
 ·refine aaj.set ?_
  rw[hfl]
  intro hm
  exact BE
 ·rw[hfl,ZC,ZC,ZY,ZY]
  refine⟨fun hm=> ?_,fun hm=> ?_,n3,⟨hqn,n4,fun a ha b hb' e=>(hnew b (Zh _ (ZG _ hb'))).2 (e▸ha)⟩,fun a ha b hb' e=> ?_⟩
  ·rcases Zr.1 hm with e | hm
   ·exact hci e.symm
   ·rcases Zo.1 hm with hm | hm
    ·exact n1 (Zh _ (ZX _ hm))
    ·rcases Zo.1 hm with hm | hm
     ·exact YM hm
     ·exact n1 (Zh _ (ZG _ hm))
  ·rcases Zo.1 hm with hm | hm
   ·exact n2 (ZX _ hm)
   ·exact BE
  ·subst e
   rcases Zo.1 hb' with hb' | hb'
   ·exact(hnew a (Zh _ (ZX _ ha))).2 hb'
   ·exact n5 a ha a hb' rfl
 ·intro j hj
  rw[hfl] at hj
  rcases Zr.1 hj with rfl | hj
  ·exact(hnew j Zt).1
  ·rcases Zo.1 hj with hj | hj
   ·exact(hnew j (Zh _ (ZX _ hj))).1
   ·rcases Zo.1 hj with hj | hj
    ·exact hb.fa.low j (Zh _ (ZG _ hj))
    ·exact(hnew j (Zh _ (ZG _ hj))).1
 ·have hcl:=(pF hb.fa c Zt).2
  have:=(hnew i Zt).1
  rw[Zv,if_neg (by omega)]
  exact hb.out (by omega) fun hm=>by have:=(pF hb.fa j hm).1;omega
end
theorem qv.last{H:List ah}:∀{fs:List bN} {qs:List P5} {x:bN},qv H qs (fs++[x])->∃ xL q9,qs=xL++[q9]∧qv H xL fs∧jS H q9 x
 | [],_,_,.cons h .nil=>⟨[],_,rfl,.nil,h⟩
 | _::fs,_,_,.cons h t=>by
  obtain⟨xL,q9,rfl,h1,h2⟩:=qv.last (fs:=fs) t
  exact⟨_::xL,q9,rfl,.cons h h1,h2⟩
section
variable {c:Nat} {F F':cW} {z z':Bool} {H H' H0:List ah} {q q0:P5} {im:Nat} {qs KB:List P5} {l:List RB} {ps:List (V×V)}
theorem oK(xL:List P5)(q9:P5):(xL++[q9]).flatMap P5.l=xL.flatMap P5.l++q9.l:=by rw[IC];simp
theorem LJ{xL:List P5}{q9:P5}{l0:List RB}{r:RB}{fs:List bN}{x:bN}(hb:xQ c F false H q im (xL++[q9]) l H' H0)(hm:F.marks=fs++[x])(hl0:l0.length=fs.length)(eD:qv H xL fs)(ha9:jS H q9 x)(h1:cZ (gI ps) (nG l0) (pJ xL fs))(h2:cZ (gI ps) r.cells (tM q9 x))(hQ:Sm F l0 r H0):
    ∃ H3,e8 ps (bp H' (k7 c im q) H0) H3∧(∃ z q im qs,fV c {F with b:=x,marks:=fs} z H3 q im qs)∧∀ i,i<c->H3[i]? =H[i]? :=by
 obtain⟨g0,g6⟩:=hQ
 have t6:dS H' (k7 c im q) 6=some im:=jm hb.k g6 rfl
 have e0:aE (dS H' (k7 c im q)) (.cells (r.cells++F.aV.cells.map .p++[.row 6 l0.length,.p (.bool true)]) 87)= .cells (r.cells++F.aV.cells.map .p++[.row im l0.length,.p (.bool true)]) 87:=by
  rw[bS,bF,bF,aP,L5]
  simp only[bK,cj,ef,bf,t6]
 have k0:=hb.at_ g0
 rw[hb.p0,e0] at k0
 have k6:=hb.at_ g6
 rw[hb.p6,gT] at k6
 have hnd:=hb.fa.nd
 rw[oK,ZC,ZC,ZY,ZY] at hnd
 obtain⟨n1,n2,n3,⟨n4,n5,n6⟩,n7⟩:=hnd
 have pY:im∈k7 c im q:=Zh _ (ZG _ (ZI.2 rfl))
 have hold:∀ i∈xL.flatMap P5.l++q9.l,i<H.length∧i∉k7 c im q∧c<=i:=fun i hi=>by
  have hi2:i∈(xL++[q9]).flatMap P5.l:=by rw[oK];exact hi
  exact⟨hb.fa.ats.lt i hi2,tE hb.fa i hi2,hb.fa.low i (Zh _ (ZG _ hi2))⟩
 have CV:im≠c:=fun e=>n1 (by rw[e];exact Zt)
 obtain⟨H1,SD⟩:∃ H1,H1=(bp H' (k7 c im q) H0).set c (cH x F.aV (.row im l0.length) q9.a q9.b q9.c q9.d q9.e):=⟨_,rfl⟩
 have k61:H1[im]? =some (di (l0++[r])):=by rw[SD];exact bO (Ne.symm CV) k6
 have Y0:e8 ps (bp H' (k7 c im q) H0) H1:=by
  rw[SD]
  refine e8.set k0 (.inr ⟨_,_,_,?_,.inl ⟨rfl,rfl⟩⟩)
  exact cZ.app _ _ _ _ (cZ.app _ _ _ _ h2 (cZ.refl gI.refl _)) (cZ.refl gI.refl _)
 have oR:nK ps (di (l0++[r])) (.row (pJ xL fs) zb):=by
  unfold di
  rw[wQ]
  exact xp h1
 have same:∀ i,i<H.length->i∉k7 c im q->(H1.set im (.row (pJ xL fs) zb))[i]? =H[i]? :=fun i hi hk=>by
  rw[Zv,if_neg (fun e:im=i=>hk (by rw[<- e];exact pY)),SD,Zv,if_neg (fun e=>hk (by rw[<- e];exact Zt))]
  exact hb.out hi hk
 have a9:jS (H1.set im (.row (pJ xL fs) zb)) q9 x:=by
  obtain⟨b1,b2,b3,b4,b5⟩:=ha9
  have g:∀ i∈q9.l,(H1.set im (.row (pJ xL fs) zb))[i]? =H[i]? :=fun i hi=>same i (hold i (ZG _ hi)).1 (hold i (ZG _ hi)).2.1
  refine⟨?_,?_,?_,?_,?_⟩
  ·rw[g q9.a (by simp[P5.l])];exact b1
  ·rw[g q9.b (by simp[P5.l])];exact b2
  ·rw[g q9.c (by simp[P5.l])];exact b3
  ·rw[g q9.d (by simp[P5.l])];exact b4
  ·rw[g q9.e (by simp[P5.l])];exact b5
 have eu:tn im {F with b:=x,marks:=fs} false= .row im l0.length:=by rw[hl0];rfl
 refine⟨H1.set im (.row (pJ xL fs) zb),e8.trans Y0 k61 k6 oR,⟨false,q9,im,xL,⟨?_,a9,fI k61,(fun h=>by cases h),?_,?_,?_⟩⟩,fun i hi=> ?_⟩
 ·rw[eu]
  refine bO CV ?_
  rw[SD]
  exact fI k0
 ·exact eD.congr fun i hi=>same i (hold i (ZX _ hi)).1 (hold i (ZX _ hi)).2.1
 ·rw[ZC,ZC,ZY]
  refine⟨fun hm=> ?_,fun hm=> ?_,n5,n4,fun a ha b hb' e=>n6 b hb' a ha e.symm⟩
  ·rcases Zr.1 hm with e | hm
   ·exact CV e.symm
   ·refine(hold c ?_).2.1 Zt
    exact E8
  ·refine(hold im ?_).2.1 pY
   exact E8
 ·intro i hi
  rcases Zr.1 hi with rfl | hi
  ·exact hb.fa.low i Zt
  ·refine(hold i ?_).2.2
   rcases Zo.1 hi with hi | hi
   ·exact ZG _ hi
   ·exact ZX _ hi
 ·have hcl:=(pF hb.fa c Zt).2
  exact same i (by omega) fun hm=>by have:=(pF hb.fa i hm).1;omega
theorem NS{F:cW}{n:List Int}(h:(bH F .mark n).2.2=0):(bH F .mark n).1={F with marks:=F.marks++[F.b]}:=by
 revert h
 unfold bH
 dsimp only
 split
 ·intro h;cases h
 ·intro _;rfl
theorem Ci(h:fV c F z H q im qs)(hF:mJ F)(s:Bs)(v:Vb)(n:List Int)(hpa:cF s=some (v,n))(hv:lI v=false)(hs:s.length<=120)(hz:z=true->l=[])(hl:l.length=F.marks.length)(R7:cZ (gI ps) (nG l) (pJ qs F.marks)):av Tryz.prog 13 [.ptr c 0,.p (.str (sB s))] (H.set im (mL z l)) (fun x H2=>∃ H3,e8 ps H2 H3∧Ex c F s H x H3) (fun _ H2=>∃ H3:List ah,e8 ps H2 H3∧False):=by
 obtain⟨H',Ly⟩:∃ H',H'=H.set im (mL z l):=⟨_,rfl⟩
 rw[<- Ly]
 have hnd:=h.nd
 rw[ZC,ZC,ZY] at hnd
 obtain⟨n1,n2,n3,n4,n5⟩:=hnd
 have CV:im≠c:=fun e=>n1 (by rw[e];exact Zt)
 have Qe:im∉q.l:=fun hm=>n2 (ZX _ hm)
 have g0:H'[c]? =some (cH F.b F.aV (tn im F z) q.a q.b q.c q.d q.e):=by rw[Ly];exact bO CV h.fl
 have g5:jS H' q F.b:=by rw[Ly];exact h.a5.set Qe
 have gm:H'[im]? =some (mL z l):=by rw[Ly];exact fI h.mb
 have Ww:bf (oe H' (k7 c im q)) (tn im F z)=mH z l:=by
  cases z with
  | true=>rfl
  | false=>
   have e:=B8 (tL h) (j:=6) rfl gm rfl
   show bf _ (.row im F.marks.length)= .row 6 l.length
   simp only[bf,e,hl]
 -- what is left
 have beh:∀ H0,bX (fm F.b F.aV (mH z l) (mL z l)) H0->xQ c F z H q im qs l H' H0:=fun H0 hk=>⟨h,Ly,hk.out g0 g5 gm⟩
 have hM:=NL z l
 have err:∀ H0,bX (fm F.b F.aV (mH z l) (mL z l)) H0->aI F s=(F,[],(aI F s).2.2)->Jd F.b F.aV (mH z l) (mL z l) H0->∃ H3,e8 ps (bp H' (k7 c im q) H0) H3∧(∃ z q im qs,fV c (aI F s).1 z H3 q im qs)∧∀ i,i<c->H3[i]? =H[i]? :=fun H0 hk he ⟨e0,e5,e6,_⟩=>by
  rw[he]
  have hb:=beh H0 hk
  refine Le (F':=F) (z':=z) (KB:=qs) (q0:=⟨13,12,14,15,16⟩) hb rfl h.mz hb.ats (fun _ hi=>hi) n4 e0 (by decide) e5 e6 hM ?_ ?_
  ·cases z with
   | true=>rfl
   | false=>
    have:=jm hb.k e6 rfl
    rw[hb.p6] at this
    show bf _ (.row 6 l.length)= .row im F.marks.length
    simp only[bf,this,hl]
  ·cases z with
   | true=>exact .inl rfl
   | false=>exact y9 R7
 have fin:∀ Qr:V->List ah->Prop,av Tryz.prog 13 [.ptr 0 0,.p (.str (sB s))] (fm F.b F.aV (mH z l) (mL z l)) Qr (fun _ _=>False)->(∀ x H0,Qr x H0->x=sK F s∧bX (fm F.b F.aV (mH z l) (mL z l)) H0∧∃ H3,e8 ps (bp H' (k7 c im q) H0) H3∧(∃ z q im qs,fV c (aI F s).1 z H3 q im qs)∧∀ i,i<c->H3[i]? =H[i]?)->av Tryz.prog 13 [.ptr c 0,.p (.str (sB s))] H' (fun x H2=>∃ H3,e8 ps H2 H3∧Ex c F s H x H3) (fun _ H2=>∃ H3:List ah,e8 ps H2 H3∧False):=fun Qr hc hQ=>by
  refine(U3 (tL h) g0 g5 gm hM Ww hc fun x H0 hq=>(hQ x H0 hq).2.1).mono (fun x H2 hx=> ?_) (fun _ _ h=>h.elim)
  obtain⟨x0,H0,hq,rfl,rfl⟩:=hx
  obtain⟨rfl,hk,H3,h1,h2,h3⟩:=hQ x0 H0 hq
  exact⟨H3,h1,rfl,h2,h3⟩
 have Xp:¬ 120<s.length:=by omega
 cases v <;> first | cases hv | skip
 ·refine fin _ (ax.LQ (YW F s hF n hpa hs z l hz hl)) fun x H0 ⟨hx,hk,hc⟩=>⟨hx,hk,?_⟩
  rcases hc with⟨h0,hQ⟩ | ⟨_,he,hE⟩
  ·have e:(aI F s).1={F with marks:=F.marks++[F.b]}:=by
     have e1:aI F s=bH F .mark n:=by unfold aI;rw[if_neg Xp,hpa]
     rw[e1] at h0 ⊢
     exact NS h0
   rw[e]
   exact Nn (beh H0 hk) hl R7 hQ
  ·exact err H0 hk he hE
 ·refine fin _ (ax.LQ (WK F s hF n hpa hs z l hz hl)) fun x H0 ⟨hx,hk,hc⟩=>⟨hx,hk,?_⟩
  rcases hc with⟨fs,y,l0,r,hm,el,ez,e,hQ⟩ | ⟨_,he,hE⟩
  ·have eD:=h.ats
   rw[hm] at eD
   obtain⟨xL,q9,rfl,QS,ha9⟩:=eD.last
   subst ez
   have hl0:l0.length=fs.length:=by rw[el,hm] at hl;simpa using hl
   have hb:=beh H0 hk
   have NJ:=R7
   rw[el,hm] at NJ
   obtain⟨t1,t2⟩:=zf QS.len hl0 NJ
   rw[e]
   exact LJ hb hm hl0 QS ha9 t1 t2 hQ
  ·exact err H0 hk he hE
 ·refine fin _ (ax.LQ (Xz F s hF n hpa hs z l hz hl)) fun x H0 ⟨hx,hk,hc⟩=>⟨hx,hk,?_⟩
  rcases hc with⟨fs,y,l0,r,hm,el,ez,e,hQ⟩ | ⟨_,he,hE⟩
  ·have eD:=h.ats
   rw[hm] at eD
   obtain⟨xL,q9,rfl,QS,ha9⟩:=eD.last
   subst ez
   have hl0:l0.length=fs.length:=by rw[el,hm] at hl;simpa using hl
   have hb:=beh H0 hk
   have NJ:=R7
   rw[el,hm] at NJ
   obtain⟨t1,t2⟩:=zf QS.len hl0 NJ
   obtain⟨k0,k5,k6⟩:=hQ
   have t6:=jm hb.k k6 rfl
   rw[hb.p6] at t6
   have iu:=hb.ats
   rw[hm] at iu
   obtain⟨qa,qb,eqq,abg,_⟩:=iu.last
   obtain⟨rfl,_⟩:=List.append_inj' eqq rfl
   rw[e]
   rw[oK,ZY] at n4
   refine Le (F':={F with marks:=fs}) (z':=false) (KB:=xL) (q0:=uq 1) (um0:= .row 6 l0.length) (M0:=di (l0++[r])) hb rfl (fun h=>by cases h) abg (fun i hi=>by rw[oK];exact ZX _ hi) n4.1 k0 (by decide) k5 k6 (fun σ=>gT σ _) ?_ ?_
   ·show bf _ (.row 6 l0.length)= .row im fs.length
    simp only[bf,t6,hl0]
   ·unfold di
    rw[wQ]
    exact xp t1
  ·exact err H0 hk he hE
theorem step_mk(h:fV c F z H q im qs)(hF:mJ F)(s:Bs)(v:Vb)(n:List Int)(hpa:cF s=some (v,n))(hv:lI v=false)(hs:s.length<=120):av Tryz.prog 13 [.ptr c 0,.p (.str (sB s))] H (Ex c F s H) (fun _ _=>False):=by
 cases z with
 | true=>
  have hm:=h.mz rfl
  have hqs:qs=[]:=ZB (by rw[h.ats.len,hm];rfl)
  have e:H.set im (mL true [])=H:=by
   have:H[im]? =some (mL true []):=h.mb
   apply Fp
   intro i
   rw[Zv]
   split
   ·rename_i e;subst e
    rw[if_pos (Za.1 this).1,this]
   ·rfl
  have:=Ci (ps:=[]) (l:=[]) h hF s v n hpa hv hs (fun _=>rfl) (by rw[hm];rfl) (by rw[hm,hqs];rfl)
  rw[e] at this
  exact av.T4 fun w I ρ hi=>⟨H,[],hi,(fun p hp=>by cases hp),this⟩
 | false=>
  refine av.Q6 im (cs:=pJ qs F.marks) (e:=zb) h.mb fun cs' ps Vn=> ?_
  obtain⟨l,rfl,hl⟩:=yh qs F.marks cs' h.ats.len Vn
  exact Ci h hF s v n hpa hv hs (fun h=>by cases h) hl (vw _ _ Vn)
theorem og(h:fV c F z H q im qs)(hF:mJ F)(s:Bs):av Tryz.prog 13 [.ptr c 0,.p (.str (sB s))] H (Ex c F s H) (fun _ _=>False):=by
 by_cases hp:s.length<=120->∀ v n,cF s=some (v,n)->lI v=true
 ·exact QZ h hF s hp
 ·have hs:s.length<=120:=Decidable.byContradiction fun hs=>hp fun h=>absurd h hs
  cases hpa:cF s with
  | none=>exact absurd (fun _ v n h=>by rw[hpa] at h;cases h) hp
  | some vn=>
   obtain⟨v,n⟩:=vn
   cases hv:lI v with
   | true=>exact absurd (fun _ v' n' h=>by rw[hpa] at h;cases h;exact hv) hp
   | false=>exact step_mk h hF s v n hpa hv hs
end
theorem Mu{pre PC:List ah}{b:bN}:jS (pre++(eU b++PC)) (uq pre.length) b:=by
 have g:∀(k:Nat) (x:ah),(eU b)[k]? =some x->(pre++(eU b++PC))[pre.length+k]? =some x:=fun k x hx=>by
  rw[Zj (by omega),ZJ,Zd (Za.1 hx).1]
  exact hx
 exact⟨g 0 _ rfl,g 1 _ rfl,g 2 _ rfl,g 3 _ rfl,g 4 _ rfl⟩
theorem H7:∀(bs:List bN) (pre PC:List ah),qv (pre++(bs.flatMap eU++PC)) (kz pre.length bs.length) bs
 | [],_,_=> .nil
 | b::bs,pre,PC=>by
  have e:pre++((b::bs).flatMap eU++PC)=pre++(eU b++(bs.flatMap eU++PC)):=by rw[ZH,ZK]
  have h2:=H7 bs (pre++eU b) PC
  rw[Zb,ZK,show(eU b).length=5 from rfl] at h2
  rw[e]
  exact .cons Mu h2
theorem rj(pre:List ah)(F:cW)(z:Bool)(hz:z=true->F.marks=[]):fV pre.length F z (pre++cD pre.length F z) (uq (pre.length+2)) (pre.length+1) (kz (pre.length+7) F.marks.length):=by
 have e1:pre++cD pre.length F z=(pre++[cH F.b F.aV (tn (pre.length+1) F z) (pre.length+2) (pre.length+3) (pre.length+4) (pre.length+5) (pre.length+6),DG (kz (pre.length+7) F.marks.length) F z])++(eU F.b++(F.marks.flatMap eU++dR (40 - 5*F.marks.length))):=by
  unfold cD
  simp only[ZK,OK,OW]
 have e2:pre++cD pre.length F z=(pre++[cH F.b F.aV (tn (pre.length+1) F z) (pre.length+2) (pre.length+3) (pre.length+4) (pre.length+5) (pre.length+6),DG (kz (pre.length+7) F.marks.length) F z]++eU F.b)++(F.marks.flatMap eU++dR (40 - 5*F.marks.length)):=by
  rw[e1];simp only[ZK]
 have g0:(pre++cD pre.length F z)[pre.length]? =some (cH F.b F.aV (tn (pre.length+1) F z) (pre.length+2) (pre.length+3) (pre.length+4) (pre.length+5) (pre.length+6)):=by
  rw[Zj (Zf _),Rt];rfl
 have g1:(pre++cD pre.length F z)[pre.length+1]? =some (DG (kz (pre.length+7) F.marks.length) F z):=by
  rw[Zj (by omega),ZJ];rfl
 have hl:(pre.length::(pre.length+1)::((uq (pre.length+2)).l++(kz (pre.length+7) F.marks.length).flatMap P5.l))=List.range' pre.length (7+5*F.marks.length):=by
  rw[tD,<- List.range'_append_1]
  rfl
 refine⟨g0,?_,g1,hz,?_,?_,?_⟩
 ·rw[e1]
  have:=Mu (pre:=pre++[cH F.b F.aV (tn (pre.length+1) F z) (pre.length+2) (pre.length+3) (pre.length+4) (pre.length+5) (pre.length+6),DG (kz (pre.length+7) F.marks.length) F z]) (PC:=F.marks.flatMap eU++dR (40 - 5*F.marks.length)) (b:=F.b)
  rw[Zb] at this
  exact this
 ·rw[e2]
  have:=H7 F.marks (pre++[cH F.b F.aV (tn (pre.length+1) F z) (pre.length+2) (pre.length+3) (pre.length+4) (pre.length+5) (pre.length+6),DG (kz (pre.length+7) F.marks.length) F z]++eU F.b) (dR (40 - 5*F.marks.length))
  rw[Zb,Zb] at this
  exact this
 ·rw[hl];exact List.nodup_range'
 ·intro i hi
  have:i∈List.range' pre.length (7+5*F.marks.length):=by rw[<- hl];exact Zh _ hi
  exact(K5.1 this).1
theorem SN{R:Option Nat}{N κ:Nat}{Q:Post}{T T2:Tm}{o:Oper}{ops:Array Oper}{rest:List Oper}{f:Operand}{xs:Array Operand}{ts:Array TypeId}(d:Nat)(pre:List ah)(F:cW)(z:Bool)(s:Bs)(hF:mJ F)(hz:z=true->F.marks=[])(hpre:∀(i:Nat) (x:ah),pre[i]? =some x->IU (pre.length+1) x)(hκ:κ<=pre.length)
    (ho:o.op= .call {callee:= .value f,args:=xs,argTypes:=ts})(hd:o.dst=some d)(hN:bg N (some d)=true)(hg:o.guard=none)(hf:ev T f=some (.p (.func (.func 13) [] [])))(hxs:jT T xs.toList=some [.ptr pre.length 0,.p (.str (sB s))])(Vw:ak Tryz.prog 13=true)(hT:Sub T2 T)(hl:eV (below (pre.length+1)) T2=T2)
    (next:∀ z',(z'=true->(aI F s).1.marks=[])->aj Tryz.prog R N κ ops rest Q ((d,sK F s)::T2) (pre++cD pre.length (aI F s).1 z')):aj Tryz.prog R N κ ops (o::rest) Q T (pre++cD pre.length F z):=by
 refine aj.eY d (og (rj pre F z hz) hF s) ho hd hN hg hf hxs rfl Vw (fun _ _ h=>h.elim) fun x H3 hx=> ?_
 obtain⟨rfl,⟨z',q,im,qs,hfl⟩,hlow⟩:=hx
 refine aj.to (qE hfl rfl (fun i x hi=>⟨?_,hpre i x hi⟩) hκ (T2:=(d,sK F s)::T2) ?_ ?_) (next z' hfl.mz)
 ·have:=(Za.1 hi).1
  rw[hlow i this,Zd this]
  exact hi
 ·intro s' v hv
  simp only[lk] at hv ⊢
  cases hb:Nat.beq d s' with
  | true=>rw[hb] at hv;exact hv
  | false=>rw[hb] at hv;exact hT s' v hv
 ·show(d,sK F s)::eV _ T2=_
  rw[hl]
theorem To.rot{P:Program}{κ N:Nat}{T:Tm}(A B C:List ah)(hκ:κ<=A.length):∃ σ:Nat->Option Nat,(∀ i,i<A.length->σ i=some i)∧(∀ k,k<B.length->σ (A.length+k)=some (A.length+C.length+k))∧(∀ j,j<C.length->σ (A.length+B.length+j)=some (A.length+j))∧
    To P κ N T (A++(B++C)) (eV σ T) (A.map (aE σ)++(C.map (aE σ)++B.map (aE σ))):=by
 obtain⟨ks,yj⟩:∃ ks,ks=List.range A.length++(List.range' (A.length+B.length) C.length++List.range' A.length B.length):=⟨_,rfl⟩
 have hnk:ks.Nodup:=by
  rw[yj,ZY,ZY]
  refine⟨List.nodup_range,⟨List.nodup_range',List.nodup_range',fun a ha b hb=> ?_⟩,fun a ha b hb=> ?_⟩
  ·have h1:=K5.1 ha
   have h2:=K5.1 hb
   omega
  ·have h1:=xJ.1 ha
   rcases Zo.1 hb with hb | hb
   ·have h2:=K5.1 hb;omega
   ·have h2:=K5.1 hb;omega
 have g1:∀ i,i<A.length->ks[i]? =some i:=fun i hi=>by
  exact Bw
 have g2:∀ j,j<C.length->ks[A.length+j]? =some (A.length+B.length+j):=fun j hj=>by
  rw[yj,Zj (by rw[KO];omega),KO,ZJ,Zd (by rw[VR];exact hj),Wo hj,ZO]
 have g3:∀ k,k<B.length->ks[A.length+C.length+k]? =some (A.length+k):=fun k hk=>by
  rw[yj,Zj (by rw[KO];omega),KO,NU,ZJ,Zj (by rw[VR];omega),VR,ZJ,Wo hk,ZO]
 refine⟨pl ks,fun i hi=>mA hnk (g1 i hi),fun k hk=>mA hnk (g3 k hk),fun j hj=>mA hnk (g2 j hj),?_⟩
 have hkeep:jA κ (A++(B++C)).length ks=true:=by
  unfold jA
  simp only[Zn,beq_iff_eq,Zx,Zq]
  refine⟨⟨?_,fun i hi=> ?_⟩,hnk⟩
  ·exact EN
  ·have:i<(A++(B++C)).length:=by
     rw[Zb,Zb]
     rw[yj] at hi
     rcases Zo.1 hi with hi | hi
     ·have:=xJ.1 hi;omega
     ·rcases Zo.1 hi with hi | hi
      ·have:=K5.1 hi;omega
      ·have:=K5.1 hi;omega
   simpa[Nat.blt,Zw] using this
 have hk:=To.keep (P:=P) (κ:=κ) (N:=N) (T:=T) (H:=A++(B++C)) ks hkeep
 refine To.tW hk ?_
 have seg:∀(s n:Nat) (X:List ah),X.length=n->(∀ i,i<n->(A++(B++C))[s+i]? =X[i]?)->(List.range' s n).map (fun i=>aE (pl ks) ((A++(B++C)).getD i .dead))=X.map (aE (pl ks)):=fun s n X hX h=>by
  apply Fp
  intro i
  rw[Zu,Zu]
  rcases ZS i n with hi | hi
  ·rw[Wo hi,ZO]
   have hx:=Zc (show i<X.length by omega)
   show some (aE (pl ks) ((A++(B++C)).getD (s+i) .dead))=_
   rw[Ze,h i hi,hx]
   rfl
  ·rw[ZF (by rw[VR];exact hi),ZF (by omega)]
   rfl
 generalize pl ks=σ at seg ⊢
 rw[yj,ZA,ZA,List.range_eq_range',seg 0 A.length A rfl (fun i hi=>by rw[uf,Zd hi]),
  seg (A.length+B.length) C.length C rfl (fun i hi=>by rw[Zj (by omega),Zj (by omega)];congr 1;omega),
  seg A.length B.length B rfl (fun i hi=>by rw[Zj (by omega),ZJ,Zd hi])]
theorem J0(l:List bN):(l.flatMap eU).length=5*l.length:=by
 induction l with
 | nil=>rfl
 | cons b l ih=>rw[ZH,Zb,ih,Zm];show 5+_=_;omega
theorem iJ{c:Nat}{F:cW}{z:Bool}(hm:F.marks.length<=8):(cD c F z).length=47:=by
 unfold cD
 rw[Zm,Zm,Zb,Zb,J0,oJ]
 show 5+_+_+1+1=47
 omega
theorem yJ{σ:Nat->Option Nat}(b:bN):(eU b).map (aE σ)=eU b:=by
 unfold eU dn cV de bz
 simp only[Zz,zx,bE]
theorem y5{σ:Nat->Option Nat}:∀ l:List bN,(l.flatMap eU).map (aE σ)=l.flatMap eU
 | []=>rfl
 | b::l=>by rw[ZH,ZA,yJ,y5 l]
theorem yB{σ:Nat->Option Nat}:∀ r,(dR r).map (aE σ)=dR r
 | 0=>rfl
 | r+1=>by show ah.dead::(dR r).map (aE σ)=_;rw[yB r];rfl
theorem rI{c c2:Nat}{F:cW}{z:Bool}{σ:Nat->Option Nat}(hm:F.marks.length<=8)(h:∀ k,k<47->σ (c+k)=some (c2+k)):(cD c F z).map (aE σ)=cD c2 F z:=by
 unfold cD
 rw[Zz,Zz,ZA,ZA,yJ,y5,yB]
 have f1:aE σ (cH F.b F.aV (tn (c+1) F z) (c+2) (c+3) (c+4) (c+5) (c+6))=cH F.b F.aV (tn (c2+1) F z) (c2+2) (c2+3) (c2+4) (c2+5) (c2+6):=
  HG (q:=uq (c+2)) (i:=c2+2) (by
   cases z with
   | true=>rfl
   | false=>
    have:=h 1 (by decide)
    show bf σ (.row (c+1) _)=_
    simp only[bf,this]
    rfl) fun k x hx=>by
   have hk:k<5:=(Za.1 hx).1
   have e:x=c+2+k:=by
    match k,hk with
    | 0,_=>cases hx;rfl
    | 1,_=>cases hx;rfl
    | 2,_=>cases hx;rfl
    | 3,_=>cases hx;rfl
    | 4,_=>cases hx;rfl
   rw[e,NU,h (2+k) (by omega),NU]
 have f2:aE σ (DG (kz (c+7) F.marks.length) F z)=DG (kz (c2+7) F.marks.length) F z:=by
  cases z with
  | true=>rfl
  | false=>
   show ah.row (bA _ _) _=_
   rw[zR (kz (c+7) F.marks.length) F.marks (c2+7) (Dr _ _) fun k x hx=> ?_]
   ·rfl
   ·rw[tD] at hx
    have hk:k<5*F.marks.length:=by
     have:=(Za.1 hx).1
     rwa [VR] at this
    rw[Wo hk] at hx
    cases hx
    rw[ZO,NU,h (7+k) (by omega),NU]
 rw[f1,f2]
end Go.Proofs.YtibffijhebobmaaGreatDoor
end
