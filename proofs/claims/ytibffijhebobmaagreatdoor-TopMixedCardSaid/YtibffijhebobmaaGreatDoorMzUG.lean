/-
 Chapter 15, the program: a floor with its marks among own blocks, at any places, and in its own order.
 Chapter 15, the program: a floor is brought into its own order.
 Chapter 15, the program: what a line does to a floor, without what its marks hold.
 Chapter 15, the program: a line that leaves the marks alone.
 Chapter 15, the program: a line that leaves the marks alone, whole.
 Chapter 15, the program: a line that leaves the marks alone, done by a floor with its marks.
 Chapter 15, the program: seven own blocks of a floor (its struct, its rows, its marks) among others; marks as exact slices.
 Chapter 15, the program: lines that set a mark, go back to one, or keep what was entered.
 Chapter 15, the program: what mark, back and keep do, as lines.
 Chapter 15, the program: what back and keep do, as lines.
 Chapter 15, the program: a floor with its marks, wherever it lies, does a line that turns its marks.
 Chapter 15, the program: a floor with its marks does any line.
 Chapter 15, the program: a floor does a line, whole.
 Chapter 15, the program: a call of Line on a floor in its own order.
 Chapter 15, the program: a floor changes its place among own blocks.
-/
import Derived.Test.YtibffijhebobmaaGreatDoorMzUE
import Derived.Test.YtibffijhebobmaaGreatDoorFaUF
theorem DS{A:Prop}(h:A:=by
 obtain⟨rfl,⟨_,_,_,_,h,_⟩ | ⟨h1,h2,h3⟩⟩:=hq
 ·exact h.elim
 ·exact mO):A:=h
theorem pQ{A:Prop}(h:A:=by
 exact⟨ZP rfl,fun j x y hj hx hd hy=>by
  match j,hj with
  | 0,_=>cases hx;cases hd
  | 1,_=>cases hx;cases hy;exact hd
  | 2,_=>cases hx;cases hy;exact hd
  | 3,_=>cases hx;cases hy;exact hd
  | 4,_=>cases hx;cases hy;exact hd
  | 5,_=>cases hx;cases hy;exact hd
  | 6,_=>cases hx;cases hd⟩):A:=h
theorem qW{A:Prop}(h:A:=by
 have hi:i<n:=by
  rcases ZD i n with h | h
  ·exact h
  ·have:below n i=none:=by unfold below;rw[if_neg (by simp[Nat.blt];omega)]
   simp only[aW,this] at e
   cases e
 simp only[aW,h i hi]):A:=h
theorem AY{A:Prop}(h:A:=by
 exact⟨ZP rfl,fun j x y hj hx hd hy=>by
  match j,hj with
  | 0,_=>cases hx;cases hd
  | 1,_=>cases hx;cases hy;exact hd
  | 2,_=>cases hx;cases hy;exact hd
  | 3,_=>cases hx;cases hy;exact hd
  | 4,_=>cases hx;cases hy;exact hd
  | 5,_=>cases hx;cases hy;exact hd
  | 6,_=>cases hy;rfl⟩):A:=h
theorem Dg{A:Prop}(h:A:=by
 exact⟨rfl,mQ hk,.inl ⟨h0,fin (x:= .top) rfl hk (by rw[g3];rfl) (by rw[g3];exact⟨rfl,rfl,rfl,rfl,rfl⟩) (by rw[g3];exact⟨rfl,rfl,rfl,rfl,rfl⟩) (by rw[g3];rfl)⟩⟩):A:=h
theorem mO{A:Prop}(h:A:=by
 exact⟨rfl,h3.2.2.2,.inr ⟨h1,h2,h3⟩⟩):A:=h
theorem Ce{A:Prop}(h:A:=by
 exact⟨c4 (by decide) (by decide) g1,c4 (by decide) (by decide) g2,c4 (by decide) (by decide) g3,c4 (by decide) (by decide) g4,c4 (by decide) (by decide) g5⟩):A:=h
theorem Eb{A:Prop}(h:A:=by
 rcases Zp.1 hm with hm | hm
 ·exact(hnew i Zq).2 hm
 ·exact n2 (ZF _ hm)):A:=h
theorem Dq{A:Prop}(h:A:=by
 rcases Zp.1 hm with hm | hm
 ·exact ZF _ hm
 ·exact ZV _ hm):A:=h
theorem Eh{A:Prop}(h:A:=by
 rw[yW,VZ (by rw[Ko];exact hκ),List.take_range,Kv hκ]):A:=h
theorem D7{A:Prop}(h:A:=by
 rcases Af F.marks with h | ⟨fs,x,h⟩
 ·rw[h] at hl;simp at hl
 ·exact⟨fs,x,h⟩):A:=h
theorem CH{A:Prop}(h:A:=by
 rw[yW,Zc (by rw[Ko];exact hi),XM hi]):A:=h
set_option linter.unusedSimpArgs false
set_option linter.unusedVariables false
section
set_option maxRecDepth 100000
namespace Go.Proofs.YtibffijhebobmaaGreatDoor
open Go.AF
mutual
theorem nr{n:Nat}{σ:Nat->Option Nat}(h:∀ i,i<n->σ i=some i):∀ v:V,aW (below n) v=v->aW σ v=v
 | .p _,_=>rfl
 | .ptr i off,e=>by
  exact qW
 | .row i len,e=>by
  exact qW
 | .sl i off len,e=>by
  exact qW
 | .map i,e=>by
  exact qW
 | .func fn fi ca,e=>by
  simp only[aW,V.func.injEq,true_and] at e ⊢
  exact⟨iz h fi e.1,iz h ca e.2⟩
 | .iface t v,e=>by
  simp only[aW,V.iface.injEq,true_and] at e ⊢
  exact nr h v e
 | .agg cs,e=>by
  simp only[aW,V.agg.injEq] at e ⊢
  exact iz h cs e
 | .tuple cs,e=>by
  simp only[aW,V.tuple.injEq] at e ⊢
  exact iz h cs e
 | .opt g v,e=>by
  simp only[aW,V.opt.injEq,true_and] at e ⊢
  exact nr h v e
 | .raw _ _ _,_=>rfl
 | .z0,_=>rfl
 | .top,_=>rfl
theorem iz{n:Nat}{σ:Nat->Option Nat}(h:∀ i,i<n->σ i=some i):∀ vs:List V,bq (below n) vs=vs->bq σ vs=vs
 | [],_=>rfl
 | v::vs,e=>by
  simp only[bq,List.cons.injEq] at e ⊢
  exact⟨nr h v e.1,iz h vs e.2⟩
end
theorem AZ{n:Nat}{σ:Nat->Option Nat}(h:∀ i,i<n->σ i=some i):∀ T:Tm,eV (below n) T=T->eV σ T=T
 | [],_=>rfl
 | (s,v)::T,e=>by
  simp only[eV,List.cons.injEq,Prod.mk.injEq,true_and] at e ⊢
  exact⟨nr h v e.1,AZ h T e.2⟩
def II(n:Nat):ai->Prop
 | .cells cs _=>bq (below n) cs=cs
 | .row cs _=>bq (below n) cs=cs
 | .gJ cs _=>bq (below n) cs=cs
 | .loop r _ _=>eV (below n) r.T=r.T
 | .dead=>True
 | _=>False
theorem KK{n:Nat}{σ:Nat->Option Nat}(h:∀ i,i<n->σ i=some i){x:ai}(e:II n x):aD σ x=x:=by
 cases x with
 | cells cs t=>show ai.cells (bq σ cs) t=_;rw[iz h cs e]
 | row cs t=>show ai.row (bq σ cs) t=_;rw[iz h cs e]
 | gJ cs t=>show ai.gJ (bq σ cs) t=_;rw[iz h cs e]
 | loop r st pe=>show ai.loop {r with T:=eV σ r.T} st pe=_;rw[AZ h r.T e]
 | dead=>rfl
 | _=>exact e.elim
theorem l8{ks:List Nat}(hn:ks.Nodup){j i:Nat}(h:ks[j]? =some i):pl ks i=some j:=by
 have hj:=(Za.1 h).1
 have e:=(Za.1 h).2
 unfold pl List.idxOf?
 rw[Y3]
 refine⟨hj,by simp[e],fun k hk=> ?_⟩
 intro hc
 have hc:ks[k]=i:=by simpa using hc
 have:k=j:=(XW (by omega) hn).1 (by rw[Zb (by omega),hc,h])
 omega
structure P5 where
 a:Nat
 b:Nat
 c:Nat
 d:Nat
 e:Nat
def P5.l(q:P5):List Nat:=[q.a,q.b,q.c,q.d,q.e]
def xh(q:P5)(b:bK):List V:=dn q.a q.b q.c q.d q.e b
def eF(b:bK):List ai:=[dh b.aq,cY b.ah,dj b.av,bw b.plan,bw b.bX]
def tN(i:Nat):P5:=⟨i,i+1,i+2,i+3,i+4⟩
def rq:List P5->List bK->List V
 | q::qs,b::bs=>xh q b++rq qs bs
 | _,_=>[]
def j5(i:Nat):Nat->List P5
 | 0=>[]
 | n+1=>tN i::j5 (i+5) n
def tK(im:Nat)(F:cT)(z:Bool):V:=bif z then .z0 else .row im F.marks.length
def B9(qs:List P5)(F:cT)(z:Bool):ai:=bif z then .dead else .row (rq qs F.marks) yz
def cZ(c:Nat)(F:cT)(z:Bool):List ai:=cz F.b F.aV (tK (c+1) F z) (c+2) (c+3) (c+4) (c+5) (c+6)::B9 (j5 (c+7) F.marks.length) F z::(eF F.b++F.marks.flatMap eF++dF (40 - 5*F.marks.length))
def jT(H:List ai)(q:P5)(b:bK):Prop:=H[q.a]? =some (dh b.aq)∧H[q.b]? =some (cY b.ah)∧H[q.c]? =some (dj b.av)∧H[q.d]? =some (bw b.plan)∧H[q.e]? =some (bw b.bX)
inductive rj (H:List ai):List P5->List bK->Prop
 | nil:rj H [] []
 | cons {q:P5} {b:bK} {qs:List P5} {bs:List bK} (h:jT H q b) (t:rj H qs bs):rj H (q::qs) (b::bs)
structure gX (c:Nat) (F:cT) (z:Bool) (H:List ai) (q:P5) (im:Nat) (qs:List P5):Prop where
 fl:H[c]? =some (cz F.b F.aV (tK im F z) q.a q.b q.c q.d q.e)
 a5:jT H q F.b
 mb:H[im]? =some (B9 qs F z)
 mz:z=true->F.marks=[]
 ats:rj H qs F.marks
 nd:(c::im::(q.l++qs.flatMap P5.l)).Nodup
 low:∀ i∈(im::(q.l++qs.flatMap P5.l)),c<=i
theorem rj.len{H:List ai}{qs:List P5}{bs:List bK}(h:rj H qs bs):qs.length=bs.length:=by
 induction h with
 | nil=>rfl
 | cons _ _ ih=>rw[Zn,Zn,ih]
theorem rL:∀(r i:Nat),i<r->(dF r)[i]? =some .dead
 | 0,i,h=>by omega
 | r+1,0,_=>rfl
 | r+1,i+1,h=>rL r i (by omega)
theorem nM:∀ r,(dF r).length=r
 | 0=>rfl
 | r+1=>by show(dF r).length+1=_;rw[nM r]
theorem ql{σ:Nat->Option Nat}{H:List ai}{q:P5}{b:bK}(h:jT H q b):q.l.map (fun i=>aD σ (H.getD i .dead))=eF b:=by
 obtain⟨h1,h2,h3,h4,h5⟩:=h
 have g:∀{i:Nat} {x:ai},H[i]? =some x->H.getD i .dead=x:=fun hx=>by rw[Zf,hx];rfl
 show[aD σ (H.getD q.a .dead),aD σ (H.getD q.b .dead),aD σ (H.getD q.c .dead),aD σ (H.getD q.d .dead),aD σ (H.getD q.e .dead)]=_
 rw[g h1,g h2,g h3,g h4,g h5]
 simp only[dh,cY,dj,bw,bz]
 rfl
theorem IP{σ:Nat->Option Nat}{H:List ai}{qs:List P5}{bs:List bK}(h:rj H qs bs):(qs.flatMap P5.l).map (fun i=>aD σ (H.getD i .dead))=bs.flatMap eF:=by
 induction h with
 | nil=>rfl
 | cons h _ ih=>rw[ZL,ZG,ql h,ih,ZL]
theorem Hi{σ:Nat->Option Nat}{q:P5}{b:bK}{i:Nat}(h:∀(k x:Nat),q.l[k]? =some x->σ x=some (i+k)):bq σ (xh q b)=xh (tN i) b:=by
 unfold xh dn
 simp only[bF,b8,dS,cC (h 0 q.a rfl),cC (h 1 q.b rfl),cC (h 2 q.c rfl),cC (h 3 q.d rfl),cC (h 4 q.e rfl)]
 rfl
theorem zp{σ:Nat->Option Nat}:∀(qs:List P5) (bs:List bK) (i:Nat),qs.length=bs.length->(∀(k x:Nat),(qs.flatMap P5.l)[k]? =some x->σ x=some (i+k))->bq σ (rq qs bs)=rq (j5 i bs.length) bs
 | [],[],_,_,_=>rfl
 | q::qs,b::bs,i,hl,h=>by
  show bq σ (xh q b++rq qs bs)=xh (tN i) b++rq (j5 (i+5) bs.length) bs
  rw[bA,Hi (i:=i) fun k x hk=>h k x (by
   rw[ZL,Zc (Za.1 hk).1];exact hk),zp qs bs (i+5) (by simpa using hl) fun k x hk=>by
   have:=h (5+k) x (by rw[ZL,Zi (by show 5<=5+k;omega),show 5+k - q.l.length=k by show 5+k - 5=k;omega];exact hk)
   rw[this,Nt]]
 | [],_::_,_,hl,_=>by cases hl
 | _::_,[],_,hl,_=>by cases hl
theorem Hf{σ:Nat->Option Nat}{b:bK}{p:Di.bO}{um oe:V}{q:P5}{i:Nat}(hu:aW σ um=oe)(h:∀(k x:Nat),q.l[k]? =some x->σ x=some (i+k)):aD σ (cz b p um q.a q.b q.c q.d q.e)=cz b p oe i (i+1) (i+2) (i+3) (i+4):=by
 unfold cz
 rw[bL,bA,bA,aX]
 have e:=Hi (σ:=σ) (b:=b) (i:=i) h
 unfold xh at e
 rw[e]
 simp only[bF,b8,dS,hu]
 rfl
theorem jT.lt{H:List ai}{q:P5}{b:bK}(h:jT H q b):∀ i∈q.l,i<H.length:=by
 obtain⟨h1,h2,h3,h4,h5⟩:=h
 intro i hi
 simp only[P5.l,Zr,HL,or_false] at hi
 rcases hi with rfl | rfl | rfl | rfl | rfl
 ·exact(Za.1 h1).1
 ·exact(Za.1 h2).1
 ·exact(Za.1 h3).1
 ·exact(Za.1 h4).1
 ·exact(Za.1 h5).1
theorem rj.lt{H:List ai}{qs:List P5}{bs:List bK}(h:rj H qs bs):∀ i∈qs.flatMap P5.l,i<H.length:=by
 induction h with
 | nil=>intro i hi;cases hi
 | cons h _ ih=>
  intro i hi
  rw[ZL] at hi
  rcases Zp.1 hi with hi | hi
  ·exact h.lt i hi
  ·exact ih i hi
theorem C6{P:Program}{κ N c:Nat}{T T2:Tm}{F:cT}{z:Bool}{H pre:List ai}{q:P5}{im:Nat}{qs:List P5}(h:gX c F z H q im qs)(hc:pre.length=c)(hpre:∀(i:Nat) (x:ai),pre[i]? =some x->H[i]? =some x∧II (c+1) x)(hκ:κ<=c)(hT:Sub T2 T)(hl:eV (below (c+1)) T2=T2):To P κ N T H T2 (pre++cZ c F z):=by
 obtain⟨r,er⟩:∃ r,r=40 - 5*F.marks.length:=⟨_,rfl⟩
 obtain⟨A,eA⟩:∃ A,A=c::im::(q.l++qs.flatMap P5.l):=⟨_,rfl⟩
 obtain⟨ks,yW⟩:∃ ks,ks=List.range c++(A++List.range' H.length r):=⟨_,rfl⟩
 have hcl:c<H.length:=(Za.1 h.fl).1
 have Q0:∀ i∈A,c<=i∧i<H.length:=by
  rw[eA]
  intro i hi
  rcases Zr.1 hi with rfl | hi
  ·exact⟨Ze _,hcl⟩
  ·refine⟨h.low i hi,?_⟩
   rcases Zr.1 hi with rfl | hi
   ·exact(Za.1 h.mb).1
   ·rcases Zp.1 hi with hi | hi
    ·exact h.a5.lt i hi
    ·exact h.ats.lt i hi
 have hnA:A.Nodup:=by rw[eA];exact h.nd
 have hnk:ks.Nodup:=by
  rw[yW,ZW,ZW]
  refine⟨List.nodup_range,⟨hnA,List.nodup_range',fun a ha b hb=> ?_⟩,fun a ha b hb=> ?_⟩
  ·have h1:=(Q0 a ha).2
   have h2:=(Oo.1 hb).1
   omega
  ·have h1:=xe.1 ha
   rcases Zp.1 hb with hb | hb
   ·have:=(Q0 b hb).1;omega
   ·have h2:=(Oo.1 hb).1
    omega
 have gi:∀ i,i<c->ks[i]? =some i:=fun i hi=>by
  exact CH
 have gA:∀(k x:Nat),A[k]? =some x->ks[c+k]? =some x:=fun k x hx=>by
  rw[yW,Zi (by rw[Ko];omega),Ko,ZK,Zc (Za.1 hx).1]
  exact hx
 have pi:∀ i,i<c->pl ks i=some i:=fun i hi=>l8 hnk (gi i hi)
 have pA:∀(k x:Nat),A[k]? =some x->pl ks x=some (c+k):=fun k x hx=>l8 hnk (gA k x hx)
 have pc:pl ks c=some c:=by have:=pA 0 c (by rw[eA];rfl);rwa [Kk] at this
 have pm:pl ks im=some (c+1):=pA 1 im (by rw[eA];rfl)
 have pq:∀(k x:Nat),q.l[k]? =some x->pl ks x=some (c+2+k):=fun k x hx=>by
  have:=pA (2+k) x (by rw[eA,Nat.add_comm 2 k];show(q.l++qs.flatMap P5.l)[k]? =some x;rw[Zc (Za.1 hx).1];exact hx)
  rw[this,Nt]
 have pqs:∀(k x:Nat),(qs.flatMap P5.l)[k]? =some x->pl ks x=some (c+7+k):=fun k x hx=>by
  have:=pA (7+k) x (by rw[eA,show 7+k=5+k+2 by omega];show(q.l++qs.flatMap P5.l)[5+k]? =some x;rw[Zi (by show 5<=5+k;omega),show 5+k - q.l.length=k by show 5+k - 5=k;omega];exact hx)
  rw[this,Nt]
 have Wa:∀ i,i<c+1->pl ks i=some i:=fun i hi=>by
  rcases ZD i c with h | h
  ·exact pi i h
  ·obtain rfl:i=c:=by omega
   exact pc
 have hd:∀ i,i<H.length->(H++dF r).getD i .dead=H.getD i .dead:=fun i hi=>by
  rw[Zf,Zf,Zc hi]
 have hkeep:jf κ (H++dF r).length ks=true:=by
  unfold jf
  simp only[Zk,beq_iff_eq,Zz,Zj]
  refine⟨⟨?_,fun i hi=> ?_⟩,hnk⟩
  ·exact Eh
  ·have:i<(H++dF r).length:=by
     rw[Zd,nM]
     rw[yW] at hi
     rcases Zp.1 hi with hi | hi
     ·have:=xe.1 hi;omega
     ·rcases Zp.1 hi with hi | hi
      ·have:=(Q0 i hi).2;omega
      ·have:=(Oo.1 hi).2;omega
   simpa[Nat.blt,Zw] using this
 have hmap:(ks.map fun i=>aD (pl ks) ((H++dF r).getD i .dead))=pre++cZ c F z:=by
  have e1:(List.range c).map (fun i=>aD (pl ks) ((H++dF r).getD i .dead))=pre:=by
   apply Gg
   intro i
   rw[Zt]
   rcases ZD i c with hi | hi
   ·rw[XM hi]
    have hx:=Zb (show i<pre.length by omega)
    obtain⟨h1,h2⟩:=hpre i _ hx
    rw[hx]
    show some (aD (pl ks) ((H++dF r).getD i .dead))=_
    rw[hd i (Za.1 h1).1,Zf,h1]
    exact congrArg some (KK Wa h2)
   ·rw[ZE (by rw[Ko];exact hi),ZE (by omega)]
    rfl
  have e2:A.map (fun i=>aD (pl ks) ((H++dF r).getD i .dead))=A.map (fun i=>aD (pl ks) (H.getD i .dead)):=U4 fun i hi=>by rw[hd i (Q0 i hi).2]
  have e3:A.map (fun i=>aD (pl ks) (H.getD i .dead))=cz F.b F.aV (tK (c+1) F z) (c+2) (c+3) (c+4) (c+5) (c+6)::B9 (j5 (c+7) F.marks.length) F z::(eF F.b++F.marks.flatMap eF):=by
   rw[eA,Zx,Zx,ZG,ql h.a5,IP h.ats]
   have f1:H.getD c .dead=cz F.b F.aV (tK im F z) q.a q.b q.c q.d q.e:=by rw[Zf,h.fl];rfl
   have f2:H.getD im .dead=B9 qs F z:=by rw[Zf,h.mb];rfl
   rw[f1,f2,Hf (oe:=tK (c+1) F z) (i:=c+2) (by
    cases z with
    | true=>rfl
    | false=>show aW _ (.row im _)=_;simp only[aW,pm];rfl) pq]
   have f3:aD (pl ks) (B9 qs F z)=B9 (j5 (c+7) F.marks.length) F z:=by
    cases z with
    | true=>rfl
    | false=>show ai.row (bq _ _) _=_;rw[zp qs F.marks (c+7) h.ats.len pqs];rfl
   rw[f3]
  have e4:(List.range' H.length r).map (fun i=>aD (pl ks) ((H++dF r).getD i .dead))=dF r:=by
   apply Gg
   intro i
   rw[Zt]
   rcases ZD i r with hi | hi
   ·rw[U2 hi,rL r i hi]
    show some (aD (pl ks) ((H++dF r).getD (H.length+1*i) .dead))=_
    rw[Zf,ZM,Zi (by omega),ZK,rL r i hi]
    rfl
   ·rw[ZE (by rw[TI];exact hi),ZE (by rw[nM];exact hi)]
    rfl
  rw[yW] at e1 e2 e3 e4 ⊢
  rw[ZG,ZG,e1,e2,e3,e4,er]
  unfold cZ
  simp only[NF,ZH]
 have hk:=To.keep (P:=P) (κ:=κ) (N:=N) (T:=T) (H:=H++dF r) ks hkeep
 rw[hmap] at hk
 refine(To.Qk r).trans (hk.trans (To.sub fun s v hv=> ?_))
 rw[pM,hT s v hv]
 have h2:lk (eV (below (c+1)) T2) s=some v:=by rw[hl];exact hv
 rw[pM,hv] at h2
 exact congrArg some (nr Wa v (ZB h2))
theorem DP:∀(n i:Nat),(j5 i n).length=n
 | 0,_=>rfl
 | n+1,i=>by show(j5 (i+5) n).length+1=_;rw[DP n]
theorem sA:∀(n i:Nat),(j5 i n).flatMap P5.l=List.range' i (5*n)
 | 0,_=>rfl
 | n+1,i=>by
  show(tN i).l++(j5 (i+5) n).flatMap P5.l=_
  rw[sA n,show 5*(n+1)=5+5*n by omega,<- List.range'_append_1]
  rfl
def Km(b:bK)(p:Di.bO)(um:V)(k:Nat)(H:List ai):Prop:=∃ q:P5,(k::q.l).Nodup∧H[k]? =some (cz b p um q.a q.b q.c q.d q.e)∧jT H q b
def P5.map(f:Nat->Nat)(q:P5):P5:=⟨f q.a,f q.b,f q.c,f q.d,f q.e⟩
theorem P5.wz(f:Nat->Nat)(q:P5):(q.map f).l=q.l.map f:=rfl
theorem iD{H H0:List ai}{ks:List Nat}{q:P5}{b:bK}(hn:ks.Nodup)(hl:ks.length<=H0.length)(hlt:∀ i∈ks,i<H.length)(h:jT H0 q b):jT (bh H ks H0) (q.map (mA H ks)) b:=by
 obtain⟨h1,h2,h3,h4,h5⟩:=h
 have g:∀{i n:Nat} {cs:List PV} {e:TypeId},H0[i]? =some (dL (cs.map .p) e n)->(bh H ks H0)[mA H ks i]? =some (dL (cs.map .p) e n):=fun hx=>by
  rw[qK hn hl hlt hx,bz]
 exact⟨g h1,g h2,g h3,g h4,g h5⟩
theorem uB{H H0:List ai}{ks:List Nat}{q:P5}{b:bK}(hK:fB H ks H0)(h:jT H0 q b):bq (dK H ks) (xh q b)=xh (q.map (mA H ks)) b:=by
 obtain⟨h1,h2,h3,h4,h5⟩:=h
 unfold xh dn
 simp only[bF,b8,dS]
 rw[nB hK h1,nB hK h2,nB hK h3,nB hK h4,nB hK h5]
 rfl
theorem kT{H H0:List ai}{ks:List Nat}{q:P5}{b:bK}{p:Di.bO}{um oe:V}(hK:fB H ks H0)(h:jT H0 q b)(hu:aW (dK H ks) um=oe):aD (dK H ks) (cz b p um q.a q.b q.c q.d q.e)=cz b p oe (mA H ks q.a) (mA H ks q.b) (mA H ks q.c) (mA H ks q.d) (mA H ks q.e):=by
 unfold cz
 rw[bL,bA,bA,aX]
 have e:=uB hK h
 unfold xh at e
 rw[e]
 simp only[bF,b8,dS,hu]
 rfl
theorem ue{H:List ai}{ks:List Nat}{j i:Nat}(h:ks[j]? =some i):mA H ks j=i:=by
 unfold mA
 rw[h]
theorem Km.back{H H0:List ai}{ks:List Nat}{k k2:Nat}{b:bK}{p:Di.bO}{um oe:V}(h:Km b p um k H0)(hn:ks.Nodup)(hK:fB H ks H0)(hlt:∀ i∈ks,i<H.length)(hk:ks[k]? =some k2)(hu:aW (dK H ks) um=oe):Km b p oe k2 (bh H ks H0):=by
 obtain⟨q,h1,h2,h3⟩:=h
 refine⟨q.map (mA H ks),?_,?_,iD hn hK.1 hlt h3⟩
 ·have:=sJ (H:=H) hn hlt h1
  rw[Zx,ue hk] at this
  exact this
 ·have:=qK hn hK.1 hlt h2
  rw[ue hk,kT hK h3 hu] at this
  exact this
theorem Km.set{H:List ai}{k i:Nat}{b:bK}{p:Di.bO}{um:V}{x y:ai}(h:Km b p um k H)(hi:H[i]? =some x)(hne:i≠k)(hx:∀ q:P5,jT H q b->i∉q.l):Km b p um k (H.set i y):=by
 obtain⟨q,h1,h2,h3⟩:=h
 have hq:=hx q h3
 simp only[P5.l,Zr,HL,or_false,not_or] at hq
 obtain⟨k1,k2,k3,k4,k5⟩:=h3
 exact⟨q,h1,bI hne h2,bI hq.1 k1,bI hq.2.1 k2,bI hq.2.2.1 k3,bI hq.2.2.2.1 k4,bI hq.2.2.2.2 k5⟩
theorem LB{H:List ai}{ks:List Nat}{q:P5}{b:bK}{p:Di.bO}{um oe:V}(hn:ks.Nodup)(h1:ks[1]? =some q.a)(h2:ks[2]? =some q.b)(h3:ks[3]? =some q.c)(h4:ks[4]? =some q.d)(h5:ks[5]? =some q.e)(h:jT H q b)(hu:aW (nU H ks) um=oe):aD (nU H ks) (cz b p um q.a q.b q.c q.d q.e)=cz b p oe 1 2 3 4 5:=by
 obtain⟨g1,g2,g3,g4,g5⟩:=h
 have gd:∀{i:Nat} {x:ai},H[i]? =some x->H.getD i .dead=x:=fun hx=>by rw[Zf,hx];rfl
 unfold cz dn
 rw[bL,bA,bA,aX]
 simp only[bF,b8,dS,hu]
 rw[fX (l8 hn h1) (gd g1),fX (l8 hn h2) (gd g2),fX (l8 hn h3) (gd g3),fX (l8 hn h4) (gd g4),fX (l8 hn h5) (gd g5)]
theorem LL{H:List ai}{k:Nat}{q:P5}{b:bK}{p:Di.bO}{um oe:V}(hn:(k::q.l).Nodup)(h0:H[k]? =some (cz b p um q.a q.b q.c q.d q.e))(h:jT H q b)(hu:aW (nU H (k::q.l)) um=oe):((k::q.l).map fun i=>aD (nU H (k::q.l)) (H.getD i .dead))=nA b p oe:=by
 have gd:∀{i:Nat} {x:ai},H[i]? =some x->H.getD i .dead=x:=fun hx=>by rw[Zf,hx];rfl
 rw[Zx,ql h,gd h0,LB hn rfl rfl rfl rfl rfl h hu]
 rfl
def wW(b:bK)(p:Di.bO)(um:V)(H:List ai):Prop:=6<=H.length∧∀(j:Nat) (x y:ai),0<j->j<6->(nA b p um)[j]? =some x->x.live=false->H[j]? =some y->y.live=false
theorem CL.dead{b:bK}{p:Di.bO}{um:V}{H:List ai}(h:CL b p um H):wW b p um H:=⟨h.1,fun j x y h0 h6 hx hl hy=>by
 rcases h.2 j y h0 h6 hy with rfl | h2
 ·rfl
 ·rw[hx] at h2;cases h2;exact hl⟩
theorem wW.k{b:bK}{p:Di.bO}{oe:V}{H H0:List ai}{k:Nat}{q:P5}{x0:ai}(h:wW b p oe H0)(h0:H[k]? =some x0)(hl0:x0.live=true)(ha:jT H q b):fB H (k::q.l) H0:=by
 refine⟨h.1,fun j i y hk hl hy=> ?_⟩
 have gd:∀{i:Nat} {x:ai},H[i]? =some x->H.getD i .dead=x:=fun hx=>by rw[Zf,hx];rfl
 obtain⟨g1,g2,g3,g4,g5⟩:=ha
 have hj:j<6:=(Za.1 hk).1
 match j,hj with
 | 0,_=>cases hk;rw[gd h0,hl0] at hl;cases hl
 | 1,_=>cases hk;rw[gd g1] at hl;exact h.2 1 _ y (by decide) (by decide) rfl hl hy
 | 2,_=>cases hk;rw[gd g2] at hl;exact h.2 2 _ y (by decide) (by decide) rfl hl hy
 | 3,_=>cases hk;rw[gd g3] at hl;exact h.2 3 _ y (by decide) (by decide) rfl hl hy
 | 4,_=>cases hk;rw[gd g4] at hl;exact h.2 4 _ y (by decide) (by decide) rfl hl hy
 | 5,_=>cases hk;rw[gd g5] at hl;exact h.2 5 _ y (by decide) (by decide) rfl hl hy
theorem YT.q{b:bK}{p:Di.bO}{um:V}{H:List ai}(h:YT b p um H):Km b p um 0 H:=by
 obtain⟨i1,i2,i3,i4,i5,h0,h1,h2,h3,h4,h5,h6⟩:=h
 exact⟨⟨i1,i2,i3,i4,i5⟩,h0,h1,h2,h3,h4,h5,h6⟩
def aal(F:cT)(x:cT×Bs×Int):Prop:=x.2.2≠0->x=(F,[],x.2.2)
theorem Y8(F:cT)(v:Vb)(n:List Int):aal F (bG F v n):=by
 cases v <;> unfold bG <;> dsimp only <;> (repeat' split) <;> (intro h;first | rfl | exact absurd rfl h)
theorem Hr{F:cT}{v:Vb}{n:List Int}(h:(bG F v n).2.2≠0):bG F v n=(F,[],(bG F v n).2.2):=Y8 F v n h
theorem qt{cs:List V}{e n:Nat}{xs:List V}{t:TypeId}:(dL cs e n:ai)≠ .cells xs t:=by
 cases n <;> (intro h;cases h)
theorem Gm{H:List ai}{q:P5}{b:bK}{i:Nat}{xs:List V}{t:TypeId}(hi:H[i]? =some (.cells xs t))(h:jT H q b):i∉q.l:=by
 obtain⟨h1,h2,h3,h4,h5⟩:=h
 intro hm
 simp only[P5.l,Zr,HL,or_false] at hm
 rcases hm with rfl | rfl | rfl | rfl | rfl
 ·rw[hi] at h1;exact qt (ZB h1).symm
 ·rw[hi] at h2;exact qt (ZB h2).symm
 ·rw[hi] at h3;exact qt (ZB h3).symm
 ·rw[hi] at h4;exact qt (ZB h4).symm
 ·rw[hi] at h5;exact qt (ZB h5).symm
def VQ7(F:cT)(v:Vb)(n:List Int)(um:V):V->List ai->Prop:=fun r H2=>(bG F v n).2.2=0∧r= .p (.str (sB (bG F v n).2.1))∧Km (bG F v n).1.b F.aV um 0 H2∧bQ (e9 F.b F.aV um .dead) H2
def VP7(F:cT)(v:Vb)(n:List Int)(um:V):PV->List ai->Prop:=fun y H2=>(bG F v n).2.2≠0∧y= .iface 94 (.agg [.int .i64 (bG F v n).2.2])∧(∃ cs:List V,cs.length=7∧H2[0]? =some (.cells (cs++F.aV.cells.map .p++[um,.p (.bool true)]) 87))∧bQ (e9 F.b F.aV um .dead) H2
theorem H6{b:bK}{p:Di.bO}{um:V}{H0:List ai}(h:wW b p um H0):bQ (e9 b p um .dead) (bh (e9 b p um .dead) [0,1,2,3,4,5] H0):=by
 have hl:(6:Nat)<=H0.length:=h.1
 refine⟨by rw[rT (ks:=[0,1,2,3,4,5]) hl];show 7<=7+_;omega,fun j x y hj hx hd hy=> ?_⟩
 have hin:∀ j,0<j->j<6->([0,1,2,3,4,5]:List Nat)[j]? =some j->(nA b p um)[j]? =some x->(bh (e9 b p um .dead) [0,1,2,3,4,5] H0)[j]? =some y->y.live=false:=fun j h0 h6 hk hx hy=>by
  have hj0:j<H0.length:=by omega
  have e:=eZ (H:=e9 b p um .dead) (ks:=[0,1,2,3,4,5]) (by decide) hl hk (show j<7 by omega) (Zb hj0)
  rw[hy] at e
  rw[ZB e,bY]
  exact h.2 j x _ h0 h6 hx hd (Zb hj0)
 match j,hj with
 | 0,_=>cases hx;cases hd
 | 1,_=>exact hin 1 (by decide) (by decide) rfl hx hy
 | 2,_=>exact hin 2 (by decide) (by decide) rfl hx hy
 | 3,_=>exact hin 3 (by decide) (by decide) rfl hx hy
 | 4,_=>exact hin 4 (by decide) (by decide) rfl hx hy
 | 5,_=>exact hin 5 (by decide) (by decide) rfl hx hy
 | 6,_=>
  have e:=dw (H:=e9 b p um .dead) (ks:=[0,1,2,3,4,5]) (H0:=H0) (i:=6) (by decide) hl Kn (by decide)
  rw[hy] at e
  rw[ZB e];rfl
theorem VC.to7{v:Vb}{g:FuncId}(h:VC v g)(F:cT)(n:List Int)(a:Option Addr)(m c:Nat)(hF:oN F)(hl:n.length=v.many)(hn:∀ x∈n,0<=x∧x<10000000000000):au Tryz.prog g [.ptr 0 0,.p (Di.cg n)] (e9 F.b F.aV (.raw a m c) .dead) (VQ7 F v n (.raw a m c)) (VP7 F v n (.raw a m c)):=by
 have a5:jT (e9 F.b F.aV (.raw a m c) .dead) (tN 1) F.b:=⟨rfl,rfl,rfl,rfl,rfl⟩
 have kk:∀{H0:List ai},wW F.b F.aV (.raw a m c) H0->fB (e9 F.b F.aV (.raw a m c) .dead) [0,1,2,3,4,5] H0:=fun hd=>hd.k (k:=0) (q:=tN 1) rfl rfl a5
 have hf:=(h F n a m c hF hl hn).Am (H:=e9 F.b F.aV (.raw a m c) .dead) (args:=[.ptr 0 0,.p (Di.cg n)]) [0,1,2,3,4,5] rfl (LL (k:=0) (q:=tN 1) (by decide) rfl a5 rfl) rfl (fun v0 H0 hq=>kk hq.2.2.2.dead) (fun y H0 hq=>kk hq.2.2.2.dead)
 refine hf.mono (fun r H2 hq=> ?_) (fun y H2 hq=> ?_)
 ·obtain⟨v0,H0,⟨h1,rfl,h3,h4⟩,rfl,rfl⟩:=hq
  refine⟨h1,rfl,(h3.q).back (by decide) (kk h4.dead) (fun i hi=> ?_) rfl rfl,H6 h4.dead⟩
  have:i<6:=by simp at hi;omega
  show i<7
  omega
 ·obtain⟨H0,⟨h1,rfl,⟨cs,hc,h3⟩,h4⟩,rfl⟩:=hq
  refine⟨h1,rfl,⟨bq (dK (e9 F.b F.aV (.raw a m c) .dead) [0,1,2,3,4,5]) cs,by rw[di];exact hc,?_⟩,H6 h4.dead⟩
  have e:=eZ (H:=e9 F.b F.aV (.raw a m c) .dead) (ks:=[0,1,2,3,4,5]) (j:=0) (i:=0) (by decide) h4.1 rfl Kn h3
  rw[e,vg rfl]
def lD(v:Vb):Bool:=match v with
 | .mark=>false
 | .back=>false
 | .keep=>false
 | _=>true
theorem TK(v:Vb)(h:lD v=true):VC v (kC v):=by
 cases v <;> first | cases h | skip
 ·exact Td
 ·exact UU
 ·exact Sw
 ·exact MB
 ·exact Yc
 ·exact SH
 ·exact QY
 ·exact Tb
 ·exact Sr
 ·exact Uy
theorem ie{H:List ai}{b:bK}{p:Di.bO}{um:V}{e:Int}{j:Nat}(h0:j≠0)(h8:j≠8)(h9:j≠9)(hj:j<H.length):(fZ H b p um e)[j]? =H[j]? :=by
 unfold fZ
 rw[Zu,if_neg (Ne.symm h9),Zu,if_neg (Ne.symm h8),Zu,if_neg (Ne.symm h0),Zc hj]
theorem Gz{H:List ai}{b:bK}{p:Di.bO}{um:V}{e:Int}:(fZ H b p um e)[0]? =some (cz b p um 13 12 14 15 16):=by
 unfold fZ
 refine bI (by decide) (bI (by decide) ?_)
 rw[Zu,if_pos rfl,if_pos (by simp)]
theorem rK{H:List ai}{b:bK}{p:Di.bO}{um:V}{e:Int}:(fZ H b p um e).length=H.length+1:=by
 unfold fZ
 simp
def HX(n:Nat)(H0 H:List ai):Prop:=∀(j:Nat) (x y:ai),0<j->j<n->H0[j]? =some x->x.live=false->H[j]? =some y->y.live=false
theorem Bm{H:List ai}{b:bK}{p:Di.bO}{um:V}{e:Int}(hl:17<H.length)(h5:jT H ⟨13,12,14,15,16⟩ b):Km b p um 0 (fZ H b p um e):=by
 obtain⟨h1,h2,h3,h4,h6⟩:=h5
 refine⟨⟨13,12,14,15,16⟩,by decide,Gz,?_,?_,?_,?_,?_⟩
 ·rw[ie (by decide) (by decide) (by decide) (show 13<H.length by omega)];exact h1
 ·rw[ie (by decide) (by decide) (by decide) (show 12<H.length by omega)];exact h2
 ·rw[ie (by decide) (by decide) (by decide) (show 14<H.length by omega)];exact h3
 ·rw[ie (by decide) (by decide) (by decide) (show 15<H.length by omega)];exact h4
 ·rw[ie (by decide) (by decide) (by decide) (show 16<H.length by omega)];exact h6
theorem o7{H H0:List ai}{b:bK}{p:Di.bO}{um:V}{e:Int}{n:Nat}(hn:n<=8)(hl:17<H.length)(h:HX n H0 H):HX n H0 (fZ H b p um e):=fun j x y h0 h6 hx hd hy=>by
 rw[ie (by omega) (by omega) (by omega) (by omega)] at hy
 exact h j x y h0 h6 hx hd hy
def l6(b:bK)(p:Di.bO)(um:V)(M X:ai):List ai:=LH b p um M++[X]
theorem Ph(b:bK)(p:Di.bO)(um:V)(M X:ai):jT (l6 b p um M X) ⟨13,12,14,15,16⟩ b:=⟨rfl,rfl,rfl,rfl,rfl⟩
theorem Ek{b:bK}{p:Di.bO}{um:V}{M X:ai}{H0:List ai}(hl:7<=H0.length):jT (bh (l6 b p um M X) [0,1,2,3,4,5,6] H0) ⟨13,12,14,15,16⟩ b:=by
 have g:∀(i:Nat) (x:ai),i<19->i∉([0,1,2,3,4,5,6]:List Nat)->(l6 b p um M X)[i]? =some x->(bh (l6 b p um M X) [0,1,2,3,4,5,6] H0)[i]? =some x:=fun i x hi hk hx=>by
  rw[dw (ks:=[0,1,2,3,4,5,6]) (by decide) hl (show i<19 from hi) hk];exact hx
 exact⟨g 13 _ (by decide) (by decide) rfl,g 12 _ (by decide) (by decide) rfl,g 14 _ (by decide) (by decide) rfl,g 15 _ (by decide) (by decide) rfl,g 16 _ (by decide) (by decide) rfl⟩
theorem qR{b:bK}{p:Di.bO}{um:V}{M X:ai}{H0:List ai}(hl:7<=H0.length):18<(bh (l6 b p um M X) [0,1,2,3,4,5,6] H0).length:=by
 rw[rT (ks:=[0,1,2,3,4,5,6]) hl]
 show 18<19+_
 omega
theorem pN{b:bK}{p:Di.bO}{um:V}{M X:ai}{H0:List ai}(h:bQ (e9 b p um M) H0):HX 7 (e9 b p um M) (bh (l6 b p um M X) [0,1,2,3,4,5,6] H0):=fun j x y h0 h7 hx hd hy=>by
 have hl:=h.len
 have hk:([0,1,2,3,4,5,6]:List Nat)[j]? =some j:=by
  match j,h7 with
  | 0,_=>rfl
  | 1,_=>rfl
  | 2,_=>rfl
  | 3,_=>rfl
  | 4,_=>rfl
  | 5,_=>rfl
  | 6,_=>rfl
 have hj0:j<H0.length:=by omega
 have e:=eZ (H:=l6 b p um M X) (ks:=[0,1,2,3,4,5,6]) (by decide) hl hk (show j<19 by omega) (Zb hj0)
 rw[hy] at e
 rw[ZB e,bY]
 exact h.dead j x _ h7 hx hd (Zb hj0)
theorem nT{b:bK}{p:Di.bO}{um:V}{M X:ai}{H0:List ai}(h:bQ (e9 b p um M) H0):fB (l6 b p um M X) [0,1,2,3,4,5,6] H0:=h.k (uQ b p um M X)
theorem u6{b:bK}{p:Di.bO}{um:V}{M:ai}{H:List ai}(hl:6<=H.length)(h:HX 7 (e9 b p um M) H):wW b p um H:=⟨hl,fun j x y h0 h6 hx hd hy=>h j x y h0 (by omega) (by
 match j,h6 with
 | 1,_=>exact hx
 | 2,_=>exact hx
 | 3,_=>exact hx
 | 4,_=>exact hx
 | 5,_=>exact hx
 | 0,_=>omega) hd hy⟩
theorem zK{i:Nat}(hi:i∈([0,1,2,3,4,5,6]:List Nat)):i<7:=by simp at hi;omega
def U1(F:cT)(s:Bs)(um:V):V->List ai->Prop:=fun x H2=>x= .p (.tuple [.str (sB (aP F s).2.1),.int .i64 (aP F s).2.2])∧Km (aP F s).1.b F.aV um 0 H2∧wW F.b F.aV um H2
theorem G3{F:cT}(hF:oN F):F.b.aq.length<=1000∧F.b.ah.length<=1000∧F.b.av.length<=1000∧F.b.plan.length<=1000∧F.b.bX.length<=1000:=by
 have h1:=Rx.c6 hF.b.cd
 have h2:=hF.b.sk
 have h3:=hF.b.dr
 have h4:=hF.b.ck
 obtain⟨u,hu⟩:=hF.b.Oq
 have h5:=kE hu
 omega
theorem PZ(F:cT)(s:Bs)(hF:oN F)(hp:s.length<=120->∀ v n,cJ s=some (v,n)->lD v=true)(a:Option Addr)(m c:Nat):au Tryz.prog 13 [.ptr 0 0,.p (.str (sB s))] (nA F.b F.aV (.raw a m c)) (U1 F s (.raw a m c)) (fun _ _=>False):=by
 refine au.pad ?_
 show au _ _ _ (e9 F.b F.aV (.raw a m c) .dead) _ _
 obtain⟨l1,l2,l3,l4,l5⟩:=G3 hF
 have hu:∀ σ:Nat->Option Nat,(ai.dead.live=true->σ 6=some 6)->aW σ (.raw a m c)= .raw a m c:=fun σ _=>rfl
 have hM:∀ σ,aD σ .dead= .dead:=fun σ=>rfl
 have err:∀(X:ai) (e:Int) (x:V) (H2:List ai),aP F s=(F,[],e)->(x= .p (.tuple [.str (sB []),.int .i64 e])∧H2=fZ (l6 F.b F.aV (.raw a m c) .dead X) F.b F.aV (.raw a m c) e)->U1 F s (.raw a m c) x H2:=fun X e x H2 he ⟨hx,hH⟩=>by
  subst hx hH
  unfold U1
  rw[he]
  refine⟨rfl,Bm Kn (Ph _ _ _ _ _),u6 (M:=ai.dead) (by rw[rK];exact ZP rfl) (o7 (H:=l6 F.b F.aV (.raw a m c) .dead X) (n:=7) (by decide) Kn fun j x y h0 h7 hx hd hy=> ?_)⟩
  have e:(l6 F.b F.aV (.raw a m c) .dead X)[j]? =(e9 F.b F.aV (.raw a m c) .dead)[j]? :=by
   match j,h7 with
   | 0,_=>rfl
   | 1,_=>rfl
   | 2,_=>rfl
   | 3,_=>rfl
   | 4,_=>rfl
   | 5,_=>rfl
   | 6,_=>rfl
  rw[e,hx] at hy
  cases hy;exact hd
 rcases ZD 120 s.length with hs | hs
 ·refine(ax.OD (JZ F.b F.aV (.raw a m c) .dead hu hM l1 l2 l3 l4 l5 s hs)).mono (fun x H2 hq=> ?_) (fun _ _ h=>h)
  obtain⟨rfl,rfl⟩:=hq
  have he:aP F s=(F,[],3):=by unfold aP;rw[if_pos hs]
  unfold U1
  rw[he]
  refine⟨rfl,⟨tN 1,by decide,rfl,rfl,rfl,rfl,rfl,rfl⟩,ZP rfl,fun j x y h0 h6 hx hd hy=> ?_⟩
  have e:(e9 F.b F.aV (.raw a m c) .dead++[.cells [.ptr 0 0] 30,.cells [.p (.str (sB []))] 9,.cells [.p (.int .i64 3)] 41])[j]? =(nA F.b F.aV (.raw a m c))[j]? :=by
   match j,h6 with
   | 0,_=>rfl
   | 1,_=>rfl
   | 2,_=>rfl
   | 3,_=>rfl
   | 4,_=>rfl
   | 5,_=>rfl
  rw[e,hx] at hy
  cases hy;exact hd
 ·obtain⟨w,l,hw⟩:=uD s
  have XG:¬ 120<s.length:=by omega
  have form:cJ s=none->aP F s=(F,[],8):=fun h=>by unfold aP;rw[if_neg XG,h]
  cases hv:jG w with
  | none=>exact(ax.OD (Tj F.b F.aV (.raw a m c) .dead hu hM l1 l2 l3 l4 l5 s hs w l hw hv)).mono (err _ 8 · · (form (yp hw hv))) (fun _ _ h=>h)
  | some v=>
   by_cases hm:l.length=v.many
   ·by_cases hC:∀ x∈l,gP x
    ·have hpa:=yo hw hv hm hC
     obtain⟨tB,Si⟩:=wv hpa
     have hvp:=hp hs v _ hpa
     have he:aP F s=bG F v (l.map gv):=by unfold aP;rw[if_neg XG,hpa]
     have hd:=(TK v hvp).to7 F (l.map gv) a m c hF tB Si
     refine(ax.OD (GL F.b F.aV (.raw a m c) .dead hu hM l1 l2 l3 l4 l5 s hs w l hw v hv hm hC (bG F v (l.map gv)).2.1 (bG F v (l.map gv)).2.2 _ _ hd (fun r H2 h=>⟨h.2.1,h.2.2.2⟩) (fun y H2 h=>⟨h.2.1,h.2.2.2,h.2.2.1⟩))).mono (fun x H2 hq=> ?_) (fun _ _ h=>h)
     rcases hq with⟨rfl,H0,⟨h1,_,h3,h4⟩,rfl⟩ | ⟨rfl,H0,⟨h1,_,_,h4⟩,rfl⟩
     ·have qE:=h4.len
      have hK:=nT (X:=ai.cells [.p (.int .i64 (v.many:Int)),.p (.func (.func (kC v)) [] [])] 99) h4
      have hlen:=qR (b:=F.b) (p:=F.aV) (um:= .raw a m c) (M:= .dead) (X:=ai.cells [.p (.int .i64 (v.many:Int)),.p (.func (.func (kC v)) [] [])] 99) qE
      unfold l6 at hlen
      have hfl:=h3.back (H:=l6 F.b F.aV (.raw a m c) .dead (ai.cells [.p (.int .i64 (v.many:Int)),.p (.func (.func (kC v)) [] [])] 99)) (ks:=[0,1,2,3,4,5,6]) (k2:=0) (oe:= .raw a m c) (by decide) hK (fun i hi=>ZR (zK hi) Kn) rfl rfl
      have k8:=dw (H:=l6 F.b F.aV (.raw a m c) .dead (ai.cells [.p (.int .i64 (v.many:Int)),.p (.func (.func (kC v)) [] [])] 99)) (ks:=[0,1,2,3,4,5,6]) (H0:=H0) (i:=8) (by decide) qE Kn (by decide)
      have k9:=dw (H:=l6 F.b F.aV (.raw a m c) .dead (ai.cells [.p (.int .i64 (v.many:Int)),.p (.func (.func (kC v)) [] [])] 99)) (ks:=[0,1,2,3,4,5,6]) (H0:=H0) (i:=9) (by decide) qE Kn (by decide)
      unfold U1
      rw[he]
      refine⟨by rw[h1],?_,?_⟩
      ·refine Km.set (Km.set hfl k8 (by decide) fun q hq=>Gm k8 hq) (bI (by decide) k9) (by decide) fun q hq=>Gm (bI (by decide) k9) hq
      ·refine u6 (M:= .dead) (by rw[yd,yd];omega) fun j x y h0 h7 hx hd hy=> ?_
       rw[Zu,if_neg (by omega),Zu,if_neg (by omega)] at hy
       exact pN h4 j x y h0 h7 hx hd hy
     ·have qE:=h4.len
      have hlen:=qR (b:=F.b) (p:=F.aV) (um:= .raw a m c) (M:= .dead) (X:=ai.cells [.p (.int .i64 (v.many:Int)),.p (.func (.func (kC v)) [] [])] 99) qE
      unfold l6 at hlen
      have e2:=Hr h1
      unfold U1
      rw[he]
      refine⟨by rw[e2],?_,?_⟩
      ·have:=Bm (p:=F.aV) (um:= .raw a m c) (e:=(bG F v (l.map gv)).2.2) (Nat.lt_of_succ_lt hlen) (Ek (b:=F.b) (p:=F.aV) (um:= .raw a m c) (M:= .dead) (X:=ai.cells [.p (.int .i64 (v.many:Int)),.p (.func (.func (kC v)) [] [])] 99) qE)
       rw[e2]
       exact this
      ·exact u6 (by rw[rK];omega) (o7 (by decide) (by omega) (pN h4))
    ·exact(ax.OD (S0 F.b F.aV (.raw a m c) .dead hu hM l1 l2 l3 l4 l5 s hs w l hw v hv hm hC)).mono (err _ 8 · · (form (yD hw hv hC))) (fun _ _ h=>h)
   ·exact(ax.OD (TO F.b F.aV (.raw a m c) .dead hu hM l1 l2 l3 l4 l5 s hs w l hw v hv hm)).mono (err _ 8 · · (form (yK hw hv hm))) (fun _ _ h=>h)
theorem OY{F:cT}{v:Vb}{n:List Int}(h:lD v=true):(bG F v n).1.marks=F.marks∧(bG F v n).1.aV=F.aV:=by
 cases v <;> first | cases h | skip
 all_goals (unfold bG;dsimp only;repeat' split) <;> exact⟨rfl,rfl⟩
theorem JU{F:cT}{s:Bs}(hp:s.length<=120->∀ v n,cJ s=some (v,n)->lD v=true):(aP F s).1.marks=F.marks∧(aP F s).1.aV=F.aV:=by
 unfold aP
 split
 ·exact⟨rfl,rfl⟩
 ·rename_i hs
  split
  ·exact⟨rfl,rfl⟩
  ·rename_i v n h
   exact OY (hp (by omega) v n h)
theorem y3(H:List ai)(ks:List Nat)(j:Nat):mA H ks j∈ks∨H.length<=mA H ks j:=by
 unfold mA
 cases hk:ks[j]? with
 | some i=>exact .inl (Zh hk)
 | none=>exact .inr (Ui _ _)
theorem rj.congr{H H3:List ai}{qs:List P5}{bs:List bK}(h:rj H qs bs)(he:∀ i∈qs.flatMap P5.l,H3[i]? =H[i]?):rj H3 qs bs:=by
 induction h with
 | nil=>exact .nil
 | cons h t ih=>
  obtain⟨h1,h2,h3,h4,h5⟩:=h
  rename_i q b qs bs
  have g:∀ i∈q.l,H3[i]? =H[i]? :=fun i hi=>he i (by rw[ZL];exact ZV _ hi)
  refine .cons ⟨?_,?_,?_,?_,?_⟩ (ih fun i hi=>he i (by rw[ZL];exact ZF _ hi))
  ·rw[g q.a (by simp[P5.l])];exact h1
  ·rw[g q.b (by simp[P5.l])];exact h2
  ·rw[g q.c (by simp[P5.l])];exact h3
  ·rw[g q.d (by simp[P5.l])];exact h4
  ·rw[g q.e (by simp[P5.l])];exact h5
theorem jT.set{H:List ai}{q:P5}{b:bK}{i:Nat}{y:ai}(h:jT H q b)(hi:i∉q.l):jT (H.set i y) q b:=by
 simp only[P5.l,Zr,HL,or_false,not_or] at hi
 obtain⟨h1,h2,h3,h4,h5⟩:=h
 exact⟨bI hi.1 h1,bI hi.2.1 h2,bI hi.2.2.1 h3,bI hi.2.2.2.1 h4,bI hi.2.2.2.2 h5⟩
def CN(c:Nat)(F:cT)(s:Bs)(H:List ai):V->List ai->Prop:=fun x H3=>x= .p (.tuple [.str (sB (aP F s).2.1),.int .i64 (aP F s).2.2])∧(∃ z q im qs,gX c (aP F s).1 z H3 q im qs)∧∀ i,i<c->H3[i]? =H[i]?
theorem L1(im:Nat)(F:cT)(z:Bool):RV (tK im F z)=true:=by cases z <;> rfl
theorem PR{b:bK}{p:Di.bO}{um oe:V}{q:P5}:nj [(um,oe)] (cz b p um q.a q.b q.c q.d q.e) (cz b p oe q.a q.b q.c q.d q.e):=
 .inr ⟨_,_,_,cR.app _ _ _ _ (cR.refl gB.refl (dn q.a q.b q.c q.d q.e b++p.cells.map V.p)) (show cR (gB [(um,oe)]) [um,.p (.bool true)] [oe,.p (.bool true)] from⟨_,_,rfl,.inr (ZJ.2 rfl),_,_,rfl,.inl rfl,rfl⟩),.inl ⟨rfl,rfl⟩⟩
theorem Rl{H:List ai}{ks:List Nat}(hn:ks.Nodup)(hlt:∀ i∈ks,i<H.length):(ks.all (fun i=>Nat.blt i H.length)&&decide ks.Nodup)=true:=by
 simp only[Zk,Zz,Zj]
 exact⟨fun i hi=>by simpa[Nat.blt,Zw] using hlt i hi,hn⟩
theorem O4{c:Nat}{F:cT}{z:Bool}{H:List ai}{q:P5}{im:Nat}{qs:List P5}(h:gX c F z H q im qs)(hF:oN F)(s:Bs)(hp:s.length<=120->∀ v n,cJ s=some (v,n)->lD v=true):au Tryz.prog 13 [.ptr c 0,.p (.str (sB s))] H (CN c F s H) (fun _ _=>False):=by
 have hcl:c<H.length:=(Za.1 h.fl).1
 have hnd:=h.nd
 rw[ZC,ZC,ZW] at hnd
 obtain⟨n1,n2,n3,n4,n5⟩:=hnd
 have hks:(c::q.l).Nodup:=ZC.2 ⟨fun hm=>n1 (Zg _ (ZV _ hm)),n3⟩
 have W9:c∉q.l:=(ZC.1 hks).1
 have VS:im≠c:=fun e=>n1 (by rw[e];exact Zq)
 have aaJ:im<H.length:=(Za.1 h.mb).1
 have hlt:∀ i∈c::q.l,i<H.length:=fun i hi=>by
  rcases Zr.1 hi with rfl | hi
  ·exact hcl
  ·exact h.a5.lt i hi
 have hlow:∀ i∈c::q.l,c<=i:=fun i hi=>by
  rcases Zr.1 hi with rfl | hi
  ·exact Ze _
  ·exact h.low i (Zg _ (ZV _ hi))
 obtain⟨Yy,hsp⟩:=JU (F:=F) hp
 refine au.Lq c (pre:=dn q.a q.b q.c q.d q.e F.b++F.aV.cells.map V.p) (um:=tK im F z) (post:=[.p (.bool true)]) h.fl (L1 im F z) fun a m c0=> ?_
 obtain⟨H',Nr⟩:∃ H',H'=H.set c (cz F.b F.aV (.raw a m c0) q.a q.b q.c q.d q.e):=⟨_,rfl⟩
 have hl':H'.length=H.length:=by rw[Nr,yd]
 have g0:H'[c]? =some (cz F.b F.aV (.raw a m c0) q.a q.b q.c q.d q.e):=by rw[Nr];exact fA h.fl
 have g5:jT H' q F.b:=by rw[Nr];exact h.a5.set W9
 have gx:∀ i,i≠c->H'[i]? =H[i]? :=fun i hi=>by rw[Nr,Zu,if_neg (Ne.symm hi)]
 have hlt':∀ i∈c::q.l,i<H'.length:=fun i hi=>by rw[hl'];exact hlt i hi
 have hfr:=(PZ F s hF hp a m c0).Am (H:=H') (args:=[.ptr c 0,.p (.str (sB s))]) (c::q.l) (by
     have e:nU H' (c::q.l) c=some 0:=by
      unfold nU
      rw[Zf,g0]
      exact(if_pos rfl).trans (l8 hks rfl)
     show[aW _ _,aW _ _]=_
     simp only[aW,e]) (LL hks g0 g5 rfl) (Rl hks hlt') (fun v0 H0 hq=>hq.2.2.k g0 rfl g5) (fun _ _ h=>h.elim)
 show au _ _ _ (H.set c (cz F.b F.aV (.raw a m c0) q.a q.b q.c q.d q.e)) _ _
 rw[<- Nr]
 refine hfr.mono (fun x H2 hx=> ?_) (fun _ _ h=>by obtain⟨_,h,_⟩:=h;exact h.elim)
 obtain⟨v0,H0,⟨rfl,⟨q0,k1,k2,k3⟩,k4⟩,rfl,rfl⟩:=hx
 have hK:fB H' (c::q.l) H0:=k4.k g0 rfl g5
 have Yx:(c::q.l).length<=H0.length:=k4.1
 obtain⟨q',eq'⟩:∃ q',q'=q0.map (mA H' (c::q.l)):=⟨_,rfl⟩
 have a5:jT (bh H' (c::q.l) H0) q' (aP F s).1.b:=by rw[eq'];exact iD hks Yx hlt' k3
 have fl2:(bh H' (c::q.l) H0)[c]? =some (cz (aP F s).1.b F.aV (.raw a m c0) q'.a q'.b q'.c q'.d q'.e):=by
  have:=eZ (H:=H') hks Yx (j:=0) (i:=c) rfl (by rw[hl'];exact hcl) k2
  rw[this,kT hK k3 rfl,eq']
  rfl
 have hq':(c::q'.l).Nodup:=by
  have:=sJ (H:=H') hks hlt' k1
  rw[Zx,ue (i:=c) rfl] at this
  rw[eq'];exact this
 have VB:c∉q'.l:=(ZC.1 hq').1
 have hcases:∀ i∈q'.l,i∈c::q.l∨H.length<=i:=fun i hi=>by
  rw[eq',P5.wz] at hi
  obtain⟨j,_,rfl⟩:=yu.1 hi
  rcases y3 H' (c::q.l) j with h | h
  ·exact .inl h
  ·exact .inr (by rw[<- hl'];exact h)
 have out:∀ i,i<H.length->i∉c::q.l->((bh H' (c::q.l) H0).set c (cz (aP F s).1.b F.aV (tK im F z) q'.a q'.b q'.c q'.d q'.e))[i]? =H[i]? :=fun i hi hk=>by
  have hic:i≠c:=fun e=>hk (by rw[e];exact Zq)
  rw[Zu,if_neg (Ne.symm hic),dw hks Yx (by rw[hl'];exact hi) hk,gx i hic]
 have Wp:im∉c::q.l:=fun hm=>by
  rcases Zr.1 hm with e | hm
  ·exact VS e
  ·exact n2 (ZV _ hm)
 have XP:∀ i∈qs.flatMap P5.l,i∉c::q.l:=fun i hi hm=>by
  rcases Zr.1 hm with e | hm
  ·exact n1 (Zg _ (ZF _ (e▸hi)))
  ·exact n5 i hm i hi rfl
 refine⟨_,ef.set fl2 (PR (oe:=tK im F z)),rfl,⟨z,q',im,qs,?_⟩,fun i hi=>out i (by omega) fun hm=>by have:=hlow i hm;omega⟩
 have Xx:tK im (aP F s).1 z=tK im F z:=by unfold tK;rw[Yy]
 refine⟨?_,a5.set VB,?_,fun hz=>by rw[Yy];exact h.mz hz,?_,?_,?_⟩
 ·rw[Xx,hsp]
  exact fA fl2
 ·rw[out im aaJ Wp,h.mb]
  unfold B9
  rw[Yy]
 ·rw[Yy]
  exact h.ats.congr fun i hi=>out i (h.ats.lt i hi) (XP i hi)
 ·rw[ZC,ZC,ZW]
  refine⟨fun hm=> ?_,fun hm=> ?_,(ZC.1 hq').2,n4,fun a ha b hb e=> ?_⟩
  ·rcases Zr.1 hm with e | hm
   ·exact VS e.symm
   ·rcases Zp.1 hm with hm | hm
    ·exact VB hm
    ·exact n1 (Zg _ (ZF _ hm))
  ·rcases Zp.1 hm with hm | hm
   ·rcases hcases im hm with h | h
    ·exact Wp h
    ·omega
   ·exact n2 (ZF _ hm)
  ·subst e
   rcases hcases a ha with h2 | h2
   ·exact XP a hb h2
   ·have:=h.ats.lt a hb;omega
 ·intro i hi
  rcases Zr.1 hi with rfl | hi
  ·exact h.low i Zq
  ·rcases Zp.1 hi with hi | hi
   ·rcases hcases i hi with h2 | h2
    ·exact hlow i h2
    ·omega
   ·exact h.low i (Zg _ (ZF _ hi))
theorem bQ.out{b:bK}{p:Di.bO}{um oe:V}{M:ai}{H H0:List ai}{c im:Nat}{q:P5}(h:bQ (e9 b p oe M) H0)(h0:H[c]? =some (cz b p um q.a q.b q.c q.d q.e))(ha:jT H q b)(hm:H[im]? =some M):fB H (c::(q.l++[im])) H0:=by
 refine⟨h.len,fun j i y hk hl hy=> ?_⟩
 have gd:∀{i:Nat} {x:ai},H[i]? =some x->H.getD i .dead=x:=fun hx=>by rw[Zf,hx];rfl
 obtain⟨g1,g2,g3,g4,g5⟩:=ha
 have hj:j<7:=(Za.1 hk).1
 match j,hj with
 | 0,_=>cases hk;rw[gd h0] at hl;cases hl
 | 1,_=>cases hk;rw[gd g1] at hl;exact h.dead 1 _ y (by decide) rfl hl hy
 | 2,_=>cases hk;rw[gd g2] at hl;exact h.dead 2 _ y (by decide) rfl hl hy
 | 3,_=>cases hk;rw[gd g3] at hl;exact h.dead 3 _ y (by decide) rfl hl hy
 | 4,_=>cases hk;rw[gd g4] at hl;exact h.dead 4 _ y (by decide) rfl hl hy
 | 5,_=>cases hk;rw[gd g5] at hl;exact h.dead 5 _ y (by decide) rfl hl hy
 | 6,_=>cases hk;rw[gd hm] at hl;exact h.dead 6 _ y (by decide) rfl hl hy
theorem QA{H:List ai}{c im:Nat}{q:P5}{b:bK}{p:Di.bO}{um oe:V}{M:ai}(hn:(c::(q.l++[im])).Nodup)(h0:H[c]? =some (cz b p um q.a q.b q.c q.d q.e))(h:jT H q b)(hm:H[im]? =some M)(hM:∀ σ,aD σ M=M)(hu:aW (nU H (c::(q.l++[im]))) um=oe):((c::(q.l++[im])).map fun i=>aD (nU H (c::(q.l++[im]))) (H.getD i .dead))=e9 b p oe M:=by
 have gd:∀{i:Nat} {x:ai},H[i]? =some x->H.getD i .dead=x:=fun hx=>by rw[Zf,hx];rfl
 rw[Zx,ZG,ql h,gd h0,LB hn rfl rfl rfl rfl rfl h hu,Zx,gd hm,hM]
 rfl
theorem BZ{H:List ai}{ks:List Nat}{i j:Nat}{x:ai}(hn:ks.Nodup)(hk:ks[j]? =some i)(hx:H[i]? =some x)(hl:x.live=true):nU H ks i=some j:=by
 unfold nU
 rw[Zf,hx]
 exact(if_pos hl).trans (l8 hn hk)
theorem TV{g:FuncId}{H:List ai}{c im:Nat}{q:P5}{b:bK}{p:Di.bO}{um oe:V}{M:ai}{y:PV}{Qr:V->List ai->Prop}(hn:(c::(q.l++[im])).Nodup)(h0:H[c]? =some (cz b p um q.a q.b q.c q.d q.e))(h:jT H q b)(hm:H[im]? =some M)(hM:∀ σ,aD σ M=M)(hu:aW (nU H (c::(q.l++[im]))) um=oe)
    (hc:au Tryz.prog g [.ptr 0 0,.p y] (e9 b p oe M) Qr (fun _ _=>False))(hK:∀ x H0,Qr x H0->bQ (e9 b p oe M) H0):au Tryz.prog g [.ptr c 0,.p y] H (fun x H2=>∃ x0 H0,Qr x0 H0∧x=aW (dK H (c::(q.l++[im]))) x0∧H2=bh H (c::(q.l++[im])) H0) (fun _ _=>False):=by
 have hlt:∀ i∈c::(q.l++[im]),i<H.length:=fun i hi=>by
  rcases Zr.1 hi with rfl | hi
  ·exact(Za.1 h0).1
  ·rcases Zp.1 hi with hi | hi
   ·exact h.lt i hi
   ·rw[ZJ.1 hi];exact(Za.1 hm).1
 refine(hc.Am (H:=H) (args:=[.ptr c 0,.p y]) (c::(q.l++[im])) ?_ (QA hn h0 h hm hM hu) (Rl hn hlt) (fun x H0 hq=>(hK x H0 hq).out h0 h hm) (fun _ _ h=>h.elim)).mono (fun _ _ h=>h) (fun _ _ ⟨_,h,_⟩=>h.elim)
 have e:=BZ hn (j:=0) rfl h0 rfl
 show[aW _ _,aW _ _]=_
 simp only[aW,e]
theorem L0{ps:List (V×V)}{q:P5}{b:bK}{cs t:List V}(h:cR (nh ps) (xh q b++t) cs):∃(r:RB) (HU:List V),cs=r.cells++HU∧cR (nh ps) t HU:=by
 have sl:∀ i n,RV (aY i n)=true:=fun i n=>by cases n <;> rfl
 have ch:∀{i n:Nat} {v':V},nh ps (aY i n) v'->∃ s:RS,v'=s.v:=fun h=>by
  rcases h with⟨h,_⟩ | ⟨_,⟨a,n,c,e⟩,_⟩
  ·rw[sl] at h;cases h
  ·exact⟨⟨a,n,c⟩,e⟩
 have cp:∀{x:PV} {v':V},nh ps (.p x) v'->v'= .p x:=fun h=>by
  rcases h with⟨_,h⟩ | ⟨h,_⟩
  ·exact h
  ·cases h
 obtain⟨d1,e1,rfl,h1,d2,e2,rfl,h2,d3,e3,rfl,h3,d4,e4,rfl,h4,d5,e5,rfl,h5,d6,e6,rfl,h6,d7,e7,rfl,h7,h8⟩:=h
 obtain⟨s1,rfl⟩:=ch h1
 obtain⟨s2,rfl⟩:=ch h2
 obtain⟨s3,rfl⟩:=ch h3
 obtain⟨s4,rfl⟩:=ch h4
 obtain⟨s7,rfl⟩:=ch h7
 rw[cp h5,cp h6]
 exact⟨⟨s1,s2,s3,s4,b.bad,b.good,s7⟩,e7,rfl,h8⟩
theorem xR{ps:List (V×V)}:∀(qs:List P5) (bs:List bK) (cs:List V),qs.length=bs.length->cR (nh ps) (rq qs bs) cs->∃ l:List RB,cs=nG l∧l.length=bs.length
 | [],[],cs,_,h=>⟨[],show cs=[] from h,rfl⟩
 | q::qs,b::bs,cs,hl,h=>by
  obtain⟨r,HU,rfl,h2⟩:=L0 (q:=q) (b:=b) (t:=rq qs bs) h
  obtain⟨l,rfl,h3⟩:=xR qs bs HU (by simpa using hl) h2
  exact⟨r::l,rfl,by rw[Zn,Zn,h3]⟩
 | [],_::_,_,hl,_=>by cases hl
 | _::_,[],_,hl,_=>by cases hl
theorem uW:∀(qs:List P5) (bs:List bK) (q:P5) (b:bK),qs.length=bs.length->rq (qs++[q]) (bs++[b])=rq qs bs++xh q b
 | [],[],q,b,_=>by show xh q b++[]=[]++xh q b;rw[ZU];rfl
 | q0::qs,b0::bs,q,b,hl=>by
  show xh q0 b0++rq (qs++[q]) (bs++[b])=(xh q0 b0++rq qs bs)++xh q b
  rw[uW qs bs q b (by simpa using hl),ZH]
 | [],_::_,_,_,hl=>by cases hl
 | _::_,[],_,_,hl=>by cases hl
theorem Io:∀(qs:List P5) (bs:List bK),qs.length=bs.length->(rq qs bs).length=bs.length*7
 | [],[],_=>rfl
 | q::qs,b::bs,hl=>by
  show(xh q b++rq qs bs).length=_
  rw[Zd,Io qs bs (by simpa using hl),Zn]
  show 7+_=_
  omega
 | [],_::_,hl=>by cases hl
 | _::_,[],hl=>by cases hl
theorem vh(l:List RB)(r:RB):nG (l++[r])=nG l++r.cells:=by unfold nG;rw[JP];simp
theorem yf{ps:List (V×V)}{qs:List P5}{bs:List bK}{q:P5}{b:bK}{l:List RB}{r:RB}(hl:qs.length=bs.length)(ur:l.length=bs.length)(h:cR (gB ps) (nG (l++[r])) (rq (qs++[q]) (bs++[b]))):cR (gB ps) (nG l) (rq qs bs)∧cR (gB ps) r.cells (xh q b):=by
 rw[vh,uW qs bs q b hl] at h
 obtain⟨l1,l2,e,h1,h2⟩:=cR.split _ _ _ h
 have e1:l1.length=(rq qs bs).length:=by rw[cR.len _ _ h1,qo,Io qs bs hl,ur]
 obtain⟨e2,e3⟩:=List.append_inj e.symm e1
 subst e2 e3
 exact⟨h1,h2⟩
def wO(F:cT)(s:Bs):V:= .p (.tuple [.str (sB (aP F s).2.1),.int .i64 (aP F s).2.2])
def IF(b:bK)(p:Di.bO)(um:V)(M:ai)(H:List ai):Prop:=H[0]? =some (cz b p um 13 12 14 15 16)∧jT H ⟨13,12,14,15,16⟩ b∧H[6]? =some M∧bQ (e9 b p um M) H
theorem xW(b:bK)(p:Di.bO)(um:V)(M:ai)(X:List ai):bQ (e9 b p um M) (e9 b p um M++X):=⟨by rw[Zd];exact Ui 7 _,fun j x y hj hx hd hy=>by
 rw[ot hx] at hy;cases hy;exact hd⟩
theorem zx{b:bK}{p:Di.bO}{um:V}{M X:ai}{H0:List ai}{e:Int}(h:bQ (e9 b p um M) H0):bQ (e9 b p um M) (fZ (bh (l6 b p um M X) [0,1,2,3,4,5,6] H0) b p um e):=by
 have hlen:=qR (b:=b) (p:=p) (um:=um) (M:=M) (X:=X) h.len
 refine⟨by rw[rK];omega,fun j x y hj hx hd hy=> ?_⟩
 rcases TC j with rfl | h0
 ·cases hx;cases hd
 ·exact o7 (by decide) (by omega) (pN h) j x y h0 hj hx hd hy
theorem QV{b:bK}{p:Di.bO}{um:V}{M X:ai}{H0:List ai}{e:Int}(hM:∀ σ,aD σ M=M)(h:bQ (e9 b p um M) H0)(h6:H0[6]? =some M):IF b p um M (fZ (bh (l6 b p um M X) [0,1,2,3,4,5,6] H0) b p um e):=by
 have hlen:=qR (b:=b) (p:=p) (um:=um) (M:=M) (X:=X) h.len
 obtain⟨g1,g2,g3,g4,g5⟩:=Ek (b:=b) (p:=p) (um:=um) (M:=M) (X:=X) h.len
 have gg:∀{i:Nat} {x:ai},i≠0->i≠8->i≠9->i<18->(bh (l6 b p um M X) [0,1,2,3,4,5,6] H0)[i]? =some x->(fZ (bh (l6 b p um M X) [0,1,2,3,4,5,6] H0) b p um e)[i]? =some x:=fun a1 a2 a3 a4 hx=>by
  rw[ie a1 a2 a3 (by omega)];exact hx
 refine⟨Gz,⟨gg (by decide) (by decide) (by decide) (by decide) g1,gg (by decide) (by decide) (by decide) (by decide) g2,gg (by decide) (by decide) (by decide) (by decide) g3,gg (by decide) (by decide) (by decide) (by decide) g4,gg (by decide) (by decide) (by decide) (by decide) g5⟩,gg (by decide) (by decide) (by decide) (by decide) ?_,zx h⟩
 have:=eZ (H:=l6 b p um M X) (ks:=[0,1,2,3,4,5,6]) (j:=6) (i:=6) (by decide) h.len rfl Kn h6
 rw[this,hM]
theorem zP(l:List RB)(k:Nat):∀ σ:Nat->Option Nat,((cX l).live=true->σ 6=some 6)->aW σ (.row 6 k)= .row 6 k:=fun σ h=>by simp only[aW,h rfl]
theorem XL:∀ σ:Nat->Option Nat,(ai.dead.live=true->σ 6=some 6)->aW σ .z0= .z0:=fun σ _=>rfl
def Ma(F:cT)(cs:List V)(k:Nat)(H:List ai):Prop:=H[0]? =some (cz F.b F.aV (.row 28 (k+1)) 1 2 3 4 5)∧jT H (tN 1) F.b∧jT H ⟨22,21,23,24,25⟩ F.b∧H[28]? =some (.row (cs++dn 22 21 23 24 25 F.b) yz)
theorem c4{H:List ai}{i:Nat}{x y z:ai}(h8:i≠8)(h9:i≠9)(h:H[i]? =some x):((H.set 8 y).set 9 z)[i]? =some x:=bI (Ne.symm h9) (bI (Ne.symm h8) h)
theorem mQ{b:bK}{p:Di.bO}{um:V}{M X y z:ai}{H0:List ai}(h:bQ (e9 b p um M) H0):bQ (e9 b p um M) (((bh (l6 b p um M X) [0,1,2,3,4,5,6] H0).set 8 y).set 9 z):=by
 have hlen:=qR (b:=b) (p:=p) (um:=um) (M:=M) (X:=X) h.len
 refine⟨by rw[yd,yd];omega,fun j x w hj hx hd hy=> ?_⟩
 rw[Zu,if_neg (by omega),Zu,if_neg (by omega)] at hy
 rcases TC j with rfl | h0
 ·cases hx;cases hd
 ·exact pN h j x w h0 hj hx hd hy
theorem Jn{s:Bs}{v:Vb}{n:List Int}(h:cJ s=some (v,n)):∃ w l,bT s=w::l∧jG w=some v∧l.length=v.many∧(∀ x∈l,gP x)∧n=l.map gv:=by
 obtain⟨w,l,hw⟩:=uD s
 cases hv:jG w with
 | none=>rw[yp hw hv] at h;cases h
 | some v'=>
  by_cases hm:l.length=v'.many
  ·by_cases hC:∀ x∈l,gP x
   ·rw[yo hw hv hm hC] at h
    cases h
    exact⟨w,l,hw,hv,hm,hC,rfl⟩
   ·rw[yD hw hv hC] at h;cases h
  ·rw[yK hw hv hm] at h;cases h
theorem rS(F:cT)(s:Bs)(hF:oN F)(v:Vb)(n:List Int)(hpa:cJ s=some (v,n))(hs:s.length<=120)(um:V)(M:ai)(hu:∀ σ:Nat->Option Nat,(M.live=true->σ 6=some 6)->aW σ um=um)(hM:∀ σ,aD σ M=M)(Qr:V->List ai->Prop)(Qp:PV->List ai->Prop)
    (hd:au Tryz.prog (kC v) [.ptr 0 0,.p (Di.cg n)] (e9 F.b F.aV um M) Qr Qp)(hr:∀ r H2,Qr r H2->(bG F v n).2.2=0∧r= .p (.str (sB (bG F v n).2.1))∧bQ (e9 F.b F.aV um M) H2)(hp:∀ y H2,Qp y H2->(bG F v n).2.2≠0∧y= .iface 94 (.agg [.int .i64 (bG F v n).2.2])∧bQ (e9 F.b F.aV um M) H2∧H2[6]? =some M∧∃ cs,cs.length=7∧H2[0]? =some (.cells (cs++F.aV.cells.map .p++[um,.p (.bool true)]) 87)):
    ax Tryz.prog 13 [.ptr 0 0,.p (.str (sB s))] (e9 F.b F.aV um M) (fun x H2=>x=wO F s∧(((aP F s).2.2=0∧∃ H0 y z,Qr (.p (.str (sB (bG F v n).2.1))) H0∧H2=(((bh (l6 F.b F.aV um M (ai.cells [.p (.int .i64 (v.many:Int)),.p (.func (.func (kC v)) [] [])] 99)) [0,1,2,3,4,5,6] H0).set 8 y).set 9 z))∨((aP F s).2.2≠0∧aP F s=(F,[],(aP F s).2.2)∧IF F.b F.aV um M H2))):=by
 obtain⟨w,l,hw,hv,hm,hC,rfl⟩:=Jn hpa
 obtain⟨l1,l2,l3,l4,l5⟩:=G3 hF
 have he:aP F s=bG F v (l.map gv):=by unfold aP;rw[if_neg (by omega),hpa]
 have h:=GL F.b F.aV um M hu hM l1 l2 l3 l4 l5 s hs w l hw v hv hm hC (bG F v (l.map gv)).2.1 (bG F v (l.map gv)).2.2 Qr Qp hd (fun r H2 hq=>(hr r H2 hq).2) (fun y H2 hq=>⟨(hp y H2 hq).2.1,(hp y H2 hq).2.2.1,(hp y H2 hq).2.2.2.2⟩)
 refine fun w' I ρ us hi fT=>(h w' I ρ us hi fT).mono fun e w2 ⟨u,x,J,σ,H2,e1,hq,e2⟩=>⟨u,x,J,σ,H2,e1,?_,e2⟩
 unfold wO
 rw[he]
 rcases hq with⟨rfl,H0,hq,rfl⟩ | ⟨rfl,H0,hq,rfl⟩
 ·obtain⟨h0,_,hk⟩:=hr _ _ hq
  exact⟨by rw[h0],.inl ⟨h0,H0,_,_,hq,rfl⟩⟩
 ·obtain⟨h0,_,hk,h6,_⟩:=hp _ _ hq
  have e3:=Hr h0
  exact⟨by rw[e3],.inr ⟨h0,e3,QV hM hk h6⟩⟩
def mw(z:Bool)(l:List RB):V:=bif z then .z0 else .row 6 l.length
def mL(z:Bool)(l:List RB):ai:=bif z then .dead else cX l
theorem MX(z:Bool)(l:List RB):∀ σ:Nat->Option Nat,((mL z l).live=true->σ 6=some 6)->aW σ (mw z l)=mw z l:=by
 cases z with
 | true=>exact XL
 | false=>exact zP l l.length
theorem NR(z:Bool)(l:List RB):∀ σ,aD σ (mL z l)=mL z l:=by
 cases z with
 | true=>exact fun _=>rfl
 | false=>exact fun σ=>gV σ l
theorem Pp{b:bK}{p:Di.bO}{um:V}{M X:ai}(j:Nat):mA (l6 b p um M X) [0,1,2,3,4,5,6] (7+j)=19+j:=by
 unfold mA
 have:([0,1,2,3,4,5,6]:List Nat)[7+j]? =none:=ZE (by show 7<=7+j;omega)
 rw[this]
 show 19+(7+j - 7)=19+j
 omega
theorem Ws(F:cT)(s:Bs)(hF:oN F)(n:List Int)(hpa:cJ s=some (.mark,n))(hs:s.length<=120)(z:Bool)(l:List RB)(hz:z=true->l=[])(hl:l.length=F.marks.length):
    ax Tryz.prog 13 [.ptr 0 0,.p (.str (sB s))] (e9 F.b F.aV (mw z l) (mL z l)) (fun x H2=>x=wO F s∧bQ (e9 F.b F.aV (mw z l) (mL z l)) H2∧(((aP F s).2.2=0∧Ma F (nG l) l.length H2)∨((aP F s).2.2≠0∧aP F s=(F,[],(aP F s).2.2)∧IF F.b F.aV (mw z l) (mL z l) H2))):=by
 have fin:∀{x:V} {H2 H0:List ai} {y w X:ai},H2=(((bh (l6 F.b F.aV (mw z l) (mL z l) X) [0,1,2,3,4,5,6] H0).set 8 y).set 9 w)->bQ (e9 F.b F.aV (mw z l) (mL z l)) H0->H0[0]? =some (cz F.b F.aV (.row 16 (l.length+1)) 1 2 3 4 5)->jT H0 (tN 1) F.b->jT H0 ⟨10,9,11,12,13⟩ F.b->H0[16]? =some (.row (nG l++dn 10 9 11 12 13 F.b) yz)->Ma F (nG l) l.length H2:=fun{x H2 H0 y w X} e hk h0 h5 Xs h16=>by
  subst e
  have hK:=nT (X:=X) hk
  have qE:=hk.len
  have hn:([0,1,2,3,4,5,6]:List Nat).Nodup:=by decide
  have hlt:∀ i∈([0,1,2,3,4,5,6]:List Nat),i<(l6 F.b F.aV (mw z l) (mL z l) X).length:=fun i hi=>ZR (zK hi) Kn
  have p16:aW (dK (l6 F.b F.aV (mw z l) (mL z l) X) [0,1,2,3,4,5,6]) (.row 16 (l.length+1))= .row 28 (l.length+1):=by
   have:=ja hK h16 rfl
   rw[show(16:Nat)=7+9 from rfl,Pp] at this
   simp only[aW,this]
  have k0:=eZ (H:=l6 F.b F.aV (mw z l) (mL z l) X) hn qE (j:=0) (i:=0) rfl Kn h0
  have e0:=kT (q:=tN 1) (p:=F.aV) hK h5 p16
  have a5:=iD (H:=l6 F.b F.aV (mw z l) (mL z l) X) hn qE hlt h5
  have a5':=iD (H:=l6 F.b F.aV (mw z l) (mL z l) X) hn qE hlt Xs
  have k16:=qK (H:=l6 F.b F.aV (mw z l) (mL z l) X) hn qE hlt h16
  have e16:aD (dK (l6 F.b F.aV (mw z l) (mL z l) X) [0,1,2,3,4,5,6]) (.row (nG l++dn 10 9 11 12 13 F.b) yz)= .row (nG l++dn 22 21 23 24 25 F.b) yz:=by
   show ai.row (bq _ (_++_)) _=_
   rw[bA,tZ]
   have:=uB (q:=⟨10,9,11,12,13⟩) hK Xs
   exact congrArg (fun t=>ai.row (nG l++t) yz) this
  refine⟨c4 (by decide) (by decide) (k0.trans (congrArg some e0)),?_,?_,?_⟩
  ·obtain⟨g1,g2,g3,g4,g5⟩:=a5
   exact Ce
  ·obtain⟨g1,g2,g3,g4,g5⟩:=a5'
   exact Ce
  ·rw[e16] at k16
   exact c4 (by decide) (by decide) k16
 have kf:bQ (e9 F.b F.aV (mw z l) (mL z l)) (e9 F.b F.aV (mw z l) (mL z l)):=by
  have:=xW F.b F.aV (mw z l) (mL z l) []
  rwa [ZU] at this
 cases z with
 | true=>
  have hl0:l=[]:=hz rfl
  subst hl0
  refine fun w I ρ us hi fT=>(rS F s hF .mark n hpa hs .z0 .dead XL (fun _=>rfl) _ _ (T4 F n hF hl) (fun r H2 hq=>⟨hq.1,hq.2.1,?_⟩) (fun y H2 hq=>⟨hq.1,hq.2.1,by rw[hq.2.2];exact kf,by rw[hq.2.2];rfl,dn 1 2 3 4 5 F.b,rfl,by rw[hq.2.2];rfl⟩) w I ρ us hi fT).mono fun e w2 ⟨u,x,J,σ,H2,e1,hq,e2⟩=>⟨u,x,J,σ,H2,e1,?_,e2⟩
  ·rw[hq.2.2]
   exact AY
  ·obtain⟨rfl,h | ⟨h1,h2,h3⟩⟩:=hq
   ·obtain⟨h0,H0,y,w',⟨g1,g2,g3⟩,rfl⟩:=h
    have hk:bQ (e9 F.b F.aV .z0 .dead) H0:=by
     rw[g3]
     exact AY
    exact Dg
   ·exact mO
 | false=>
  refine fun w I ρ us hi fT=>(rS F s hF .mark n hpa hs (.row 6 l.length) (cX l) (zP l l.length) (fun σ=>gV σ l) _ _ (UP F n l hF hl) (fun r H2 hq=>⟨hq.1,hq.2.1,?_⟩) (fun y H2 hq=>⟨hq.1,hq.2.1,by rw[hq.2.2];exact kf,by rw[hq.2.2];rfl,dn 1 2 3 4 5 F.b,rfl,by rw[hq.2.2];rfl⟩) w I ρ us hi fT).mono fun e w2 ⟨u,x,J,σ,H2,e1,hq,e2⟩=>⟨u,x,J,σ,H2,e1,?_,e2⟩
  ·rw[hq.2.2]
   exact pQ
  ·obtain⟨rfl,h | ⟨h1,h2,h3⟩⟩:=hq
   ·obtain⟨h0,H0,y,w',⟨g1,g2,g3⟩,rfl⟩:=h
    have hk:bQ (e9 F.b F.aV (.row 6 l.length) (cX l)) H0:=by
     rw[g3]
     exact pQ
    exact Dg
   ·exact mO
def RY(F:cT)(l:List RB)(r:RB)(H:List ai):Prop:=H[0]? =some (.cells (r.cells++F.aV.cells.map .p++[.row 6 l.length,.p (.bool true)]) 87)∧H[6]? =some (cX (l++[r]))
def Wu(F:cT)(l:List RB)(r:RB)(H:List ai):Prop:=H[0]? =some (cz F.b F.aV (.row 6 l.length) 1 2 3 4 5)∧jT H (tN 1) F.b∧H[6]? =some (cX (l++[r]))
theorem N7(σ:Nat->Option Nat)(r:RB):bq σ r.cells=r.cells:=rfl
theorem Em(F:cT)(n:List Int)(v:Vb)(um:V)(M:ai)(X1 X2:ai)(y:PV)(H2:List ai)(hq:(bG F v n).2.2≠0∧y= .iface 94 (.agg [.int .i64 (bG F v n).2.2])∧H2=[cz F.b F.aV um 1 2 3 4 5,dh F.b.aq,cY F.b.ah,dj F.b.av,bw F.b.plan,bw F.b.bX,M,X1,X2]):
    (bG F v n).2.2≠0∧y= .iface 94 (.agg [.int .i64 (bG F v n).2.2])∧bQ (e9 F.b F.aV um M) H2∧H2[6]? =some M∧∃ cs,cs.length=7∧H2[0]? =some (.cells (cs++F.aV.cells.map .p++[um,.p (.bool true)]) 87):=by
 obtain⟨h1,h2,rfl⟩:=hq
 exact⟨h1,h2,xW F.b F.aV um M [X1,X2],rfl,dn 1 2 3 4 5 F.b,rfl,rfl⟩
theorem Af{α:Type}(l:List α):l=[]∨∃ l0 x,l=l0++[x]:=by
 rcases List.eq_nil_or_concat l with h | ⟨l0,x,h⟩
 ·exact .inl h
 ·exact .inr ⟨l0,x,by rw[h,List.concat_eq_append]⟩
theorem Gs(z:Bool):FM (mw z [])=some 0:=by cases z <;> rfl
theorem XK(F:cT)(s:Bs)(hF:oN F)(n:List Int)(hpa:cJ s=some (.back,n))(hs:s.length<=120)(z:Bool)(l:List RB)(hz:z=true->l=[])(hl:l.length=F.marks.length):
    ax Tryz.prog 13 [.ptr 0 0,.p (.str (sB s))] (e9 F.b F.aV (mw z l) (mL z l)) (fun x H2=>x=wO F s∧bQ (e9 F.b F.aV (mw z l) (mL z l)) H2∧((∃ fs x l0 r,F.marks=fs++[x]∧l=l0++[r]∧z=false∧(aP F s).1={F with b:=x,marks:=fs}∧RY F l0 r H2)∨((aP F s).2.2≠0∧aP F s=(F,[],(aP F s).2.2)∧IF F.b F.aV (mw z l) (mL z l) H2))):=by
 rcases Af l with rfl | ⟨l0,r,rfl⟩
 ·have hm:F.marks=[]:=ZA hl.symm
  refine fun w I ρ us hi fT=>(rS F s hF .back n hpa hs (mw z []) (mL z []) (MX z []) (NR z []) _ _ (JA F n (mw z []) (mL z []) hm (Gs z)) (fun r H2 hq=>hq.elim) (fun y H2 hq=>Em F n .back _ _ _ _ y H2 hq) w I ρ us hi fT).mono fun e w2 ⟨u,x,J,σ,H2,e1,hq,e2⟩=>⟨u,x,J,σ,H2,e1,?_,e2⟩
  exact DS
 ·have hzf:z=false:=by
    cases z with
    | false=>rfl
    | true=>have:=hz rfl;simp at this
  subst hzf
  obtain⟨fs,x,hm⟩:∃ fs x,F.marks=fs++[x]:=by
   exact D7
  have hl0:l0.length=fs.length:=by rw[hm] at hl;simpa using hl
  have h8:l0.length<=8:=by have:=hF.mm;rw[hm] at this;simp at this;omega
  have eu:mw false (l0++[r])= .row 6 (l0.length+1):=by show V.row 6 _=_;rw[Zd];rfl
  have hd:=JH F n l0 r fs x hm hl0 h8
  have Tc:∀ H2:List ai,H2=[.cells (r.cells++F.aV.cells.map .p++[.row 6 l0.length,.p (.bool true)]) 87,dh F.b.aq,cY F.b.ah,dj F.b.av,bw F.b.plan,bw F.b.bX,cX (l0++[r]),.cells r.cells yz,.cells r.cells yz]->bQ (e9 F.b F.aV (.row 6 (l0.length+1)) (cX (l0++[r]))) H2:=fun H2 e=>by
   subst e
   exact pQ
  rw[eu]
  show ax _ _ _ (e9 F.b F.aV (.row 6 (l0.length+1)) (cX (l0++[r]))) _
  refine fun w I ρ us hi fT=>(rS F s hF .back n hpa hs (.row 6 (l0.length+1)) (cX (l0++[r])) (zP _ _) (fun σ=>gV σ _) _ _ hd (fun r' H2 hq=>⟨hq.1,hq.2.1,Tc H2 hq.2.2⟩) (fun y H2 hq=>hq.elim) w I ρ us hi fT).mono fun e w2 ⟨u,x',J,σ,H2,e1,hq,e2⟩=>⟨u,x',J,σ,H2,e1,?_,e2⟩
  obtain⟨rfl,⟨h0,H0,y,w',⟨g1,g2,g3⟩,rfl⟩ | ⟨h1,h2,h3⟩⟩:=hq
  ·have hk:=Tc H0 g3
   have hK:=nT (X:=ai.cells [.p (.int .i64 (Vb.back.many:Int)),.p (.func (.func (kC .back)) [] [])] 99) hk
   have qE:=hk.len
   have he:(aP F s).1={F with b:=x,marks:=fs}:=by
    have:aP F s=bG F .back n:=by unfold aP;rw[if_neg (by omega),hpa]
    rw[this]
    unfold bG
    rw[hm]
    simp
   have t6:dK (l6 F.b F.aV (.row 6 (l0.length+1)) (cX (l0++[r])) (ai.cells [.p (.int .i64 (Vb.back.many:Int)),.p (.func (.func (kC .back)) [] [])] 99)) [0,1,2,3,4,5,6] 6=some 6:=T7 _ _ _ _ _ rfl
   have k0:=eZ (H:=l6 F.b F.aV (.row 6 (l0.length+1)) (cX (l0++[r])) (ai.cells [.p (.int .i64 (Vb.back.many:Int)),.p (.func (.func (kC .back)) [] [])] 99)) (ks:=[0,1,2,3,4,5,6]) (H0:=H0) (j:=0) (i:=0) (x:= .cells (r.cells++F.aV.cells.map .p++[.row 6 l0.length,.p (.bool true)]) 87) (by decide) qE rfl Kn (by rw[g3];rfl)
   have k6:=eZ (H:=l6 F.b F.aV (.row 6 (l0.length+1)) (cX (l0++[r])) (ai.cells [.p (.int .i64 (Vb.back.many:Int)),.p (.func (.func (kC .back)) [] [])] 99)) (ks:=[0,1,2,3,4,5,6]) (H0:=H0) (j:=6) (i:=6) (x:=cX (l0++[r])) (by decide) qE rfl Kn (by rw[g3];rfl)
   rw[gV] at k6
   rw[vg (by simp only[aW,t6]),N7] at k0
   exact⟨rfl,mQ hk,.inl ⟨fs,x,l0,r,hm,rfl,rfl,he,c4 (by decide) (by decide) k0,c4 (by decide) (by decide) k6⟩⟩
  ·exact mO
theorem W4(F:cT)(s:Bs)(hF:oN F)(n:List Int)(hpa:cJ s=some (.keep,n))(hs:s.length<=120)(z:Bool)(l:List RB)(hz:z=true->l=[])(hl:l.length=F.marks.length):
    ax Tryz.prog 13 [.ptr 0 0,.p (.str (sB s))] (e9 F.b F.aV (mw z l) (mL z l)) (fun x H2=>x=wO F s∧bQ (e9 F.b F.aV (mw z l) (mL z l)) H2∧((∃ fs x l0 r,F.marks=fs++[x]∧l=l0++[r]∧z=false∧(aP F s).1={F with marks:=fs}∧Wu F l0 r H2)∨((aP F s).2.2≠0∧aP F s=(F,[],(aP F s).2.2)∧IF F.b F.aV (mw z l) (mL z l) H2))):=by
 rcases Af l with rfl | ⟨l0,r,rfl⟩
 ·have hm:F.marks=[]:=ZA hl.symm
  refine fun w I ρ us hi fT=>(rS F s hF .keep n hpa hs (mw z []) (mL z []) (MX z []) (NR z []) _ _ (IC F n (mw z []) (mL z []) hm (Gs z)) (fun r H2 hq=>hq.elim) (fun y H2 hq=>Em F n .keep _ _ _ _ y H2 hq) w I ρ us hi fT).mono fun e w2 ⟨u,x,J,σ,H2,e1,hq,e2⟩=>⟨u,x,J,σ,H2,e1,?_,e2⟩
  exact DS
 ·have hzf:z=false:=by
    cases z with
    | false=>rfl
    | true=>have:=hz rfl;simp at this
  subst hzf
  obtain⟨fs,x,hm⟩:∃ fs x,F.marks=fs++[x]:=by
   exact D7
  have hl0:l0.length=fs.length:=by rw[hm] at hl;simpa using hl
  have h8:l0.length<=8:=by have:=hF.mm;rw[hm] at this;simp at this;omega
  have eu:mw false (l0++[r])= .row 6 (l0.length+1):=by show V.row 6 _=_;rw[Zd];rfl
  have hd:=JC F n l0 r fs x hm hl0 h8
  have Tc:∀ H2:List ai,H2=[cz F.b F.aV (.row 6 l0.length) 1 2 3 4 5,dh F.b.aq,cY F.b.ah,dj F.b.av,bw F.b.plan,bw F.b.bX,cX (l0++[r]),.cells r.cells yz,.cells r.cells yz]->bQ (e9 F.b F.aV (.row 6 (l0.length+1)) (cX (l0++[r]))) H2:=fun H2 e=>by
   subst e
   exact pQ
  rw[eu]
  show ax _ _ _ (e9 F.b F.aV (.row 6 (l0.length+1)) (cX (l0++[r]))) _
  refine fun w I ρ us hi fT=>(rS F s hF .keep n hpa hs (.row 6 (l0.length+1)) (cX (l0++[r])) (zP _ _) (fun σ=>gV σ _) _ _ hd (fun r' H2 hq=>⟨hq.1,hq.2.1,Tc H2 hq.2.2⟩) (fun y H2 hq=>hq.elim) w I ρ us hi fT).mono fun e w2 ⟨u,x',J,σ,H2,e1,hq,e2⟩=>⟨u,x',J,σ,H2,e1,?_,e2⟩
  obtain⟨rfl,⟨h0,H0,y,w',⟨g1,g2,g3⟩,rfl⟩ | ⟨h1,h2,h3⟩⟩:=hq
  ·have hk:=Tc H0 g3
   have hK:=nT (X:=ai.cells [.p (.int .i64 (Vb.keep.many:Int)),.p (.func (.func (kC .keep)) [] [])] 99) hk
   have qE:=hk.len
   have he:(aP F s).1={F with marks:=fs}:=by
    have:aP F s=bG F .keep n:=by unfold aP;rw[if_neg (by omega),hpa]
    rw[this]
    unfold bG
    rw[hm]
    simp
   have t6:dK (l6 F.b F.aV (.row 6 (l0.length+1)) (cX (l0++[r])) (ai.cells [.p (.int .i64 (Vb.keep.many:Int)),.p (.func (.func (kC .keep)) [] [])] 99)) [0,1,2,3,4,5,6] 6=some 6:=T7 _ _ _ _ _ rfl
   have k0:=eZ (H:=l6 F.b F.aV (.row 6 (l0.length+1)) (cX (l0++[r])) (ai.cells [.p (.int .i64 (Vb.keep.many:Int)),.p (.func (.func (kC .keep)) [] [])] 99)) (ks:=[0,1,2,3,4,5,6]) (H0:=H0) (j:=0) (i:=0) (x:=cz F.b F.aV (.row 6 l0.length) 1 2 3 4 5) (by decide) qE rfl Kn (by rw[g3];rfl)
   have k6:=eZ (H:=l6 F.b F.aV (.row 6 (l0.length+1)) (cX (l0++[r])) (ai.cells [.p (.int .i64 (Vb.keep.many:Int)),.p (.func (.func (kC .keep)) [] [])] 99)) (ks:=[0,1,2,3,4,5,6]) (H0:=H0) (j:=6) (i:=6) (x:=cX (l0++[r])) (by decide) qE rfl Kn (by rw[g3];rfl)
   rw[gV] at k6
   have h5:jT H0 (tN 1) F.b:=by rw[g3];exact⟨rfl,rfl,rfl,rfl,rfl⟩
   have e0:=kT (q:=tN 1) (p:=F.aV) (um:= .row 6 l0.length) (oe:= .row 6 l0.length) hK h5 (by simp only[aW];rw[show dK _ _ 6=some 6 from t6])
   have a5:=iD (H:=l6 F.b F.aV (.row 6 (l0.length+1)) (cX (l0++[r])) (ai.cells [.p (.int .i64 (Vb.keep.many:Int)),.p (.func (.func (kC .keep)) [] [])] 99)) (ks:=[0,1,2,3,4,5,6]) (by decide) qE (fun i hi=>ZR (zK hi) Kn) h5
   obtain⟨b1,b2,b3,b4,b5⟩:=a5
   exact⟨rfl,mQ hk,.inl ⟨fs,x,l0,r,hm,rfl,rfl,he,c4 (by decide) (by decide) (k0.trans (congrArg some e0)),⟨c4 (by decide) (by decide) b1,c4 (by decide) (by decide) b2,c4 (by decide) (by decide) b3,c4 (by decide) (by decide) b4,c4 (by decide) (by decide) b5⟩,c4 (by decide) (by decide) k6⟩⟩
  ·exact mO
def k7(c im:Nat)(q:P5):List Nat:=c::(q.l++[im])
theorem th{c:Nat}{F:cT}{z:Bool}{H:List ai}{q:P5}{im:Nat}{qs:List P5}(h:gX c F z H q im qs):(k7 c im q).Nodup:=by
 have hnd:=h.nd
 rw[ZC,ZC,ZW] at hnd
 obtain⟨n1,n2,n3,n4,n5⟩:=hnd
 unfold k7
 rw[ZC,ZW]
 refine⟨fun hm=> ?_,n3,by simp,fun a ha b hb e=> ?_⟩
 ·rcases Zp.1 hm with hm | hm
  ·exact n1 (Zg _ (ZV _ hm))
  ·exact n1 (by rw[ZJ.1 hm];exact Zq)
 ·rw[ZJ.1 hb] at e
  subst e
  exact n2 (ZV _ ha)
theorem oJ{c:Nat}{F:cT}{z:Bool}{H:List ai}{q:P5}{im:Nat}{qs:List P5}(h:gX c F z H q im qs):∀ i∈k7 c im q,c<=i∧i<H.length:=fun i hi=>by
 rcases Zr.1 hi with rfl | hi
 ·exact⟨Ze _,(Za.1 h.fl).1⟩
 ·rcases Zp.1 hi with hi | hi
  ·exact⟨h.low i (Zg _ (ZV _ hi)),h.a5.lt i hi⟩
  ·rw[ZJ.1 hi]
   exact⟨h.low im Zq,(Za.1 h.mb).1⟩
theorem rz{c:Nat}{F:cT}{z:Bool}{H:List ai}{q:P5}{im:Nat}{qs:List P5}(h:gX c F z H q im qs):∀ i∈qs.flatMap P5.l,i∉k7 c im q:=fun i hi hm=>by
 have hnd:=h.nd
 rw[ZC,ZC,ZW] at hnd
 obtain⟨n1,n2,n3,n4,n5⟩:=hnd
 rcases Zr.1 hm with e | hm
 ·exact n1 (Zg _ (ZF _ (e▸hi)))
 ·rcases Zp.1 hm with hm | hm
  ·exact n5 i hm i hi rfl
  ·rw[ZJ.1 hm] at hi
   exact n2 (ZF _ hi)
structure xm (c:Nat) (F:cT) (z:Bool) (H:List ai) (q:P5) (im:Nat) (qs:List P5) (l:List RB) (H' H0:List ai):Prop where
 fa:gX c F z H q im qs
 e:H'=H.set im (mL z l)
 k:fB H' (k7 c im q) H0
theorem xm.len{c:Nat}{F:cT}{z:Bool}{H:List ai}{q:P5}{im:Nat}{qs:List P5}{l:List RB}{H' H0:List ai}(h:xm c F z H q im qs l H' H0):H'.length=H.length:=by rw[h.e,yd]
theorem xm.lt{c:Nat}{F:cT}{z:Bool}{H:List ai}{q:P5}{im:Nat}{qs:List P5}{l:List RB}{H' H0:List ai}(h:xm c F z H q im qs l H' H0):∀ i∈k7 c im q,i<H'.length:=fun i hi=>by rw[h.len];exact(oJ h.fa i hi).2
theorem xm.out{c:Nat}{F:cT}{z:Bool}{H:List ai}{q:P5}{im:Nat}{qs:List P5}{l:List RB}{H' H0:List ai}(h:xm c F z H q im qs l H' H0){i:Nat}(hi:i<H.length)(hk:i∉k7 c im q):(bh H' (k7 c im q) H0)[i]? =H[i]? :=by
 rw[dw (th h.fa) h.k.1 (by rw[h.len];exact hi) hk,h.e,Zu,if_neg (fun e=>hk (by rw[<- e];exact Zg _ (ZF _ (ZJ.2 rfl))))]
theorem xm.at_{c:Nat}{F:cT}{z:Bool}{H:List ai}{q:P5}{im:Nat}{qs:List P5}{l:List RB}{H' H0:List ai}(h:xm c F z H q im qs l H' H0){j:Nat}{x:ai}(hx:H0[j]? =some x):(bh H' (k7 c im q) H0)[mA H' (k7 c im q) j]? =some (aD (dK H' (k7 c im q)) x):=qK (th h.fa) h.k.1 h.lt hx
theorem xm.p0{c:Nat}{F:cT}{z:Bool}{H:List ai}{q:P5}{im:Nat}{qs:List P5}{l:List RB}{H' H0:List ai}(h:xm c F z H q im qs l H' H0):mA H' (k7 c im q) 0=c:=rfl
theorem xm.p6{c:Nat}{F:cT}{z:Bool}{H:List ai}{q:P5}{im:Nat}{qs:List P5}{l:List RB}{H' H0:List ai}(h:xm c F z H q im qs l H' H0):mA H' (k7 c im q) 6=im:=rfl
theorem xm.ats{c:Nat}{F:cT}{z:Bool}{H:List ai}{q:P5}{im:Nat}{qs:List P5}{l:List RB}{H' H0:List ai}(h:xm c F z H q im qs l H' H0):rj (bh H' (k7 c im q) H0) qs F.marks:=
 h.fa.ats.congr fun i hi=>h.out (h.fa.ats.lt i hi) (rz h.fa i hi)
theorem xm.new{c:Nat}{F:cT}{z:Bool}{H:List ai}{q:P5}{im:Nat}{qs:List P5}{l:List RB}{H' H0:List ai}(h:xm c F z H q im qs l H' H0)(j:Nat):c<=mA H' (k7 c im q) j∧mA H' (k7 c im q) j∉qs.flatMap P5.l:=by
 rcases y3 H' (k7 c im q) j with hm | hm
 ·exact⟨(oJ h.fa _ hm).1,fun hq=>rz h.fa _ hq hm⟩
 ·rw[h.len] at hm
  have hc:=(oJ h.fa c Zq).2
  exact⟨by omega,fun hq=>by have:=h.fa.ats.lt _ hq;omega⟩
theorem rj.set{H:List ai}{qs:List P5}{bs:List bK}{i:Nat}{y:ai}(h:rj H qs bs)(hi:i∉qs.flatMap P5.l):rj (H.set i y) qs bs:=h.congr fun j hj=>by
 rw[Zu,if_neg (fun e=>hi (by rw[e];exact hj))]
theorem w9{ps:List (V×V)}{cs cs' t:List V}{e:TypeId}(h:cR (gB ps) cs cs'):nj ps (.row (cs++t) e) (.row cs' e):= .inr ⟨cs,cs',e,h,.inr ⟨t,rfl,rfl⟩⟩
theorem yY{ps:List (V×V)}{cs cs':List V}{e:TypeId}(h:cR (gB ps) cs cs'):nj ps (.row cs e) (.row cs' e):=by
 have:=w9 (e:=e) (t:=[]) h
 rwa [ZU] at this
theorem ef.trans{ps:List (V×V)}{H H2:List ai}{i:Nat}{x y:ai}(h:ef ps H H2)(hx:H2[i]? =some x)(hx0:H[i]? =some x)(hy:nj ps x y):ef ps H (H2.set i y):=by
 refine⟨by rw[yd];exact h.1,fun j a b ha hb=> ?_⟩
 rw[Zu] at hb
 split at hb
 ·rename_i e
  subst e
  split at hb
  ·cases hb
   rw[hx0] at ha;cases ha;exact hy
  ·cases hb
 ·exact h.2 j a b ha hb
section
variable {c:Nat} {F F':cT} {z z':Bool} {H H' H0:List ai} {q q0:P5} {im:Nat} {qs Kt:List P5} {l:List RB} {ps:List (V×V)}
theorem Oc(hb:xm c F z H q im qs l H' H0){ns:List Nat}(h:ns.Nodup):(ns.map (mA H' (k7 c im q))).Nodup:=sJ (th hb.fa) hb.lt h
theorem M4(hb:xm c F z H q im qs l H' H0){um0:V}{M0:ai}(hp:F'.aV=F.aV)(hm:z'=true->F'.marks=[])(hq:rj (bh H' (k7 c im q) H0) Kt F'.marks)(hsub:∀ i∈Kt.flatMap P5.l,i∈qs.flatMap P5.l)(hnq:(Kt.flatMap P5.l).Nodup)(h0:H0[0]? =some (cz F'.b F.aV um0 q0.a q0.b q0.c q0.d q0.e))(hn0:(0::6::q0.l).Nodup)(h5:jT H0 q0 F'.b)(h6:H0[6]? =some M0)(hM:∀ σ,aD σ M0=M0)
    (Xx:aW (dK H' (k7 c im q)) um0=tK im F' z')(RD:nj ps M0 (B9 Kt F' z')):∃ H3,ef ps (bh H' (k7 c im q) H0) H3∧(∃ z q im qs,gX c F' z H3 q im qs)∧∀ i,i<c->H3[i]? =H[i]? :=by
 obtain⟨q',eq'⟩:∃ q',q'=q0.map (mA H' (k7 c im q)):=⟨_,rfl⟩
 have UZ:=Oc hb hn0
 rw[Zx,Zx,hb.p0,hb.p6,<- P5.wz,<- eq'] at UZ
 have nd2:=UZ
 rw[ZC,ZC] at nd2
 obtain⟨n1,n2,n3⟩:=nd2
 have a5:jT (bh H' (k7 c im q) H0) q' F'.b:=by rw[eq'];exact iD (th hb.fa) hb.k.1 hb.lt h5
 have k0:=hb.at_ h0
 rw[hb.p0,kT hb.k h5 Xx] at k0
 have k6:=hb.at_ h6
 rw[hb.p6,hM] at k6
 have EO:im≠c:=fun e=>n1 (by rw[e];exact Zq)
 have O1:im∉Kt.flatMap P5.l:=fun hm=>rz hb.fa im (hsub im hm) (Zg _ (ZF _ (ZJ.2 rfl)))
 have W9:c∉Kt.flatMap P5.l:=fun hm=>rz hb.fa c (hsub c hm) Zq
 have hnew:∀ i∈q'.l,c<=i∧i∉qs.flatMap P5.l:=fun i hi=>by
  rw[eq',P5.wz] at hi
  obtain⟨j,_,rfl⟩:=yu.1 hi
  exact hb.new j
 refine⟨(bh H' (k7 c im q) H0).set im (B9 Kt F' z'),ef.set k6 RD,⟨z',q',im,Kt,⟨?_,a5.set n2,fA k6,hm,hq.set O1,?_,?_⟩⟩,fun i hi=> ?_⟩
 ·rw[hp]
  have:=bI (y:=B9 Kt F' z') EO k0
  rw[eq']
  exact this
 ·rw[ZC,ZC,ZW]
  refine⟨fun hm=> ?_,fun hm=> ?_,n3,hnq,fun a ha b hb' e=>(hnew a ha).2 (by rw[e];exact hsub b hb')⟩
  ·rcases Zr.1 hm with e | hm
   ·exact EO e.symm
   ·rcases Zp.1 hm with hm | hm
    ·exact n1 (Zg _ hm)
    ·exact W9 hm
  ·rcases Zp.1 hm with hm | hm
   ·exact n2 hm
   ·exact O1 hm
 ·intro i hi
  rcases Zr.1 hi with rfl | hi
  ·exact hb.fa.low i Zq
  ·rcases Zp.1 hi with hi | hi
   ·exact(hnew i hi).1
   ·exact hb.fa.low i (Zg _ (ZF _ (hsub i hi)))
 ·have hcl:=(oJ hb.fa c Zq).2
  have pH:=(oJ hb.fa im (Zg _ (ZF _ (ZJ.2 rfl)))).1
  rw[Zu,if_neg (by omega)]
  exact hb.out (by omega) fun hm=>by have:=(oJ hb.fa i hm).1;omega
theorem rj.snoc{H:List ai}{qs:List P5}{bs:List bK}{q:P5}{b:bK}(h:rj H qs bs)(hq:jT H q b):rj H (qs++[q]) (bs++[b]):=by
 induction h with
 | nil=>exact .cons hq .nil
 | cons h _ ih=>exact .cons h ih
theorem Mx(hb:xm c F z H q im qs l H' H0)(hl:l.length=F.marks.length)(RD:cR (gB ps) (nG l) (rq qs F.marks))(hQ:Ma F (nG l) l.length H0):∃ H3,ef ps (bh H' (k7 c im q) H0) H3∧(∃ z q im qs,gX c {F with marks:=F.marks++[F.b]} z H3 q im qs)∧∀ i,i<c->H3[i]? =H[i]? :=by
 obtain⟨h0,h5,Xs,h28⟩:=hQ
 obtain⟨q',eq'⟩:∃ q',q'=(tN 1).map (mA H' (k7 c im q)):=⟨_,rfl⟩
 obtain⟨q1,Yq⟩:∃ q1,q1=(P5.mk 22 21 23 24 25).map (mA H' (k7 c im q)):=⟨_,rfl⟩
 obtain⟨i,ei⟩:∃ i,i=mA H' (k7 c im q) 28:=⟨_,rfl⟩
 have UZ:=Oc hb (show((0:Nat)::28::((tN 1).l++(P5.mk 22 21 23 24 25).l)).Nodup by decide)
 rw[Zx,Zx,ZG,hb.p0,<- P5.wz,<- P5.wz,<- eq',<- Yq,<- ei] at UZ
 rw[ZC,ZC,ZW] at UZ
 obtain⟨n1,n2,n3,n4,n5⟩:=UZ
 have a5:jT (bh H' (k7 c im q) H0) q' F.b:=by rw[eq'];exact iD (th hb.fa) hb.k.1 hb.lt h5
 have a5':jT (bh H' (k7 c im q) H0) q1 F.b:=by rw[Yq];exact iD (th hb.fa) hb.k.1 hb.lt Xs
 have pu:aW (dK H' (k7 c im q)) (.row 28 (l.length+1))= .row i (l.length+1):=by
  have:=ja hb.k h28 rfl
  simp only[aW,this,<- ei]
 have k0:=hb.at_ h0
 have e0:=kT (q:=tN 1) (p:=F.aV) hb.k h5 pu
 have k0:(bh H' (k7 c im q) H0)[c]? =some (cz F.b F.aV (.row i (l.length+1)) q'.a q'.b q'.c q'.d q'.e):=by
  rw[eq']
  exact k0.trans (congrArg some e0)
 have k28:=hb.at_ h28
 have e28:aD (dK H' (k7 c im q)) (.row (nG l++dn 22 21 23 24 25 F.b) yz)= .row (nG l++xh q1 F.b) yz:=by
  show ai.row (bq _ (_++_)) _=_
  rw[bA,tZ,Yq]
  exact congrArg (fun t=>ai.row (nG l++t) yz) (uB (q:=⟨22,21,23,24,25⟩) hb.k Xs)
 rw[e28,<- ei] at k28
 have hnew:∀ j∈i::(q'.l++q1.l),c<=j∧j∉qs.flatMap P5.l:=fun j hj=>by
  rcases Zr.1 hj with rfl | hj
  ·rw[ei];exact hb.new 28
  ·rcases Zp.1 hj with hj | hj
   ·rw[eq',P5.wz] at hj
    obtain⟨k,_,rfl⟩:=yu.1 hj
    exact hb.new k
   ·rw[Yq,P5.wz] at hj
    obtain⟨k,_,rfl⟩:=yu.1 hj
    exact hb.new k
 have hci:i≠c:=fun e=>n1 (by rw[e];exact Zq)
 have hfl:(qs++[q1]).flatMap P5.l=qs.flatMap P5.l++q1.l:=by rw[JP];simp
 have hqn:(qs.flatMap P5.l).Nodup:=by
  have:=hb.fa.nd
  rw[ZC,ZC,ZW] at this
  exact this.2.2.2.1
 have Z3:rj (bh H' (k7 c im q) H0) (qs++[q1]) (F.marks++[F.b]):=rj.snoc hb.ats a5'
 have W9:c∉qs.flatMap P5.l:=fun hm=>rz hb.fa c hm Zq
 refine⟨(bh H' (k7 c im q) H0).set i (.row (rq (qs++[q1]) (F.marks++[F.b])) yz),ef.set k28 (yY (by rw[uW qs F.marks q1 F.b hb.fa.ats.len];exact cR.app _ _ _ _ RD (cR.refl gB.refl _))),⟨false,q',i,qs++[q1],⟨?_,a5.set (fun hm=>n2 (ZV _ hm)),fA k28,(fun h=>by cases h),?_,?_,?_⟩⟩,fun j hj=> ?_⟩
 ·have e:tK i {F with marks:=F.marks++[F.b]} false= .row i (l.length+1):=by
    show V.row i (F.marks++[F.b]).length=_
    rw[Zd,hl];rfl
  rw[e]
  exact bI hci k0
 ·refine Z3.set ?_
  rw[hfl]
  intro hm
  exact Eb
 ·rw[hfl,ZC,ZC,ZW,ZW]
  refine⟨fun hm=> ?_,fun hm=> ?_,n3,⟨hqn,n4,fun a ha b hb' e=>(hnew b (Zg _ (ZF _ hb'))).2 (e▸ha)⟩,fun a ha b hb' e=> ?_⟩
  ·rcases Zr.1 hm with e | hm
   ·exact hci e.symm
   ·rcases Zp.1 hm with hm | hm
    ·exact n1 (Zg _ (ZV _ hm))
    ·rcases Zp.1 hm with hm | hm
     ·exact W9 hm
     ·exact n1 (Zg _ (ZF _ hm))
  ·rcases Zp.1 hm with hm | hm
   ·exact n2 (ZV _ hm)
   ·exact Eb
  ·subst e
   rcases Zp.1 hb' with hb' | hb'
   ·exact(hnew a (Zg _ (ZV _ ha))).2 hb'
   ·exact n5 a ha a hb' rfl
 ·intro j hj
  rw[hfl] at hj
  rcases Zr.1 hj with rfl | hj
  ·exact(hnew j Zq).1
  ·rcases Zp.1 hj with hj | hj
   ·exact(hnew j (Zg _ (ZV _ hj))).1
   ·rcases Zp.1 hj with hj | hj
    ·exact hb.fa.low j (Zg _ (ZF _ hj))
    ·exact(hnew j (Zg _ (ZF _ hj))).1
 ·have hcl:=(oJ hb.fa c Zq).2
  have:=(hnew i Zq).1
  rw[Zu,if_neg (by omega)]
  exact hb.out (by omega) fun hm=>by have:=(oJ hb.fa j hm).1;omega
end
theorem rj.last{H:List ai}:∀{fs:List bK} {qs:List P5} {x:bK},rj H qs (fs++[x])->∃ xl q9,qs=xl++[q9]∧rj H xl fs∧jT H q9 x
 | [],_,_,.cons h .nil=>⟨[],_,rfl,.nil,h⟩
 | _::fs,_,_,.cons h t=>by
  obtain⟨xl,q9,rfl,h1,h2⟩:=rj.last (fs:=fs) t
  exact⟨_::xl,q9,rfl,.cons h h1,h2⟩
section
variable {c:Nat} {F F':cT} {z z':Bool} {H H' H0:List ai} {q q0:P5} {im:Nat} {qs Kt:List P5} {l:List RB} {ps:List (V×V)}
theorem nI(xl:List P5)(q9:P5):(xl++[q9]).flatMap P5.l=xl.flatMap P5.l++q9.l:=by rw[JP];simp
theorem M8{xl:List P5}{q9:P5}{l0:List RB}{r:RB}{fs:List bK}{x:bK}(hb:xm c F false H q im (xl++[q9]) l H' H0)(hm:F.marks=fs++[x])(hl0:l0.length=fs.length)(eK:rj H xl fs)(YV:jT H q9 x)(h1:cR (gB ps) (nG l0) (rq xl fs))(h2:cR (gB ps) r.cells (xh q9 x))(hQ:RY F l0 r H0):
    ∃ H3,ef ps (bh H' (k7 c im q) H0) H3∧(∃ z q im qs,gX c {F with b:=x,marks:=fs} z H3 q im qs)∧∀ i,i<c->H3[i]? =H[i]? :=by
 obtain⟨g0,g6⟩:=hQ
 have t6:dK H' (k7 c im q) 6=some im:=ja hb.k g6 rfl
 have e0:aD (dK H' (k7 c im q)) (.cells (r.cells++F.aV.cells.map .p++[.row 6 l0.length,.p (.bool true)]) 87)= .cells (r.cells++F.aV.cells.map .p++[.row im l0.length,.p (.bool true)]) 87:=by
  rw[bL,bA,bA,aX,N7]
  simp only[bF,b8,dS,aW,t6]
 have k0:=hb.at_ g0
 rw[hb.p0,e0] at k0
 have k6:=hb.at_ g6
 rw[hb.p6,gV] at k6
 have hnd:=hb.fa.nd
 rw[nI,ZC,ZC,ZW,ZW] at hnd
 obtain⟨n1,n2,n3,⟨n4,n5,n6⟩,n7⟩:=hnd
 have pH:im∈k7 c im q:=Zg _ (ZF _ (ZJ.2 rfl))
 have hold:∀ i∈xl.flatMap P5.l++q9.l,i<H.length∧i∉k7 c im q∧c<=i:=fun i hi=>by
  have hi2:i∈(xl++[q9]).flatMap P5.l:=by rw[nI];exact hi
  exact⟨hb.fa.ats.lt i hi2,rz hb.fa i hi2,hb.fa.low i (Zg _ (ZF _ hi2))⟩
 have EO:im≠c:=fun e=>n1 (by rw[e];exact Zq)
 obtain⟨H1,RR⟩:∃ H1,H1=(bh H' (k7 c im q) H0).set c (cz x F.aV (.row im l0.length) q9.a q9.b q9.c q9.d q9.e):=⟨_,rfl⟩
 have k61:H1[im]? =some (cX (l0++[r])):=by rw[RR];exact bI (Ne.symm EO) k6
 have XF:ef ps (bh H' (k7 c im q) H0) H1:=by
  rw[RR]
  refine ef.set k0 (.inr ⟨_,_,_,?_,.inl ⟨rfl,rfl⟩⟩)
  exact cR.app _ _ _ _ (cR.app _ _ _ _ h2 (cR.refl gB.refl _)) (cR.refl gB.refl _)
 have jz:nj ps (cX (l0++[r])) (.row (rq xl fs) yz):=by
  unfold cX
  rw[vh]
  exact w9 h1
 have same:∀ i,i<H.length->i∉k7 c im q->(H1.set im (.row (rq xl fs) yz))[i]? =H[i]? :=fun i hi hk=>by
  rw[Zu,if_neg (fun e:im=i=>hk (by rw[<- e];exact pH)),RR,Zu,if_neg (fun e=>hk (by rw[<- e];exact Zq))]
  exact hb.out hi hk
 have a9:jT (H1.set im (.row (rq xl fs) yz)) q9 x:=by
  obtain⟨b1,b2,b3,b4,b5⟩:=YV
  have g:∀ i∈q9.l,(H1.set im (.row (rq xl fs) yz))[i]? =H[i]? :=fun i hi=>same i (hold i (ZF _ hi)).1 (hold i (ZF _ hi)).2.1
  refine⟨?_,?_,?_,?_,?_⟩
  ·rw[g q9.a (by simp[P5.l])];exact b1
  ·rw[g q9.b (by simp[P5.l])];exact b2
  ·rw[g q9.c (by simp[P5.l])];exact b3
  ·rw[g q9.d (by simp[P5.l])];exact b4
  ·rw[g q9.e (by simp[P5.l])];exact b5
 have eu:tK im {F with b:=x,marks:=fs} false= .row im l0.length:=by rw[hl0];rfl
 refine⟨H1.set im (.row (rq xl fs) yz),ef.trans XF k61 k6 jz,⟨false,q9,im,xl,⟨?_,a9,fA k61,(fun h=>by cases h),?_,?_,?_⟩⟩,fun i hi=> ?_⟩
 ·rw[eu]
  refine bI EO ?_
  rw[RR]
  exact fA k0
 ·exact eK.congr fun i hi=>same i (hold i (ZV _ hi)).1 (hold i (ZV _ hi)).2.1
 ·rw[ZC,ZC,ZW]
  refine⟨fun hm=> ?_,fun hm=> ?_,n5,n4,fun a ha b hb' e=>n6 b hb' a ha e.symm⟩
  ·rcases Zr.1 hm with e | hm
   ·exact EO e.symm
   ·refine(hold c ?_).2.1 Zq
    exact Dq
  ·refine(hold im ?_).2.1 pH
   exact Dq
 ·intro i hi
  rcases Zr.1 hi with rfl | hi
  ·exact hb.fa.low i Zq
  ·refine(hold i ?_).2.2
   rcases Zp.1 hi with hi | hi
   ·exact ZF _ hi
   ·exact ZV _ hi
 ·have hcl:=(oJ hb.fa c Zq).2
  exact same i (by omega) fun hm=>by have:=(oJ hb.fa i hm).1;omega
theorem Ll{F:cT}{n:List Int}(h:(bG F .mark n).2.2=0):(bG F .mark n).1={F with marks:=F.marks++[F.b]}:=by
 revert h
 unfold bG
 dsimp only
 split
 ·intro h;cases h
 ·intro _;rfl
theorem Cd(h:gX c F z H q im qs)(hF:oN F)(s:Bs)(v:Vb)(n:List Int)(hpa:cJ s=some (v,n))(hv:lD v=false)(hs:s.length<=120)(hz:z=true->l=[])(hl:l.length=F.marks.length)(RD:cR (gB ps) (nG l) (rq qs F.marks)):au Tryz.prog 13 [.ptr c 0,.p (.str (sB s))] (H.set im (mL z l)) (fun x H2=>∃ H3,ef ps H2 H3∧CN c F s H x H3) (fun _ H2=>∃ H3:List ai,ef ps H2 H3∧False):=by
 obtain⟨H',Nr⟩:∃ H',H'=H.set im (mL z l):=⟨_,rfl⟩
 rw[<- Nr]
 have hnd:=h.nd
 rw[ZC,ZC,ZW] at hnd
 obtain⟨n1,n2,n3,n4,n5⟩:=hnd
 have EO:im≠c:=fun e=>n1 (by rw[e];exact Zq)
 have O1:im∉q.l:=fun hm=>n2 (ZV _ hm)
 have g0:H'[c]? =some (cz F.b F.aV (tK im F z) q.a q.b q.c q.d q.e):=by rw[Nr];exact bI EO h.fl
 have g5:jT H' q F.b:=by rw[Nr];exact h.a5.set O1
 have gm:H'[im]? =some (mL z l):=by rw[Nr];exact fA h.mb
 have Xx:aW (nU H' (k7 c im q)) (tK im F z)=mw z l:=by
  cases z with
  | true=>rfl
  | false=>
   have e:=BZ (th h) (j:=6) rfl gm rfl
   show aW _ (.row im F.marks.length)= .row 6 l.length
   simp only[aW,e,hl]
 -- what is left
 have YI:∀ H0,bQ (e9 F.b F.aV (mw z l) (mL z l)) H0->xm c F z H q im qs l H' H0:=fun H0 hk=>⟨h,Nr,hk.out g0 g5 gm⟩
 have hM:=NR z l
 have err:∀ H0,bQ (e9 F.b F.aV (mw z l) (mL z l)) H0->aP F s=(F,[],(aP F s).2.2)->IF F.b F.aV (mw z l) (mL z l) H0->∃ H3,ef ps (bh H' (k7 c im q) H0) H3∧(∃ z q im qs,gX c (aP F s).1 z H3 q im qs)∧∀ i,i<c->H3[i]? =H[i]? :=fun H0 hk he ⟨e0,e5,e6,_⟩=>by
  rw[he]
  have hb:=YI H0 hk
  refine M4 (F':=F) (z':=z) (Kt:=qs) (q0:=⟨13,12,14,15,16⟩) hb rfl h.mz hb.ats (fun _ hi=>hi) n4 e0 (by decide) e5 e6 hM ?_ ?_
  ·cases z with
   | true=>rfl
   | false=>
    have:=ja hb.k e6 rfl
    rw[hb.p6] at this
    show aW _ (.row 6 l.length)= .row im F.marks.length
    simp only[aW,this,hl]
  ·cases z with
   | true=>exact .inl rfl
   | false=>exact yY RD
 have fin:∀ Qr:V->List ai->Prop,au Tryz.prog 13 [.ptr 0 0,.p (.str (sB s))] (e9 F.b F.aV (mw z l) (mL z l)) Qr (fun _ _=>False)->(∀ x H0,Qr x H0->x=wO F s∧bQ (e9 F.b F.aV (mw z l) (mL z l)) H0∧∃ H3,ef ps (bh H' (k7 c im q) H0) H3∧(∃ z q im qs,gX c (aP F s).1 z H3 q im qs)∧∀ i,i<c->H3[i]? =H[i]?)->au Tryz.prog 13 [.ptr c 0,.p (.str (sB s))] H' (fun x H2=>∃ H3,ef ps H2 H3∧CN c F s H x H3) (fun _ H2=>∃ H3:List ai,ef ps H2 H3∧False):=fun Qr hc hQ=>by
  refine(TV (th h) g0 g5 gm hM Xx hc fun x H0 hq=>(hQ x H0 hq).2.1).mono (fun x H2 hx=> ?_) (fun _ _ h=>h.elim)
  obtain⟨x0,H0,hq,rfl,rfl⟩:=hx
  obtain⟨rfl,hk,H3,h1,h2,h3⟩:=hQ x0 H0 hq
  exact⟨H3,h1,rfl,h2,h3⟩
 have XG:¬ 120<s.length:=by omega
 cases v <;> first | cases hv | skip
 ·refine fin _ (ax.OD (Ws F s hF n hpa hs z l hz hl)) fun x H0 ⟨hx,hk,hc⟩=>⟨hx,hk,?_⟩
  rcases hc with⟨h0,hQ⟩ | ⟨_,he,hE⟩
  ·have e:(aP F s).1={F with marks:=F.marks++[F.b]}:=by
     have e1:aP F s=bG F .mark n:=by unfold aP;rw[if_neg XG,hpa]
     rw[e1] at h0 ⊢
     exact Ll h0
   rw[e]
   exact Mx (YI H0 hk) hl RD hQ
  ·exact err H0 hk he hE
 ·refine fin _ (ax.OD (XK F s hF n hpa hs z l hz hl)) fun x H0 ⟨hx,hk,hc⟩=>⟨hx,hk,?_⟩
  rcases hc with⟨fs,y,l0,r,hm,el,ez,e,hQ⟩ | ⟨_,he,hE⟩
  ·have eK:=h.ats
   rw[hm] at eK
   obtain⟨xl,q9,rfl,QW,YV⟩:=eK.last
   subst ez
   have hl0:l0.length=fs.length:=by rw[el,hm] at hl;simpa using hl
   have hb:=YI H0 hk
   have Nj:=RD
   rw[el,hm] at Nj
   obtain⟨t1,t2⟩:=yf QW.len hl0 Nj
   rw[e]
   exact M8 hb hm hl0 QW YV t1 t2 hQ
  ·exact err H0 hk he hE
 ·refine fin _ (ax.OD (W4 F s hF n hpa hs z l hz hl)) fun x H0 ⟨hx,hk,hc⟩=>⟨hx,hk,?_⟩
  rcases hc with⟨fs,y,l0,r,hm,el,ez,e,hQ⟩ | ⟨_,he,hE⟩
  ·have eK:=h.ats
   rw[hm] at eK
   obtain⟨xl,q9,rfl,QW,YV⟩:=eK.last
   subst ez
   have hl0:l0.length=fs.length:=by rw[el,hm] at hl;simpa using hl
   have hb:=YI H0 hk
   have Nj:=RD
   rw[el,hm] at Nj
   obtain⟨t1,t2⟩:=yf QW.len hl0 Nj
   obtain⟨k0,k5,k6⟩:=hQ
   have t6:=ja hb.k k6 rfl
   rw[hb.p6] at t6
   have gZ:=hb.ats
   rw[hm] at gZ
   obtain⟨qa,qb,eqq,aaF,_⟩:=gZ.last
   obtain⟨rfl,_⟩:=List.append_inj' eqq rfl
   rw[e]
   rw[nI,ZW] at n4
   refine M4 (F':={F with marks:=fs}) (z':=false) (Kt:=xl) (q0:=tN 1) (um0:= .row 6 l0.length) (M0:=cX (l0++[r])) hb rfl (fun h=>by cases h) aaF (fun i hi=>by rw[nI];exact ZV _ hi) n4.1 k0 (by decide) k5 k6 (fun σ=>gV σ _) ?_ ?_
   ·show aW _ (.row 6 l0.length)= .row im fs.length
    simp only[aW,t6,hl0]
   ·unfold cX
    rw[vh]
    exact w9 t1
  ·exact err H0 hk he hE
theorem step_mk(h:gX c F z H q im qs)(hF:oN F)(s:Bs)(v:Vb)(n:List Int)(hpa:cJ s=some (v,n))(hv:lD v=false)(hs:s.length<=120):au Tryz.prog 13 [.ptr c 0,.p (.str (sB s))] H (CN c F s H) (fun _ _=>False):=by
 cases z with
 | true=>
  have hm:=h.mz rfl
  have hqs:qs=[]:=ZA (by rw[h.ats.len,hm];rfl)
  have e:H.set im (mL true [])=H:=by
   have:H[im]? =some (mL true []):=h.mb
   apply Gg
   intro i
   rw[Zu]
   split
   ·rename_i e;subst e
    rw[if_pos (Za.1 this).1,this]
   ·rfl
  have:=Cd (ps:=[]) (l:=[]) h hF s v n hpa hv hs (fun _=>rfl) (by rw[hm];rfl) (by rw[hm,hqs];rfl)
  rw[e] at this
  exact au.T8 fun w I ρ hi=>⟨H,[],hi,(fun p hp=>by cases hp),this⟩
 | false=>
  refine au.QT im (cs:=rq qs F.marks) (e:=yz) h.mb fun cs' ps Vf=> ?_
  obtain⟨l,rfl,hl⟩:=xR qs F.marks cs' h.ats.len Vf
  exact Cd h hF s v n hpa hv hs (fun h=>by cases h) hl (uR _ _ Vf)
theorem xU(h:gX c F z H q im qs)(hF:oN F)(s:Bs):au Tryz.prog 13 [.ptr c 0,.p (.str (sB s))] H (CN c F s H) (fun _ _=>False):=by
 by_cases hp:s.length<=120->∀ v n,cJ s=some (v,n)->lD v=true
 ·exact O4 h hF s hp
 ·have hs:s.length<=120:=Decidable.byContradiction fun hs=>hp fun h=>absurd h hs
  cases hpa:cJ s with
  | none=>exact absurd (fun _ v n h=>by rw[hpa] at h;cases h) hp
  | some vn=>
   obtain⟨v,n⟩:=vn
   cases hv:lD v with
   | true=>exact absurd (fun _ v' n' h=>by rw[hpa] at h;cases h;exact hv) hp
   | false=>exact step_mk h hF s v n hpa hv hs
end
theorem Na{pre Rd:List ai}{b:bK}:jT (pre++(eF b++Rd)) (tN pre.length) b:=by
 have g:∀(k:Nat) (x:ai),(eF b)[k]? =some x->(pre++(eF b++Rd))[pre.length+k]? =some x:=fun k x hx=>by
  rw[Zi (by omega),ZK,Zc (Za.1 hx).1]
  exact hx
 exact⟨g 0 _ rfl,g 1 _ rfl,g 2 _ rfl,g 3 _ rfl,g 4 _ rfl⟩
theorem HR:∀(bs:List bK) (pre Rd:List ai),rj (pre++(bs.flatMap eF++Rd)) (j5 pre.length bs.length) bs
 | [],_,_=> .nil
 | b::bs,pre,Rd=>by
  have e:pre++((b::bs).flatMap eF++Rd)=pre++(eF b++(bs.flatMap eF++Rd)):=by rw[ZL,ZH]
  have h2:=HR bs (pre++eF b) Rd
  rw[Zd,ZH,show(eF b).length=5 from rfl] at h2
  rw[e]
  exact .cons Na h2
theorem GC(pre:List ai)(F:cT)(z:Bool)(hz:z=true->F.marks=[]):gX pre.length F z (pre++cZ pre.length F z) (tN (pre.length+2)) (pre.length+1) (j5 (pre.length+7) F.marks.length):=by
 have e1:pre++cZ pre.length F z=(pre++[cz F.b F.aV (tK (pre.length+1) F z) (pre.length+2) (pre.length+3) (pre.length+4) (pre.length+5) (pre.length+6),B9 (j5 (pre.length+7) F.marks.length) F z])++(eF F.b++(F.marks.flatMap eF++dF (40 - 5*F.marks.length))):=by
  unfold cZ
  simp only[ZH,NF,IS]
 have e2:pre++cZ pre.length F z=(pre++[cz F.b F.aV (tK (pre.length+1) F z) (pre.length+2) (pre.length+3) (pre.length+4) (pre.length+5) (pre.length+6),B9 (j5 (pre.length+7) F.marks.length) F z]++eF F.b)++(F.marks.flatMap eF++dF (40 - 5*F.marks.length)):=by
  rw[e1];simp only[ZH]
 have g0:(pre++cZ pre.length F z)[pre.length]? =some (cz F.b F.aV (tK (pre.length+1) F z) (pre.length+2) (pre.length+3) (pre.length+4) (pre.length+5) (pre.length+6)):=by
  rw[Zi (Ze _),OX];rfl
 have g1:(pre++cZ pre.length F z)[pre.length+1]? =some (B9 (j5 (pre.length+7) F.marks.length) F z):=by
  rw[Zi (by omega),ZK];rfl
 have hl:(pre.length::(pre.length+1)::((tN (pre.length+2)).l++(j5 (pre.length+7) F.marks.length).flatMap P5.l))=List.range' pre.length (7+5*F.marks.length):=by
  rw[sA,<- List.range'_append_1]
  rfl
 refine⟨g0,?_,g1,hz,?_,?_,?_⟩
 ·rw[e1]
  have:=Na (pre:=pre++[cz F.b F.aV (tK (pre.length+1) F z) (pre.length+2) (pre.length+3) (pre.length+4) (pre.length+5) (pre.length+6),B9 (j5 (pre.length+7) F.marks.length) F z]) (Rd:=F.marks.flatMap eF++dF (40 - 5*F.marks.length)) (b:=F.b)
  rw[Zd] at this
  exact this
 ·rw[e2]
  have:=HR F.marks (pre++[cz F.b F.aV (tK (pre.length+1) F z) (pre.length+2) (pre.length+3) (pre.length+4) (pre.length+5) (pre.length+6),B9 (j5 (pre.length+7) F.marks.length) F z]++eF F.b) (dF (40 - 5*F.marks.length))
  rw[Zd,Zd] at this
  exact this
 ·rw[hl];exact List.nodup_range'
 ·intro i hi
  have:i∈List.range' pre.length (7+5*F.marks.length):=by rw[<- hl];exact Zg _ hi
  exact(Oo.1 this).1
theorem Wd{R:Option Nat}{N κ:Nat}{Q:Post}{T T2:Tm}{o:Oper}{ops:Array Oper}{rest:List Oper}{f:Operand}{xs:Array Operand}{ts:Array TypeId}(d:Nat)(pre:List ai)(F:cT)(z:Bool)(s:Bs)(hF:oN F)(hz:z=true->F.marks=[])(hpre:∀(i:Nat) (x:ai),pre[i]? =some x->II (pre.length+1) x)(hκ:κ<=pre.length)
    (ho:o.op= .call {callee:= .value f,args:=xs,argTypes:=ts})(hd:o.dst=some d)(hN:aZ N (some d)=true)(hg:o.guard=none)(hf:ev T f=some (.p (.func (.func 13) [] [])))(hxs:kR T xs.toList=some [.ptr pre.length 0,.p (.str (sB s))])(hrf:ak Tryz.prog 13=true)(hT:Sub T2 T)(hl:eV (below (pre.length+1)) T2=T2)
    (next:∀ z',(z'=true->(aP F s).1.marks=[])->aj Tryz.prog R N κ ops rest Q ((d,wO F s)::T2) (pre++cZ pre.length (aP F s).1 z')):aj Tryz.prog R N κ ops (o::rest) Q T (pre++cZ pre.length F z):=by
 refine aj.e8 d (xU (GC pre F z hz) hF s) ho hd hN hg hf hxs rfl hrf (fun _ _ h=>h.elim) fun x H3 hx=> ?_
 obtain⟨rfl,⟨z',q,im,qs,hfl⟩,hlow⟩:=hx
 refine aj.to (C6 hfl rfl (fun i x hi=>⟨?_,hpre i x hi⟩) hκ (T2:=(d,wO F s)::T2) ?_ ?_) (next z' hfl.mz)
 ·have:=(Za.1 hi).1
  rw[hlow i this,Zc this]
  exact hi
 ·intro s' v hv
  simp only[lk] at hv ⊢
  cases hb:Nat.beq d s' with
  | true=>rw[hb] at hv;exact hv
  | false=>rw[hb] at hv;exact hT s' v hv
 ·show(d,wO F s)::eV _ T2=_
  rw[hl]
theorem To.rot{P:Program}{κ N:Nat}{T:Tm}(A B C:List ai)(hκ:κ<=A.length):∃ σ:Nat->Option Nat,(∀ i,i<A.length->σ i=some i)∧(∀ k,k<B.length->σ (A.length+k)=some (A.length+C.length+k))∧(∀ j,j<C.length->σ (A.length+B.length+j)=some (A.length+j))∧
    To P κ N T (A++(B++C)) (eV σ T) (A.map (aD σ)++(C.map (aD σ)++B.map (aD σ))):=by
 obtain⟨ks,yW⟩:∃ ks,ks=List.range A.length++(List.range' (A.length+B.length) C.length++List.range' A.length B.length):=⟨_,rfl⟩
 have hnk:ks.Nodup:=by
  rw[yW,ZW,ZW]
  refine⟨List.nodup_range,⟨List.nodup_range',List.nodup_range',fun a ha b hb=> ?_⟩,fun a ha b hb=> ?_⟩
  ·have h1:=Oo.1 ha
   have h2:=Oo.1 hb
   omega
  ·have h1:=xe.1 ha
   rcases Zp.1 hb with hb | hb
   ·have h2:=Oo.1 hb;omega
   ·have h2:=Oo.1 hb;omega
 have g1:∀ i,i<A.length->ks[i]? =some i:=fun i hi=>by
  exact CH
 have g2:∀ j,j<C.length->ks[A.length+j]? =some (A.length+B.length+j):=fun j hj=>by
  rw[yW,Zi (by rw[Ko];omega),Ko,ZK,Zc (by rw[TI];exact hj),U2 hj,ZM]
 have g3:∀ k,k<B.length->ks[A.length+C.length+k]? =some (A.length+k):=fun k hk=>by
  rw[yW,Zi (by rw[Ko];omega),Ko,Nt,ZK,Zi (by rw[TI];omega),TI,ZK,U2 hk,ZM]
 refine⟨pl ks,fun i hi=>l8 hnk (g1 i hi),fun k hk=>l8 hnk (g3 k hk),fun j hj=>l8 hnk (g2 j hj),?_⟩
 have hkeep:jf κ (A++(B++C)).length ks=true:=by
  unfold jf
  simp only[Zk,beq_iff_eq,Zz,Zj]
  refine⟨⟨?_,fun i hi=> ?_⟩,hnk⟩
  ·exact Eh
  ·have:i<(A++(B++C)).length:=by
     rw[Zd,Zd]
     rw[yW] at hi
     rcases Zp.1 hi with hi | hi
     ·have:=xe.1 hi;omega
     ·rcases Zp.1 hi with hi | hi
      ·have:=Oo.1 hi;omega
      ·have:=Oo.1 hi;omega
   simpa[Nat.blt,Zw] using this
 have hk:=To.keep (P:=P) (κ:=κ) (N:=N) (T:=T) (H:=A++(B++C)) ks hkeep
 refine To.xj hk ?_
 have seg:∀(s n:Nat) (X:List ai),X.length=n->(∀ i,i<n->(A++(B++C))[s+i]? =X[i]?)->(List.range' s n).map (fun i=>aD (pl ks) ((A++(B++C)).getD i .dead))=X.map (aD (pl ks)):=fun s n X hX h=>by
  apply Gg
  intro i
  rw[Zt,Zt]
  rcases ZD i n with hi | hi
  ·rw[U2 hi,ZM]
   have hx:=Zb (show i<X.length by omega)
   show some (aD (pl ks) ((A++(B++C)).getD (s+i) .dead))=_
   rw[Zf,h i hi,hx]
   rfl
  ·rw[ZE (by rw[TI];exact hi),ZE (by omega)]
   rfl
 generalize pl ks=σ at seg ⊢
 rw[yW,ZG,ZG,List.range_eq_range',seg 0 A.length A rfl (fun i hi=>by rw[yy,Zc hi]),
  seg (A.length+B.length) C.length C rfl (fun i hi=>by rw[Zi (by omega),Zi (by omega)];congr 1;omega),
  seg A.length B.length B rfl (fun i hi=>by rw[Zi (by omega),ZK,Zc hi])]
theorem IL(l:List bK):(l.flatMap eF).length=5*l.length:=by
 induction l with
 | nil=>rfl
 | cons b l ih=>rw[ZL,Zd,ih,Zn];show 5+_=_;omega
theorem jj{c:Nat}{F:cT}{z:Bool}(hm:F.marks.length<=8):(cZ c F z).length=47:=by
 unfold cZ
 rw[Zn,Zn,Zd,Zd,IL,nM]
 show 5+_+_+1+1=47
 omega
theorem yg{σ:Nat->Option Nat}(b:bK):(eF b).map (aD σ)=eF b:=by
 unfold eF dh cY dj bw
 simp only[Zx,xo,bz]
theorem xX{σ:Nat->Option Nat}:∀ l:List bK,(l.flatMap eF).map (aD σ)=l.flatMap eF
 | []=>rfl
 | b::l=>by rw[ZL,ZG,yg,xX l]
theorem xT{σ:Nat->Option Nat}:∀ r,(dF r).map (aD σ)=dF r
 | 0=>rfl
 | r+1=>by show ai.dead::(dF r).map (aD σ)=_;rw[xT r];rfl
theorem qy{c c2:Nat}{F:cT}{z:Bool}{σ:Nat->Option Nat}(hm:F.marks.length<=8)(h:∀ k,k<47->σ (c+k)=some (c2+k)):(cZ c F z).map (aD σ)=cZ c2 F z:=by
 unfold cZ
 rw[Zx,Zx,ZG,ZG,yg,xX,xT]
 have f1:aD σ (cz F.b F.aV (tK (c+1) F z) (c+2) (c+3) (c+4) (c+5) (c+6))=cz F.b F.aV (tK (c2+1) F z) (c2+2) (c2+3) (c2+4) (c2+5) (c2+6):=
  Hf (q:=tN (c+2)) (i:=c2+2) (by
   cases z with
   | true=>rfl
   | false=>
    have:=h 1 (by decide)
    show aW σ (.row (c+1) _)=_
    simp only[aW,this]
    rfl) fun k x hx=>by
   have hk:k<5:=(Za.1 hx).1
   have e:x=c+2+k:=by
    match k,hk with
    | 0,_=>cases hx;rfl
    | 1,_=>cases hx;rfl
    | 2,_=>cases hx;rfl
    | 3,_=>cases hx;rfl
    | 4,_=>cases hx;rfl
   rw[e,Nt,h (2+k) (by omega),Nt]
 have f2:aD σ (B9 (j5 (c+7) F.marks.length) F z)=B9 (j5 (c2+7) F.marks.length) F z:=by
  cases z with
  | true=>rfl
  | false=>
   show ai.row (bq _ _) _=_
   rw[zp (j5 (c+7) F.marks.length) F.marks (c2+7) (DP _ _) fun k x hx=> ?_]
   ·rfl
   ·rw[sA] at hx
    have hk:k<5*F.marks.length:=by
     have:=(Za.1 hx).1
     rwa [TI] at this
    rw[U2 hk] at hx
    cases hx
    rw[ZM,Nt,h (7+k) (by omega),Nt]
 rw[f1,f2]
end Go.Proofs.YtibffijhebobmaaGreatDoor
end
