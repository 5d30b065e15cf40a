/-
 Plain arithmetic for the sack. No program in sight.
 The sack's data, as cells.
 Small functions of the sack.
 The document: kinds, corners.
 The document: weights.
 The document: a part.
 The plain law of the sack's sums: a sum over the batch is the document's sum over the sacks. No program in sight.
 Searches; what is valid.
 The document: what is weighed.
 The plain law of shares, water and mixtures. No program in sight.
 What a sack can be: the states that are yielded.
 What a sack adds.
 Batches.
 Sums over a batch, in whatever order.
 What is beyond a share; what water lacks.
 The document: what water lacks.
 The document: beyond a share.
 Searches; shares.
 The plain law of SackMixed: what is within a share's span is what a mixture's numbers say. No program in sight.
 Mixtures.
 How two sacks are mixed.
-/
import Derived.Test.YtibffijhebobmaaGreatDoorFaUC
import Derived.Test.YtibffijhebobmaaGreatDoorMzUF
import Derived.Test.YtibffijhebobmaaGreatDoorMzUZ
theorem Cn{A:Prop}(h:A:=by
 iterate 12 refine af ?_
 refine Kg 12 11 3 rfl (fun h=>(aa.fieldAddr rfl rfl an rfl)) ?_
 refine Kh 13 11 12 rfl rfl rfl rfl (fun h=>(aa.load rfl rfl an rfl)) ?_
 refine Kg 14 11 3 rfl (fun h=>(aa.fieldAddr rfl rfl an rfl)) ?_
 refine Kh 15 11 14 rfl rfl rfl rfl (fun h=>(aa.load rfl rfl an rfl)) ?_
 refine aj.g 16 11 rfl rfl rfl rfl rfl rfl rfl [(13,_),(15,_)] (fun h=>And.intro (.inr ⟨_,rfl,h⟩) (And.intro (.inr ⟨_,rfl,h⟩) (trivial))) (fun h=>(aa.leq rfl rfl rfl)) ?_
 refine Kc (aa.gG rfl rfl rfl ?_) ?_
 ·exact aC
 refine af ?_
 refine Kg 19 18 3 rfl (fun h=>(aa.fieldAddr rfl rfl an rfl)) ?_
 refine Kh 20 18 19 rfl rfl rfl rfl (fun h=>(aa.load rfl rfl an rfl)) ?_
 refine Kg 21 18 2 rfl (fun h=>(aa.move rfl rfl)) ?_
 refine aj.g 22 18 rfl rfl rfl rfl rfl rfl rfl [(20,_),(21,_)] (fun h=>And.intro (.inr ⟨_,rfl,h⟩) (And.intro (.inr ⟨_,rfl,h⟩) (trivial))) (fun h=>(aa.leq rfl rfl rfl)) ?_
 refine Kc (aa.gG rfl rfl rfl ?_) ?_
 ·exact aC
 exact cQ):A:=h
theorem ld{A:Prop}(h:A:=by
 refine af ?_
 refine aE.nil ?_
 iterate 2 refine af ?_
 exact nH):A:=h
theorem AA{A:Prop}(h:A:=by
 refine Kc (aa.min2 rfl rfl rfl) ?_
 iterate 3 refine af ?_
 refine Kc (aa.max2 rfl rfl rfl) ?_
 iterate 3 refine af ?_
 refine⟨_,rfl,To.done [0,1,2] rfl Sub.nil ?_⟩
 rcases TC k with hk0 | hk0
 ·subst hk0
  first
  | exact absurd hc0 (by decide)
  | show[ai.cells [.p (.int .i64 (min _ _)),.p (.int .i64 (max _ _))] 24,.cells [.p (.bool false)] 4,_]=_
    simp only[pF,ri,Int.min_self,Int.max_self,if_true]
    rfl
 ·have hk1:¬ k=0:=by omega
  first
  | exact absurd hc0 (by simp;omega)
  | show[ai.cells [.p (.int .i64 (min _ _)),.p (.int .i64 (max _ _))] 24,.cells [.p (.bool (k==0))] 4,_]=_
    rw[hc0]
    simp only[pF,ri,if_neg hk1]
    rfl):A:=h
theorem CJ{A:Prop}(h:A:=by
 have e2:(k:Int)+1=(r:Int)+2+((k - r - 1:Nat):Int):=by omega
 rcases ZD (k - r - 1) q with h6 | h6
 ·have:=q1 _ h6
  simp at this
  rw[<- e2] at this
  constructor
  ·intro _;omega
  ·intro _;omega
 ·have:=q2 _ h6 (by omega)
  simp at this
  rw[<- e2] at this
  constructor
  ·intro _;omega
  ·intro _;omega):A:=h
theorem nq{A:Prop}(h:A:=by
 constructor
 ·intro _;omega
 ·intro _;omega):A:=h
theorem Cv{A:Prop}(h:A:=by
 have q1:=ZY (hf j) h.1
 have q2:=ZY (hf j) (show 0<=hi by omega)
 omega):A:=h
theorem EH{A:Prop}(h:A:=by
 first | (show _<=_+mq F m∧_+mq F m<=_;omega) | (show _<=_+me F m∧_+me F m<=_;omega)):A:=h
theorem A3{A:Prop}(h:A:=by
 rw[<- hR,show((tn:Int) - 1).toNat=tn - 1 by omega]
 exact oX _ fun k h1 h2=>ok k (by omega)):A:=h
theorem BB{A:Prop}(h:A:=by
 have:=p1 k h3
 simp at this
 constructor
 ·intro h4;omega
 ·intro h4;omega):A:=h
set_option linter.unusedSimpArgs false
set_option linter.unusedVariables false
section
namespace Go.Proofs.YtibffijhebobmaaGreatDoor.Ck
theorem JB{a b A B:Int}(ha:0<=a∧a<=A)(hb:0<=b∧b<=B):0<=a*b∧a*b<=A*B:=
 ⟨Int.mul_nonneg ha.1 hb.1,Int.mul_le_mul ha.2 hb.2 hb.1 (Int.le_trans ha.1 ha.2)⟩
def kq(w c l:Int):Prop:=(0<=w∧w<=1000)∧(0<=c∧c<=1000)∧(0<=l∧l<=1000)
def S5(w c l:Int):Int:=w*1000*1000
def tj(w c l:Int):Int:=(1000 - w)*c*1000
def SC(w c l:Int):Int:=(1000 - w)*(1000 - c)*l
def o6(w c l:Int):Int:=(1000 - w)*(1000 - c)*(1000 - l)
def kH(w c l:Int):Int:=tj w c l+o6 w c l
def bJ(n w c l:Int):Int:=1000*tj w c l - n*kH w c l
theorem RW{w c l:Int}(h:kq w c l):0<=(1000 - w)*c∧(1000 - w)*c<=1000000:=by
 obtain⟨hw,hc,hl⟩:=h
 exact JB (A:=1000) (B:=1000) ⟨by omega,by omega⟩ hc
theorem V2{w c l:Int}(h:kq w c l):0<=(1000 - w)*(1000 - c)∧(1000 - w)*(1000 - c)<=1000000:=by
 obtain⟨hw,hc,hl⟩:=h
 exact JB (A:=1000) (B:=1000) ⟨by omega,by omega⟩ ⟨by omega,by omega⟩
theorem zn{w c l:Int}(h:kq w c l):0<=o6 w c l∧o6 w c l<=1000000000:=
 JB (A:=1000000) (B:=1000) (V2 h) ⟨by have:=h.2.2;omega,by have:=h.2.2;omega⟩
theorem rH{w c l:Int}(h:kq w c l):0<=tj w c l∧tj w c l<=1000000000:=by
 have:=RW h
 unfold tj;omega
theorem MH{w c l:Int}(h:kq w c l):0<=kH w c l∧kH w c l<=2000000000:=by
 have h1:=rH h
 have h2:=zn h
 unfold kH;omega
theorem NS{n w c l:Int}(hn:0<=n∧n<=1000)(h:kq w c l):0<=n*kH w c l∧n*kH w c l<=2000000000000:=
 JB (A:=1000) (B:=2000000000) hn (MH h)
theorem XA{n w c l:Int}(hn:0<=n∧n<=1000)(h:kq w c l): -2000000000000<=bJ n w c l∧bJ n w c l<=1000000000000:=by
 have h1:=rH h
 have h2:=NS hn h
 unfold bJ;omega
def ofF(k w c l:Int):Int:=if k=0 then S5 w c l else if k=1 then tj w c l else if k=2 then SC w c l else if k=3 then o6 w c l else kH w c l
def iG{α:Type}(p:α->Bool):List α->Int
 | []=> -1
 | x::xs=>if p x then 0 else let r:=iG p xs;if r<0 then -1 else r+1
theorem qu{α:Type}(p:α->Bool):∀(xs:List α) (i:Nat) (h:i<xs.length),(∀ j (hj:j<i),p (xs[j]'(by omega))=false)->p xs[i]=true->iG p xs=i
 | x::xs,0,h,h1,h2=>by simp at h2;simp[iG,h2]
 | x::xs,i+1,h,h1,h2=>by
  exact DZ
theorem ku{α:Type}(p:α->Bool):∀ xs:List α,(∀ j (hj:j<xs.length),p xs[j]=false)->iG p xs= -1
 | [],_=>rfl
 | x::xs,h=>by
  exact Bl
theorem kZ{α:Type}(p:α->Bool):∀ xs:List α,decide (0<=iG p xs)=xs.any p
 | []=>rfl
 | x::xs=>by
  exact By
theorem Mg{α:Type}{p:α->Bool}{xs:List α}{i:Nat}(h:i<xs.length)(hp:p xs[i]=true):xs.any p=true:=List.any_eq_true.2 ⟨xs[i],ZZ h,hp⟩
theorem any_none{α:Type}{p:α->Bool}{xs:List α}(h:∀ j (hj:j<xs.length),p xs[j]=false):xs.any p=false:=by
 exact CO
def fS{α:Type}(f:α->Int)(b:List α)(i:Nat):Int:=((b.take i).map f).sum
theorem oo{α:Type}(f:α->Int)(b:List α):fS f b 0=0:=by simp[fS]
theorem gF{α:Type}(f:α->Int)(b:List α)(i:Nat)(h:i<b.length):fS f b (i+1)=fS f b i+f b[i]:=by
 unfold fS
 rw[<- Y1 h,ZG,List.sum_append]
 simp
theorem Ga{α:Type}{f:α->Int}{b:List α}{A B:Int}(h:∀ t∈b,A<=f t∧f t<=B):∀ i,i<=b.length->A*i<=fS f b i∧fS f b i<=B*i
 | 0,_=>by rw[oo];simp
 | i+1,hi=>by
  have ih:=Ga h i (by omega)
  have h1:=h b[i] (ZZ _)
  rw[gF f b i hi]
  have e1:A*((i+1:Nat):Int)=A*i+A:=by rw[show((i+1:Nat):Int)=(i:Int)+1 by omega,Int.mul_add,Int.mul_one]
  have e2:B*((i+1:Nat):Int)=B*i+B:=by rw[show((i+1:Nat):Int)=(i:Int)+1 by omega,Int.mul_add,Int.mul_one]
  rw[e1,e2]
  omega
theorem I8{a b A B:Int}(hA: -A<=a∧a<=A)(hb:0<=b∧b<=B): -(B*A)<=b*a∧b*a<=B*A:=by
 have Y2:0<=A:=by omega
 have h1:b*a<=b*A:=ZY hA.2 hb.1
 have h2:b*A<=B*A:=Int.mul_le_mul_of_nonneg_right hb.2 Y2
 have h3:b*(-A)<=b*a:=ZY hA.1 hb.1
 rw[Int.mul_neg] at h3
 omega
def pF(f:Nat->Int):Nat->Int
 | 0=>0
 | n+1=>if n=0 then f 0 else min (pF f n) (f n)
def ri(f:Nat->Int):Nat->Int
 | 0=>0
 | n+1=>if n=0 then f 0 else max (ri f n) (f n)
theorem Mr{f:Nat->Int}{A B:Int}:∀ n,0<n->(∀ j,j<n->A<=f j∧f j<=B)->A<=pF f n∧pF f n<=B
 | 0,h,_=>by omega
 | n+1,_,h=>by
  have h1:=h n (by omega)
  simp only[pF]
  split
  ·rename_i h0;exact h 0 (by omega)
  ·rename_i h0
   have ih:=Mr n (by omega) (fun j hj=>h j (by omega))
   omega
theorem Nq{f:Nat->Int}{A B:Int}:∀ n,0<n->(∀ j,j<n->A<=f j∧f j<=B)->A<=ri f n∧ri f n<=B
 | 0,h,_=>by omega
 | n+1,_,h=>by
  have h1:=h n (by omega)
  simp only[ri]
  split
  ·rename_i h0;exact h 0 (by omega)
  ·rename_i h0
   have ih:=Nq n (by omega) (fun j hj=>h j (by omega))
   omega
theorem pP{α:Type}(f:α->Int)(d:List α)(m:α):((d++[m]).map f).sum=(d.map f).sum+f m:=by simp
theorem yI{α:Type}(f:α->Int):∀(r:List α) (j:Nat) (m:α),r[j]? =some m->(r.map f).sum=f m+((r.eraseIdx j).map f).sum
 | [],j,m,h=>by simp at h
 | x::r,0,m,h=>by simp at h;subst h;simp
 | x::r,j+1,m,h=>by
  have ih:=yI f r j m (by simpa using h)
  simp only[Zx,Qi,List.eraseIdx_cons_succ,ih]
  omega
theorem lE{α:Type}{f:α->Int}:∀{r:List α},(∀ m∈r,0<=f m)->0<=(r.map f).sum
 | [],_=>by simp
 | x::r,h=>by
  have h1:=h x (by simp)
  have h2:=lE (f:=f) (r:=r) (fun m hm=>h m (by simp[hm]))
  simp only[Zx,Qi]
  omega
theorem wK{α:Type}{f:α->Int}:∀{r:List α} {x:α},(∀ m∈r,0<=f m)->x∈r->f x<=(r.map f).sum
 | [],_,_,h=>by cases h
 | y::r,x,h,hx=>by
  have h1:=h y (by simp)
  have h2:=lE (f:=f) (r:=r) (fun m hm=>h m (by simp[hm]))
  simp only[Zx,Qi]
  rcases Zr.1 hx with rfl | hx
  ·omega
  ·have:=wK (f:=f) (fun m hm=>h m (by simp[hm])) hx
   omega
theorem sC{α:Type}{f g:α->Int}{X:Int}:∀{r:List α},(∀ m∈r,-(X*g m)<=f m∧f m<=X*g m)-> -(X*(r.map g).sum)<=(r.map f).sum∧(r.map f).sum<=X*(r.map g).sum
 | [],_=>by simp
 | x::r,h=>by
  have h1:=h x (by simp)
  have h2:=sC (r:=r) (fun m hm=>h m (by simp[hm]))
  simp only[Zx,Qi,Int.mul_add]
  omega
def fV(f:Nat->Int):Nat->Int
 | 0=>0
 | n+1=>fV f n+f n
theorem UO{w c l:Int}(h:kq w c l):0<=kH w c l∧kH w c l<=1000000000:=by
 obtain⟨hw,hc,hl⟩:=h
 have h1:0<=(1000 - c)*(1000 - l)∧(1000 - c)*(1000 - l)<=(1000 - c)*1000:=
  ⟨Int.mul_nonneg (by omega) (by omega),ZY (by omega) (by omega)⟩
 have h2:=JB (a:=1000 - w) (A:=1000) (b:=c*1000+(1000 - c)*(1000 - l)) (B:=1000000) ⟨by omega,by omega⟩ ⟨by omega,by omega⟩
 have e:kH w c l=(1000 - w)*(c*1000+(1000 - c)*(1000 - l)):=by
  unfold kH tj o6
  rw[Int.mul_add,Int.mul_assoc,Int.mul_assoc]
 rw[e]
 omega
theorem KP{n w c l:Int}(hn:0<=n∧n<=1000)(h:kq w c l): -1000000000000<=bJ n w c l∧bJ n w c l<=1000000000000:=by
 have h1:=rH h
 have h2:=JB (a:=n) (A:=1000) hn (UO h)
 unfold bJ;omega
open Go.AF
structure Sp where
 lo:Int
 hi:Int
structure Sk where
 w:Sp
 c:Sp
 l:Sp
structure Tk where
 s:Int
 m:Sp
def Sp.cells(s:Sp):List PV:=[.int .i64 s.lo,.int .i64 s.hi]
def Sk.cells(s:Sk):List PV:=[.int .i64 s.w.lo,.int .i64 s.w.hi,.int .i64 s.c.lo,.int .i64 s.c.hi,.int .i64 s.l.lo,.int .i64 s.l.hi]
def Tk.cells(t:Tk):List PV:=[.int .i64 t.s,.int .i64 t.m.lo,.int .i64 t.m.hi]
def Sp.ok(s:Sp)(lo hi:Int):Bool:=decide (lo<=s.lo)&&decide (s.lo<=s.hi)&&decide (s.hi<=hi)
def Sk.bad(s:Sk):Bool:= !s.w.ok 0 900|| !s.c.ok 0 1000|| !s.l.ok 0 900
def Tk.bad(n:Nat)(t:Tk):Bool:= !(decide (0<=t.s)&&decide (t.s<=(n:Int) - 1))|| !t.m.ok 1 100000
def bZ(l:List Sk):PV:= .is (l.flatMap Sk.cells) l.length
def vS(b:List Tk):PV:= .is (b.flatMap Tk.cells) b.length
def aF(l:List Sk):Bool:=decide ((l.length:Int)<=8)&& !l.any Sk.bad
def iE(n:Nat)(b:List Tk):Bool:=decide (1<=(b.length:Int))&&decide ((b.length:Int)<=8)&& !b.any (Tk.bad n)
def okB(b:List Tk):Prop:=b.length<=8∧∀ t∈b,0<=t.m.lo∧t.m.lo<=t.m.hi∧t.m.hi<=100000
def yQ(k:Int)(t:Tk):Int:=if t.s=k then t.m.lo else 0
def x8(k:Int)(t:Tk):Int:=if t.s=k then t.m.hi else 0
theorem Ru{b:List Tk}(h:okB b)(k:Int)(i:Nat)(hi:i<=b.length):0<=fS (yQ k) b i∧fS (yQ k) b i<=800000:=by
 have:=Ga (f:=yQ k) (b:=b) (A:=0) (B:=100000) (fun t ht=>by have:=h.2 t ht;unfold yQ;split <;> omega) i hi
 have:=h.1
 omega
theorem RC{b:List Tk}(h:okB b)(k:Int)(i:Nat)(hi:i<=b.length):0<=fS (x8 k) b i∧fS (x8 k) b i<=800000:=by
 have:=Ga (f:=x8 k) (b:=b) (A:=0) (B:=100000) (fun t ht=>by have:=h.2 t ht;unfold x8;split <;> omega) i hi
 have:=h.1
 omega
def Sk.cw(s:Sk)(j:Nat):Int:=if (j:Int).tmod 2=1 then s.w.hi else s.w.lo
def Sk.cc(s:Sk)(j:Nat):Int:=if ((j:Int).tdiv 2).tmod 2=1 then s.c.hi else s.c.lo
def Sk.cl(s:Sk)(j:Nat):Int:=if (j:Int).tdiv 4=1 then s.l.hi else s.l.lo
def Sk.sw(s:Sk)(i:Nat):Int:=if (i:Int)=0 then s.w.lo else s.w.hi
def Sk.sc(s:Sk)(i:Nat):Int:=if (i:Int)=0 then s.c.lo else s.c.hi
def Sk.sl(s:Sk)(i:Nat):Int:=if (i:Int)=0 then s.l.lo else s.l.hi
def sx(s:Sk)(j:Nat):PV:= .agg [.int .i64 (s.sw (j / 4)),.int .i64 (s.sc (j / 2%2)),.int .i64 (s.sl (j%2))]
def lA(s:Sk):List (List V):=(List.range 8).map fun j=>[.p (sx s j)]
theorem C9(s:Sk){i j k:Nat}(hi:i<2)(hj:j<2)(hk:k<2):(lA s)[4*i+2*j+k]? =some [.p (.agg [.int .i64 (s.sw i),.int .i64 (s.sc j),.int .i64 (s.sl k)])]:=by
 have h:4*i+2*j+k<8:=by omega
 have e1:(4*i+2*j+k) / 4=i:=by omega
 have e2:(4*i+2*j+k) / 2%2=j:=by omega
 have e3:(4*i+2*j+k)%2=k:=by omega
 simp[lA,h,sx,e1,e2,e3]
def storeCells(s:Sk)(m:Sp):List PV:=s.cells++m.cells
def aU:Sk:=⟨⟨0,0⟩,⟨0,0⟩,⟨0,0⟩⟩
def dR:Sk×Sp:=(aU,⟨0,0⟩)
def tS(a:Sk×Sp):PV:= .agg (storeCells a.1 a.2)
def fM(l:List Sk)(ms:List (Int×(Sk×Sp)))(t:Tk):List (Int×(Sk×Sp)):=
 aS t.s (l[t.s.toNat]?.getD aU,⟨((cB t.s ms).getD dR).2.lo+t.m.lo,((cB t.s ms).getD dR).2.hi+t.m.hi⟩) ms
def bC(l:List Sk)(b:List Tk)(i:Nat):List (Int×(Sk×Sp)):=(b.take i).foldl (fM l) []
theorem gC(l:List Sk)(b:List Tk)(i:Nat)(h:i<b.length):bC l b (i+1)=fM l (bC l b i) b[i]:=by
 unfold bC
 rw[<- Y1 h,R9]
 rfl
theorem oU(l:List Sk)(b:List Tk)(k:Int):∀ i,i<=b.length->((cB k (bC l b i)).getD dR).2=⟨fS (yQ k) b i,fS (x8 k) b i⟩
 | 0,_=>by simp[bC,cB,oo,dR]
 | i+1,hi=>by
  have ih:=oU l b k i (by omega)
  rw[gC l b i hi,fM,kD,gF _ b i hi,gF _ b i hi]
  by_cases h:k=b[i].s
  ·have h1:=ih
   rw[if_pos h]
   simp only[LR,yQ,x8,h,if_true]
   rw[h] at h1
   rw[h1]
  ·rw[if_neg h,ih]
   simp[yQ,x8,Ne.symm h]
def NY(n:Nat)(b:List Tk):Prop:=∀ t∈b,0<=t.s∧t.s<(n:Int)
def mq(F:Sk->Nat->Int)(m:Int×(Sk×Sp)):Int:=pF (fun j=>min (m.2.2.lo*F m.2.1 j) (m.2.2.hi*F m.2.1 j)) 8
def me(F:Sk->Nat->Int)(m:Int×(Sk×Sp)):Int:=ri (fun j=>max (m.2.2.lo*F m.2.1 j) (m.2.2.hi*F m.2.1 j)) 8
def xu(m:Int×(Sk×Sp)):Int:=m.2.2.hi
theorem VO{lo hi f:Int}(hm:0<=lo∧lo<=hi)(hf: -2000000000000<=f∧f<=2000000000000):(-(2000000000000*hi)<=lo*f∧lo*f<=2000000000000*hi)∧(-(2000000000000*hi)<=hi*f∧hi*f<=2000000000000*hi):=by
 have h1:=I8 (A:=2000000000000) (B:=lo) (b:=lo) hf ⟨hm.1,At _⟩
 have h2:=I8 (A:=2000000000000) (B:=hi) (b:=hi) hf ⟨by omega,At _⟩
 omega
theorem LK{F:Sk->Nat->Int}{m:Int×(Sk×Sp)}(hm:0<=m.2.2.lo∧m.2.2.lo<=m.2.2.hi)(hF:∀ j,j<8-> -2000000000000<=F m.2.1 j∧F m.2.1 j<=2000000000000): -(2000000000000*xu m)<=mq F m∧mq F m<=2000000000000*xu m:=
 Mr 8 (by omega) (fun j hj=>by have:=VO hm (hF j hj);unfold xu;omega)
theorem GR{F:Sk->Nat->Int}{m:Int×(Sk×Sp)}(hm:0<=m.2.2.lo∧m.2.2.lo<=m.2.2.hi)(hF:∀ j,j<8-> -2000000000000<=F m.2.1 j∧F m.2.1 j<=2000000000000): -(2000000000000*xu m)<=me F m∧me F m<=2000000000000*xu m:=
 Nq 8 (by omega) (fun j hj=>by have:=VO hm (hF j hj);unfold xu;omega)
structure tD where
 d:List (Int×(Sk×Sp))
 r:List (Int×(Sk×Sp))
 last:Option (Int×(Sk×Sp))
def tD.ok(ms:List (Int×(Sk×Sp)))(g:tD):Prop:=(∀ f:Int×(Sk×Sp)->Int,(g.d.map f).sum+(g.r.map f).sum=(ms.map f).sum)∧(∀ m∈g.d,m∈ms)∧(∀ m∈g.r,m∈ms)
theorem tD.Hl{ms d r:List (Int×(Sk×Sp))}{l:Option (Int×(Sk×Sp))}{j:Nat}{m:Int×(Sk×Sp)}(h:tD.ok ms ⟨d,r,l⟩)(hj:r[j]? =some m):tD.ok ms ⟨d++[m],r.eraseIdx j,some m⟩:=by
 obtain⟨h1,h2,h3⟩:=h
 refine⟨fun f=> ?_,fun x hx=> ?_,fun x hx=>h3 x (List.mem_of_mem_eraseIdx hx)⟩
 ·have:=h1 f
  have e:=yI f r j m hj
  simp only at this ⊢
  rw[pP]
  omega
 ·rcases Zp.1 hx with hx | hx
  ·exact h2 x hx
  ·simp at hx;subst hx;exact h3 x (Zh hj)
def gr(s:Sk):Prop:=(0<=s.w.lo∧s.w.lo<=s.w.hi∧s.w.hi<=900)∧(0<=s.c.lo∧s.c.lo<=s.c.hi∧s.c.hi<=1000)∧(0<=s.l.lo∧s.l.lo<=s.l.hi∧s.l.hi<=900)
def okM(ms:List (Int×(Sk×Sp))):Prop:=(∀ m∈ms,0<=m.2.2.lo∧m.2.2.lo<=m.2.2.hi)∧(ms.map xu).sum<=800000∧∀ m∈ms,gr m.2.1
theorem gr.state{s:Sk}(h:gr s)(j:Nat):kq (s.sw (j / 4)) (s.sc (j / 2%2)) (s.sl (j%2)):=by
 unfold gr at h
 unfold kq Sk.sw Sk.sc Sk.sl
 refine⟨?_,?_,?_⟩ <;> split <;> omega
def KE(f:Int->Int->Int->Int)(s:Sk)(j:Nat):Int:=f (s.sw (j / 4)) (s.sc (j / 2%2)) (s.sl (j%2))
def ES(b:List Tk)(i:Nat):Int:=fS (yQ (i:Int)) b b.length
def ER(b:List Tk)(i:Nat):Int:=fS (x8 (i:Int)) b b.length
def C3(l:List Sk):Prop:=l.length<=8∧∀ s∈l,gr s
theorem wB{b:List Tk}(h:okB b)(i:Nat):(0<=ES b i∧ES b i<=800000)∧(0<=ER b i∧ER b i<=800000):=⟨Ru h i _ (Ze _),RC h i _ (Ze _)⟩
theorem gr.rA{s:Sk}(h:gr s)(j:Nat):kq (s.cw j) (s.cc j) (s.cl j):=by
 unfold gr at h
 unfold kq Sk.cw Sk.cc Sk.cl
 refine⟨?_,?_,?_⟩ <;> split <;> omega
def PO(n:Int)(s:Sk)(k:Nat):Int:=1000*ofF 1 (s.cw k) (s.cc k) (s.cl k) - n*ofF 4 (s.cw k) (s.cc k) (s.cl k)
def Uw(l:List Sk)(b:List Tk)(n:Int)(i k:Nat):Int:=min (ES b i*PO n (l[i]?.getD aU) k) (ER b i*PO n (l[i]?.getD aU) k)
def Un(l:List Sk)(b:List Tk)(n:Int)(i k:Nat):Int:=max (ES b i*PO n (l[i]?.getD aU) k) (ER b i*PO n (l[i]?.getD aU) k)
def Rz(l:List Sk)(b:List Tk)(n:Int)(i:Nat):Int:=pF (Uw l b n i) 8
def Rn(l:List Sk)(b:List Tk)(n:Int)(i:Nat):Int:=ri (Un l b n i) 8
def cj:Nat:=9223372036854775807
set_option maxRecDepth 100000
set_option maxHeartbeats 4000000
theorem cv(n lo hi:Int):Pure Tryz.prog 50 [.int .i64 n,.int .i64 lo,.int .i64 hi] (.bool (decide (lo<=n)&&decide (n<=hi))):=by
 refine Kf (N:=15) Tryz.func50 ?_
 exact El
theorem gE(a b lo hi:Int):Pure Tryz.prog 52 [.agg [.int .i64 a,.int .i64 b],.int .i64 lo,.int .i64 hi] (.bool (decide (lo<=a)&&decide (a<=b)&&decide (b<=hi))):=by
 refine Kf (N:=24) Tryz.func52 ?_
 exact Cn
theorem qm(a b lo hi:Int):Pure Tryz.prog 48 [.agg [.int .i64 a,.int .i64 b],.int .i64 lo,.int .i64 hi] (.bool (decide (lo<=a)&&decide (a<=b)&&decide (b<=hi))):=by
 refine Kf (N:=24) Tryz.func48 ?_
 exact Cn
theorem K6(w c l:Int)(hs:kq w c l):Pure Tryz.prog 209 [.agg [.int .i64 w,.int .i64 c,.int .i64 l]] (.int .i64 (1000 - w)):=by
 obtain⟨hw,hc,hl⟩:=id hs
 refine Kf (N:=6) Tryz.func209 ?_
 iterate 9 refine af ?_
 refine Kc (aa.fE rfl rfl rfl (aG ?_)) ?_
 ·omega
 exact cQ
theorem HT(w c l:Int)(hs:kq w c l):Pure Tryz.prog 199 [.agg [.int .i64 w,.int .i64 c,.int .i64 l]] (.int .i64 (tj w c l)):=by
 obtain⟨hw,hc,hl⟩:=id hs
 have b1:=RW hs
 refine Kf (N:=9) Tryz.func199 ?_
 iterate 6 refine af ?_
 refine aI.aB 7 mixed (by kernel_rfl) (by decide) ?_
 refine af ?_
 refine Kq (Kp (K6 _ _ _ ?_)) ?_
 ·assumption
 iterate 2 refine af ?_
 refine Kq (aa.mul rfl rfl rfl (aG ?_)) ?_
 ·omega
 refine Kq (aa.mul rfl rfl rfl (aG ?_)) ?_
 ·omega
 exact ld
theorem KB(w c l:Int)(hs:kq w c l):Pure Tryz.prog 210 [.agg [.int .i64 w,.int .i64 c,.int .i64 l]] (.int .i64 (o6 w c l)):=by
 obtain⟨hw,hc,hl⟩:=id hs
 have b1:=V2 hs
 have b2:=zn hs
 unfold o6 at b2
 refine Kf (N:=13) Tryz.func210 ?_
 iterate 6 refine af ?_
 refine aI.aB 11 mixed (by kernel_rfl) (by decide) ?_
 refine af ?_
 refine Kq (Kp (K6 _ _ _ ?_)) ?_
 ·assumption
 iterate 2 refine af ?_
 refine Kq (aa.fE rfl rfl rfl (aG ?_)) ?_
 ·omega
 refine Kq (aa.mul rfl rfl rfl (aG ?_)) ?_
 ·omega
 iterate 2 refine af ?_
 refine Kq (aa.fE rfl rfl rfl (aG ?_)) ?_
 ·omega
 refine Kq (aa.mul rfl rfl rfl (aG ?_)) ?_
 ·omega
 exact ld
theorem OS(w c l:Int)(hs:kq w c l):Pure Tryz.prog 200 [.agg [.int .i64 w,.int .i64 c,.int .i64 l]] (.int .i64 (kH w c l)):=by
 obtain⟨hw,hc,hl⟩:=id hs
 have b1:=rH hs
 have b2:=zn hs
 refine Kf (N:=8) Tryz.func200 ?_
 iterate 6 refine af ?_
 refine aI.aB 6 mixed (by kernel_rfl) (by decide) ?_
 refine af ?_
 refine Kq (Kp (HT _ _ _ ?_)) ?_
 ·assumption
 refine af ?_
 refine Kq (Kp (KB _ _ _ ?_)) ?_
 ·assumption
 refine Kq (aa.add rfl rfl rfl (aG ?_)) ?_
 ·omega
 exact ld
theorem PB(n w c l:Int)(hn:0<=n∧n<=1000)(hs:kq w c l):Pure Tryz.prog 165 [.agg [.int .i64 w,.int .i64 c,.int .i64 l],.int .i64 n] (.int .i64 (bJ n w c l)):=by
 obtain⟨hw,hc,hl⟩:=id hs
 have b1:=rH hs
 have b2:=MH hs
 have b3:=NS hn hs
 refine Kf (N:=13) Tryz.func165 ?_
 iterate 6 refine af ?_
 refine aI.aB 9 mixed (by kernel_rfl) (by decide) ?_
 refine af ?_
 refine Kq (Kp (HT _ _ _ ?_)) ?_
 ·assumption
 refine Kq (aa.mul rfl rfl rfl (aG ?_)) ?_
 ·omega
 iterate 2 refine af ?_
 refine Kq (Kp (OS _ _ _ ?_)) ?_
 ·assumption
 refine Kq (aa.mul rfl rfl rfl (aG ?_)) ?_
 ·omega
 refine Kq (aa.fE rfl rfl rfl (aG ?_)) ?_
 ·omega
 exact ld
def Jb(f:Nat->Int):Nat->Int
 | 0=>f 0
 | n+1=>min (Jb f n) (f n)
theorem Bj{K α:Type}[DecidableEq K]{k:K}{v:α}:∀{ms:List (K×α)},cB k ms=some v->(k,v)∈ms
 | [],h=>by simp[cB] at h
 | m::r,h=>by
  simp only[cB] at h
  split at h
  ·rename_i hk
   simp at h
   subst h;subst hk
   simp
  ·exact Zg _ (Bj h)
theorem Dh{K α:Type}[DecidableEq K]{k:K}{a:α}{x:K×α}:∀{ms:List (K×α)},x∈aS k a ms->x=(k,a)∨x∈ms
 | [],h=>by simp[aS] at h;exact .inl h
 | m::r,h=>by
  simp only[aS] at h
  split at h
  ·rcases Zr.1 h with h | h
   ·exact .inl h
   ·exact .inr (Zg _ h)
  ·rcases Zr.1 h with h | h
   ·exact .inr (by simp[h])
   ·rcases Dh h with h | h
    ·exact .inl h
    ·exact .inr (Zg _ h)
theorem uT{K α:Type}[DecidableEq K](f:α->Int)(k:K)(a z:α)(hz:f z=0):∀ ms:List (K×α),((aS k a ms).map fun m=>f m.2).sum=(ms.map fun m=>f m.2).sum - f ((cB k ms).getD z)+f a
 | []=>by simp[aS,cB,hz]
 | m::r=>by
  simp only[aS,cB]
  split
  ·rename_i hk
   simp
   omega
  ·have ih:=uT f k a z hz r
   simp only[Zx,Qi,ih]
   omega
theorem lU{f g:Nat->Int}:∀ n,(∀ j,j<n->f j=g j)->fV f n=fV g n
 | 0,_=>rfl
 | n+1,h=>by simp only[fV];rw[lU n (fun j hj=>h j (by omega)),h n (by omega)]
theorem jd{f:Nat->Int}:∀ n,(∀ j,j<n->f j=0)->fV f n=0
 | 0,_=>rfl
 | n+1,h=>by simp only[fV];rw[jd n (fun j hj=>h j (by omega)),h n (by omega)];rfl
theorem rN{f g:Nat->Int}{k:Nat}:∀ n,k<n->(∀ j,j<n->j≠k->g j=f j)->fV g n=fV f n - f k+g k
 | 0,h,_=>by omega
 | n+1,h,hj=>by
  exact DI
theorem vK(l:List Sk)(b:List Tk)(k:Int)(v:Sk×Sp):∀ i,i<=b.length->cB k (bC l b i)=some v->v.1=l[k.toNat]?.getD aU
 | 0,_,h=>by simp[bC,cB] at h
 | i+1,hi,h=>by
  rw[gC l b i hi,fM,kD] at h
  split at h
  ·rename_i hk
   simp at h
   subst h
   simp[hk]
  ·exact vK l b k v i (by omega) h
theorem vF{l:List Sk}{b:List Tk}(hl:C3 l)(hb:okB b)(ht:NY l.length b):∀ i,i<=b.length->∀ m∈bC l b i,(0<=m.2.2.lo∧m.2.2.lo<=m.2.2.hi)∧gr m.2.1
 | 0,_,m,h=>by simp[bC] at h
 | i+1,hi,m,h=>by
  have ih:=vF hl hb ht i (by omega)
  rw[gC l b i hi,fM] at h
  rcases Dh h with h | h
  ·subst h
   have h1:=hb.2 b[i] (ZZ _)
   have h2:=ht b[i] (ZZ _)
   have h3:b[i].s.toNat<l.length:=by omega
   have h4:0<=((cB b[i].s (bC l b i)).getD dR).2.lo∧((cB b[i].s (bC l b i)).getD dR).2.lo<=((cB b[i].s (bC l b i)).getD dR).2.hi:=by
    cases hg:cB b[i].s (bC l b i) with
    | none=>simp[dR]
    | some v=>have:=(ih _ (Bj hg)).1;simpa using this
   refine⟨⟨by dsimp only;omega,by dsimp only;omega⟩,?_⟩
   dsimp only
   rw[Zb h3,LR]
   exact hl.2 _ (ZZ _)
  ·exact ih m h
theorem jE{l:List Sk}{b:List Tk}(ht:NY l.length b)(g:Sk->Int->Int->Int)(h0:∀ s,g s 0 0=0):∀ i,i<=b.length->
    ((bC l b i).map fun m=>g m.2.1 m.2.2.lo m.2.2.hi).sum=fV (fun j=>g (l[j]?.getD aU) (fS (yQ (j:Int)) b i) (fS (x8 (j:Int)) b i)) l.length
 | 0,_=>by
  rw[jd]
  ·simp[bC]
  ·intro j _
   simp only[oo]
   exact h0 _
 | i+1,hi=>by
  have ih:=jE ht g h0 i (by omega)
  have h2:=ht b[i] (ZZ _)
  have h3:b[i].s.toNat<l.length:=by omega
  have e0:((b[i].s.toNat:Nat):Int)=b[i].s:=by omega
  rw[gC l b i hi,fM,uT (fun v:Sk×Sp=>g v.1 v.2.lo v.2.hi) b[i].s _ dR (by simp[dR,h0]),ih,
   rN (f:=fun j:Nat=>g (l[j]?.getD aU) (fS (yQ (j:Int)) b i) (fS (x8 (j:Int)) b i)) (g:=fun j:Nat=>g (l[j]?.getD aU) (fS (yQ (j:Int)) b (i+1)) (fS (x8 (j:Int)) b (i+1))) l.length h3 (fun j hj hn=>by
    have hne:¬ b[i].s=(j:Int):=by omega
    simp only[gF _ b i hi,yQ,x8,if_neg hne,Vg])]
  have hg:=oU l b b[i].s i (by omega)
  have e1:g ((cB b[i].s (bC l b i)).getD dR).1 ((cB b[i].s (bC l b i)).getD dR).2.lo ((cB b[i].s (bC l b i)).getD dR).2.hi=g (l[b[i].s.toNat]?.getD aU) (fS (yQ b[i].s) b i) (fS (x8 b[i].s) b i):=by
   cases hm:cB b[i].s (bC l b i) with
   | none=>
    rw[hm] at hg
    simp only[Option.getD_none,dR] at hg ⊢
    have q1:fS (yQ b[i].s) b i=0:=(congrArg Sp.lo hg).symm
    have q2:fS (x8 b[i].s) b i=0:=(congrArg Sp.hi hg).symm
    rw[q1,q2,h0,h0]
   | some v=>
    rw[hm] at hg
    simp only[LR] at hg ⊢
    rw[vK l b _ v i (by omega) hm,hg]
  dsimp only
  rw[e1,e0,hg,gF _ b i hi,gF _ b i hi]
  simp only[yQ,x8,if_true]
theorem yT{l:List Sk}{b:List Tk}(hb:okB b):∀ i,i<=b.length->((bC l b i).map xu).sum<=100000*(i:Int)
 | 0,_=>by simp[bC]
 | i+1,hi=>by
  have ih:=yT (l:=l) hb i (by omega)
  have h1:=hb.2 b[i] (ZZ _)
  have e:=uT (fun v:Sk×Sp=>v.2.hi) b[i].s (l[b[i].s.toNat]?.getD aU,⟨((cB b[i].s (bC l b i)).getD dR).2.lo+b[i].m.lo,((cB b[i].s (bC l b i)).getD dR).2.hi+b[i].m.hi⟩) dR rfl (bC l b i)
  rw[gC l b i hi,fM]
  unfold xu at ih ⊢
  rw[e]
  dsimp only
  omega
theorem Jk{l:List Sk}{b:List Tk}(hl:C3 l)(hb:okB b)(ht:NY l.length b):okM (bC l b b.length):=by
 have h:=vF hl hb ht b.length (Ze _)
 refine⟨fun m hm=>(h m hm).1,?_,fun m hm=>(h m hm).2⟩
 have:=yT (l:=l) hb b.length (Ze _)
 have:=hb.1
 omega
theorem zl(f:Nat->Int):∀ n j,j<n->pF f n<=f j
 | 0,j,h=>by omega
 | n+1,j,h=>by
  simp only[pF]
  split
  ·rename_i h0;subst h0;obtain rfl:j=0:=by omega
   exact At _
  ·rcases On.1 h with h1 | rfl
   ·have:=zl f n j h1;omega
   ·omega
theorem ze(f:Nat->Int):∀ n,0<n->∃ j,j<n∧pF f n=f j
 | 0,h=>by omega
 | n+1,_=>by
  simp only[pF]
  split
  ·rename_i h0;exact⟨0,by omega,rfl⟩
  ·obtain⟨j,h1,h2⟩:=ze f n (by omega)
   rcases Int.le_total (pF f n) (f n) with h | h
   ·exact⟨j,by omega,by omega⟩
   ·exact⟨n,by omega,by omega⟩
theorem zv(f:Nat->Int):∀ n j,j<n->f j<=ri f n
 | 0,j,h=>by omega
 | n+1,j,h=>by
  simp only[ri]
  split
  ·rename_i h0;subst h0;obtain rfl:j=0:=by omega
   exact At _
  ·rcases On.1 h with h1 | rfl
   ·have:=zv f n j h1;omega
   ·omega
theorem zU(f:Nat->Int):∀ n,0<n->∃ j,j<n∧ri f n=f j
 | 0,h=>by omega
 | n+1,_=>by
  simp only[ri]
  split
  ·rename_i h0;exact⟨0,by omega,rfl⟩
  ·obtain⟨j,h1,h2⟩:=zU f n (by omega)
   rcases Int.le_total (f n) (ri f n) with h | h
   ·exact⟨j,by omega,by omega⟩
   ·exact⟨n,by omega,by omega⟩
theorem S8{f g:Nat->Int}{n:Nat}(hn:0<n)(h1:∀ j,j<n->∃ i,i<n∧g i<=f j)(h2:∀ j,j<n->∃ i,i<n∧f i<=g j):pF f n=pF g n:=by
 obtain⟨j,hj,ej⟩:=ze f n hn
 obtain⟨k,hk,ek⟩:=ze g n hn
 obtain⟨i,hi,le1⟩:=h1 j hj
 obtain⟨i',hi',le2⟩:=h2 k hk
 have:=zl g n i hi
 have:=zl f n i' hi'
 omega
theorem Tw{f g:Nat->Int}{n:Nat}(hn:0<n)(h1:∀ j,j<n->∃ i,i<n∧f j<=g i)(h2:∀ j,j<n->∃ i,i<n∧g j<=f i):ri f n=ri g n:=by
 obtain⟨j,hj,ej⟩:=zU f n hn
 obtain⟨k,hk,ek⟩:=zU g n hn
 obtain⟨i,hi,le1⟩:=h1 j hj
 obtain⟨i',hi',le2⟩:=h2 k hk
 have:=zv g n i hi
 have:=zv f n i' hi'
 omega
def sig(k:Nat):Nat:=4*(k%2)+2*(k / 2%2)+k / 4%2
theorem rV(k:Nat):sig k<8:=by unfold sig;omega
theorem HZ:∀ k,k<8->sig (sig k)=k:=by decide
theorem HD(f:Int->Int->Int->Int)(s:Sk):∀ k,k<8->KE f s (sig k)=f (s.cw k) (s.cc k) (s.cl k)
 | 0,_=>rfl | 1,_=>rfl | 2,_=>rfl | 3,_=>rfl | 4,_=>rfl | 5,_=>rfl | 6,_=>rfl | 7,_=>rfl
 | n+8,h=>by omega
theorem Pd(h:Nat->Int)(g:Nat->Int)(e:∀ k,k<8->h (sig k)=g k):pF h 8=pF g 8:=
 S8 (by omega) (fun j hj=>⟨sig j,rV j,by rw[<- e _ (rV j),HZ j hj];exact At _⟩) (fun j hj=>⟨sig j,rV j,by rw[e j hj];exact At _⟩)
theorem PS(h:Nat->Int)(g:Nat->Int)(e:∀ k,k<8->h (sig k)=g k):ri h 8=ri g 8:=
 Tw (by omega) (fun j hj=>⟨sig j,rV j,by rw[<- e _ (rV j),HZ j hj];exact At _⟩) (fun j hj=>⟨sig j,rV j,by rw[e j hj];exact At _⟩)
theorem sN(c:Int):∀ n,0<n->pF (fun _=>c) n=c
 | 0,h=>by omega
 | n+1,_=>by
  simp only[pF]
  split
  ·rfl
  ·rw[sN c n (by omega)];omega
theorem sP(c:Int):∀ n,0<n->ri (fun _=>c) n=c
 | 0,h=>by omega
 | n+1,_=>by
  simp only[ri]
  split
  ·rfl
  ·rw[sP c n (by omega)];omega
def EP(f:Int->Int->Int->Int)(s:Sk)(lo hi:Int):Int:=pF (fun k=>min (lo*f (s.cw k) (s.cc k) (s.cl k)) (hi*f (s.cw k) (s.cc k) (s.cl k))) 8
def FQ(f:Int->Int->Int->Int)(s:Sk)(lo hi:Int):Int:=ri (fun k=>max (lo*f (s.cw k) (s.cc k) (s.cl k)) (hi*f (s.cw k) (s.cc k) (s.cl k))) 8
theorem AQ(f:Int->Int->Int->Int)(s:Sk):EP f s 0 0=0:=by
 unfold EP
 simp only[Int.zero_mul,Int.min_self]
 exact sN 0 8 (by omega)
theorem Ed(f:Int->Int->Int->Int)(s:Sk):FQ f s 0 0=0:=by
 unfold FQ
 simp only[Int.zero_mul,Int.max_self]
 exact sP 0 8 (by omega)
theorem L7(f:Int->Int->Int->Int)(m:Int×(Sk×Sp)):mq (KE f) m=EP f m.2.1 m.2.2.lo m.2.2.hi:=
 Pd _ _ (fun k hk=>by simp only[HD f m.2.1 k hk])
theorem Ir(f:Int->Int->Int->Int)(m:Int×(Sk×Sp)):me (KE f) m=FQ f m.2.1 m.2.2.lo m.2.2.hi:=
 PS _ _ (fun k hk=>by simp only[HD f m.2.1 k hk])
def sLo(f:Int->Int->Int->Int)(l:List Sk)(b:List Tk):Int:=fV (fun i=>EP f (l[i]?.getD aU) (ES b i) (ER b i)) l.length
def sHi(f:Int->Int->Int->Int)(l:List Sk)(b:List Tk):Int:=fV (fun i=>FQ f (l[i]?.getD aU) (ES b i) (ER b i)) l.length
theorem Tt{l:List Sk}{b:List Tk}(ht:NY l.length b)(f:Int->Int->Int->Int):((bC l b b.length).map (mq (KE f))).sum=sLo f l b:=by
 have:=jE ht (EP f) (AQ f) b.length (Ze _)
 unfold sLo ES ER
 rw[<- this]
 congr 1
 exact U4 fun m _=>L7 f m
theorem SF{l:List Sk}{b:List Tk}(ht:NY l.length b)(f:Int->Int->Int->Int):((bC l b b.length).map (me (KE f))).sum=sHi f l b:=by
 have:=jE ht (FQ f) (Ed f) b.length (Ze _)
 unfold sHi ES ER
 rw[<- this]
 congr 1
 exact U4 fun m _=>Ir f m
theorem zi(l:List Sk)(b:List Tk)(n:Int)(i:Nat):Rz l b n i=EP (bJ n) (l[i]?.getD aU) (ES b i) (ER b i):=rfl
theorem zw(l:List Sk)(b:List Tk)(n:Int)(i:Nat):Rn l b n i=FQ (bJ n) (l[i]?.getD aU) (ES b i) (ER b i):=rfl
theorem YM{b:List Tk}(h:okB b)(i:Nat):ES b i<=ER b i:=by
 unfold ES ER
 have gen:∀ n,n<=b.length->fS (yQ (i:Int)) b n<=fS (x8 (i:Int)) b n:=by
  intro n
  induction n with
  | zero=>intro _;simp[oo]
  | succ n ih=>
   intro hn
   have:=ih (by omega)
   have:=h.2 b[n] (ZZ _)
   rw[gF _ b n hn,gF _ b n hn]
   simp only[yQ,x8]
   split <;> omega
 exact gen _ (Ze _)
theorem YW{f:Int->Int->Int->Int}{s:Sk}{lo hi:Int}(h:0<=lo∧lo<=hi)(hf:∀ k,0<=f (s.cw k) (s.cc k) (s.cl k)):EP f s lo hi=lo*Jb (fun k=>f (s.cw k) (s.cc k) (s.cl k)) 8:=by
 have gen:∀ n,0<n->pF (fun k=>min (lo*f (s.cw k) (s.cc k) (s.cl k)) (hi*f (s.cw k) (s.cc k) (s.cl k))) n=lo*Jb (fun k=>f (s.cw k) (s.cc k) (s.cl k)) n:=by
  intro n hn
  have e:∀ k,min (lo*f (s.cw k) (s.cc k) (s.cl k)) (hi*f (s.cw k) (s.cc k) (s.cl k))=lo*f (s.cw k) (s.cc k) (s.cl k):=fun k=>by
   have:=Int.mul_le_mul_of_nonneg_right h.2 (hf k)
   omega
  simp only[e]
  induction n with
  | zero=>omega
  | succ n ih=>
   simp only[pF,Jb]
   split
   ·rename_i h0;subst h0;simp[Jb]
   ·rw[ih (by omega)]
    rcases Int.le_total (Jb (fun k=>f (s.cw k) (s.cc k) (s.cl k)) n) (f (s.cw n) (s.cc n) (s.cl n)) with h1 | h1
    ·rw[Int.min_eq_left h1,Int.min_eq_left (ZY h1 h.1)]
    ·rw[Int.min_eq_right h1,Int.min_eq_right (ZY h1 h.1)]
 exact gen 8 (by omega)
theorem C3.get{l:List Sk}(h:C3 l){i:Nat}(hi:i<l.length):gr (l[i]?.getD aU):=by
 rw[Zb hi,LR]
 exact h.2 _ (ZZ _)
theorem iZ{f g:Nat->Int}:∀ n,(∀ j,j<n->f j<=g j)->fV f n<=fV g n
 | 0,_=>At _
 | n+1,h=>by
  exact Df
theorem A8{f g:Int->Int->Int->Int}{s:Sk}{lo hi:Int}(h:0<=lo∧lo<=hi)(hf:∀ k,f (s.cw k) (s.cc k) (s.cl k)<=g (s.cw k) (s.cc k) (s.cl k)):EP f s lo hi<=EP g s lo hi:=by
 unfold EP
 obtain⟨j,hj,ej⟩:=ze (fun k=>min (lo*g (s.cw k) (s.cc k) (s.cl k)) (hi*g (s.cw k) (s.cc k) (s.cl k))) 8 (by omega)
 have h1:=zl (fun k=>min (lo*f (s.cw k) (s.cc k) (s.cl k)) (hi*f (s.cw k) (s.cc k) (s.cl k))) 8 j hj
 exact Cv
theorem EF{f g:Int->Int->Int->Int}{s:Sk}{lo hi:Int}(h:0<=lo∧lo<=hi)(hf:∀ k,f (s.cw k) (s.cc k) (s.cl k)<=g (s.cw k) (s.cc k) (s.cl k)):FQ f s lo hi<=FQ g s lo hi:=by
 unfold FQ
 obtain⟨j,hj,ej⟩:=zU (fun k=>max (lo*f (s.cw k) (s.cc k) (s.cl k)) (hi*f (s.cw k) (s.cc k) (s.cl k))) 8 (by omega)
 have h1:=zv (fun k=>max (lo*g (s.cw k) (s.cc k) (s.cl k)) (hi*g (s.cw k) (s.cc k) (s.cl k))) 8 j hj
 exact Cv
def EZ(l:List Sk)(b:List Tk)(n:Int):Int:=fV (Rz l b n) l.length
def B5(l:List Sk)(b:List Tk)(n:Int):Int:=fV (Rn l b n) l.length
theorem uU{m n w c l:Int}(h:m<=n)(hs:kq w c l):bJ n w c l<=bJ m w c l:=by
 have:=Int.mul_le_mul_of_nonneg_right h (MH hs).1
 unfold bJ;omega
theorem M7{l:List Sk}{b:List Tk}(hl:C3 l)(hb:okB b){m n:Int}(h:m<=n):EZ l b n<=EZ l b m:=
 iZ _ fun i hi=>by
  rw[zi,zi]
  exact A8 ⟨(wB hb i).1.1,YM hb i⟩ fun k=>uU h ((hl.get hi).rA k)
theorem ME{l:List Sk}{b:List Tk}(hl:C3 l)(hb:okB b){m n:Int}(h:m<=n):B5 l b n<=B5 l b m:=
 iZ _ fun i hi=>by
  rw[zw,zw]
  exact EF ⟨(wB hb i).1.1,YM hb i⟩ fun k=>uU h ((hl.get hi).rA k)
theorem sM(xs:List Sk)(f:PV)(p:Sk->Bool)(hx:xs.length<=cj)(hf:∀ x∈xs,gK Tryz.prog f [.agg x.cells] (.bool (p x))):Pure Tryz.prog 162 [.is (xs.flatMap Sk.cells) xs.length,f] (.int .i64 (iG p xs)):=by
 unfold cj at hx
 refine Kf (N:=19) Tryz.func162 ?_
 iterate 12 refine af ?_
 refine aI.vP [4,5,8,9,10,11,12,13,14,15,16,17,18] (fun g=>[(8,.p (.int .i64 ((g:Nat):Int)))]) (fun g=>g<=xs.length∧∀ j (hj:j<g) (h:g<=xs.length),p (xs[j]'(by omega))=false) (fun g=>xs.length - g) 0 ⟨Zv _,fun j hj=>absurd hj (by omega)⟩ (Sub.cons rfl (Sub.nil)) (fun i hg=> ?_)
 obtain⟨xp,mV⟩:=hg
 iterate 5 refine af ?_
 refine Ki (fun hc0=> ?_) fun hc0=> ?_
 ·iterate 13 refine af ?_
  refine Kc (aa.gQ rfl rfl rfl an xK rfl (fun _=>rfl) (by decide) ?_) ?_
  ·simp at hc0;omega
  exact wu
 ·exact vN
theorem rI(xs:List Tk)(f:PV)(p:Tk->Bool)(hx:xs.length<=cj)(hf:∀ x∈xs,gK Tryz.prog f [.agg x.cells] (.bool (p x))):Pure Tryz.prog 212 [.is (xs.flatMap Tk.cells) xs.length,f] (.int .i64 (iG p xs)):=by
 unfold cj at hx
 refine Kf (N:=19) Tryz.func212 ?_
 iterate 12 refine af ?_
 refine aI.vP [4,5,8,9,10,11,12,13,14,15,16,17,18] (fun g=>[(8,.p (.int .i64 ((g:Nat):Int)))]) (fun g=>g<=xs.length∧∀ j (hj:j<g) (h:g<=xs.length),p (xs[j]'(by omega))=false) (fun g=>xs.length - g) 0 ⟨Zv _,fun j hj=>absurd hj (by omega)⟩ (Sub.cons rfl (Sub.nil)) (fun i hg=> ?_)
 obtain⟨xp,mV⟩:=hg
 iterate 5 refine af ?_
 refine Ki (fun hc0=> ?_) fun hc0=> ?_
 ·iterate 13 refine af ?_
  refine Kc (aa.gQ rfl rfl rfl an Sd rfl (fun _=>rfl) (by decide) ?_) ?_
  ·simp at hc0;omega
  exact wu
 ·exact vN
theorem oB(xs:List Sk)(f:PV)(p:Sk->Bool)(hx:xs.length<=cj)(hf:∀ x∈xs,gK Tryz.prog f [.agg x.cells] (.bool (p x))):Pure Tryz.prog 114 [.is (xs.flatMap Sk.cells) xs.length,f] (.bool (xs.any p)):=by
 refine Kf (N:=9) Tryz.func114 ?_
 iterate 8 refine af ?_
 refine Kc (Kp (sM _ _ p ?_ ?_)) ?_
 ·exact hx
 ·exact hf
 exact wZ
theorem oF(xs:List Tk)(f:PV)(p:Tk->Bool)(hx:xs.length<=cj)(hf:∀ x∈xs,gK Tryz.prog f [.agg x.cells] (.bool (p x))):Pure Tryz.prog 206 [.is (xs.flatMap Tk.cells) xs.length,f] (.bool (xs.any p)):=by
 refine Kf (N:=9) Tryz.func206 ?_
 iterate 8 refine af ?_
 refine Kc (Kp (rI _ _ p ?_ ?_)) ?_
 ·exact hx
 ·exact hf
 exact wZ
theorem za(s:Sk):Pure Tryz.prog 113 [.agg s.cells] (.bool s.bad):=by
 refine Kf (N:=19) Tryz.func113 ?_
 iterate 9 refine af ?_
 refine Kc (Kp (gE _ _ _ _)) ?_
 iterate 2 refine af ?_
 refine Kg 8 7 1 rfl (fun h=>(aa.fieldAddr rfl rfl an rfl)) ?_
 refine Kh 9 7 8 rfl rfl rfl rfl (fun h=>(aa.load rfl rfl an rfl)) ?_
 refine Kh 10 7 9 rfl rfl rfl rfl (fun h=>(Kp (gE _ _ _ _))) ?_
 refine Kh 11 7 10 rfl rfl rfl rfl (fun h=>(aa.gH rfl rfl)) ?_
 refine Kc (aa.pG rfl rfl rfl ?_) ?_
 ·exact aC
 refine af ?_
 refine Kg 14 13 1 rfl (fun h=>(aa.fieldAddr rfl rfl an rfl)) ?_
 refine Kh 15 13 14 rfl rfl rfl rfl (fun h=>(aa.load rfl rfl an rfl)) ?_
 refine Kh 16 13 15 rfl rfl rfl rfl (fun h=>(Kp (gE _ _ _ _))) ?_
 refine Kh 17 13 16 rfl rfl rfl rfl (fun h=>(aa.gH rfl rfl)) ?_
 refine Kc (aa.pG rfl rfl rfl ?_) ?_
 ·exact aC
 exact cQ
theorem AV(l:List Sk)(t:Tk)(hx:l.length<=cj):Pure Tryz.prog 205 [.agg t.cells,.ip [bZ l] 0] (.bool (t.bad l.length)):=by
 refine Kf (N:=17) Tryz.func205 ?_
 iterate 11 refine af ?_
 refine Kc (aa.fE rfl rfl rfl (aG ?_)) ?_
 ·unfold cj at*;omega
 refine Kc (Kp (cv _ _ _)) ?_
 iterate 2 refine af ?_
 refine Kg 12 11 2 rfl (fun h=>(aa.fieldAddr rfl rfl an rfl)) ?_
 refine Kh 13 11 12 rfl rfl rfl rfl (fun h=>(aa.load rfl rfl an rfl)) ?_
 refine Kh 14 11 13 rfl rfl rfl rfl (fun h=>(Kp (gE _ _ _ _))) ?_
 refine Kh 15 11 14 rfl rfl rfl rfl (fun h=>(aa.gH rfl rfl)) ?_
 refine Kc (aa.pG rfl rfl rfl ?_) ?_
 ·exact aC
 exact cQ
theorem tf(l:List Sk)(hx:l.length<=cj):Pure Tryz.prog 51 [bZ l] (.bool (aF l)):=by
 refine Kf (N:=13) Tryz.func51 ?_
 iterate 14 refine af ?_
 refine Kg 8 7 0 rfl (fun h=>(aa.move rfl rfl)) ?_
 refine Kg 9 7 3 rfl (fun h=>(aa.move rfl rfl)) ?_
 refine aj.g 10 7 rfl rfl rfl rfl rfl rfl rfl [(8,_),(9,_)] (fun h=>And.intro (.inr ⟨_,rfl,h⟩) (And.intro (.inr ⟨_,rfl,h⟩) (trivial))) (fun h=>(Kp (oB l _ Sk.bad ?_ ?_))) ?_
 ·exact hx
 ·exact fun x _=>⟨113,[.agg x.cells],rfl,an,za x⟩
 refine Kh 11 7 10 rfl rfl rfl rfl (fun h=>(aa.gH rfl rfl)) ?_
 refine Kc (aa.gG rfl rfl rfl ?_) ?_
 ·exact aC
 exact cQ
theorem FA(l:List Sk)(b:List Tk)(hx:l.length<=cj)(hb:b.length<=cj):Pure Tryz.prog 178 [bZ l,vS b] (.bool (iE l.length b)):=by
 refine Kf (N:=16) Tryz.func178 ?_
 iterate 7 refine af ?_
 refine Kc (aa.makeFunc rfl rfl rfl) ?_
 iterate 6 refine af ?_
 refine Kc (Kp (cv _ _ _)) ?_
 refine af ?_
 refine Kg 11 10 1 rfl (fun h=>(aa.move rfl rfl)) ?_
 refine Kg 12 10 5 rfl (fun h=>(aa.move rfl rfl)) ?_
 refine aj.g 13 10 rfl rfl rfl rfl rfl rfl rfl [(11,_),(12,_)] (fun h=>And.intro (.inr ⟨_,rfl,h⟩) (And.intro (.inr ⟨_,rfl,h⟩) (trivial))) (fun h=>(Kp (oF b _ (Tk.bad l.length) ?_ ?_))) ?_
 ·exact hb
 ·exact fun x _=>⟨205,[.agg x.cells,.ip [bZ l] 0],rfl,an,AV l x hx⟩
 refine Kh 14 10 13 rfl rfl rfl rfl (fun h=>(aa.gH rfl rfl)) ?_
 refine Kc (aa.gG rfl rfl rfl ?_) ?_
 ·exact aC
 exact cQ
theorem rW(l:List Sk)(hx:l.length<=cj):Pure Tryz.prog 17 [bZ l] (.bool (aF l)):=by
 refine Kf (N:=38) Tryz.func17 ?_
 iterate 10 refine af ?_
 refine aI.vP [2,3,4,5,6,7,8,9,10,11,12,13,14,15,16,17,18,19,20,21,22,23,24,25,26,27,28,29,30,31,32,33,34] (fun g=>[(3,.p (.int .i64 ((g:Nat):Int)))]) (fun g=>g<=l.length∧∀ j (hj:j<g) (h:g<=l.length),Sk.bad (l[j]'(by omega))=false) (fun g=>l.length - g) 0 ⟨Zv _,fun j hj=>absurd hj (by omega)⟩ (Sub.cons rfl (Sub.nil)) (fun i hg=> ?_)
 obtain⟨xp,mV⟩:=hg
 iterate 8 refine af ?_
 refine Ki (fun hc0=> ?_) fun hc0=> ?_
 ·have hk0:i<l.length:=by simp at hc0;omega
  iterate 7 refine af ?_
  refine Kc (aa.gQ rfl rfl rfl an xK rfl (fun _=>rfl) (by decide) hk0) ?_
  iterate 2 refine af ?_
  refine Kc (Kp (qm _ _ _ _)) ?_
  iterate 2 refine af ?_
  refine Kg 18 17 0 rfl (fun h=>(aa.move rfl rfl)) ?_
  refine Kg 19 17 3 rfl (fun h=>(aa.move rfl rfl)) ?_
  refine aj.g 20 17 rfl rfl rfl rfl rfl rfl rfl [(18,_),(19,_)] (fun h=>And.intro (.inr ⟨_,rfl,h⟩) (And.intro (.inr ⟨_,rfl,h⟩) (trivial))) (fun h=>(aa.gQ rfl rfl rfl an xK rfl (fun _=>rfl) (by decide) hk0)) ?_
  refine Kh 21 17 20 rfl rfl rfl rfl (fun h=>(aa.fieldAddr rfl rfl an rfl)) ?_
  refine Kh 22 17 21 rfl rfl rfl rfl (fun h=>(aa.load rfl rfl an rfl)) ?_
  refine Kh 23 17 22 rfl rfl rfl rfl (fun h=>(Kp (qm _ _ _ _))) ?_
  refine Kh 24 17 23 rfl rfl rfl rfl (fun h=>(aa.gH rfl rfl)) ?_
  refine Kc (aa.pG rfl rfl rfl ?_) ?_
  ·exact aC
  refine af ?_
  refine Kg 27 26 0 rfl (fun h=>(aa.move rfl rfl)) ?_
  refine Kg 28 26 3 rfl (fun h=>(aa.move rfl rfl)) ?_
  refine aj.g 29 26 rfl rfl rfl rfl rfl rfl rfl [(27,_),(28,_)] (fun h=>And.intro (.inr ⟨_,rfl,h⟩) (And.intro (.inr ⟨_,rfl,h⟩) (trivial))) (fun h=>(aa.gQ rfl rfl rfl an xK rfl (fun _=>rfl) (by decide) hk0)) ?_
  refine Kh 30 26 29 rfl rfl rfl rfl (fun h=>(aa.fieldAddr rfl rfl an rfl)) ?_
  refine Kh 31 26 30 rfl rfl rfl rfl (fun h=>(aa.load rfl rfl an rfl)) ?_
  refine Kh 32 26 31 rfl rfl rfl rfl (fun h=>(Kp (qm _ _ _ _))) ?_
  refine Kh 33 26 32 rfl rfl rfl rfl (fun h=>(aa.gH rfl rfl)) ?_
  refine Kc (aa.pG rfl rfl rfl ?_) ?_
  ·exact aC
  refine af ?_
  refine Ki (fun c8=> ?_) fun c8=> ?_
  ·iterate 5 refine af ?_
   refine Fin.gW rfl rfl ?_
   unfold aF
   rw[Mg (p:=Sk.bad) (by simp at hc0;omega) c8]
   simp
  ·iterate 3 refine af ?_
   refine Kc (aa.add rfl rfl rfl (aG ?_)) ?_
   ·simp at hc0;unfold cj at hx;omega
   iterate 2 refine af ?_
   refine⟨i+1,?_,?_,?_⟩
   ·refine⟨by simp at hc0;omega,fun j hj h=> ?_⟩
    rcases On.1 hj with h1 | rfl
    ·exact mV j h1 xp
    ·exact c8
   ·simp at hc0;omega
   exact kU
 ·refine aI.exit ?_
  iterate 8 refine af ?_
  refine Fin.gW rfl rfl ?_
  unfold aF
  rw[any_none (fun j hj=>mV j (by simp at hc0;omega) xp)]
  simp
theorem wo{l:List Sk}(h:aF l=true):C3 l:=by
 unfold aF at h
 simp only[Zk,Zj,Gc,Qe] at h
 refine⟨by omega,fun s hs=> ?_⟩
 have:=h.2 s hs
 simp[Sk.bad,Sp.ok] at this
 unfold gr
 omega
theorem Ug{n:Nat}{b:List Tk}(h:iE n b=true):okB b∧NY n b:=by
 unfold iE at h
 simp only[Zk,Zj,Gc,Qe] at h
 refine⟨⟨by omega,fun t ht=> ?_⟩,fun t ht=> ?_⟩ <;>
 ·have:=h.2 t ht
  simp[Tk.bad,Sp.ok] at this
  omega
def dG(l:List Sk)(b:List Tk):Bool:=aF l&&iE l.length b
theorem gy(p:Nat->Bool):∀ n,(∀ i j,i<=j->j<n->p i=true->p j=true)->∃ r,r<=n∧(∀ i,i<r->p i=false)∧∀ i,r<=i->i<n->p i=true
 | 0,_=>⟨0,Ze _,fun i h=>by omega,fun i _ h=>by omega⟩
 | n+1,hp=>by
  exact D8
def mj(l:List Sk)(b:List Tk):Nat->Int
 | 0=>0
 | s+1=>if 0<=EZ l b s then(s:Int) else mj l b s
def iP(l:List Sk)(b:List Tk):Nat->Int
 | 0=>1000
 | s+1=>if B5 l b s<=0 then min (iP l b s) s else iP l b s
def vr(l:List Sk)(b:List Tk):List PV:=
 if dG l b then[.agg [.int .i64 (mj l b 1001),.int .i64 (iP l b 1001)],.int .i64 0] else[.agg [.int .i64 0,.int .i64 0],.int .i64 1]
theorem A4{l:List Sk}{b:List Tk}{r:Nat}(h0:0<r)(h1:∀ i,i<r->0<=EZ l b i):∀ n,r<=n->(∀ i,r<=i->i<n->EZ l b i<0)->mj l b n=r - 1
 | 0,h,_=>by omega
 | n+1,h,h2=>by
  simp only[mj]
  by_cases e:r=n+1
  ·subst e
   rw[if_pos (h1 n (by omega))];omega
  ·rw[if_neg (by have:=h2 n (by omega) (by omega);omega)]
   exact A4 h0 h1 n (by omega) (fun i hi hj=>h2 i hi (by omega))
theorem Mo{l:List Sk}{b:List Tk}{r:Nat}(hr:r<=1000)(h1:∀ i,i<r->0<B5 l b i)(h2:∀ i,r<=i->i<1000->B5 l b i<=0):iP l b 1001=r:=by
 have g1:∀ n,n<=r->iP l b n=1000:=by
  intro n
  induction n with
  | zero=>intro _;rfl
  | succ n ih=>
   intro hn
   simp only[iP]
   rw[if_neg (by have:=h1 n (by omega);omega)]
   exact ih (by omega)
 have g2:∀ n,n<=1000->r<n->iP l b n=r:=by
  intro n
  induction n with
  | zero=>intro _ h;omega
  | succ n ih=>
   intro hn hr'
   simp only[iP]
   rw[if_pos (h2 n (by omega) (by omega))]
   by_cases e:r=n
   ·subst e;rw[g1 r (Ze _)];omega
   ·rw[ih (by omega) (by omega)];omega
 have Xi:iP l b 1000=r:=by
  by_cases e:r=1000
  ·rw[g1 1000 (by omega)];omega
  ·exact g2 1000 (by omega) (by omega)
 show(if B5 l b (1000:Nat)<=0 then min (iP l b 1000) ((1000:Nat):Int) else iP l b 1000)=r
 rw[Xi]
 split <;> omega
theorem BM{l:List Sk}{b:List Tk}(hl:C3 l)(hb:okB b):0<=EZ l b 0:=by
 have h:fV (fun _=>0) l.length<=EZ l b 0:=iZ _ fun i hi=>by
  rw[zi]
  have h1:=A8 (f:=fun _ _ _=>0) (g:=bJ 0) (s:=l[i]?.getD aU) (lo:=ES b i) (hi:=ER b i) ⟨(wB hb i).1.1,YM hb i⟩ (fun k=>by
   have:=rH ((hl.get hi).rA k)
   simp only[bJ];omega)
  have h2:EP (fun _ _ _=>0) (l[i]?.getD aU) (ES b i) (ER b i)=0:=by
   unfold EP
   simp only[Int.mul_zero,Int.min_self]
   exact sN 0 8 (by omega)
  omega
 rw[jd _ (fun _ _=>rfl)] at h
 exact h
theorem lB{l:List Sk}{b:List Tk}(hl:C3 l)(hb:okB b):∃ r q:Nat,(r<=1001∧(∀ i,i<r->decide (EZ l b (i:Nat)<0)=false)∧(∀ i,r<=i->i<1001->decide (EZ l b (i:Nat)<0)=true))∧
    (q<=1000∧(∀ i,i<q->decide (B5 l b (i:Nat)<=0)=false)∧(∀ i,q<=i->i<1000->decide (B5 l b (i:Nat)<=0)=true))∧mj l b 1001=r - 1∧iP l b 1001=q:=by
 obtain⟨r,h1,h2,h3⟩:=gy (fun i=>decide (EZ l b (i:Nat)<0)) 1001 (fun i j hij _ h=>by
  simp only[Zj] at h ⊢
  have:=M7 hl hb (m:=(i:Int)) (n:=(j:Int)) (by omega)
  omega)
 obtain⟨q,k1,k2,k3⟩:=gy (fun i=>decide (B5 l b (i:Nat)<=0)) 1000 (fun i j hij _ h=>by
  simp only[Zj] at h ⊢
  have:=ME hl hb (m:=(i:Int)) (n:=(j:Int)) (by omega)
  omega)
 refine⟨r,q,⟨h1,h2,h3⟩,⟨k1,k2,k3⟩,A4 ?_ (fun i hi=> ?_) 1001 h1 (fun i hi hj=>by simpa using h3 i hi hj),Mo k1 (fun i hi=> ?_) (fun i hi hj=>by simpa using k3 i hi hj)⟩
 ·rcases TC r with h | h
  ·subst h
   have:=h3 0 (Ze _) (by omega)
   have h0:=BM hl hb
   simp at this
   omega
  ·exact h
 ·have:=h2 i hi
  simp at this
  exact this
 ·have:=k2 i hi
  simp at this
  omega
def sD(e:Int):List PV:=[.agg [.int .i64 0,.int .i64 0],.int .i64 e]
def b2(i j:Int)(t n:Int):List Tk:=[⟨i,⟨n,n⟩⟩,⟨j,⟨t - n,t - n⟩⟩]
def gY(l:List Sk)(i j t:Int)(w:Sp)(n:Nat):Bool:=decide (0<=EZ l (b2 i j t n) w.lo)&&decide (B5 l (b2 i j t n) w.hi<=0)
def jJ(ok:Nat->Bool):Nat->Option (Int×Int)
 | 0=>none
 | n+1=>if ok (n+1) then some (((jJ ok n).map (·.1)).getD ((n:Int)+1),(n:Int)+1) else jJ ok n
def cG(l:List Sk)(i j t:Int)(w:Sp):Bool:=
 (decide (0<=i)&&decide (i<=(l.length:Int) - 1))&&(decide (0<=j)&&decide (j<=(l.length:Int) - 1))&& !decide (i=j)&&(decide (2<=t)&&decide (t<=100000))&&w.ok 0 1000
def VE:Option (Int×Int)->List PV
 | none=>sD 4
 | some (a,c)=>[.agg [.int .i64 a,.int .i64 c],.int .i64 0]
def Ej(l:List Sk)(i j t:Int)(w:Sp):List PV:=
 if aF l then(if cG l i j t w then VE (jJ (gY l i j t w) (t - 1).toNat) else sD 2) else sD 1
theorem rC{ok:Nat->Bool}:∀ n,(∀ k,1<=k->k<=n->ok k=false)->jJ ok n=none
 | 0,_=>rfl
 | n+1,h=>by
  simp only[jJ]
  rw[h (n+1) (by omega) (by omega)]
  exact rC n (fun k h1 h2=>h k h1 (by omega))
theorem zd{ok:Nat->Bool}{a c:Nat}(ha:1<=a)(hac:a<=c):∀ n,c<=n->(∀ k,1<=k->k<=n->(ok k=true↔a<=k∧k<=c))->jJ ok n=some ((a:Int),(c:Int))
 | 0,h,_=>by omega
 | n+1,h,hk=>by
  simp only[jJ]
  by_cases e:c=n+1
  ·subst e
   rw[if_pos ((hk (n+1) (by omega) (by omega)).2 ⟨hac,Ze _⟩)]
   by_cases e2:a=n+1
   ·subst e2
    rw[rC n (fun k h1 h2=>by
     cases hok:ok k with
     | false=>rfl
     | true=>have:=(hk k h1 (by omega)).1 hok;omega)]
    simp
   ·rw[zd (ok:=ok) (a:=a) (c:=n) ha (by omega) n (Ze _) (fun k h1 h2=>by rw[hk k h1 (by omega)];omega)]
    simp
  ·have hf:ok (n+1)=false:=by
     cases hok:ok (n+1) with
     | false=>rfl
     | true=>have:=(hk (n+1) (by omega) (by omega)).1 hok;omega
   rw[hf]
   exact zd ha hac n (by omega) (fun k h1 h2=>hk k h1 (by omega))
def DX(f:Int->Int->Int->Int)(s:Sk):Int:=pF (fun k=>f (s.cw k) (s.cc k) (s.cl k)) 8
def Cg(f:Int->Int->Int->Int)(s:Sk):Int:=ri (fun k=>f (s.cw k) (s.cc k) (s.cl k)) 8
theorem x6{f:Nat->Int}{n:Int}(hn:0<=n):∀ k,pF (fun j=>n*f j) k=n*pF f k
 | 0=>by simp[pF]
 | k+1=>by
  simp only[pF]
  split
  ·rfl
  ·rw[x6 hn k]
   rcases Int.le_total (pF f k) (f k) with h | h
   ·rw[Int.min_eq_left h,Int.min_eq_left (ZY h hn)]
   ·rw[Int.min_eq_right h,Int.min_eq_right (ZY h hn)]
theorem xO{f:Nat->Int}{n:Int}(hn:0<=n):∀ k,ri (fun j=>n*f j) k=n*ri f k
 | 0=>by simp[ri]
 | k+1=>by
  simp only[ri]
  split
  ·rfl
  ·rw[xO hn k]
   rcases Int.le_total (ri f k) (f k) with h | h
   ·rw[Int.max_eq_right h,Int.max_eq_right (ZY h hn)]
   ·rw[Int.max_eq_left h,Int.max_eq_left (ZY h hn)]
theorem tQ{f:Int->Int->Int->Int}{s:Sk}{n:Int}(hn:0<=n):EP f s n n=n*DX f s:=by
 unfold EP DX
 simp only[Int.min_self]
 exact x6 hn 8
theorem tT{f:Int->Int->Int->Int}{s:Sk}{n:Int}(hn:0<=n):FQ f s n n=n*Cg f s:=by
 unfold FQ Cg
 simp only[Int.max_self]
 exact xO hn 8
theorem W6{i j t n:Int}(h1:0<=n)(h2:n<=t)(h3:t<=100000):okB (b2 i j t n):=by
 refine⟨by simp[b2],fun x hx=> ?_⟩
 simp[b2] at hx
 rcases hx with rfl | rfl <;> dsimp only <;> omega
theorem V6{k:Nat}{i j t n:Int}(h1:0<=i∧i<k)(h2:0<=j∧j<k):NY k (b2 i j t n):=by
 intro x hx
 simp[b2] at hx
 rcases hx with rfl | rfl <;> dsimp only <;> omega
def ofM(s1 s2:Sk)(t n:Int):List (Int×(Sk×Sp)):=aS 1 (s2,⟨t - n,t - n⟩) (aS 0 (s1,⟨n,n⟩) [])
theorem FO(s1 s2:Sk)(t n:Int):ofM s1 s2 t n=[(0,(s1,⟨n,n⟩)),(1,(s2,⟨t - n,t - n⟩))]:=rfl
theorem yO{l:List Sk}{i j t n:Int}(hne:i≠j):bC l (b2 i j t n) (b2 i j t n).length=[(i,(l[i.toNat]?.getD aU,⟨0+n,0+n⟩)),(j,(l[j.toNat]?.getD aU,⟨0+(t - n),0+(t - n)⟩))]:=by
 have e:j≠i:=fun h=>hne h.symm
 simp[bC,b2,fM,aS,cB,dR,e]
theorem S6{l:List Sk}{i j t n:Int}(hi:0<=i∧i<l.length)(hj:0<=j∧j<l.length)(hne:i≠j)(hn:0<=n)(ht:n<=t)(x:Int):
    EZ l (b2 i j t n) x=n*DX (bJ x) (l[i.toNat]?.getD aU)+(t - n)*DX (bJ x) (l[j.toNat]?.getD aU):=by
 have h:=jE (V6 (t:=t) (n:=n) hi hj) (EP (bJ x)) (AQ _) (b2 i j t n).length (Ze _)
 rw[yO hne] at h
 have e:EZ l (b2 i j t n) x=fV (fun k=>EP (bJ x) (l[k]?.getD aU) (fS (yQ (k:Int)) (b2 i j t n) (b2 i j t n).length) (fS (x8 (k:Int)) (b2 i j t n) (b2 i j t n).length)) l.length:=rfl
 rw[e,<- h]
 simp only[Zx,xo,Qi,List.sum_nil,Int.zero_add,Vg]
 rw[tQ hn,tQ (by omega)]
theorem Uj{l:List Sk}{i j t n:Int}(hi:0<=i∧i<l.length)(hj:0<=j∧j<l.length)(hne:i≠j)(hn:0<=n)(ht:n<=t)(x:Int):
    B5 l (b2 i j t n) x=n*Cg (bJ x) (l[i.toNat]?.getD aU)+(t - n)*Cg (bJ x) (l[j.toNat]?.getD aU):=by
 have h:=jE (V6 (t:=t) (n:=n) hi hj) (FQ (bJ x)) (Ed _) (b2 i j t n).length (Ze _)
 rw[yO hne] at h
 have e:B5 l (b2 i j t n) x=fV (fun k=>FQ (bJ x) (l[k]?.getD aU) (fS (yQ (k:Int)) (b2 i j t n) (b2 i j t n).length) (fS (x8 (k:Int)) (b2 i j t n) (b2 i j t n).length)) l.length:=rfl
 rw[e,<- h]
 simp only[Zx,xo,Qi,List.sum_nil,Int.zero_add,Vg]
 rw[tT hn,tT (by omega)]
theorem Uu(s1 s2:Sk)(t n:Int)(hn:0<=n)(ht:n<=t)(f:Int->Int->Int->Int):((ofM s1 s2 t n).map (mq (KE f))).sum=n*DX f s1+(t - n)*DX f s2:=by
 rw[FO]
 simp only[Zx,xo,Qi,List.sum_nil,Vg,L7]
 rw[tQ hn,tQ (by omega)]
theorem Uv(s1 s2:Sk)(t n:Int)(hn:0<=n)(ht:n<=t)(f:Int->Int->Int->Int):((ofM s1 s2 t n).map (me (KE f))).sum=n*Cg f s1+(t - n)*Cg f s2:=by
 rw[FO]
 simp only[Zx,xo,Qi,List.sum_nil,Vg,Ir]
 rw[tT hn,tT (by omega)]
theorem Ul{s1 s2:Sk}(h1:gr s1)(h2:gr s2){t n:Int}(hn:0<=n)(ht:n<=t)(h3:t<=100000):okM (ofM s1 s2 t n):=by
 rw[FO]
 refine⟨fun m hm=> ?_,?_,fun m hm=> ?_⟩
 ·simp at hm;rcases hm with rfl | rfl <;> dsimp only <;> omega
 ·simp[xu];omega
 ·simp at hm;rcases hm with rfl | rfl <;> assumption
def b9(s1 s2:Sk)(t:Int)(w:Sp)(n:Int):Int:=min (n*DX (bJ w.lo) s1+(t - n)*DX (bJ w.lo) s2) (0 - (n*Cg (bJ w.hi) s1+(t - n)*Cg (bJ w.hi) s2))
theorem vb{l:List Sk}{i j t:Int}{w:Sp}(hi:0<=i∧i<l.length)(hj:0<=j∧j<l.length)(hne:i≠j){n:Nat}(ht:(n:Int)<=t):
    gY l i j t w n=decide (0<=b9 (l[i.toNat]?.getD aU) (l[j.toNat]?.getD aU) t w n):=by
 unfold gY b9
 rw[S6 hi hj hne (by omega) ht,Uj hi hj hne (by omega) ht]
 generalize (n:Int)*DX (bJ w.lo) (l[i.toNat]?.getD aU)+(t - n)*DX (bJ w.lo) (l[j.toNat]?.getD aU)=X
 generalize (n:Int)*Cg (bJ w.hi) (l[i.toNat]?.getD aU)+(t - n)*Cg (bJ w.hi) (l[j.toNat]?.getD aU)=Y
 rw[<- Bool.decide_and]
 congr 1
 exact propext ⟨fun h=>by omega,fun h=>by omega⟩
theorem TN(a b t n:Int):n*a+(t - n)*b=t*b+n*(a - b):=by
 rw[Int.sub_mul,Int.mul_sub];omega
theorem IY(s1 s2:Sk)(t:Int)(w:Sp)(n:Int)(h:b9 s1 s2 t w (n+1)<=b9 s1 s2 t w n):b9 s1 s2 t w (n+2)<=b9 s1 s2 t w (n+1):=by
 unfold b9 at h ⊢
 simp only[TN] at h ⊢
 generalize DX (bJ w.lo) s1 - DX (bJ w.lo) s2=A at h ⊢
 generalize t*DX (bJ w.lo) s2=B at h ⊢
 generalize Cg (bJ w.hi) s1 - Cg (bJ w.hi) s2=C at h ⊢
 generalize t*Cg (bJ w.hi) s2=D at h ⊢
 have e1:(n+1)*A=n*A+A:=by rw[Int.add_mul,Int.one_mul]
 have e2:(n+2)*A=n*A+2*A:=by rw[Int.add_mul]
 have e3:(n+1)*C=n*C+C:=by rw[Int.add_mul,Int.one_mul]
 have e4:(n+2)*C=n*C+2*C:=by rw[Int.add_mul]
 rw[e1,e3] at h
 rw[e1,e2,e3,e4]
 omega
theorem rD(s1 s2:Sk)(t:Int)(w:Sp){n:Int}(h:b9 s1 s2 t w (n+1)<=b9 s1 s2 t w n):∀ k:Nat,b9 s1 s2 t w (n+k+1)<=b9 s1 s2 t w (n+k)
 | 0=>by simpa using h
 | k+1=>by
  have:=IY s1 s2 t w (n+k) (rD s1 s2 t w h k)
  have e1:n+((k+1:Nat):Int)+1=n+k+2:=by omega
  have e2:n+((k+1:Nat):Int)=n+k+1:=by omega
  rw[e1,e2];exact this
theorem yV(s1 s2:Sk)(t:Int)(w:Sp){n:Int}(h:b9 s1 s2 t w (n+1)<=b9 s1 s2 t w n):∀(k j:Nat),k<=j->b9 s1 s2 t w (n+j)<=b9 s1 s2 t w (n+k)
 | k,0,hk=>by obtain rfl:k=0:=by omega
              exact At _
 | k,j+1,hk=>by
  rcases ZD j k with h1 | h1
  ·obtain rfl:k=j+1:=by omega
   exact At _
  ·have h2:=yV s1 s2 t w h k j h1
   have h3:=rD s1 s2 t w h j
   have e:n+((j+1:Nat):Int)=n+j+1:=by omega
   rw[e];omega
theorem abc{x:Int}{s:Sk}(hx:0<=x∧x<=1000)(hs:gr s): -1000000000000<=DX (bJ x) s∧DX (bJ x) s<=1000000000000:=Mr 8 (by omega) (fun k _=>KP hx (hs.rA k))
theorem R3{x:Int}{s:Sk}(hx:0<=x∧x<=1000)(hs:gr s): -1000000000000<=Cg (bJ x) s∧Cg (bJ x) s<=1000000000000:=Nq 8 (by omega) (fun k _=>KP hx (hs.rA k))
theorem XO{a b t n:Int}(ha: -1000000000000<=a∧a<=1000000000000)(hb: -1000000000000<=b∧b<=1000000000000)(hn:0<=n)(ht:n<=t)(h3:t<=100000): -200000000000000000<=n*a+(t - n)*b∧n*a+(t - n)*b<=200000000000000000:=by
 have h1:=I8 (a:=a) (A:=1000000000000) (b:=n) (B:=100000) ha ⟨hn,by omega⟩
 have h2:=I8 (a:=b) (A:=1000000000000) (b:=t - n) (B:=100000) hb ⟨by omega,by omega⟩
 omega
structure ir (M:Int->Int) (t:Nat) (r:Nat):Prop where
 JV:r<=t - 2
 VP:∀ i,i<r->decide (M ((i:Int)+2)<=M ((i:Int)+1))=false
 Yk:∀ i,r<=i->i<t - 2->decide (M ((i:Int)+2)<=M ((i:Int)+1))=true
theorem Is(s1 s2:Sk)(w:Sp)(t:Nat)(ht:2<=t):∃ r,ir (b9 s1 s2 t w) t r:=by
 obtain⟨r,h1,h2,h3⟩:=gy (fun i=>decide (b9 s1 s2 t w ((i:Nat)+2)<=b9 s1 s2 t w ((i:Nat)+1))) (t - 2) (fun i j hij _ h=>by
  simp only[Zj] at h ⊢
  have e:((i:Int)+2)=(i+1)+1:=by omega
  rw[e] at h
  have:=rD s1 s2 t w h (j - i)
  have e1:((i:Int)+1)+((j - i:Nat):Int)=j+1:=by omega
  rw[e1] at this
  have e2:(j:Int)+1+1=j+2:=by omega
  rw[e2] at this
  exact this)
 exact⟨r,h1,h2,h3⟩
theorem ir.up{s1 s2:Sk}{w:Sp}{t r:Nat}(h:ir (b9 s1 s2 t w) t r):∀(k j:Nat),k<=j->j<=r->b9 s1 s2 t w ((k:Int)+1)<=b9 s1 s2 t w ((j:Int)+1)
 | k,0,hk,_=>by obtain rfl:k=0:=by omega
                exact At _
 | k,j+1,hk,hj=>by
  rcases ZD j k with h1 | h1
  ·obtain rfl:k=j+1:=by omega
   exact At _
  ·have h2:=h.up k j h1 (by omega)
   have h3:=h.VP j (by omega)
   simp at h3
   have e:((j+1:Nat):Int)+1=j+2:=by omega
   rw[e];omega
theorem ir.down{s1 s2:Sk}{w:Sp}{t r:Nat}(ht:2<=t)(h:ir (b9 s1 s2 t w) t r)(k j:Nat)(hk:r<=k)(hkj:k<=j)(hj:j+1<t):b9 s1 s2 t w ((j:Int)+1)<=b9 s1 s2 t w ((k:Int)+1):=by
 rcases ZD k j with h1 | h1
 ·have h3:=h.Yk k hk (by omega)
  simp at h3
  have:=yV s1 s2 t w (n:=(k:Int)+1) (by have e:(k:Int)+1+1=k+2:=by omega
                                        rw[e];exact h3) 0 (j - k) (by omega)
  have e1:(k:Int)+1+((j - k:Nat):Int)=j+1:=by omega
  rw[e1] at this
  exact dx
 ·obtain rfl:k=j:=by omega
  exact At _
theorem Iq{s1 s2:Sk}{w:Sp}{t r:Nat}(h:ir (b9 s1 s2 t w) t r):∃ p,p<=r∧(∀ i,i<p->decide (0<=b9 s1 s2 t w ((i:Int)+1))=false)∧∀ i,p<=i->i<r->decide (0<=b9 s1 s2 t w ((i:Int)+1))=true:=
 gy (fun i=>decide (0<=b9 s1 s2 t w ((i:Nat)+1))) r (fun i j hij hj hp=>by
  simp only[Zj] at hp ⊢
  have:=h.up i j hij (by omega)
  omega)
theorem AO{s1 s2:Sk}{w:Sp}{t r:Nat}(ht:2<=t)(h:ir (b9 s1 s2 t w) t r):∃ q,q<=t - 2 - r∧(∀ i,i<q->decide (b9 s1 s2 t w ((r:Int)+2+i)<0)=false)∧∀ i,q<=i->i<t - 2 - r->decide (b9 s1 s2 t w ((r:Int)+2+i)<0)=true:=
 gy (fun i=>decide (b9 s1 s2 t w ((r:Int)+2+(i:Nat))<0)) (t - 2 - r) (fun i j hij hj hp=>by
  simp only[Zj] at hp ⊢
  have:=h.down ht (r+1+i) (r+1+j) (by omega) (by omega) (by have:=h.JV;omega)
  have e1:((r+1+i:Nat):Int)+1=(r:Int)+2+i:=by omega
  have e2:((r+1+j:Nat):Int)+1=(r:Int)+2+j:=by omega
  rw[e1,e2] at this
  omega)
theorem B0{s1 s2:Sk}{w:Sp}{t r:Nat}(ht:2<=t)(h:ir (b9 s1 s2 t w) t r)(h0:b9 s1 s2 t w ((r:Int)+1)<0):jJ (fun n=>decide (0<=b9 s1 s2 t w n)) (t - 1)=none:=by
 refine rC _ fun k h1 h2=> ?_
 obtain⟨k,rfl⟩:∃ k',k=k'+1:=⟨k - 1,by omega⟩
 have e:((k+1:Nat):Int)=k+1:=by omega
 simp only[e,UL]
 rcases Nat.le_total k r with h3 | h3
 ·have:=h.up k r h3 (Ze _);omega
 ·have:=h.down ht r k (Ze _) h3 (by omega);omega
theorem DF{s1 s2:Sk}{w:Sp}{t r p q:Nat}(ht:2<=t)(h:ir (b9 s1 s2 t w) t r)(h0:0<=b9 s1 s2 t w ((r:Int)+1))
    (p0:p<=r)(p1:∀ i,i<p->decide (0<=b9 s1 s2 t w ((i:Int)+1))=false)(p2:∀ i,p<=i->i<r->decide (0<=b9 s1 s2 t w ((i:Int)+1))=true)
    (q0:q<=t - 2 - r)(q1:∀ i,i<q->decide (b9 s1 s2 t w ((r:Int)+2+i)<0)=false)(q2:∀ i,q<=i->i<t - 2 - r->decide (b9 s1 s2 t w ((r:Int)+2+i)<0)=true):
    jJ (fun n=>decide (0<=b9 s1 s2 t w n)) (t - 1)=some (1+(p:Int),1+(r:Int)+q):=by
 have hr:=h.JV
 have:=zd (ok:=fun n:Nat=>decide (0<=b9 s1 s2 t w n)) (a:=1+p) (c:=1+r+q) (by omega) (by omega) (t - 1) (by omega) (fun k h1 h2=>by
  obtain⟨k,rfl⟩:∃ k',k=k'+1:=⟨k - 1,by omega⟩
  have e:((k+1:Nat):Int)=k+1:=by omega
  simp only[e,Zj]
  rcases ZD k p with h3 | h3
  ·exact BB
  ·rcases ZD k r with h4 | h4
   ·have:=p2 k h3 h4
    simp at this
    exact nq
   ·rcases ZD r k with h5 | h5
    ·exact CJ
    ·obtain rfl:k=r:=by omega
     constructor
     ·intro _;omega
     ·intro _;omega)
 rw[this]
 simp
theorem oX{f g:Nat->Bool}:∀ n,(∀ k,1<=k->k<=n->f k=g k)->jJ f n=jJ g n
 | 0,_=>rfl
 | n+1,h=>by simp only[jJ];rw[h (n+1) (by omega) (by omega),oX n (fun k h1 h2=>h k h1 (by omega))]
theorem Ib{l:List Sk}{i j:Int}{tn:Nat}{w:Sp}(hA:aF l=true)(hg:cG l i j (tn:Int) w=true)(hi:0<=i∧i<l.length)(hj:0<=j∧j<l.length)(hne:i≠j)(hi':i.toNat<l.length)(hj':j.toNat<l.length){o:Option (Int×Int)}
    (h:jJ (fun n:Nat=>decide (0<=b9 l[i.toNat] l[j.toNat] tn w n)) (tn - 1)=o):Ej l i j tn w=VE o:=by
 have e1:l[i.toNat]?.getD aU=l[i.toNat]:=by rw[Zb hi',LR]
 have e2:l[j.toNat]?.getD aU=l[j.toNat]:=by rw[Zb hj',LR]
 have et:((tn:Int) - 1).toNat=tn - 1:=by omega
 have h2:jJ (gY l i j tn w) (tn - 1)=o:=by
  rw[<- h]
  refine oX _ fun k h1 h2=> ?_
  rw[vb hi hj hne (by omega),e1,e2]
 unfold Ej
 rw[if_pos hA,if_pos hg,et,h2]
def Vj(l:List Sk)(b:List Tk):Int:=if dG l b then 0 else 1
def OC(l:List Sk)(b:List Tk):Int:=if dG l b then mj l b 1001 else 0
def OH(l:List Sk)(b:List Tk):Int:=if dG l b then iP l b 1001 else 0
def iJ(l:List Sk)(i j t:Int)(w:Sp):Int:=if aF l then(if cG l i j t w then(if (jJ (gY l i j t w) (t - 1).toNat).isSome then 0 else 4) else 2) else 1
def rU(l:List Sk)(i j t:Int)(w:Sp):Int:=if iJ l i j t w=0 then((jJ (gY l i j t w) (t - 1).toNat).getD (0,0)).1 else 0
def sn(l:List Sk)(i j t:Int)(w:Sp):Int:=if iJ l i j t w=0 then((jJ (gY l i j t w) (t - 1).toNat).getD (0,0)).2 else 0
theorem Q8(l:List Sk)(i j t:Int)(w:Sp):Ej l i j t w=[.agg [.int .i64 (rU l i j t w),.int .i64 (sn l i j t w)],.int .i64 (iJ l i j t w)]:=by
 unfold Ej rU sn iJ sD
 cases aF l
 ·rfl
 ·cases cG l i j t w
  ·rfl
  ·cases jJ (gY l i j t w) (t - 1).toNat with
   | none=>rfl
   | some x=>rfl
theorem FK(s:Sk)(m:Sp):K3 Tryz.prog 213 (fun y=>[y,.p (.ip (storeCells s m) 0)]) (lA s):=by
 intro l κ n inv fin hκ hn Fu hb h0 vB
 refine jU.gN (N:=55) Tryz.func213 rfl rfl Kn ?_
 iterate 14 refine af ?_
 refine aI.sX [4,6,8,18,19,20,21,22,23,24,25,26,27,28,29,30,31,32,33,34,35,36,37,38,39,40,41,42,43,44,45,46,47,48,49,50,51,52,53,54] (fun g=>[(18,.p (.int .i64 ((g.1:Nat):Int)))]) (fun g=>g.2) (fun g=>g.1<=2∧inv (4*g.1) g.2) (fun g=>2 - g.1) (0,h0) ⟨by omega,vB⟩ (To.sub (Sub.RA (Sub.cons rfl (Sub.nil)))) (fun g hg=> ?_)
 obtain⟨i,hi⟩:=g
 obtain⟨hle,hinv⟩:=hg
 dsimp only at hle hinv ⊢
 iterate 5 refine af ?_
 refine Ki (fun hc0=> ?_) fun hc0=> ?_
 ·have i2:i<2:=by simp at hc0;omega
  iterate 5 refine af ?_
  refine Kc (aa.rJ rfl rfl rfl L5 (by omega) ?_) ?_
  ·omega
  iterate 16 refine af ?_
  refine aI.sX [6,8,30,31,32,33,34,35,36,37,38,39,40,41,42,43,44,45,46,47,48,49,50,51,52,53] (fun g=>[(30,.p (.int .i64 ((g.1:Nat):Int)))]) (fun g=>g.2) (fun g=>g.1<=2∧inv (4*i+2*g.1) g.2) (fun g=>2 - g.1) (0,hi) ⟨by omega,hinv⟩ (To.sub (Sub.RA (Sub.cons rfl (Sub.nil)))) (fun g hg=> ?_)
  obtain⟨j,hj⟩:=g
  obtain⟨hle,hinv⟩:=hg
  dsimp only at hle hinv ⊢
  iterate 5 refine af ?_
  refine Ki (fun c8=> ?_) fun c8=> ?_
  ·have j2:j<2:=by simp at c8;omega
   iterate 5 refine af ?_
   refine Kc (aa.rJ rfl rfl rfl L5 (by omega) ?_) ?_
   ·omega
   iterate 16 refine af ?_
   refine aI.sX [8,42,43,44,45,46,47,48,49,50,51,52] (fun g=>[(42,.p (.int .i64 ((g.1:Nat):Int)))]) (fun g=>g.2) (fun g=>g.1<=2∧inv (4*i+2*j+g.1) g.2) (fun g=>2 - g.1) (0,hj) ⟨by omega,hinv⟩ (To.sub (Sub.RA (Sub.cons rfl (Sub.nil)))) (fun g hg=> ?_)
   obtain⟨k,hk⟩:=g
   obtain⟨hle,hinv⟩:=hg
   dsimp only at hle hinv ⊢
   iterate 5 refine af ?_
   refine Ki (fun mu=> ?_) fun mu=> ?_
   ·have k2:k<2:=by simp at mu;omega
    iterate 5 refine af ?_
    refine Kc (aa.rJ rfl rfl rfl L5 (by omega) ?_) ?_
    ·omega
    iterate 9 refine af ?_
    refine aj.yield 50 rfl rfl rfl rfl rfl rfl (hb _ _ _ hinv (C9 s i2 j2 k2)) ?_
    intro b2 h2 Cz
    iterate 2 refine af ?_
    refine Ki (fun rP=> ?_) fun rP=> ?_
    ·have hq:fin h2:=by simpa[show b2=false by simpa using rP] using Cz
     refine af ?_
     exact⟨.inr rfl,_,eT.none_ rfl,.inr hq⟩
    ·have hnext:inv (4*i+2*j+k+1) h2:=by simpa[show b2=true by simpa using rP] using Cz
     iterate 2 refine af ?_
     refine Kc (aa.add rfl rfl rfl (aG ?_)) ?_
     ·omega
     iterate 2 refine af ?_
     refine⟨(k+1,h2),?_,?_,?_⟩
     ·exact⟨by dsimp only;omega,hnext⟩
     ·show 2 - (k+1)<2 - k
      omega
     exact To.sub KS
   ·refine aI.exit ?_
    refine af ?_
    refine Kc (aa.add rfl rfl rfl (aG ?_)) ?_
    ·omega
    iterate 2 refine af ?_
    refine⟨(j+1,hk),?_,?_,?_⟩
    ·have hk2:k=2:=by simp at mu;omega
     subst hk2
     exact⟨by dsimp only;omega,by rw[show 4*i+2*(j+1,hk).1=4*i+2*j+2 by dsimp only;omega];exact hinv⟩
    ·show 2 - (j+1)<2 - j
     omega
    exact To.sub KS
  ·refine aI.exit ?_
   refine af ?_
   refine Kc (aa.add rfl rfl rfl (aG ?_)) ?_
   ·omega
   iterate 2 refine af ?_
   refine⟨(i+1,hj),?_,?_,?_⟩
   ·have hj2:j=2:=by simp at c8;omega
    subst hj2
    exact⟨by dsimp only;omega,by rw[show 4*(i+1,hj).1=4*i+2*2 by dsimp only;omega];exact hinv⟩
   ·show 2 - (i+1)<2 - i
    omega
   exact To.sub KS
 ·refine aI.exit ?_
  have hi2:i=2:=by simp at hc0;omega
  subst hi2
  exact⟨.inl rfl,_,eT.none_ rfl,.inl (by simpa[lA] using hinv)⟩
theorem JM(s:Sk)(m:Sp):Pure Tryz.prog 208 [.agg (storeCells s m)] (.func (.func 213) [] [.ip (storeCells s m) 0]):=by
 refine Kf (N:=4) Tryz.func208 ?_
 exact uf
theorem Py(s:Sk)(m:Sp)(fn:Fn)(fi ca:List PV)(F:Nat->Int)(hm:0<=m.lo∧m.lo<=m.hi∧m.hi<=800000)(hF:∀ j,j<8-> -2000000000000<=F j∧F j<=2000000000000)(hf:∀ j,j<8->gK Tryz.prog (.func fn fi ca) [sx s j] (.int .i64 (F j))):Pure Tryz.prog 198 [.agg (storeCells s m),.func fn fi ca] (.agg [.int .i64 (pF (fun j=>min (m.lo*F j) (m.hi*F j)) 8),.int .i64 (ri (fun j=>max (m.lo*F j) (m.hi*F j)) 8)]):=by
 refine Kf (N:=52) Tryz.func198 ?_
 iterate 15 refine af ?_
 refine Kc (Kp (JM s m)) ?_
 iterate 2 refine af ?_
 refine aI.rangeFunc 0 rfl (fun _=>rfl) an (FK s m) (Ze _) (Zv _) (fun _ h=>by cases h) (fun x hx=>by simp[lA] at hx;obtain⟨j,_,rfl⟩:=hx;rfl) rfl (fun k h=>h=[.cells [.p (.int .i64 (pF (fun j=>min (m.lo*F j) (m.hi*F j)) k)),.p (.int .i64 (ri (fun j=>max (m.lo*F j) (m.hi*F j)) k))] 24,.cells [.p (.bool (k==0))] 4]) (fun c h=>False) (fun _ _ h=>by rw[h];rfl) (fun _ _ h=>h.elim) rfl ?_ ?_ ?_
 ·intro l tmps k h x hJ hx
  subst hJ
  have hk:k<8:=by have:=(Za.1 hx).1;simpa[lA] using this
  obtain rfl:x=[.p (sx s k)]:=by simp[lA,hk] at hx;exact hx.symm
  have YB:=hF k hk
  have q1:=I8 (A:=2000000000000) (B:=800000) (b:=m.lo) ⟨YB.1,YB.2⟩ ⟨hm.1,by omega⟩
  have q2:=I8 (A:=2000000000000) (B:=800000) (b:=m.hi) ⟨YB.1,YB.2⟩ ⟨by omega,hm.2.2⟩
  iterate 4 refine af ?_
  refine⟨rfl,rfl,?_⟩
  iterate 5 refine af ?_
  refine Kc (aa.vZ (hf k hk) rfl rfl rfl) ?_
  iterate 3 refine af ?_
  refine aI.aB 24 mixed (by kernel_rfl) (by decide) ?_
  iterate 4 refine af ?_
  refine Kq (aa.mul rfl rfl rfl (aG ?_)) ?_
  ·omega
  iterate 4 refine af ?_
  refine Kq (aa.mul rfl rfl rfl (aG ?_)) ?_
  ·omega
  refine Kq (aa.min2 rfl rfl rfl) ?_
  iterate 4 refine af ?_
  refine Kq (aa.mul rfl rfl rfl (aG ?_)) ?_
  ·omega
  iterate 4 refine af ?_
  refine Kq (aa.mul rfl rfl rfl (aG ?_)) ?_
  ·omega
  refine Kq (aa.max2 rfl rfl rfl) ?_
  iterate 2 refine af ?_
  refine aE.nil ?_
  iterate 6 refine af ?_
  refine Ki (fun hc0=> ?_) fun hc0=> ?_
  ·iterate 11 refine af ?_
   exact AA
  ·iterate 5 refine af ?_
   exact AA
 ·intro h hJ
  subst hJ
  iterate 6 refine af ?_
  exact uo
 ·exact gR
theorem B4(l:List Sk)(b:List Tk)(hl:l.length<=cj)(hb:okB b)(ht:NY l.length b):Pure Tryz.prog 179 [bZ l,vS b] (jZ (PV.int .i64) tS (bC l b b.length)):=by
 have hb8:=hb.1
 refine Kf (N:=48) Tryz.func179 ?_
 iterate 6 refine af ?_
 refine Kc (aa.makeMap (K:=Int) (α:=Sk×Sp) (enc:=PV.int .i64) (g:=fun a=> .p (tS a)) rfl) ?_
 iterate 10 refine af ?_
 refine aI.sX [7,8,12,13,14,15,16,17,18,19,20,21,22,23,24,25,26,27,28,29,30,31,32,33,34,35,36,37,38,39,40,41,42,43,44,45,46] (fun g=>[(12,.p (.int .i64 ((g:Nat):Int)))]) (fun g=>[nt (PV.int .i64) (fun a=> .p (tS a)) (bC l b g)]) (fun g=>g<=b.length) (fun g=>b.length - g) 0 (Zv _) (To.sub (Sub.RA (Sub.cons rfl Sub.nil))) (fun i hg=> ?_)
 iterate 5 refine af ?_
 refine Ki (fun hc0=> ?_) fun hc0=> ?_
 ·have hk0:i<b.length:=by simp at hc0;omega
  have hti:=hb.2 b[i] (ZZ _)
  have hts:=ht b[i] (ZZ _)
  have tL:b[i].s.toNat<l.length:=by omega
  have xp:=oU l b b[i].s i hg
  have p1:=Ru hb b[i].s i hg
  have p2:=RC hb b[i].s i hg
  have e1:((cB b[i].s (bC l b i)).getD dR).2.lo=fS (yQ b[i].s) b i:=by rw[xp]
  have e2:((cB b[i].s (bC l b i)).getD dR).2.hi=fS (x8 b[i].s) b i:=by rw[xp]
  iterate 5 refine af ?_
  refine Kc (aa.gQ rfl rfl rfl an Sd rfl (fun _=>rfl) (by decide) hk0) ?_
  iterate 9 refine af ?_
  refine Kc (aa.wP (cV.int .i64 .i64) (gp:=tS) dR rfl rfl rfl rfl EN rfl) ?_
  iterate 8 refine af ?_
  refine Kc (aa.mY rfl rfl rfl an xK rfl (fun _=>rfl) (by decide) ?_ ?_) ?_
  ·omega
  ·omega
  iterate 12 refine af ?_
  refine Kc (aa.add rfl rfl rfl (aG ?_)) ?_
  ·omega
  iterate 6 refine af ?_
  refine Kc (aa.add rfl rfl rfl (aG ?_)) ?_
  ·omega
  iterate 9 refine af ?_
  refine Kz (aa.mapUpdate (cV.int .i64 .i64) (g:=fun a=> .p (tS a)) (c:=(l[b[i].s.toNat],⟨_,_⟩)) (.inl rfl) rfl rfl rfl rfl EN) ?_
  iterate 2 refine af ?_
  refine Kc (aa.add rfl rfl rfl (aG ?_)) ?_
  ·omega
  iterate 2 refine af ?_
  refine⟨i+1,?_,?_,?_⟩
  ·simp at hc0;omega
  ·simp at hc0;omega
  refine To.done [0] rfl KS ?_
  show[aD _ (nt _ (fun a=> .p (tS a)) (aS _ _ _))]=_
  rw[yh,gC l b i hk0,fM,Zb tL]
  rfl
 ·obtain rfl:i=b.length:=by simp at hc0;omega
  refine aI.to (To.nW 0 (gp:=tS) rfl) ?_
  refine aI.exit ?_
  iterate 6 refine af ?_
  exact nH
theorem TR(ms:List (Int×(Sk×Sp)))(fn:Fn)(fi ca:List PV)(F:Sk->Nat->Int)(hw:∀ m∈ms,0<=m.2.2.lo∧m.2.2.lo<=m.2.2.hi)(hs:(ms.map xu).sum<=800000)(hF:∀ m∈ms,∀ j,j<8-> -2000000000000<=F m.2.1 j∧F m.2.1 j<=2000000000000)(hf:∀ m∈ms,∀ j,j<8->gK Tryz.prog (.func fn fi ca) [sx m.2.1 j] (.int .i64 (F m.2.1 j))):Pure Tryz.prog 163 [jZ (PV.int .i64) tS ms,.func fn fi ca] (.agg [.int .i64 (ms.map (mq F)).sum,.int .i64 (ms.map (me F)).sum]):=by
 have hpos:∀ m∈ms,0<=xu m:=fun m hm=>by have:=hw m hm;unfold xu;omega
 refine Kf (N:=32) Tryz.func163 ?_
 iterate 8 refine af ?_
 refine Kc (aa.rangeMap (enc:=PV.int .i64) (gp:=tS) rfl rfl EN) ?_
 iterate 2 refine af ?_
 refine aI.sX [6,7,8,11,12,13,14,15,16,17,18,19,20,21,22,23,24,25,26,27,28,29,30] (fun(g:tD)=>[]) (fun(g:tD)=>[.cells [.p (.int .i64 (g.d.map (mq F)).sum),.p (.int .i64 (g.d.map (me F)).sum)] 24,yF (PV.int .i64) tS g.r g.last]) (fun(g:tD)=>tD.ok ms g) (fun(g:tD)=>g.r.length) ⟨[],ms,none⟩ ⟨(fun f=>by simp),(fun _ h=>by cases h),fun _ h=>h⟩ (To.sub (Sub.RA Sub.nil)) (fun g hg=> ?_)
 obtain⟨d,r,last⟩:=g
 dsimp only
 iterate 2 refine af ?_
 refine aj.Pn 11 rfl rfl rfl rfl rfl rfl ?_ ?_
 ·intro hr
  subst hr
  iterate 3 refine af ?_
  refine Ki (fun hc0=> ?_) fun hc0=> ?_
  ·cases hc0
  ·refine aI.exit ?_
   iterate 6 refine af ?_
   refine Fin.gW rfl ⟨_,_,_,rfl,an,rfl⟩ ?_
   have e1:=hg.1 (mq F)
   have e2:=hg.1 (me F)
   simp at e1 e2
   simp[e1,e2]
 ·intro j m hj
  have hjl:j<r.length:=(Za.1 hj).1
  have hmem:m∈ms:=hg.2.2 m (Zh hj)
  have hmw:=hw m hmem
  have hmh:xu m<=(ms.map xu).sum:=wK hpos hmem
  have h9:m.2.2.hi<=800000:=(by omega:xu m<=800000)
  have mV:=tD.Hl hg hj
  have s1:=sC (f:=mq F) (g:=xu) (X:=2000000000000) (r:=d) (fun x hx=>LK (hw x (hg.2.1 x hx)) (hF x (hg.2.1 x hx)))
  have s2:=sC (f:=me F) (g:=xu) (X:=2000000000000) (r:=d) (fun x hx=>GR (hw x (hg.2.1 x hx)) (hF x (hg.2.1 x hx)))
  have s3:=mV.1 xu
  dsimp only at s3
  rw[pP] at s3
  have s4:=lE (f:=xu) (r:=r.eraseIdx j) (fun x hx=>hpos x (mV.2.2 x hx))
  have s5:=lE (f:=xu) (r:=d) (fun x hx=>hpos x (hg.2.1 x hx))
  have s6:=LK hmw (hF m hmem)
  have s7:=GR hmw (hF m hmem)
  have s8:=hpos m hmem
  iterate 3 refine af ?_
  refine Ki (fun hc0=> ?_) fun hc0=> ?_
  ·iterate 4 refine af ?_
   refine Kc (aa.entry rfl rfl rfl) ?_
   iterate 7 refine af ?_
   refine Kc (aa.makeFunc rfl rfl rfl) ?_
   iterate 6 refine af ?_
   refine Kc (aa.e8 (Py m.2.1 m.2.2 fn fi ca (F m.2.1) ?_ ?_ ?_) rfl rfl rfl rfl (an)) ?_
   ·omega
   ·exact hF m hmem
   ·exact hf m hmem
   iterate 8 refine af ?_
   refine Kc (aa.add rfl rfl rfl (aG ?_)) ?_
   ·exact EH
   iterate 4 refine af ?_
   refine Kc (aa.add rfl rfl rfl (aG ?_)) ?_
   ·exact EH
   iterate 3 refine af ?_
   refine⟨⟨d++[m],r.eraseIdx j,some m⟩,?_,?_,?_⟩
   ·exact tD.Hl hg hj
   ·show(r.eraseIdx j).length<r.length
    rw[List.length_eraseIdx,if_pos hjl]
    omega
   refine To.done [0,1] rfl KS ?_
   dsimp only
   rw[pP,pP]
   rfl
  ·cases hc0
theorem FZ(n w c l:Int)(hn:0<=n∧n<=1000)(hs:kq w c l):Pure Tryz.prog 164 [.agg [.int .i64 w,.int .i64 c,.int .i64 l],.ip [.int .i64 n] 0] (.int .i64 (bJ n w c l)):=by
 refine Kf (N:=7) Tryz.func164 ?_
 iterate 9 refine af ?_
 refine Kc (Kp (PB _ _ _ _ ?_ ?_)) ?_
 ·assumption
 ·assumption
 exact cQ
theorem xY(ms:List (Int×(Sk×Sp)))(n:Int)(hn:0<=n∧n<=1000)(hm:okM ms):Pure Tryz.prog 116 [jZ (PV.int .i64) tS ms,.int .i64 n] (.agg [.int .i64 (ms.map (mq (KE (bJ n)))).sum,.int .i64 (ms.map (me (KE (bJ n)))).sum]):=by
 refine Kf (N:=8) Tryz.func116 ?_
 iterate 8 refine af ?_
 refine Kc (aa.makeFunc rfl rfl rfl) ?_
 refine Kc (Kp (TR ms (.func 164) [] [.ip [.int .i64 n] 0] (KE (bJ n)) ?_ ?_ ?_ ?_)) ?_
 ·exact hm.1
 ·exact hm.2.1
 ·exact fun m QU j _=>by have h:=(hm.2.2 m QU).state j;unfold KE;have:=XA hn h;omega
 ·exact fun m QU j _=>⟨164,[sx m.2.1 j,.ip [.int .i64 n] 0],rfl,an,FZ n _ _ _ hn ((hm.2.2 m QU).state j)⟩
 exact uj
theorem kJ(n r:Nat)(fn:Fn)(fi ca:List PV)(p:Nat->Bool)(hn:n<=140737488355328)(hr:r<=n)(h1:∀ i,i<r->p i=false)(h2:∀ i,r<=i->i<n->p i=true)(hf:∀ i,i<n->gK Tryz.prog (.func fn fi ca) [.int .i64 ((i:Nat):Int)] (.bool (p i))):Pure Tryz.prog 53 [.int .i64 (n:Int),.func fn fi ca] (.int .i64 (r:Int)):=by
 refine Kf (N:=26) Tryz.func53 ?_
 iterate 12 refine af ?_
 refine aI.vP [5,6,7,9,10,11,12,13,14,15,16,17,18,19,20,21,22,23,24] (fun g=>[(5,.p (.int .i64 ((g.1:Nat):Int))),(6,.p (.int .i64 ((g.2:Nat):Int)))]) (fun g=>g.1<=r∧r<=g.2∧g.2<=n) (fun g=>g.2 - g.1) (0,n) ⟨Zv _,hr,Ze _⟩ (Sub.cons rfl (Sub.cons rfl (Sub.nil))) (fun g hg=> ?_)
 obtain⟨i,j⟩:=g
 obtain⟨hi,hj,hjn⟩:=hg
 dsimp only at hi hj hjn ⊢
 iterate 7 refine af ?_
 refine Ki (fun hc0=> ?_) fun hc0=> ?_
 ·have hij:i<j:=by simp at hc0;omega
  have hf0:=hf ((i+j) / 2) (by omega)
  iterate 6 refine af ?_
  refine Kc (aa.add rfl rfl rfl (aG ?_)) ?_
  ·omega
  refine Kc (aa.dM rfl rfl (by rw[AI];rfl) C5 (mS ?_)) ?_
  ·omega
  refine Kc (aa.shr (m:=(((i+j) / 2:Nat):Int)) rfl rfl rfl (by decide) ?_) ?_
  ·refine aaa.trans ?_;omega
  refine Kc (aa.dM rfl rfl (by rw[C5];rfl) AI (aG ?_)) ?_
  ·omega
  iterate 6 refine af ?_
  refine Kc (aa.vZ (hf0) rfl rfl rfl) ?_
  iterate 2 refine af ?_
  refine Ki (fun c8=> ?_) fun c8=> ?_
  ·have q1:p ((i+j) / 2)=false:=by simpa using c8
   have q2:(i+j) / 2+1<=r:=by rcases ZD ((i+j) / 2) r with h | h;{omega};{have:=h2 _ h (by omega);rw[q1] at this;cases this}
   iterate 2 refine af ?_
   refine Kc (aa.add rfl rfl rfl (aG ?_)) ?_
   ·omega
   iterate 2 refine af ?_
   refine⟨((i+j) / 2+1,j),?_,?_,?_⟩
   ·exact⟨q2,hj,hjn⟩
   ·dsimp only;omega
   exact kU
  ·have q1:p ((i+j) / 2)=true:=by simpa using c8
   have q2:r<=(i+j) / 2:=by rcases ZD ((i+j) / 2) r with h | h;{have:=h1 _ h;rw[q1] at this;cases this};{omega}
   iterate 4 refine af ?_
   refine⟨(i,(i+j) / 2),?_,?_,?_⟩
   ·exact⟨hi,q2,by dsimp only;omega⟩
   ·dsimp only;omega
   exact kU
 ·obtain rfl:i=r:=by simp at hc0;omega
  refine aI.exit ?_
  iterate 6 refine af ?_
  refine Fin.gW rfl rfl ?_
  rfl
theorem vu(l:List Sk)(b:List Tk)(n:Int)(hn:0<=n∧n<=1000)(hl:C3 l)(hb:okB b)(ht:NY l.length b):Pure Tryz.prog 116 [jZ (PV.int .i64) tS (bC l b b.length),.int .i64 n] (.agg [.int .i64 (EZ l b n),.int .i64 (B5 l b n)]):=by
 have h:=xY (bC l b b.length) n hn (Jk hl hb ht)
 rw[Tt ht,SF ht] at h
 exact h
theorem IJ(l:List Sk)(b:List Tk)(n:Int)(hn:0<=n∧n<=1000)(hl:C3 l)(hb:okB b)(ht:NY l.length b):Pure Tryz.prog 180 [.int .i64 n,.ip [jZ (PV.int .i64) tS (bC l b b.length)] 0] (.bool (decide (EZ l b n<0))):=by
 refine Kf (N:=9) Tryz.func180 ?_
 iterate 8 refine af ?_
 refine Kc (Kp (vu l b n hn hl hb ht)) ?_
 refine Kc (aa.field rfl rfl LA rfl) ?_
 exact qX
theorem Jo(l:List Sk)(b:List Tk)(n:Int)(hn:0<=n∧n<=1000)(hl:C3 l)(hb:okB b)(ht:NY l.length b):Pure Tryz.prog 181 [.int .i64 n,.ip [jZ (PV.int .i64) tS (bC l b b.length)] 0] (.bool (decide (B5 l b n<=0))):=by
 refine Kf (N:=9) Tryz.func181 ?_
 iterate 8 refine af ?_
 refine Kc (Kp (vu l b n hn hl hb ht)) ?_
 refine Kc (aa.field rfl rfl L3 rfl) ?_
 exact qX
theorem NQ(l:List Sk)(b:List Tk)(hl:l.length<=cj)(hb:b.length<=cj):Pure Tryz.prog 141 [bZ l,vS b] (.tuple (vr l b)):=by
 refine Kf (N:=30) Tryz.func141 ?_
 iterate 9 refine af ?_
 refine Kc (Kp (tf _ ?_)) ?_
 ·assumption
 iterate 2 refine af ?_
 refine Kg 13 12 0 rfl (fun h=>(aa.move rfl rfl)) ?_
 refine Kg 14 12 1 rfl (fun h=>(aa.move rfl rfl)) ?_
 refine aj.g 15 12 rfl rfl rfl rfl rfl rfl rfl [(13,_),(14,_)] (fun h=>And.intro (.inr ⟨_,rfl,h⟩) (And.intro (.inr ⟨_,rfl,h⟩) (trivial))) (fun h=>(Kp (FA _ _ ?_ ?_))) ?_
 ·assumption
 ·assumption
 refine Kh 16 12 15 rfl rfl rfl rfl (fun h=>(aa.gH rfl rfl)) ?_
 refine Kc (aa.pG rfl rfl rfl ?_) ?_
 ·exact aC
 refine af ?_
 refine Ki (fun hc0=> ?_) fun hc0=> ?_
 ·iterate 7 refine af ?_
  have hv:dG l b=false:=by unfold dG;simp at hc0;rcases hc0 with h | h <;> simp[h]
  refine Fin.dD (xs:=[.agg [.int .i64 0,.int .i64 0],.int .i64 1]) rfl (⟨_,_,rfl,⟨_,_,_,rfl,an,rfl⟩,⟨_,_,rfl,rfl,rfl⟩⟩) rfl ?_
  simp[vr,hv]
 ·have hv:dG l b=true:=by unfold dG;simp at hc0;simp[hc0]
  have Ow:C3 l:=wo (by unfold dG at hv;simp at hv;exact hv.1)
  have Ou:=Ug (n:=l.length) (b:=b) (by unfold dG at hv;simp at hv;exact hv.2)
  obtain⟨r,q,cr,cq,er,eq⟩:=lB Ow Ou.1
  iterate 5 refine af ?_
  refine Kc (Kp (B4 l b hl Ou.1 Ou.2)) ?_
  iterate 5 refine af ?_
  refine aj.freeze 1 rfl rfl ?_
  refine Kc (aa.makeFunc rfl rfl rfl) ?_
  refine Kc (Kp (kJ 1001 r (.func 180) [] [.ip [jZ (PV.int .i64) tS (bC l b b.length)] 0] _ (by decide) cr.1 cr.2.1 cr.2.2 (fun i hi=>⟨180,[.int .i64 (i:Int),.ip [jZ (PV.int .i64) tS (bC l b b.length)] 0],rfl,an,IJ l b _ (by omega) Ow Ou.1 Ou.2⟩))) ?_
  iterate 4 refine af ?_
  refine Kc (aa.makeFunc rfl rfl rfl) ?_
  refine Kc (Kp (kJ 1000 q (.func 181) [] [.ip [jZ (PV.int .i64) tS (bC l b b.length)] 0] _ (by decide) cq.1 cq.2.1 cq.2.2 (fun i hi=>⟨181,[.int .i64 (i:Int),.ip [jZ (PV.int .i64) tS (bC l b b.length)] 0],rfl,an,Jo l b _ (by omega) Ow Ou.1 Ou.2⟩))) ?_
  iterate 5 refine af ?_
  refine Kc (aa.fE rfl rfl rfl (aG ?_)) ?_
  ·have:=cr.1;omega
  iterate 6 refine af ?_
  refine Fin.dD (xs:=[.agg [.int .i64 ((r:Int) - 1),.int .i64 (q:Int)],.int .i64 0]) rfl (⟨_,_,rfl,⟨_,_,_,rfl,an,rfl⟩,⟨_,_,rfl,rfl,rfl⟩⟩) rfl ?_
  simp[vr,hv,er,eq]
theorem NU{l:List Sk}{b:List Tk}(hl:C3 l)(hb:okB b):B5 l b 1000<=0:=by
 have h:B5 l b 1000<=fV (fun _=>0) l.length:=iZ _ fun i hi=>by
  rw[zw]
  have h1:=EF (f:=bJ 1000) (g:=fun _ _ _=>0) (s:=l[i]?.getD aU) (lo:=ES b i) (hi:=ER b i) ⟨(wB hb i).1.1,YM hb i⟩ (fun k=>by
   have:=zn ((hl.get hi).rA k)
   simp only[bJ,kH];omega)
  have h2:FQ (fun _ _ _=>0) (l[i]?.getD aU) (ES b i) (ER b i)=0:=by
   unfold FQ
   simp only[Int.mul_zero,Int.max_self]
   exact sP 0 8 (by omega)
  omega
 rw[jd _ (fun _ _=>rfl)] at h
 exact h
theorem GA{l:List Sk}{b:List Tk}(hl:C3 l)(hb:okB b){x:Int}(hx:0<=x∧x<=1000):x<=mj l b 1001↔0<=EZ l b x:=by
 obtain⟨r,q,⟨r0,r1,r2⟩,_,er,_⟩:=lB hl hb
 obtain⟨n,rfl⟩:∃ n:Nat,x=n:=⟨x.toNat,by omega⟩
 rw[er]
 rcases ZD n r with h | h
 ·have:=r1 n h
  simp at this
  exact⟨fun _=>this,fun _=>by omega⟩
 ·have:=r2 n h (by omega)
  simp at this
  exact nq
theorem PC{l:List Sk}{b:List Tk}(hl:C3 l)(hb:okB b){x:Int}(hx:0<=x∧x<=1000):iP l b 1001<=x↔B5 l b x<=0:=by
 obtain⟨r,q,_,⟨q0,q1,q2⟩,_,eq⟩:=lB hl hb
 obtain⟨n,rfl⟩:∃ n:Nat,x=n:=⟨x.toNat,by omega⟩
 rw[eq]
 rcases ZD n q with h | h
 ·have:=q1 n h
  simp at this
  exact nq
 ·rcases ZD n 1000 with h2 | h2
  ·have:=q2 n h h2
   simp at this
   exact⟨fun _=>this,fun _=>by omega⟩
  ·obtain rfl:n=1000:=by omega
   exact⟨fun _=>NU hl hb,fun _=>by omega⟩
theorem aat{l:List Sk}{b:List Tk}(hl:C3 l)(hb:okB b):(0<=mj l b 1001∧mj l b 1001<=1000)∧(0<=iP l b 1001∧iP l b 1001<=1000):=by
 obtain⟨r,q,⟨r0,r1,r2⟩,⟨q0,q1,q2⟩,er,eq⟩:=lB hl hb
 have h:=(GA hl hb (x:=0) (by omega)).2 (BM hl hb)
 rw[er] at h
 rw[er,eq]
 omega
def nY(l:List Sk)(i j t:Int)(w:Sp)(n:Int):Bool:=decide (1<=n)&&decide (n<t)&&gY l i j t w n.toNat
theorem lP{l:List Sk}{i j t:Int}{w:Sp}(h:cG l i j t w=true):(0<=i∧i<=(l.length:Int) - 1)∧(0<=j∧j<=(l.length:Int) - 1)∧i≠j∧(2<=t∧t<=100000)∧(0<=w.lo∧w.lo<=w.hi∧w.hi<=1000):=by
 simp[cG,Sp.ok] at h
 omega
theorem qv{l:List Sk}{i j t:Int}{w:Sp}(hA:aF l=true)(hG:cG l i j t w=true)(n:Int):dG l (b2 i j t n)=(decide (1<=n)&&decide (n<t)):=by
 obtain⟨h1,h2,h3,h4,h5⟩:=lP hG
 have e1:Tk.bad l.length ⟨i,⟨n,n⟩⟩= !(decide (1<=n)&&decide (n<=100000)):=by
  simp[Tk.bad,Sp.ok,h1.1,h1.2]
 have e2:Tk.bad l.length ⟨j,⟨t - n,t - n⟩⟩= !(decide (1<=t - n)&&decide (t - n<=100000)):=by
  simp[Tk.bad,Sp.ok,h2.1,h2.2]
 unfold dG iE b2
 rw[hA]
 simp only[List.any_cons,List.any_nil,e1,e2,Zn,IN]
 rw[Bool.eq_iff_iff]
 simp
 omega
theorem J6{l:List Sk}{i j t:Int}{w:Sp}(hA:aF l=true)(hG:cG l i j t w=true)(n:Int):
    (decide (Vj l (b2 i j t n)=0)&&decide (w.lo<=OC l (b2 i j t n))&&decide (OH l (b2 i j t n)<=w.hi))=nY l i j t w n:=by
 have hv:=qv hA hG n
 obtain⟨h1,h2,h3,h4,h5⟩:=lP hG
 by_cases hn:1<=n∧n<t
 ·have hv1:dG l (b2 i j t n)=true:=by rw[hv];simp[hn.1,hn.2]
  have Ow:=wo hA
  have Ou:=W6 (i:=i) (j:=j) (show 0<=n by omega) (show n<=t by omega) h4.2
  have g1:=GA Ow Ou (x:=w.lo) (by omega)
  have g2:=PC Ow Ou (x:=w.hi) (by omega)
  have en:((n.toNat:Nat):Int)=n:=by omega
  unfold nY gY Vj OC OH
  rw[en]
  simp only[hv1,if_true,hn.1,hn.2,decide_true,Bool.true_and]
  simp only[g1,g2]
 ·have hv1:dG l (b2 i j t n)=false:=by rw[hv];simp;omega
  unfold nY Vj
  simp only[hv1]
  simp
  intro h;omega
theorem Qf{s1 s2:Sk}{w:Sp}{t r p q:Nat}(ht:2<=t)(h:ir (b9 s1 s2 t w) t r)(h0:0<=b9 s1 s2 t w ((r:Int)+1))
    (p0:p<=r)(p1:∀ i,i<p->decide (0<=b9 s1 s2 t w ((i:Int)+1))=false)(p2:∀ i,p<=i->i<r->decide (0<=b9 s1 s2 t w ((i:Int)+1))=true)
    (q0:q<=t - 2 - r)(q1:∀ i,i<q->decide (b9 s1 s2 t w ((r:Int)+2+i)<0)=false)(q2:∀ i,q<=i->i<t - 2 - r->decide (b9 s1 s2 t w ((r:Int)+2+i)<0)=true):
    ∀ k:Nat,1<=k->k<=t - 1->(decide (0<=b9 s1 s2 t w (k:Int))=true↔1+p<=k∧k<=1+r+q):=by
 have hr:=h.JV
 intro k h1 h2
 obtain⟨k,rfl⟩:∃ k',k=k'+1:=⟨k - 1,by omega⟩
 have e:((k+1:Nat):Int)=k+1:=by omega
 simp only[e,Zj]
 rcases ZD k p with h3 | h3
 ·exact BB
 ·rcases ZD k r with h4 | h4
  ·have:=p2 k h3 h4
   simp at this
   exact nq
  ·rcases ZD r k with h5 | h5
   ·exact CJ
   ·obtain rfl:k=r:=by omega
    exact nq
theorem xP{l:List Sk}{i j t:Int}{w:Sp}(hA:aF l=true)(hG:cG l i j t w=true):
    (iJ l i j t w=4∧∀ k:Nat,1<=k->(k:Int)<t->gY l i j t w k=false)∨
    (iJ l i j t w=0∧∃ a c:Nat,rU l i j t w=a∧sn l i j t w=c∧1<=a∧a<=c∧(c:Int)<t∧∀ k:Nat,1<=k->(k:Int)<t->(gY l i j t w k=true↔a<=k∧k<=c)):=by
 obtain⟨gi,gj,hne,gt,hw⟩:=lP hG
 have Ow:=wo hA
 obtain⟨tn,rfl⟩:∃ n:Nat,t=n:=⟨t.toNat,by omega⟩
 have YE:i.toNat<l.length:=by omega
 have Yt:j.toNat<l.length:=by omega
 have e1:l[i.toNat]?.getD aU=l[i.toNat]:=by rw[Zb YE,LR]
 have e2:l[j.toNat]?.getD aU=l[j.toNat]:=by rw[Zb Yt,LR]
 have jz:2<=tn:=by omega
 have ok:∀ k:Nat,(k:Int)<tn->gY l i j tn w k=decide (0<=b9 l[i.toNat] l[j.toNat] tn w k):=fun k hk=>by
  rw[vb (by omega) (by omega) hne (by omega),e1,e2]
 obtain⟨r,hr⟩:=Is l[i.toNat] l[j.toNat] w tn jz
 have hr2:=hr.JV
 by_cases hm:b9 l[i.toNat] l[j.toNat] tn w ((r:Int)+1)<0
 ·left
  have hR:=B0 jz hr hm
  have hS:jJ (gY l i j tn w) (((tn:Int) - 1).toNat)=none:=by
   exact A3
  have Vv:jJ (gY l i j tn w) (tn - 1)=none:=by rw[<- hS,show((tn:Int) - 1).toNat=tn - 1 by omega]
  refine⟨by simp[iJ,hA,hG,Vv],fun k h1 h2=> ?_⟩
  rw[ok k h2]
  obtain⟨k,rfl⟩:∃ k',k=k'+1:=⟨k - 1,by omega⟩
  have e:((k+1:Nat):Int)=k+1:=by omega
  simp only[e,UL]
  rcases Nat.le_total k r with h3 | h3
  ·have:=hr.up k r h3 (Ze _);omega
  ·have:=hr.down jz r k (Ze _) h3 (by omega);omega
 ·right
  rw[Int.not_lt] at hm
  obtain⟨p,p0,p1,p2⟩:=Iq hr
  obtain⟨q,q0,q1,q2⟩:=AO jz hr
  have hR:=DF jz hr hm p0 p1 p2 q0 q1 q2
  have hS:jJ (gY l i j tn w) (((tn:Int) - 1).toNat)=some (1+(p:Int),1+(r:Int)+q):=by
   exact A3
  have Vv:jJ (gY l i j tn w) (tn - 1)=some (1+(p:Int),1+(r:Int)+q):=by rw[<- hS,show((tn:Int) - 1).toNat=tn - 1 by omega]
  have hE:iJ l i j tn w=0:=by simp[iJ,hA,hG,Vv]
  refine⟨hE,1+p,1+r+q,?_,?_,by omega,by omega,by omega,fun k h1 h2=> ?_⟩
  ·simp[rU,hE,Vv]
  ·simp[sn,hE,Vv]
  ·rw[ok k h2]
   exact Qf jz hr hm p0 p1 p2 q0 q1 q2 k h1 (by omega)
theorem Nc{l:List Sk}{i j t:Int}{w:Sp}(h1:¬ iJ l i j t w=1)(h2:¬ iJ l i j t w=2):aF l=true∧cG l i j t w=true:=by
 unfold iJ at h1 h2
 cases hA:aF l
 ·rw[hA] at h1;exact absurd rfl h1
 ·rw[hA] at h1 h2
  cases hG:cG l i j t w
  ·rw[hG] at h2;exact absurd rfl h2
  ·exact⟨rfl,rfl⟩
theorem Xk{l:List Sk}{i j t:Int}{w:Sp}{a c:Nat}(h1:1<=a)(h2:a<=c)(h3:(c:Int)<t)(h4:∀ k:Nat,1<=k->(k:Int)<t->(gY l i j t w k=true↔a<=k∧k<=c)){n:Int}(hn:1<=n)(ht:n<t):
    nY l i j t w n=(decide ((a:Int)<=n)&&decide (n<=(c:Int))):=by
 have h:=h4 n.toNat (by omega) (by omega)
 unfold nY
 rw[Bool.eq_iff_iff]
 simp only[Zk,Zj,h]
 omega
theorem Li{x:List PV}(h:oH [.leaf (.int .u32)] x):∃ n:Int,x=[.int .u32 n]∧(0<=n∧n<=4294967295):=by
 cases h with
 | cons _ _ y ys h1 h2=>
  cases h2
  cases h1 with
  | int _ n hw=>
   refine⟨n,rfl,?_⟩
   simp only[Lit.wf,Zk,Zj] at hw
   have e1:IntKind.u32.min=0:=by decide
   have e2:IntKind.u32.max=4294967295:=by decide
   omega
theorem Xz(s1 s2:Sk)(t:Int)(w:Sp)(n:Int)(hn:0<=n)(hnt:n<=t)(ht:t<=100000):Pure Tryz.prog 115 [.agg (s1.cells++s2.cells++[.int .i64 t,.int .i64 w.lo,.int .i64 w.hi]),.int .i64 n] (jZ (PV.int .i64) tS (ofM s1 s2 t n)):=by
 refine Kf (N:=25) Tryz.func115 ?_
 iterate 7 refine af ?_
 refine Kc (aa.makeMap (K:=Int) (α:=Sk×Sp) (enc:=PV.int .i64) (g:=fun a=> .p (tS a)) rfl) ?_
 iterate 6 refine af ?_
 refine Kz (aa.mapUpdate (cV.int .i64 .i64) (g:=fun a=> .p (tS a)) (c:=(s1,⟨n,n⟩)) (.inr rfl) rfl rfl rfl rfl EN) ?_
 iterate 5 refine af ?_
 refine Kc (aa.fE rfl rfl rfl (aG ?_)) ?_
 ·omega
 iterate 3 refine af ?_
 refine Kc (aa.fE rfl rfl rfl (aG ?_)) ?_
 ·omega
 iterate 2 refine af ?_
 refine Kz (aa.mapUpdate (cV.int .i64 .i64) (g:=fun a=> .p (tS a)) (c:=(s2,⟨t - n,t - n⟩)) (.inr rfl) rfl rfl rfl rfl EN) ?_
 iterate 3 refine af ?_
 refine aI.to (To.nW 0 (gp:=tS) rfl) ?_
 refine af ?_
 refine Fin.gW rfl rfl ?_
 rfl
theorem vW(s1 s2:Sk)(t:Int)(w:Sp)(n:Int)(x:Int)(h1:gr s1)(h2:gr s2)(hn:0<=n)(hnt:n<=t)(ht:t<=100000)(hx:0<=x∧x<=1000):Pure Tryz.prog 116 [jZ (PV.int .i64) tS (ofM s1 s2 t n),.int .i64 x] (.agg [.int .i64 (n*DX (bJ x) s1+(t - n)*DX (bJ x) s2),.int .i64 (n*Cg (bJ x) s1+(t - n)*Cg (bJ x) s2)]):=by
 have h:=xY (ofM s1 s2 t n) x hx (Ul h1 h2 hn hnt ht)
 rw[Uu s1 s2 t n hn hnt,Uv s1 s2 t n hn hnt] at h
 exact h
theorem nP(s1 s2:Sk)(t:Int)(w:Sp)(n:Int)(h1:gr s1)(h2:gr s2)(ht:t<=100000)(hw:0<=w.lo∧w.lo<=w.hi∧w.hi<=1000)(hn:0<=n)(hnt:n<=t):Pure Tryz.prog 55 [.agg (s1.cells++s2.cells++[.int .i64 t,.int .i64 w.lo,.int .i64 w.hi]),.int .i64 n] (.int .i64 (b9 s1 s2 t w n)):=by
 have b1:=XO (R3 (x:=w.hi) (by omega) h1) (R3 (x:=w.hi) (by omega) h2) hn hnt ht
 refine Kf (N:=23) Tryz.func55 ?_
 iterate 9 refine af ?_
 refine Kc (Kp (Xz s1 s2 t w n hn hnt ht)) ?_
 iterate 3 refine af ?_
 refine aI.aB 15 mixed (by kernel_rfl) (by decide) ?_
 iterate 4 refine af ?_
 refine Kq (Kp (vW s1 s2 t w n w.lo h1 h2 hn hnt ht (by omega))) ?_
 refine Kq (aa.field rfl rfl LA rfl) ?_
 iterate 4 refine af ?_
 refine Kq (Kp (vW s1 s2 t w n w.hi h1 h2 hn hnt ht (by omega))) ?_
 refine Kq (aa.field rfl rfl L3 rfl) ?_
 refine Kq (aa.neg rfl rfl (aG ?_)) ?_
 ·omega
 refine Kq (aa.min2 rfl rfl rfl) ?_
 exact ld
theorem OT(l:List Sk)(n:Int)(hl:l.length<=cj):Pure Tryz.prog 49 [.int .i64 n,.ip [bZ l] 0] (.bool (decide (0<=n)&&decide (n<=(l.length:Int) - 1))):=by
 refine Kf (N:=9) Tryz.func49 ?_
 iterate 9 refine af ?_
 refine Kc (aa.fE rfl rfl rfl (aG ?_)) ?_
 ·unfold cj at hl;omega
 refine Kc (Kp (cv _ _ _)) ?_
 exact cQ
theorem Ob(l:List Sk)(n:Int)(hl:l.length<=cj):gK Tryz.prog (.func (.func 49) [] [.ip [bZ l] 0]) [.int .i64 n] (.bool (decide (0<=n)&&decide (n<=(l.length:Int) - 1))):=⟨49,[.int .i64 n,.ip [bZ l] 0],rfl,an,OT l n hl⟩
theorem OR(s1 s2:Sk)(t:Int)(w:Sp)(n:Int)(h1:gr s1)(h2:gr s2)(ht:t<=100000)(hw:0<=w.lo∧w.lo<=w.hi∧w.hi<=1000)(hn:0<=n)(hnt:n+2<=t):Pure Tryz.prog 54 [.int .i64 n,.ip (s1.cells++s2.cells++[.int .i64 t,.int .i64 w.lo,.int .i64 w.hi]) 0] (.bool (decide (b9 s1 s2 t w (n+2)<=b9 s1 s2 t w (n+1)))):=by
 refine Kf (N:=13) Tryz.func54 ?_
 iterate 5 refine af ?_
 refine aI.aB 10 mixed (by kernel_rfl) (by decide) ?_
 iterate 2 refine af ?_
 refine Kq (aa.add rfl rfl rfl (aG ?_)) ?_
 ·omega
 refine Kq (Kp (nP s1 s2 t w (n+2) h1 h2 ht hw (by omega) (by omega))) ?_
 iterate 2 refine af ?_
 refine Kq (aa.add rfl rfl rfl (aG ?_)) ?_
 ·omega
 refine Kq (Kp (nP s1 s2 t w (n+1) h1 h2 ht hw (by omega) (by omega))) ?_
 refine Kq (aa.leq rfl rfl rfl) ?_
 exact ld
theorem OU(s1 s2:Sk)(t:Int)(w:Sp)(n:Int)(h1:gr s1)(h2:gr s2)(ht:t<=100000)(hw:0<=w.lo∧w.lo<=w.hi∧w.hi<=1000)(hn:0<=n)(hnt:n+1<=t):Pure Tryz.prog 56 [.int .i64 n,.ip (s1.cells++s2.cells++[.int .i64 t,.int .i64 w.lo,.int .i64 w.hi]) 0] (.bool (decide (0<=b9 s1 s2 t w (n+1)))):=by
 refine Kf (N:=9) Tryz.func56 ?_
 iterate 8 refine af ?_
 refine Kc (aa.add rfl rfl rfl (aG ?_)) ?_
 ·omega
 refine Kc (Kp (nP s1 s2 t w (n+1) h1 h2 ht hw (by omega) (by omega))) ?_
 exact qX
theorem QO(s1 s2:Sk)(t:Int)(w:Sp)(n:Int)(r:Int)(h1:gr s1)(h2:gr s2)(ht:t<=100000)(hw:0<=w.lo∧w.lo<=w.hi∧w.hi<=1000)(hr:0<=r)(hn:0<=n)(hnt:r+2+n<=t):Pure Tryz.prog 57 [.int .i64 n,.ip (s1.cells++s2.cells++[.int .i64 t,.int .i64 w.lo,.int .i64 w.hi]) 0,.ip [.int .i64 (1+r)] 0] (.bool (decide (b9 s1 s2 t w (r+2+n)<0))):=by
 refine Kf (N:=12) Tryz.func57 ?_
 iterate 8 refine af ?_
 refine Kc (aa.add rfl rfl rfl (aG ?_)) ?_
 ·omega
 refine af ?_
 refine Kc (aa.add (m:=r+2+n) rfl rfl rfl ((aG ?_).trans ?_)) ?_
 ·omega
 ·omega
 refine Kc (Kp (nP s1 s2 t w (r+2+n) h1 h2 ht hw (by omega) (by omega))) ?_
 exact qX
theorem UK(s1 s2:Sk)(tn:Nat)(w:Sp)(h1:gr s1)(h2:gr s2)(ht:(tn:Int)<=100000)(hw:0<=w.lo∧w.lo<=w.hi∧w.hi<=1000)(i:Nat)(hi:i<tn - 2):gK Tryz.prog (.func (.func 54) [] [.ip (s1.cells++s2.cells++[.int .i64 tn,.int .i64 w.lo,.int .i64 w.hi]) 0]) [.int .i64 (i:Int)] (.bool (decide (b9 s1 s2 tn w ((i:Int)+2)<=b9 s1 s2 tn w ((i:Int)+1)))):=⟨54,[.int .i64 (i:Int),.ip (s1.cells++s2.cells++[.int .i64 tn,.int .i64 w.lo,.int .i64 w.hi]) 0],rfl,an,OR s1 s2 tn w i h1 h2 ht hw (by omega) (by omega)⟩
theorem So(s1 s2:Sk)(tn:Nat)(w:Sp)(h1:gr s1)(h2:gr s2)(ht:(tn:Int)<=100000)(hw:0<=w.lo∧w.lo<=w.hi∧w.hi<=1000)(i:Nat)(hi:i+1<=tn):gK Tryz.prog (.func (.func 56) [] [.ip (s1.cells++s2.cells++[.int .i64 tn,.int .i64 w.lo,.int .i64 w.hi]) 0]) [.int .i64 (i:Int)] (.bool (decide (0<=b9 s1 s2 tn w ((i:Int)+1)))):=⟨56,[.int .i64 (i:Int),.ip (s1.cells++s2.cells++[.int .i64 tn,.int .i64 w.lo,.int .i64 w.hi]) 0],rfl,an,OU s1 s2 tn w i h1 h2 ht hw (by omega) (by omega)⟩
theorem UH(s1 s2:Sk)(tn r:Nat)(w:Sp)(h1:gr s1)(h2:gr s2)(ht:(tn:Int)<=100000)(hw:0<=w.lo∧w.lo<=w.hi∧w.hi<=1000)(i:Nat)(hi:r+2+i<=tn):gK Tryz.prog (.func (.func 57) [] [.ip (s1.cells++s2.cells++[.int .i64 tn,.int .i64 w.lo,.int .i64 w.hi]) 0,.ip [.int .i64 (1+(r:Int))] 0]) [.int .i64 (i:Int)] (.bool (decide (b9 s1 s2 tn w ((r:Int)+2+i)<0))):=⟨57,[.int .i64 (i:Int),.ip (s1.cells++s2.cells++[.int .i64 tn,.int .i64 w.lo,.int .i64 w.hi]) 0,.ip [.int .i64 (1+(r:Int))] 0],rfl,an,QO s1 s2 tn w i r h1 h2 ht hw (by omega) (by omega) (by omega)⟩
theorem NI(l:List Sk)(i j t:Int)(w:Sp)(hl:l.length<=cj):Pure Tryz.prog 19 [bZ l,.int .i64 i,.int .i64 j,.int .i64 t,.agg [.int .i64 w.lo,.int .i64 w.hi]] (.tuple (Ej l i j t w)):=by
 refine Kf (N:=87) Tryz.func19 ?_
 iterate 9 refine af ?_
 refine Kc (aa.makeFunc rfl rfl rfl) ?_
 iterate 7 refine af ?_
 refine Kc (Kp (tf _ ?_)) ?_
 ·assumption
 iterate 3 refine af ?_
 refine Ki (fun hc0=> ?_) fun hc0=> ?_
 ·have hA:aF l=false:=by simp only[Gc] at hc0;exact hc0
  iterate 7 refine af ?_
  refine Fin.dD (xs:=[.agg [.int .i64 0,.int .i64 0],.int .i64 1]) rfl (⟨_,_,rfl,⟨_,_,_,rfl,an,rfl⟩,⟨_,_,rfl,rfl,rfl⟩⟩) rfl ?_
  simp[Ej,hA,sD]
 ·have hA:aF l=true:=by simp only[Wf] at hc0;exact hc0
  have Ow:=wo hA
  iterate 4 refine af ?_
  refine Kc (aa.vZ (Ob l _ hl) rfl rfl rfl) ?_
  iterate 2 refine af ?_
  refine Kg 29 28 12 rfl (fun h=>(aa.move rfl rfl)) ?_
  refine Kg 30 28 2 rfl (fun h=>(aa.move rfl rfl)) ?_
  refine aj.g 31 28 rfl rfl rfl rfl rfl rfl rfl [(29,_),(30,_)] (fun h=>And.intro (.inr ⟨_,rfl,h⟩) (And.intro (.inr ⟨_,rfl,h⟩) (trivial))) (fun h=>(aa.vZ (Ob l _ hl) rfl rfl rfl)) ?_
  refine Kh 32 28 31 rfl rfl rfl rfl (fun h=>(aa.gH rfl rfl)) ?_
  refine Kc (aa.pG rfl rfl rfl ?_) ?_
  ·intro h;rw[h];rfl
  refine af ?_
  refine Kg 35 34 1 rfl (fun h=>(aa.move rfl rfl)) ?_
  refine Kg 36 34 2 rfl (fun h=>(aa.move rfl rfl)) ?_
  refine aj.g 37 34 rfl rfl rfl rfl rfl rfl rfl [(35,_),(36,_)] (fun h=>And.intro (.inr ⟨_,rfl,h⟩) (And.intro (.inr ⟨_,rfl,h⟩) (trivial))) (fun h=>(aa.eql rfl rfl rfl)) ?_
  refine Kc (aa.pG rfl rfl rfl ?_) ?_
  ·intro h;rw[h];rfl
  refine af ?_
  refine Kg 40 39 3 rfl (fun h=>(aa.move rfl rfl)) ?_
  refine Kh 41 39 40 rfl rfl rfl rfl (fun h=>(Kp (cv _ _ _))) ?_
  refine Kh 42 39 41 rfl rfl rfl rfl (fun h=>(aa.gH rfl rfl)) ?_
  refine Kc (aa.pG rfl rfl rfl ?_) ?_
  ·intro h;rw[h];rfl
  refine af ?_
  refine Kg 45 44 9 rfl (fun h=>(aa.load rfl rfl an rfl)) ?_
  refine Kh 46 44 45 rfl rfl rfl rfl (fun h=>(Kp (gE _ _ _ _))) ?_
  refine Kh 47 44 46 rfl rfl rfl rfl (fun h=>(aa.gH rfl rfl)) ?_
  refine Kc (aa.pG rfl rfl rfl ?_) ?_
  ·intro h;rw[h];rfl
  iterate 2 refine af ?_
  refine Ki (fun c8=> ?_) fun c8=> ?_
  ·have hG:cG l i j t w=false:=by have:=congrArg (!·) c8;simpa only[cG,Sp.ok,Bool.not_or,Bool.not_not,Bool.not_true] using this
   iterate 7 refine af ?_
   refine Fin.dD (xs:=[.agg [.int .i64 0,.int .i64 0],.int .i64 2]) rfl (⟨_,_,rfl,⟨_,_,_,rfl,an,rfl⟩,⟨_,_,rfl,rfl,rfl⟩⟩) rfl ?_
   simp[Ej,hA,hG,sD]
  ·have hG:cG l i j t w=true:=by have:=congrArg (!·) c8;simpa only[cG,Sp.ok,Bool.not_or,Bool.not_not,Bool.not_false] using this
   have hgb:(0<=i∧i<=(l.length:Int) - 1)∧(0<=j∧j<=(l.length:Int) - 1)∧i≠j∧(2<=t∧t<=100000)∧(0<=w.lo∧w.lo<=w.hi∧w.hi<=1000):=by simp[cG,Sp.ok] at hG;omega
   obtain⟨gi,gj,hne,gt,hw⟩:=hgb
   obtain⟨tn,rfl⟩:∃ n:Nat,t=n:=⟨t.toNat,by omega⟩
   have YE:i.toNat<l.length:=by omega
   have Yt:j.toNat<l.length:=by omega
   have YN:=Ow.2 l[i.toNat] (ZZ _)
   have YY:=Ow.2 l[j.toNat] (ZZ _)
   have jz:2<=tn:=by omega
   obtain⟨r,hr⟩:=Is l[i.toNat] l[j.toNat] w tn jz
   have hr2:=hr.JV
   obtain⟨p,p0,p1,p2⟩:=Iq hr
   obtain⟨q,q0,q1,q2⟩:=AO jz hr
   iterate 2 refine af ?_
   refine aI.D1 12 (.cells ((o3 (.agg [.int .i64 0,.int .i64 0,.int .i64 0,.int .i64 0,.int .i64 0,.int .i64 0,.int .i64 0,.int .i64 0,.int .i64 0,.int .i64 0,.int .i64 0,.int .i64 0,.int .i64 0,.int .i64 0,.int .i64 0])).map .p) 117) mixed (by kernel_rfl) (by decide) ?_
   refine ay.cons 50 rfl rfl rfl (aa.load rfl rfl an rfl) (aa.load rfl rfl an rfl) ?_
   refine ay.cons 51 rfl rfl rfl (aa.move rfl rfl) (aa.move rfl rfl) ?_
   refine ay.cons 52 rfl rfl rfl (aa.mY rfl rfl rfl an xK rfl (fun _=>rfl) (by decide) ?_ ?_) (aa.mY rfl rfl rfl an xK rfl (fun _=>rfl) (by decide) ?_ ?_) ?_
   ·omega
   ·omega
   ·omega
   ·omega
   refine ay.cons 53 rfl rfl rfl (aa.load rfl rfl an rfl) (aa.load rfl rfl an rfl) ?_
   refine ay.cons 54 rfl rfl rfl (aa.load rfl rfl an rfl) (aa.load rfl rfl an rfl) ?_
   refine ay.cons 55 rfl rfl rfl (aa.move rfl rfl) (aa.move rfl rfl) ?_
   refine ay.cons 56 rfl rfl rfl (aa.mY rfl rfl rfl an xK rfl (fun _=>rfl) (by decide) ?_ ?_) (aa.mY rfl rfl rfl an xK rfl (fun _=>rfl) (by decide) ?_ ?_) ?_
   ·omega
   ·omega
   ·omega
   ·omega
   refine ay.cons 57 rfl rfl rfl (aa.load rfl rfl an rfl) (aa.load rfl rfl an rfl) ?_
   refine ay.cons 58 rfl rfl rfl (aa.move rfl rfl) (aa.move rfl rfl) ?_
   refine ay.cons 59 rfl rfl rfl (aa.load rfl rfl an rfl) (aa.load rfl rfl an rfl) ?_
   refine ay.cons 60 rfl rfl rfl (aa.build rfl an rfl rfl) (aa.build rfl an rfl rfl) ?_
   refine ay.lay 13 rfl rfl rfl (aa.aO rfl an rfl) ?_
   refine ay.nil ?_
   iterate 5 refine af ?_
   refine Kc (aa.fE (m:=((tn - 2:Nat):Int)) rfl rfl rfl ((aG ?_).trans ?_)) ?_
   ·omega
   ·omega
   refine aj.freeze 1 rfl rfl ?_
   refine Kc (aa.makeFunc rfl rfl rfl) ?_
   refine Kc (Kp (kJ (tn - 2) r (.func 54) [] [.ip (l[i.toNat].cells++l[j.toNat].cells++[.int .i64 (tn:Int),.int .i64 w.lo,.int .i64 w.hi]) 0] _ (by omega) hr.JV hr.VP hr.Yk (fun k hk=>UK l[i.toNat] l[j.toNat] tn w YN YY (by omega) hw k (by omega)))) ?_
   refine Kc (aa.add rfl rfl rfl (aG ?_)) ?_
   ·omega
   iterate 6 refine af ?_
   refine aj.freeze 2 rfl rfl ?_
   iterate 2 refine af ?_
   refine Kc (Kp (nP l[i.toNat] l[j.toNat] tn w (1+(r:Int)) YN YY (by omega) hw (by omega) (by omega))) ?_
   iterate 2 refine af ?_
   refine Ki (fun mu=> ?_) fun mu=> ?_
   ·have hm:b9 l[i.toNat] l[j.toNat] tn w (1+(r:Int))<0:=Zm mu
    rw[Int.add_comm] at hm
    have hR:=Ib hA hG (by omega) (by omega) hne YE Yt (B0 jz hr hm)
    iterate 7 refine af ?_
    refine Fin.dD (xs:=[.agg [.int .i64 0,.int .i64 0],.int .i64 4]) rfl (⟨_,_,rfl,⟨_,_,_,rfl,an,rfl⟩,⟨_,_,rfl,rfl,rfl⟩⟩) rfl ?_
    rw[hR];rfl
   ·have hm:¬ b9 l[i.toNat] l[j.toNat] tn w (1+(r:Int))<0:=Zs mu
    rw[Int.add_comm,Int.not_lt] at hm
    have hR:=Ib hA hG (by omega) (by omega) hne YE Yt (DF jz hr hm p0 p1 p2 q0 q1 q2)
    iterate 4 refine af ?_
    refine Kc (aa.fE (m:=(r:Int)) rfl rfl rfl ((aG ?_).trans ?_)) ?_
    ·omega
    ·omega
    refine Kc (aa.makeFunc rfl rfl rfl) ?_
    refine Kc (Kp (kJ r p (.func 56) [] [.ip (l[i.toNat].cells++l[j.toNat].cells++[.int .i64 (tn:Int),.int .i64 w.lo,.int .i64 w.hi]) 0] _ (by omega) p0 p1 p2 (fun k hk=>So l[i.toNat] l[j.toNat] tn w YN YY (by omega) hw k (by omega)))) ?_
    refine Kc (aa.add rfl rfl rfl (aG ?_)) ?_
    ·omega
    iterate 3 refine af ?_
    refine aI.aB 9 mixed (by kernel_rfl) (by decide) ?_
    iterate 2 refine af ?_
    refine Kq (aa.fE rfl rfl rfl (aG ?_)) ?_
    ·omega
    refine af ?_
    refine Kq (aa.fE (m:=((tn - 2 - r:Nat):Int)) rfl rfl rfl ((aG ?_).trans ?_)) ?_
    ·omega
    ·omega
    refine Kq (aa.makeFunc rfl rfl rfl) ?_
    refine Kq (Kp (kJ (tn - 2 - r) q (.func 57) [] [.ip (l[i.toNat].cells++l[j.toNat].cells++[.int .i64 (tn:Int),.int .i64 w.lo,.int .i64 w.hi]) 0,.ip [.int .i64 (1+(r:Int))] 0] _ (by omega) q0 q1 q2 (fun k hk=>UH l[i.toNat] l[j.toNat] tn r w YN YY (by omega) hw k (by omega)))) ?_
    refine Kq (aa.add rfl rfl rfl (aG ?_)) ?_
    ·omega
    refine af ?_
    refine aE.nil ?_
    iterate 10 refine af ?_
    refine Fin.dD (xs:=[.agg [.int .i64 (1+(p:Int)),.int .i64 (1+(r:Int)+(q:Int))],.int .i64 0]) rfl (⟨_,_,rfl,⟨_,_,_,rfl,an,rfl⟩,⟨_,_,rfl,rfl,rfl⟩⟩) rfl ?_
    rw[hR];rfl
end Go.Proofs.YtibffijhebobmaaGreatDoor.Ck
end
