/-
 Plain arithmetic for the sack. No program in sight.
 The sack's data, as cells.
 Small functions of the sack.
 The document: kinds, corners.
 The document: weights.
 The document: a part.
 The plain law of the sack's sums: a sum over the batch is the document's sum over the sacks. No program in sight.
 Searches; what is valid.
 The document: what is weighed.
 The plain law of shares, water and mixtures. No program in sight.
 What a sack can be: the states that are yielded.
 What a sack adds.
 Batches.
 Sums over a batch, in whatever order.
 What is beyond a share; what water lacks.
 The document: what water lacks.
 The document: beyond a share.
 Searches; shares.
 The plain law of SackMixed: what is within a share's span is what a mixture's numbers say. No program in sight.
-/
import Derived.Test.YtibffijhebobmaaGreatDoorFaTC
import Derived.Test.YtibffijhebobmaaGreatDoorMzTF
import Derived.Test.YtibffijhebobmaaGreatDoorMzTZ
theorem EI{A:Prop}(h:A:=by
 iterate 12 refine af ?_
 refine Kg 12 11 3 rfl (fun h=>(aa.fieldAddr rfl rfl an rfl)) ?_
 refine Kh 13 11 12 rfl rfl rfl rfl (fun h=>(aa.load rfl rfl an rfl)) ?_
 refine Kg 14 11 3 rfl (fun h=>(aa.fieldAddr rfl rfl an rfl)) ?_
 refine Kh 15 11 14 rfl rfl rfl rfl (fun h=>(aa.load rfl rfl an rfl)) ?_
 refine aj.g 16 11 rfl rfl rfl rfl rfl rfl rfl [(13,_),(15,_)] (fun h=>And.intro (.inr ⟨_,rfl,h⟩) (And.intro (.inr ⟨_,rfl,h⟩) (trivial))) (fun h=>(aa.leq rfl rfl rfl)) ?_
 refine Kc (aa.fH rfl rfl rfl ?_) ?_
 ·exact az
 refine af ?_
 refine Kg 19 18 3 rfl (fun h=>(aa.fieldAddr rfl rfl an rfl)) ?_
 refine Kh 20 18 19 rfl rfl rfl rfl (fun h=>(aa.load rfl rfl an rfl)) ?_
 refine Kg 21 18 2 rfl (fun h=>(aa.move rfl rfl)) ?_
 refine aj.g 22 18 rfl rfl rfl rfl rfl rfl rfl [(20,_),(21,_)] (fun h=>And.intro (.inr ⟨_,rfl,h⟩) (And.intro (.inr ⟨_,rfl,h⟩) (trivial))) (fun h=>(aa.leq rfl rfl rfl)) ?_
 refine Kc (aa.fH rfl rfl rfl ?_) ?_
 ·exact az
 exact dA):A:=h
theorem qd{A:Prop}(h:A:=by
 refine af ?_
 refine aA.nil ?_
 iterate 2 refine af ?_
 exact iQ):A:=h
theorem Ca{A:Prop}(h:A:=by
 refine Kc (aa.min2 rfl rfl rfl) ?_
 iterate 3 refine af ?_
 refine Kc (aa.max2 rfl rfl rfl) ?_
 iterate 3 refine af ?_
 refine⟨_,rfl,To.done [0,1,2] rfl Sub.nil ?_⟩
 rcases Vz k with hk0 | hk0
 ·subst hk0
  first
  | exact absurd hc0 (by decide)
  | show[ah.cells [.p (.int .i64 (min _ _)),.p (.int .i64 (max _ _))] 24,.cells [.p (.bool false)] 4,_]=_
    simp only[tX,w8,Int.min_self,Int.max_self,if_true]
    rfl
 ·have hk1:¬ k=0:=by omega
  first
  | exact absurd hc0 (by simp;omega)
  | show[ah.cells [.p (.int .i64 (min _ _)),.p (.int .i64 (max _ _))] 24,.cells [.p (.bool (k==0))] 4,_]=_
    rw[hc0]
    simp only[tX,w8,if_neg hk1]
    rfl):A:=h
theorem Cg{A:Prop}(h:A:=by
 have q1:=Wi (hf j) h.1
 have q2:=Wi (hf j) (show 0<=hi by omega)
 omega):A:=h
theorem Ey{A:Prop}(h:A:=by
 first | (show _<=_+nu F m∧_+nu F m<=_;omega) | (show _<=_+nw F m∧_+nw F m<=_;omega)):A:=h
set_option linter.unusedSimpArgs false
set_option linter.unusedVariables false
section
namespace Go.Proofs.YtibffijhebobmaaGreatDoor.Ck
theorem Q8{a b A B:Int}(ha:0<=a∧a<=A)(hb:0<=b∧b<=B):0<=a*b∧a*b<=A*B:=
 ⟨Int.mul_nonneg ha.1 hb.1,Int.mul_le_mul ha.2 hb.2 hb.1 (Int.le_trans ha.1 ha.2)⟩
def mE(w c l:Int):Prop:=(0<=w∧w<=1000)∧(0<=c∧c<=1000)∧(0<=l∧l<=1000)
def Vs(w c l:Int):Int:=w*1000*1000
def vO(w c l:Int):Int:=(1000 - w)*c*1000
def Tz(w c l:Int):Int:=(1000 - w)*(1000 - c)*l
def tB(w c l:Int):Int:=(1000 - w)*(1000 - c)*(1000 - l)
def tG(w c l:Int):Int:=vO w c l+tB w c l
def gW(n w c l:Int):Int:=1000*vO w c l - n*tG w c l
theorem RM{w c l:Int}(h:mE w c l):0<=(1000 - w)*c∧(1000 - w)*c<=1000000:=by
 obtain⟨hw,hc,hl⟩:=h
 exact Q8 (A:=1000) (B:=1000) ⟨by omega,by omega⟩ hc
theorem Yc{w c l:Int}(h:mE w c l):0<=(1000 - w)*(1000 - c)∧(1000 - w)*(1000 - c)<=1000000:=by
 obtain⟨hw,hc,hl⟩:=h
 exact Q8 (A:=1000) (B:=1000) ⟨by omega,by omega⟩ ⟨by omega,by omega⟩
theorem FO{w c l:Int}(h:mE w c l):0<=tB w c l∧tB w c l<=1000000000:=
 Q8 (A:=1000000) (B:=1000) (Yc h) ⟨by have:=h.2.2;omega,by have:=h.2.2;omega⟩
theorem vR{w c l:Int}(h:mE w c l):0<=vO w c l∧vO w c l<=1000000000:=by
 have:=RM h
 unfold vO;omega
theorem ML{w c l:Int}(h:mE w c l):0<=tG w c l∧tG w c l<=2000000000:=by
 have h1:=vR h
 have h2:=FO h
 unfold tG;omega
theorem L7{n w c l:Int}(hn:0<=n∧n<=1000)(h:mE w c l):0<=n*tG w c l∧n*tG w c l<=2000000000000:=
 Q8 (A:=1000) (B:=2000000000) hn (ML h)
theorem Xr{n w c l:Int}(hn:0<=n∧n<=1000)(h:mE w c l): -2000000000000<=gW n w c l∧gW n w c l<=1000000000000:=by
 have h1:=vR h
 have h2:=L7 hn h
 unfold gW;omega
def ofF(k w c l:Int):Int:=if k=0 then Vs w c l else if k=1 then vO w c l else if k=2 then Tz w c l else if k=3 then tB w c l else tG w c l
def iN{α:Type}(p:α->Bool):List α->Int
 | []=> -1
 | x::xs=>if p x then 0 else let r:=iN p xs;if r<0 then -1 else r+1
theorem qI{α:Type}(p:α->Bool):∀(xs:List α) (i:Nat) (h:i<xs.length),(∀ j (hj:j<i),p (xs[j]'(by omega))=false)->p xs[i]=true->iN p xs=i
 | x::xs,0,h,h1,h2=>by simp at h2;simp[iN,h2]
 | x::xs,i+1,h,h1,h2=>by
  exact DL
theorem kP{α:Type}(p:α->Bool):∀ xs:List α,(∀ j (hj:j<xs.length),p xs[j]=false)->iN p xs= -1
 | [],_=>rfl
 | x::xs,h=>by
  exact DR
theorem kT{α:Type}(p:α->Bool):∀ xs:List α,decide (0<=iN p xs)=xs.any p
 | []=>rfl
 | x::xs=>by
  exact Dx
theorem GG{α:Type}{p:α->Bool}{xs:List α}{i:Nat}(h:i<xs.length)(hp:p xs[i]=true):xs.any p=true:=List.any_eq_true.2 ⟨xs[i],zL h,hp⟩
theorem any_none{α:Type}{p:α->Bool}{xs:List α}(h:∀ j (hj:j<xs.length),p xs[j]=false):xs.any p=false:=by
 exact EL
def gX{α:Type}(f:α->Int)(b:List α)(i:Nat):Int:=((b.take i).map f).sum
theorem oE{α:Type}(f:α->Int)(b:List α):gX f b 0=0:=by simp[gX]
theorem gJ{α:Type}(f:α->Int)(b:List α)(i:Nat)(h:i<b.length):gX f b (i+1)=gX f b i+f b[i]:=by
 unfold gX
 rw[<- ZbE h,ZA,List.sum_append]
 simp
theorem F1{α:Type}{f:α->Int}{b:List α}{A B:Int}(h:∀ t∈b,A<=f t∧f t<=B):∀ i,i<=b.length->A*i<=gX f b i∧gX f b i<=B*i
 | 0,_=>by rw[oE];simp
 | i+1,hi=>by
  have ih:=F1 h i (by omega)
  have h1:=h b[i] (zL _)
  rw[gJ f b i hi]
  have e1:A*((i+1:Nat):Int)=A*i+A:=by rw[show((i+1:Nat):Int)=(i:Int)+1 by omega,Int.mul_add,Int.mul_one]
  have e2:B*((i+1:Nat):Int)=B*i+B:=by rw[show((i+1:Nat):Int)=(i:Int)+1 by omega,Int.mul_add,Int.mul_one]
  rw[e1,e2]
  omega
theorem PF{a b A B:Int}(hA: -A<=a∧a<=A)(hb:0<=b∧b<=B): -(B*A)<=b*a∧b*a<=B*A:=by
 have hA0:0<=A:=by omega
 have h1:b*a<=b*A:=Wi hA.2 hb.1
 have h2:b*A<=B*A:=Int.mul_le_mul_of_nonneg_right hb.2 hA0
 have h3:b*(-A)<=b*a:=Wi hA.1 hb.1
 rw[Int.mul_neg] at h3
 omega
def tX(f:Nat->Int):Nat->Int
 | 0=>0
 | n+1=>if n=0 then f 0 else min (tX f n) (f n)
def w8(f:Nat->Int):Nat->Int
 | 0=>0
 | n+1=>if n=0 then f 0 else max (w8 f n) (f n)
theorem Sb{f:Nat->Int}{A B:Int}:∀ n,0<n->(∀ j,j<n->A<=f j∧f j<=B)->A<=tX f n∧tX f n<=B
 | 0,h,_=>by omega
 | n+1,_,h=>by
  have h1:=h n (by omega)
  simp only[tX]
  split
  ·rename_i h0;exact h 0 (by omega)
  ·rename_i h0
   have ih:=Sb n (by omega) (fun j hj=>h j (by omega))
   omega
theorem SC{f:Nat->Int}{A B:Int}:∀ n,0<n->(∀ j,j<n->A<=f j∧f j<=B)->A<=w8 f n∧w8 f n<=B
 | 0,h,_=>by omega
 | n+1,_,h=>by
  have h1:=h n (by omega)
  simp only[w8]
  split
  ·rename_i h0;exact h 0 (by omega)
  ·rename_i h0
   have ih:=SC n (by omega) (fun j hj=>h j (by omega))
   omega
theorem qQ{α:Type}(f:α->Int)(d:List α)(m:α):((d++[m]).map f).sum=(d.map f).sum+f m:=by simp
theorem yO{α:Type}(f:α->Int):∀(r:List α) (j:Nat) (m:α),r[j]? =some m->(r.map f).sum=f m+((r.eraseIdx j).map f).sum
 | [],j,m,h=>by simp at h
 | x::r,0,m,h=>by simp at h;subst h;simp
 | x::r,j+1,m,h=>by
  have ih:=yO f r j m (by simpa using h)
  simp only[Zz,List.sum_cons,List.eraseIdx_cons_succ,ih]
  omega
theorem lQ{α:Type}{f:α->Int}:∀{r:List α},(∀ m∈r,0<=f m)->0<=(r.map f).sum
 | [],_=>by simp
 | x::r,h=>by
  have h1:=h x (by simp)
  have h2:=lQ (f:=f) (r:=r) (fun m hm=>h m (by simp[hm]))
  simp only[Zz,List.sum_cons]
  omega
theorem u7{α:Type}{f:α->Int}:∀{r:List α} {x:α},(∀ m∈r,0<=f m)->x∈r->f x<=(r.map f).sum
 | [],_,_,h=>by cases h
 | y::r,x,h,hx=>by
  have h1:=h y (by simp)
  have h2:=lQ (f:=f) (r:=r) (fun m hm=>h m (by simp[hm]))
  simp only[Zz,List.sum_cons]
  rcases Zr.1 hx with rfl | hx
  ·omega
  ·have:=u7 (f:=f) (fun m hm=>h m (by simp[hm])) hx
   omega
theorem sj{α:Type}{f g:α->Int}{X:Int}:∀{r:List α},(∀ m∈r,-(X*g m)<=f m∧f m<=X*g m)-> -(X*(r.map g).sum)<=(r.map f).sum∧(r.map f).sum<=X*(r.map g).sum
 | [],_=>by simp
 | x::r,h=>by
  have h1:=h x (by simp)
  have h2:=sj (r:=r) (fun m hm=>h m (by simp[hm]))
  simp only[Zz,List.sum_cons,Int.mul_add]
  omega
def gY(f:Nat->Int):Nat->Int
 | 0=>0
 | n+1=>gY f n+f n
open Go.AF
structure Sp where
 lo:Int
 hi:Int
structure Sk where
 w:Sp
 c:Sp
 l:Sp
structure Tk where
 s:Int
 m:Sp
def Sp.cells(s:Sp):List PV:=[.int .i64 s.lo,.int .i64 s.hi]
def Sk.cells(s:Sk):List PV:=[.int .i64 s.w.lo,.int .i64 s.w.hi,.int .i64 s.c.lo,.int .i64 s.c.hi,.int .i64 s.l.lo,.int .i64 s.l.hi]
def Tk.cells(t:Tk):List PV:=[.int .i64 t.s,.int .i64 t.m.lo,.int .i64 t.m.hi]
def Sp.ok(s:Sp)(lo hi:Int):Bool:=decide (lo<=s.lo)&&decide (s.lo<=s.hi)&&decide (s.hi<=hi)
def Sk.bad(s:Sk):Bool:= !s.w.ok 0 900|| !s.c.ok 0 1000|| !s.l.ok 0 900
def Tk.bad(n:Nat)(t:Tk):Bool:= !(decide (0<=t.s)&&decide (t.s<=(n:Int) - 1))|| !t.m.ok 1 100000
def ic(l:List Sk):PV:= .is (l.flatMap Sk.cells) l.length
def wH(b:List Tk):PV:= .is (b.flatMap Tk.cells) b.length
def dX(l:List Sk):Bool:=decide ((l.length:Int)<=8)&& !l.any Sk.bad
def jw(n:Nat)(b:List Tk):Bool:=decide (1<=(b.length:Int))&&decide ((b.length:Int)<=8)&& !b.any (Tk.bad n)
def okB(b:List Tk):Prop:=b.length<=8∧∀ t∈b,0<=t.m.lo∧t.m.lo<=t.m.hi∧t.m.hi<=100000
def A4(k:Int)(t:Tk):Int:=if t.s=k then t.m.lo else 0
def A2(k:Int)(t:Tk):Int:=if t.s=k then t.m.hi else 0
theorem SU{b:List Tk}(h:okB b)(k:Int)(i:Nat)(hi:i<=b.length):0<=gX (A4 k) b i∧gX (A4 k) b i<=800000:=by
 have:=F1 (f:=A4 k) (b:=b) (A:=0) (B:=100000) (fun t ht=>by have:=h.2 t ht;unfold A4;split <;> omega) i hi
 have:=h.1
 omega
theorem R5{b:List Tk}(h:okB b)(k:Int)(i:Nat)(hi:i<=b.length):0<=gX (A2 k) b i∧gX (A2 k) b i<=800000:=by
 have:=F1 (f:=A2 k) (b:=b) (A:=0) (B:=100000) (fun t ht=>by have:=h.2 t ht;unfold A2;split <;> omega) i hi
 have:=h.1
 omega
def Sk.cw(s:Sk)(j:Nat):Int:=if (j:Int).tmod 2=1 then s.w.hi else s.w.lo
def Sk.cc(s:Sk)(j:Nat):Int:=if ((j:Int).tdiv 2).tmod 2=1 then s.c.hi else s.c.lo
def Sk.cl(s:Sk)(j:Nat):Int:=if (j:Int).tdiv 4=1 then s.l.hi else s.l.lo
def Sk.sw(s:Sk)(i:Nat):Int:=if (i:Int)=0 then s.w.lo else s.w.hi
def Sk.sc(s:Sk)(i:Nat):Int:=if (i:Int)=0 then s.c.lo else s.c.hi
def Sk.sl(s:Sk)(i:Nat):Int:=if (i:Int)=0 then s.l.lo else s.l.hi
def sD(s:Sk)(j:Nat):PV:= .agg [.int .i64 (s.sw (j / 4)),.int .i64 (s.sc (j / 2%2)),.int .i64 (s.sl (j%2))]
def mo(s:Sk):List (List V):=(List.range 8).map fun j=>[.p (sD s j)]
theorem Eg(s:Sk){i j k:Nat}(hi:i<2)(hj:j<2)(hk:k<2):(mo s)[4*i+2*j+k]? =some [.p (.agg [.int .i64 (s.sw i),.int .i64 (s.sc j),.int .i64 (s.sl k)])]:=by
 have h:4*i+2*j+k<8:=by omega
 have e1:(4*i+2*j+k) / 4=i:=by omega
 have e2:(4*i+2*j+k) / 2%2=j:=by omega
 have e3:(4*i+2*j+k)%2=k:=by omega
 simp[mo,h,sD,e1,e2,e3]
def storeCells(s:Sk)(m:Sp):List PV:=s.cells++m.cells
def fh:Sk:=⟨⟨0,0⟩,⟨0,0⟩,⟨0,0⟩⟩
def eM:Sk×Sp:=(fh,⟨0,0⟩)
def AZ(a:Sk×Sp):PV:= .agg (storeCells a.1 a.2)
def gM(l:List Sk)(ms:List (Int×(Sk×Sp)))(t:Tk):List (Int×(Sk×Sp)):=
 aU t.s (l[t.s.toNat]?.getD fh,⟨((bM t.s ms).getD eM).2.lo+t.m.lo,((bM t.s ms).getD eM).2.hi+t.m.hi⟩) ms
def bL(l:List Sk)(b:List Tk)(i:Nat):List (Int×(Sk×Sp)):=(b.take i).foldl (gM l) []
theorem gK(l:List Sk)(b:List Tk)(i:Nat)(h:i<b.length):bL l b (i+1)=gM l (bL l b i) b[i]:=by
 unfold bL
 rw[<- ZbE h,Li]
 rfl
theorem pX(l:List Sk)(b:List Tk)(k:Int):∀ i,i<=b.length->((bM k (bL l b i)).getD eM).2=⟨gX (A4 k) b i,gX (A2 k) b i⟩
 | 0,_=>by simp[bL,bM,oE,eM]
 | i+1,hi=>by
  have ih:=pX l b k i (by omega)
  rw[gK l b i hi,gM,gH,gJ _ b i hi,gJ _ b i hi]
  by_cases h:k=b[i].s
  ·have h1:=ih
   rw[if_pos h]
   simp only[Vj,A4,A2,h,if_true]
   rw[h] at h1
   rw[h1]
  ·rw[if_neg h,ih]
   simp[A4,A2,Ne.symm h]
def OP(n:Nat)(b:List Tk):Prop:=∀ t∈b,0<=t.s∧t.s<(n:Int)
def nu(F:Sk->Nat->Int)(m:Int×(Sk×Sp)):Int:=tX (fun j=>min (m.2.2.lo*F m.2.1 j) (m.2.2.hi*F m.2.1 j)) 8
def nw(F:Sk->Nat->Int)(m:Int×(Sk×Sp)):Int:=w8 (fun j=>max (m.2.2.lo*F m.2.1 j) (m.2.2.hi*F m.2.1 j)) 8
def yg(m:Int×(Sk×Sp)):Int:=m.2.2.hi
theorem YQ{lo hi f:Int}(hm:0<=lo∧lo<=hi)(hf: -2000000000000<=f∧f<=2000000000000):(-(2000000000000*hi)<=lo*f∧lo*f<=2000000000000*hi)∧(-(2000000000000*hi)<=hi*f∧hi*f<=2000000000000*hi):=by
 have h1:=PF (A:=2000000000000) (B:=lo) (b:=lo) hf ⟨hm.1,tr _⟩
 have h2:=PF (A:=2000000000000) (B:=hi) (b:=hi) hf ⟨by omega,tr _⟩
 omega
theorem M4{F:Sk->Nat->Int}{m:Int×(Sk×Sp)}(hm:0<=m.2.2.lo∧m.2.2.lo<=m.2.2.hi)(hF:∀ j,j<8-> -2000000000000<=F m.2.1 j∧F m.2.1 j<=2000000000000): -(2000000000000*yg m)<=nu F m∧nu F m<=2000000000000*yg m:=
 Sb 8 (by omega) (fun j hj=>by have:=YQ hm (hF j hj);unfold yg;omega)
theorem Ip{F:Sk->Nat->Int}{m:Int×(Sk×Sp)}(hm:0<=m.2.2.lo∧m.2.2.lo<=m.2.2.hi)(hF:∀ j,j<8-> -2000000000000<=F m.2.1 j∧F m.2.1 j<=2000000000000): -(2000000000000*yg m)<=nw F m∧nw F m<=2000000000000*yg m:=
 SC 8 (by omega) (fun j hj=>by have:=YQ hm (hF j hj);unfold yg;omega)
structure ue where
 d:List (Int×(Sk×Sp))
 r:List (Int×(Sk×Sp))
 last:Option (Int×(Sk×Sp))
def ue.ok(ms:List (Int×(Sk×Sp)))(g:ue):Prop:=(∀ f:Int×(Sk×Sp)->Int,(g.d.map f).sum+(g.r.map f).sum=(ms.map f).sum)∧(∀ m∈g.d,m∈ms)∧(∀ m∈g.r,m∈ms)
theorem ue.Iq{ms d r:List (Int×(Sk×Sp))}{l:Option (Int×(Sk×Sp))}{j:Nat}{m:Int×(Sk×Sp)}(h:ue.ok ms ⟨d,r,l⟩)(hj:r[j]? =some m):ue.ok ms ⟨d++[m],r.eraseIdx j,some m⟩:=by
 obtain⟨h1,h2,h3⟩:=h
 refine⟨fun f=> ?_,fun x hx=> ?_,fun x hx=>h3 x (List.mem_of_mem_eraseIdx hx)⟩
 ·have:=h1 f
  have e:=yO f r j m hj
  simp only at this ⊢
  rw[qQ]
  omega
 ·rcases Zo.1 hx with hx | hx
  ·exact h2 x hx
  ·simp at hx;subst hx;exact h3 x (Zg hj)
def uL(s:Sk):Prop:=(0<=s.w.lo∧s.w.lo<=s.w.hi∧s.w.hi<=900)∧(0<=s.c.lo∧s.c.lo<=s.c.hi∧s.c.hi<=1000)∧(0<=s.l.lo∧s.l.lo<=s.l.hi∧s.l.hi<=900)
def okM(ms:List (Int×(Sk×Sp))):Prop:=(∀ m∈ms,0<=m.2.2.lo∧m.2.2.lo<=m.2.2.hi)∧(ms.map yg).sum<=800000∧∀ m∈ms,uL m.2.1
theorem uL.state{s:Sk}(h:uL s)(j:Nat):mE (s.sw (j / 4)) (s.sc (j / 2%2)) (s.sl (j%2)):=by
 unfold uL at h
 unfold mE Sk.sw Sk.sc Sk.sl
 refine⟨?_,?_,?_⟩ <;> split <;> omega
def RI(f:Int->Int->Int->Int)(s:Sk)(j:Nat):Int:=f (s.sw (j / 4)) (s.sc (j / 2%2)) (s.sl (j%2))
def G8(b:List Tk)(i:Nat):Int:=gX (A4 (i:Int)) b b.length
def Ib(b:List Tk)(i:Nat):Int:=gX (A2 (i:Int)) b b.length
def Jl(l:List Sk):Prop:=l.length<=8∧∀ s∈l,uL s
theorem wB{b:List Tk}(h:okB b)(i:Nat):(0<=G8 b i∧G8 b i<=800000)∧(0<=Ib b i∧Ib b i<=800000):=⟨SU h i _ (Zf _),R5 h i _ (Zf _)⟩
theorem uL.Gw{s:Sk}(h:uL s)(j:Nat):mE (s.cw j) (s.cc j) (s.cl j):=by
 unfold uL at h
 unfold mE Sk.cw Sk.cc Sk.cl
 refine⟨?_,?_,?_⟩ <;> split <;> omega
def PZ(n:Int)(s:Sk)(k:Nat):Int:=1000*ofF 1 (s.cw k) (s.cc k) (s.cl k) - n*ofF 4 (s.cw k) (s.cc k) (s.cl k)
def Ut(l:List Sk)(b:List Tk)(n:Int)(i k:Nat):Int:=min (G8 b i*PZ n (l[i]?.getD fh) k) (Ib b i*PZ n (l[i]?.getD fh) k)
def Uq(l:List Sk)(b:List Tk)(n:Int)(i k:Nat):Int:=max (G8 b i*PZ n (l[i]?.getD fh) k) (Ib b i*PZ n (l[i]?.getD fh) k)
def R8(l:List Sk)(b:List Tk)(n:Int)(i:Nat):Int:=tX (Ut l b n i) 8
def SS(l:List Sk)(b:List Tk)(n:Int)(i:Nat):Int:=w8 (Uq l b n i) 8
def b6:Nat:=9223372036854775807
set_option maxRecDepth 100000
set_option maxHeartbeats 4000000
theorem cP(n lo hi:Int):Pure Tryz.prog 50 [.int .i64 n,.int .i64 lo,.int .i64 hi] (.bool (decide (lo<=n)&&decide (n<=hi))):=by
 refine Kf (N:=15) Tryz.func50 ?_
 exact Bq
theorem iA(a b lo hi:Int):Pure Tryz.prog 52 [.agg [.int .i64 a,.int .i64 b],.int .i64 lo,.int .i64 hi] (.bool (decide (lo<=a)&&decide (a<=b)&&decide (b<=hi))):=by
 refine Kf (N:=24) Tryz.func52 ?_
 exact EI
theorem qO(a b lo hi:Int):Pure Tryz.prog 48 [.agg [.int .i64 a,.int .i64 b],.int .i64 lo,.int .i64 hi] (.bool (decide (lo<=a)&&decide (a<=b)&&decide (b<=hi))):=by
 refine Kf (N:=24) Tryz.func48 ?_
 exact EI
theorem L8(w c l:Int)(hs:mE w c l):Pure Tryz.prog 209 [.agg [.int .i64 w,.int .i64 c,.int .i64 l]] (.int .i64 (1000 - w)):=by
 obtain⟨hw,hc,hl⟩:=id hs
 refine Kf (N:=6) Tryz.func209 ?_
 iterate 9 refine af ?_
 refine Kc (aa.iI rfl rfl rfl (aK ?_)) ?_
 ·omega
 exact dA
theorem Im(w c l:Int)(hs:mE w c l):Pure Tryz.prog 199 [.agg [.int .i64 w,.int .i64 c,.int .i64 l]] (.int .i64 (vO w c l)):=by
 obtain⟨hw,hc,hl⟩:=id hs
 have b1:=RM hs
 refine Kf (N:=9) Tryz.func199 ?_
 iterate 6 refine af ?_
 refine aF.aD 7 mixed (by kernel_rfl) (by decide) ?_
 refine af ?_
 refine Kq (Kp (L8 _ _ _ ?_)) ?_
 ·assumption
 iterate 2 refine af ?_
 refine Kq (aa.mul rfl rfl rfl (aK ?_)) ?_
 ·omega
 refine Kq (aa.mul rfl rfl rfl (aK ?_)) ?_
 ·omega
 exact qd
theorem K8(w c l:Int)(hs:mE w c l):Pure Tryz.prog 210 [.agg [.int .i64 w,.int .i64 c,.int .i64 l]] (.int .i64 (tB w c l)):=by
 obtain⟨hw,hc,hl⟩:=id hs
 have b1:=Yc hs
 have b2:=FO hs
 unfold tB at b2
 refine Kf (N:=13) Tryz.func210 ?_
 iterate 6 refine af ?_
 refine aF.aD 11 mixed (by kernel_rfl) (by decide) ?_
 refine af ?_
 refine Kq (Kp (L8 _ _ _ ?_)) ?_
 ·assumption
 iterate 2 refine af ?_
 refine Kq (aa.iI rfl rfl rfl (aK ?_)) ?_
 ·omega
 refine Kq (aa.mul rfl rfl rfl (aK ?_)) ?_
 ·omega
 iterate 2 refine af ?_
 refine Kq (aa.iI rfl rfl rfl (aK ?_)) ?_
 ·omega
 refine Kq (aa.mul rfl rfl rfl (aK ?_)) ?_
 ·omega
 exact qd
theorem QI(w c l:Int)(hs:mE w c l):Pure Tryz.prog 200 [.agg [.int .i64 w,.int .i64 c,.int .i64 l]] (.int .i64 (tG w c l)):=by
 obtain⟨hw,hc,hl⟩:=id hs
 have b1:=vR hs
 have b2:=FO hs
 refine Kf (N:=8) Tryz.func200 ?_
 iterate 6 refine af ?_
 refine aF.aD 6 mixed (by kernel_rfl) (by decide) ?_
 refine af ?_
 refine Kq (Kp (Im _ _ _ ?_)) ?_
 ·assumption
 refine af ?_
 refine Kq (Kp (K8 _ _ _ ?_)) ?_
 ·assumption
 refine Kq (aa.add rfl rfl rfl (aK ?_)) ?_
 ·omega
 exact qd
theorem P3(n w c l:Int)(hn:0<=n∧n<=1000)(hs:mE w c l):Pure Tryz.prog 165 [.agg [.int .i64 w,.int .i64 c,.int .i64 l],.int .i64 n] (.int .i64 (gW n w c l)):=by
 obtain⟨hw,hc,hl⟩:=id hs
 have b1:=vR hs
 have b2:=ML hs
 have b3:=L7 hn hs
 refine Kf (N:=13) Tryz.func165 ?_
 iterate 6 refine af ?_
 refine aF.aD 9 mixed (by kernel_rfl) (by decide) ?_
 refine af ?_
 refine Kq (Kp (Im _ _ _ ?_)) ?_
 ·assumption
 refine Kq (aa.mul rfl rfl rfl (aK ?_)) ?_
 ·omega
 iterate 2 refine af ?_
 refine Kq (Kp (QI _ _ _ ?_)) ?_
 ·assumption
 refine Kq (aa.mul rfl rfl rfl (aK ?_)) ?_
 ·omega
 refine Kq (aa.iI rfl rfl rfl (aK ?_)) ?_
 ·omega
 exact qd
def JA(f:Nat->Int):Nat->Int
 | 0=>f 0
 | n+1=>min (JA f n) (f n)
theorem E3{K α:Type}[DecidableEq K]{k:K}{v:α}:∀{ms:List (K×α)},bM k ms=some v->(k,v)∈ms
 | [],h=>by simp[bM] at h
 | m::r,h=>by
  simp only[bM] at h
  split at h
  ·rename_i hk
   simp at h
   subst h;subst hk
   simp
  ·exact Zh _ (E3 h)
theorem BZ{K α:Type}[DecidableEq K]{k:K}{a:α}{x:K×α}:∀{ms:List (K×α)},x∈aU k a ms->x=(k,a)∨x∈ms
 | [],h=>by simp[aU] at h;exact .inl h
 | m::r,h=>by
  simp only[aU] at h
  split at h
  ·rcases Zr.1 h with h | h
   ·exact .inl h
   ·exact .inr (Zh _ h)
  ·rcases Zr.1 h with h | h
   ·exact .inr (by simp[h])
   ·rcases BZ h with h | h
    ·exact .inl h
    ·exact .inr (Zh _ h)
theorem wY{K α:Type}[DecidableEq K](f:α->Int)(k:K)(a z:α)(hz:f z=0):∀ ms:List (K×α),((aU k a ms).map fun m=>f m.2).sum=(ms.map fun m=>f m.2).sum - f ((bM k ms).getD z)+f a
 | []=>by simp[aU,bM,hz]
 | m::r=>by
  simp only[aU,bM]
  split
  ·rename_i hk
   simp
   omega
  ·have ih:=wY f k a z hz r
   simp only[Zz,List.sum_cons,ih]
   omega
theorem lU{f g:Nat->Int}:∀ n,(∀ j,j<n->f j=g j)->gY f n=gY g n
 | 0,_=>rfl
 | n+1,h=>by simp only[gY];rw[lU n (fun j hj=>h j (by omega)),h n (by omega)]
theorem kL{f:Nat->Int}:∀ n,(∀ j,j<n->f j=0)->gY f n=0
 | 0,_=>rfl
 | n+1,h=>by simp only[gY];rw[kL n (fun j hj=>h j (by omega)),h n (by omega)];rfl
theorem s9{f g:Nat->Int}{k:Nat}:∀ n,k<n->(∀ j,j<n->j≠k->g j=f j)->gY g n=gY f n - f k+g k
 | 0,h,_=>by omega
 | n+1,h,hj=>by
  exact CE
theorem vM(l:List Sk)(b:List Tk)(k:Int)(v:Sk×Sp):∀ i,i<=b.length->bM k (bL l b i)=some v->v.1=l[k.toNat]?.getD fh
 | 0,_,h=>by simp[bL,bM] at h
 | i+1,hi,h=>by
  rw[gK l b i hi,gM,gH] at h
  split at h
  ·rename_i hk
   simp at h
   subst h
   simp[hk]
  ·exact vM l b k v i (by omega) h
theorem vP{l:List Sk}{b:List Tk}(hl:Jl l)(hb:okB b)(ht:OP l.length b):∀ i,i<=b.length->∀ m∈bL l b i,(0<=m.2.2.lo∧m.2.2.lo<=m.2.2.hi)∧uL m.2.1
 | 0,_,m,h=>by simp[bL] at h
 | i+1,hi,m,h=>by
  have ih:=vP hl hb ht i (by omega)
  rw[gK l b i hi,gM] at h
  rcases BZ h with h | h
  ·subst h
   have h1:=hb.2 b[i] (zL _)
   have h2:=ht b[i] (zL _)
   have h3:b[i].s.toNat<l.length:=by omega
   have h4:0<=((bM b[i].s (bL l b i)).getD eM).2.lo∧((bM b[i].s (bL l b i)).getD eM).2.lo<=((bM b[i].s (bL l b i)).getD eM).2.hi:=by
    cases hg:bM b[i].s (bL l b i) with
    | none=>simp[eM]
    | some v=>have:=(ih _ (E3 hg)).1;simpa using this
   refine⟨⟨by dsimp only;omega,by dsimp only;omega⟩,?_⟩
   dsimp only
   rw[Zc h3,Vj]
   exact hl.2 _ (zL _)
  ·exact ih m h
theorem pT{l:List Sk}{b:List Tk}(ht:OP l.length b)(g:Sk->Int->Int->Int)(h0:∀ s,g s 0 0=0):∀ i,i<=b.length->
    ((bL l b i).map fun m=>g m.2.1 m.2.2.lo m.2.2.hi).sum=gY (fun j=>g (l[j]?.getD fh) (gX (A4 (j:Int)) b i) (gX (A2 (j:Int)) b i)) l.length
 | 0,_=>by
  rw[kL]
  ·simp[bL]
  ·intro j _
   simp only[oE]
   exact h0 _
 | i+1,hi=>by
  have ih:=pT ht g h0 i (by omega)
  have h2:=ht b[i] (zL _)
  have h3:b[i].s.toNat<l.length:=by omega
  have e0:((b[i].s.toNat:Nat):Int)=b[i].s:=by omega
  rw[gK l b i hi,gM,wY (fun v:Sk×Sp=>g v.1 v.2.lo v.2.hi) b[i].s _ eM (by simp[eM,h0]),ih,
   s9 (f:=fun j:Nat=>g (l[j]?.getD fh) (gX (A4 (j:Int)) b i) (gX (A2 (j:Int)) b i)) (g:=fun j:Nat=>g (l[j]?.getD fh) (gX (A4 (j:Int)) b (i+1)) (gX (A2 (j:Int)) b (i+1))) l.length h3 (fun j hj hn=>by
    have hne:¬ b[i].s=(j:Int):=by omega
    simp only[gJ _ b i hi,A4,A2,if_neg hne,Int.add_zero])]
  have hg:=pX l b b[i].s i (by omega)
  have e1:g ((bM b[i].s (bL l b i)).getD eM).1 ((bM b[i].s (bL l b i)).getD eM).2.lo ((bM b[i].s (bL l b i)).getD eM).2.hi=g (l[b[i].s.toNat]?.getD fh) (gX (A4 b[i].s) b i) (gX (A2 b[i].s) b i):=by
   cases hm:bM b[i].s (bL l b i) with
   | none=>
    rw[hm] at hg
    simp only[Option.getD_none,eM] at hg ⊢
    have q1:gX (A4 b[i].s) b i=0:=(congrArg Sp.lo hg).symm
    have q2:gX (A2 b[i].s) b i=0:=(congrArg Sp.hi hg).symm
    rw[q1,q2,h0,h0]
   | some v=>
    rw[hm] at hg
    simp only[Vj] at hg ⊢
    rw[vM l b _ v i (by omega) hm,hg]
  dsimp only
  rw[e1,e0,hg,gJ _ b i hi,gJ _ b i hi]
  simp only[A4,A2,if_true]
theorem zd{l:List Sk}{b:List Tk}(hb:okB b):∀ i,i<=b.length->((bL l b i).map yg).sum<=100000*(i:Int)
 | 0,_=>by simp[bL]
 | i+1,hi=>by
  have ih:=zd (l:=l) hb i (by omega)
  have h1:=hb.2 b[i] (zL _)
  have e:=wY (fun v:Sk×Sp=>v.2.hi) b[i].s (l[b[i].s.toNat]?.getD fh,⟨((bM b[i].s (bL l b i)).getD eM).2.lo+b[i].m.lo,((bM b[i].s (bL l b i)).getD eM).2.hi+b[i].m.hi⟩) eM rfl (bL l b i)
  rw[gK l b i hi,gM]
  unfold yg at ih ⊢
  rw[e]
  dsimp only
  omega
theorem Ja{l:List Sk}{b:List Tk}(hl:Jl l)(hb:okB b)(ht:OP l.length b):okM (bL l b b.length):=by
 have h:=vP hl hb ht b.length (Zf _)
 refine⟨fun m hm=>(h m hm).1,?_,fun m hm=>(h m hm).2⟩
 have:=zd (l:=l) hb b.length (Zf _)
 have:=hb.1
 omega
theorem zZ(f:Nat->Int):∀ n j,j<n->tX f n<=f j
 | 0,j,h=>by omega
 | n+1,j,h=>by
  simp only[tX]
  split
  ·rename_i h0;subst h0;obtain rfl:j=0:=by omega
   exact tr _
  ·rcases Md.1 h with h1 | rfl
   ·have:=zZ f n j h1;omega
   ·omega
theorem Af(f:Nat->Int):∀ n,0<n->∃ j,j<n∧tX f n=f j
 | 0,h=>by omega
 | n+1,_=>by
  simp only[tX]
  split
  ·rename_i h0;exact⟨0,by omega,rfl⟩
  ·obtain⟨j,h1,h2⟩:=Af f n (by omega)
   rcases Int.le_total (tX f n) (f n) with h | h
   ·exact⟨j,by omega,by omega⟩
   ·exact⟨n,by omega,by omega⟩
theorem AV(f:Nat->Int):∀ n j,j<n->f j<=w8 f n
 | 0,j,h=>by omega
 | n+1,j,h=>by
  simp only[w8]
  split
  ·rename_i h0;subst h0;obtain rfl:j=0:=by omega
   exact tr _
  ·rcases Md.1 h with h1 | rfl
   ·have:=AV f n j h1;omega
   ·omega
theorem Aj(f:Nat->Int):∀ n,0<n->∃ j,j<n∧w8 f n=f j
 | 0,h=>by omega
 | n+1,_=>by
  simp only[w8]
  split
  ·rename_i h0;exact⟨0,by omega,rfl⟩
  ·obtain⟨j,h1,h2⟩:=Aj f n (by omega)
   rcases Int.le_total (f n) (w8 f n) with h | h
   ·exact⟨j,by omega,by omega⟩
   ·exact⟨n,by omega,by omega⟩
theorem Vq{f g:Nat->Int}{n:Nat}(hn:0<n)(h1:∀ j,j<n->∃ i,i<n∧g i<=f j)(h2:∀ j,j<n->∃ i,i<n∧f i<=g j):tX f n=tX g n:=by
 obtain⟨j,hj,ej⟩:=Af f n hn
 obtain⟨k,hk,ek⟩:=Af g n hn
 obtain⟨i,hi,le1⟩:=h1 j hj
 obtain⟨i',hi',le2⟩:=h2 k hk
 have:=zZ g n i hi
 have:=zZ f n i' hi'
 omega
theorem TE{f g:Nat->Int}{n:Nat}(hn:0<n)(h1:∀ j,j<n->∃ i,i<n∧f j<=g i)(h2:∀ j,j<n->∃ i,i<n∧g j<=f i):w8 f n=w8 g n:=by
 obtain⟨j,hj,ej⟩:=Aj f n hn
 obtain⟨k,hk,ek⟩:=Aj g n hn
 obtain⟨i,hi,le1⟩:=h1 j hj
 obtain⟨i',hi',le2⟩:=h2 k hk
 have:=AV g n i hi
 have:=AV f n i' hi'
 omega
def sig(k:Nat):Nat:=4*(k%2)+2*(k / 2%2)+k / 4%2
theorem sR(k:Nat):sig k<8:=by unfold sig;omega
theorem HQ:∀ k,k<8->sig (sig k)=k:=by decide
theorem HX(f:Int->Int->Int->Int)(s:Sk):∀ k,k<8->RI f s (sig k)=f (s.cw k) (s.cc k) (s.cl k)
 | 0,_=>rfl | 1,_=>rfl | 2,_=>rfl | 3,_=>rfl | 4,_=>rfl | 5,_=>rfl | 6,_=>rfl | 7,_=>rfl
 | n+8,h=>by omega
theorem Pn(h:Nat->Int)(g:Nat->Int)(e:∀ k,k<8->h (sig k)=g k):tX h 8=tX g 8:=
 Vq (by omega) (fun j hj=>⟨sig j,sR j,by rw[<- e _ (sR j),HQ j hj];exact tr _⟩) (fun j hj=>⟨sig j,sR j,by rw[e j hj];exact tr _⟩)
theorem Qd(h:Nat->Int)(g:Nat->Int)(e:∀ k,k<8->h (sig k)=g k):w8 h 8=w8 g 8:=
 TE (by omega) (fun j hj=>⟨sig j,sR j,by rw[<- e _ (sR j),HQ j hj];exact tr _⟩) (fun j hj=>⟨sig j,sR j,by rw[e j hj];exact tr _⟩)
theorem rV(c:Int):∀ n,0<n->tX (fun _=>c) n=c
 | 0,h=>by omega
 | n+1,_=>by
  simp only[tX]
  split
  ·rfl
  ·rw[rV c n (by omega)];omega
theorem ze(c:Int):∀ n,0<n->w8 (fun _=>c) n=c
 | 0,h=>by omega
 | n+1,_=>by
  simp only[w8]
  split
  ·rfl
  ·rw[ze c n (by omega)];omega
def KD(f:Int->Int->Int->Int)(s:Sk)(lo hi:Int):Int:=tX (fun k=>min (lo*f (s.cw k) (s.cc k) (s.cl k)) (hi*f (s.cw k) (s.cc k) (s.cl k))) 8
def PA(f:Int->Int->Int->Int)(s:Sk)(lo hi:Int):Int:=w8 (fun k=>max (lo*f (s.cw k) (s.cc k) (s.cl k)) (hi*f (s.cw k) (s.cc k) (s.cl k))) 8
theorem MM(f:Int->Int->Int->Int)(s:Sk):KD f s 0 0=0:=by
 unfold KD
 simp only[Int.zero_mul,Int.min_self]
 exact rV 0 8 (by omega)
theorem LL(f:Int->Int->Int->Int)(s:Sk):PA f s 0 0=0:=by
 unfold PA
 simp only[Int.zero_mul,Int.max_self]
 exact ze 0 8 (by omega)
theorem TN(f:Int->Int->Int->Int)(m:Int×(Sk×Sp)):nu (RI f) m=KD f m.2.1 m.2.2.lo m.2.2.hi:=
 Pn _ _ (fun k hk=>by simp only[HX f m.2.1 k hk])
theorem Qi(f:Int->Int->Int->Int)(m:Int×(Sk×Sp)):nw (RI f) m=PA f m.2.1 m.2.2.lo m.2.2.hi:=
 Qd _ _ (fun k hk=>by simp only[HX f m.2.1 k hk])
def sLo(f:Int->Int->Int->Int)(l:List Sk)(b:List Tk):Int:=gY (fun i=>KD f (l[i]?.getD fh) (G8 b i) (Ib b i)) l.length
def sHi(f:Int->Int->Int->Int)(l:List Sk)(b:List Tk):Int:=gY (fun i=>PA f (l[i]?.getD fh) (G8 b i) (Ib b i)) l.length
theorem Th{l:List Sk}{b:List Tk}(ht:OP l.length b)(f:Int->Int->Int->Int):((bL l b b.length).map (nu (RI f))).sum=sLo f l b:=by
 have:=pT ht (KD f) (MM f) b.length (Zf _)
 unfold sLo G8 Ib
 rw[<- this]
 congr 1
 exact V1 fun m _=>TN f m
theorem UD{l:List Sk}{b:List Tk}(ht:OP l.length b)(f:Int->Int->Int->Int):((bL l b b.length).map (nw (RI f))).sum=sHi f l b:=by
 have:=pT ht (PA f) (LL f) b.length (Zf _)
 unfold sHi G8 Ib
 rw[<- this]
 congr 1
 exact V1 fun m _=>Qi f m
theorem zk(l:List Sk)(b:List Tk)(n:Int)(i:Nat):R8 l b n i=KD (gW n) (l[i]?.getD fh) (G8 b i) (Ib b i):=rfl
theorem HZ(l:List Sk)(b:List Tk)(n:Int)(i:Nat):SS l b n i=PA (gW n) (l[i]?.getD fh) (G8 b i) (Ib b i):=rfl
theorem wLe{b:List Tk}(h:okB b)(i:Nat):G8 b i<=Ib b i:=by
 unfold G8 Ib
 have gen:∀ n,n<=b.length->gX (A4 (i:Int)) b n<=gX (A2 (i:Int)) b n:=by
  intro n
  induction n with
  | zero=>intro _;simp[oE]
  | succ n ih=>
   intro hn
   have:=ih (by omega)
   have:=h.2 b[n] (zL _)
   rw[gJ _ b n hn,gJ _ b n hn]
   simp only[A4,A2]
   split <;> omega
 exact gen _ (Zf _)
theorem aad{f:Int->Int->Int->Int}{s:Sk}{lo hi:Int}(h:0<=lo∧lo<=hi)(hf:∀ k,0<=f (s.cw k) (s.cc k) (s.cl k)):KD f s lo hi=lo*JA (fun k=>f (s.cw k) (s.cc k) (s.cl k)) 8:=by
 have gen:∀ n,0<n->tX (fun k=>min (lo*f (s.cw k) (s.cc k) (s.cl k)) (hi*f (s.cw k) (s.cc k) (s.cl k))) n=lo*JA (fun k=>f (s.cw k) (s.cc k) (s.cl k)) n:=by
  intro n hn
  have e:∀ k,min (lo*f (s.cw k) (s.cc k) (s.cl k)) (hi*f (s.cw k) (s.cc k) (s.cl k))=lo*f (s.cw k) (s.cc k) (s.cl k):=fun k=>by
   have:=Int.mul_le_mul_of_nonneg_right h.2 (hf k)
   omega
  simp only[e]
  induction n with
  | zero=>omega
  | succ n ih=>
   simp only[tX,JA]
   split
   ·rename_i h0;subst h0;simp[JA]
   ·rw[ih (by omega)]
    rcases Int.le_total (JA (fun k=>f (s.cw k) (s.cc k) (s.cl k)) n) (f (s.cw n) (s.cc n) (s.cl n)) with h1 | h1
    ·rw[Int.min_eq_left h1,Int.min_eq_left (Wi h1 h.1)]
    ·rw[Int.min_eq_right h1,Int.min_eq_right (Wi h1 h.1)]
 exact gen 8 (by omega)
theorem Jl.get{l:List Sk}(h:Jl l){i:Nat}(hi:i<l.length):uL (l[i]?.getD fh):=by
 rw[Zc hi,Vj]
 exact h.2 _ (zL _)
theorem kS{f g:Nat->Int}:∀ n,(∀ j,j<n->f j<=g j)->gY f n<=gY g n
 | 0,_=>tr _
 | n+1,h=>by
  exact EH
theorem EX{f g:Int->Int->Int->Int}{s:Sk}{lo hi:Int}(h:0<=lo∧lo<=hi)(hf:∀ k,f (s.cw k) (s.cc k) (s.cl k)<=g (s.cw k) (s.cc k) (s.cl k)):KD f s lo hi<=KD g s lo hi:=by
 unfold KD
 obtain⟨j,hj,ej⟩:=Af (fun k=>min (lo*g (s.cw k) (s.cc k) (s.cl k)) (hi*g (s.cw k) (s.cc k) (s.cl k))) 8 (by omega)
 have h1:=zZ (fun k=>min (lo*f (s.cw k) (s.cc k) (s.cl k)) (hi*f (s.cw k) (s.cc k) (s.cl k))) 8 j hj
 exact Cg
theorem M5{f g:Int->Int->Int->Int}{s:Sk}{lo hi:Int}(h:0<=lo∧lo<=hi)(hf:∀ k,f (s.cw k) (s.cc k) (s.cl k)<=g (s.cw k) (s.cc k) (s.cl k)):PA f s lo hi<=PA g s lo hi:=by
 unfold PA
 obtain⟨j,hj,ej⟩:=Aj (fun k=>max (lo*f (s.cw k) (s.cc k) (s.cl k)) (hi*f (s.cw k) (s.cc k) (s.cl k))) 8 (by omega)
 have h1:=AV (fun k=>max (lo*g (s.cw k) (s.cc k) (s.cl k)) (hi*g (s.cw k) (s.cc k) (s.cl k))) 8 j hj
 exact Cg
def KM(l:List Sk)(b:List Tk)(n:Int):Int:=gY (R8 l b n) l.length
def Nw(l:List Sk)(b:List Tk)(n:Int):Int:=gY (SS l b n) l.length
theorem wN{m n w c l:Int}(h:m<=n)(hs:mE w c l):gW n w c l<=gW m w c l:=by
 have:=Int.mul_le_mul_of_nonneg_right h (ML hs).1
 unfold gW;omega
theorem MG{l:List Sk}{b:List Tk}(hl:Jl l)(hb:okB b){m n:Int}(h:m<=n):KM l b n<=KM l b m:=
 kS _ fun i hi=>by
  rw[zk,zk]
  exact EX ⟨(wB hb i).1.1,wLe hb i⟩ fun k=>wN h ((hl.get hi).Gw k)
theorem Nr{l:List Sk}{b:List Tk}(hl:Jl l)(hb:okB b){m n:Int}(h:m<=n):Nw l b n<=Nw l b m:=
 kS _ fun i hi=>by
  rw[HZ,HZ]
  exact M5 ⟨(wB hb i).1.1,wLe hb i⟩ fun k=>wN h ((hl.get hi).Gw k)
theorem sP(xs:List Sk)(f:PV)(p:Sk->Bool)(hx:xs.length<=b6)(hf:∀ x∈xs,jN Tryz.prog f [.agg x.cells] (.bool (p x))):Pure Tryz.prog 162 [.is (xs.flatMap Sk.cells) xs.length,f] (.int .i64 (iN p xs)):=by
 unfold b6 at hx
 refine Kf (N:=19) Tryz.func162 ?_
 iterate 12 refine af ?_
 refine aF.zg [4,5,8,9,10,11,12,13,14,15,16,17,18] (fun g=>[(8,.p (.int .i64 ((g:Nat):Int)))]) (fun g=>g<=xs.length∧∀ j (hj:j<g) (h:g<=xs.length),p (xs[j]'(by omega))=false) (fun g=>xs.length - g) 0 ⟨Zs _,fun j hj=>absurd hj (by omega)⟩ (Sub.cons rfl (Sub.nil)) (fun i hg=> ?_)
 obtain⟨vt,mF⟩:=hg
 iterate 5 refine af ?_
 refine Ki (fun hc0=> ?_) fun hc0=> ?_
 ·iterate 13 refine af ?_
  refine Kc (aa.j6 rfl rfl rfl an XL rfl (fun _=>rfl) (by decide) ?_) ?_
  ·simp at hc0;omega
  exact vG
 ·exact xx
theorem sn(xs:List Tk)(f:PV)(p:Tk->Bool)(hx:xs.length<=b6)(hf:∀ x∈xs,jN Tryz.prog f [.agg x.cells] (.bool (p x))):Pure Tryz.prog 212 [.is (xs.flatMap Tk.cells) xs.length,f] (.int .i64 (iN p xs)):=by
 unfold b6 at hx
 refine Kf (N:=19) Tryz.func212 ?_
 iterate 12 refine af ?_
 refine aF.zg [4,5,8,9,10,11,12,13,14,15,16,17,18] (fun g=>[(8,.p (.int .i64 ((g:Nat):Int)))]) (fun g=>g<=xs.length∧∀ j (hj:j<g) (h:g<=xs.length),p (xs[j]'(by omega))=false) (fun g=>xs.length - g) 0 ⟨Zs _,fun j hj=>absurd hj (by omega)⟩ (Sub.cons rfl (Sub.nil)) (fun i hg=> ?_)
 obtain⟨vt,mF⟩:=hg
 iterate 5 refine af ?_
 refine Ki (fun hc0=> ?_) fun hc0=> ?_
 ·iterate 13 refine af ?_
  refine Kc (aa.j6 rfl rfl rfl an R2 rfl (fun _=>rfl) (by decide) ?_) ?_
  ·simp at hc0;omega
  exact vG
 ·exact xx
theorem oP(xs:List Sk)(f:PV)(p:Sk->Bool)(hx:xs.length<=b6)(hf:∀ x∈xs,jN Tryz.prog f [.agg x.cells] (.bool (p x))):Pure Tryz.prog 114 [.is (xs.flatMap Sk.cells) xs.length,f] (.bool (xs.any p)):=by
 refine Kf (N:=9) Tryz.func114 ?_
 iterate 8 refine af ?_
 refine Kc (Kp (sP _ _ p ?_ ?_)) ?_
 ·exact hx
 ·exact hf
 exact vq
theorem oN(xs:List Tk)(f:PV)(p:Tk->Bool)(hx:xs.length<=b6)(hf:∀ x∈xs,jN Tryz.prog f [.agg x.cells] (.bool (p x))):Pure Tryz.prog 206 [.is (xs.flatMap Tk.cells) xs.length,f] (.bool (xs.any p)):=by
 refine Kf (N:=9) Tryz.func206 ?_
 iterate 8 refine af ?_
 refine Kc (Kp (sn _ _ p ?_ ?_)) ?_
 ·exact hx
 ·exact hf
 exact vq
theorem Ai(s:Sk):Pure Tryz.prog 113 [.agg s.cells] (.bool s.bad):=by
 refine Kf (N:=19) Tryz.func113 ?_
 iterate 9 refine af ?_
 refine Kc (Kp (iA _ _ _ _)) ?_
 iterate 2 refine af ?_
 refine Kg 8 7 1 rfl (fun h=>(aa.fieldAddr rfl rfl an rfl)) ?_
 refine Kh 9 7 8 rfl rfl rfl rfl (fun h=>(aa.load rfl rfl an rfl)) ?_
 refine Kh 10 7 9 rfl rfl rfl rfl (fun h=>(Kp (iA _ _ _ _))) ?_
 refine Kh 11 7 10 rfl rfl rfl rfl (fun h=>(aa.gr rfl rfl)) ?_
 refine Kc (aa.mG rfl rfl rfl ?_) ?_
 ·exact az
 refine af ?_
 refine Kg 14 13 1 rfl (fun h=>(aa.fieldAddr rfl rfl an rfl)) ?_
 refine Kh 15 13 14 rfl rfl rfl rfl (fun h=>(aa.load rfl rfl an rfl)) ?_
 refine Kh 16 13 15 rfl rfl rfl rfl (fun h=>(Kp (iA _ _ _ _))) ?_
 refine Kh 17 13 16 rfl rfl rfl rfl (fun h=>(aa.gr rfl rfl)) ?_
 refine Kc (aa.mG rfl rfl rfl ?_) ?_
 ·exact az
 exact dA
theorem D2(l:List Sk)(t:Tk)(hx:l.length<=b6):Pure Tryz.prog 205 [.agg t.cells,.ip [ic l] 0] (.bool (t.bad l.length)):=by
 refine Kf (N:=17) Tryz.func205 ?_
 iterate 11 refine af ?_
 refine Kc (aa.iI rfl rfl rfl (aK ?_)) ?_
 ·unfold b6 at*;omega
 refine Kc (Kp (cP _ _ _)) ?_
 iterate 2 refine af ?_
 refine Kg 12 11 2 rfl (fun h=>(aa.fieldAddr rfl rfl an rfl)) ?_
 refine Kh 13 11 12 rfl rfl rfl rfl (fun h=>(aa.load rfl rfl an rfl)) ?_
 refine Kh 14 11 13 rfl rfl rfl rfl (fun h=>(Kp (iA _ _ _ _))) ?_
 refine Kh 15 11 14 rfl rfl rfl rfl (fun h=>(aa.gr rfl rfl)) ?_
 refine Kc (aa.mG rfl rfl rfl ?_) ?_
 ·exact az
 exact dA
theorem CB(l:List Sk)(hx:l.length<=b6):Pure Tryz.prog 51 [ic l] (.bool (dX l)):=by
 refine Kf (N:=13) Tryz.func51 ?_
 iterate 14 refine af ?_
 refine Kg 8 7 0 rfl (fun h=>(aa.move rfl rfl)) ?_
 refine Kg 9 7 3 rfl (fun h=>(aa.move rfl rfl)) ?_
 refine aj.g 10 7 rfl rfl rfl rfl rfl rfl rfl [(8,_),(9,_)] (fun h=>And.intro (.inr ⟨_,rfl,h⟩) (And.intro (.inr ⟨_,rfl,h⟩) (trivial))) (fun h=>(Kp (oP l _ Sk.bad ?_ ?_))) ?_
 ·exact hx
 ·exact fun x _=>⟨113,[.agg x.cells],rfl,an,Ai x⟩
 refine Kh 11 7 10 rfl rfl rfl rfl (fun h=>(aa.gr rfl rfl)) ?_
 refine Kc (aa.fH rfl rfl rfl ?_) ?_
 ·exact az
 exact dA
theorem FA(l:List Sk)(b:List Tk)(hx:l.length<=b6)(hb:b.length<=b6):Pure Tryz.prog 178 [ic l,wH b] (.bool (jw l.length b)):=by
 refine Kf (N:=16) Tryz.func178 ?_
 iterate 7 refine af ?_
 refine Kc (aa.makeFunc rfl rfl rfl) ?_
 iterate 6 refine af ?_
 refine Kc (Kp (cP _ _ _)) ?_
 refine af ?_
 refine Kg 11 10 1 rfl (fun h=>(aa.move rfl rfl)) ?_
 refine Kg 12 10 5 rfl (fun h=>(aa.move rfl rfl)) ?_
 refine aj.g 13 10 rfl rfl rfl rfl rfl rfl rfl [(11,_),(12,_)] (fun h=>And.intro (.inr ⟨_,rfl,h⟩) (And.intro (.inr ⟨_,rfl,h⟩) (trivial))) (fun h=>(Kp (oN b _ (Tk.bad l.length) ?_ ?_))) ?_
 ·exact hb
 ·exact fun x _=>⟨205,[.agg x.cells,.ip [ic l] 0],rfl,an,D2 l x hx⟩
 refine Kh 14 10 13 rfl rfl rfl rfl (fun h=>(aa.gr rfl rfl)) ?_
 refine Kc (aa.fH rfl rfl rfl ?_) ?_
 ·exact az
 exact dA
theorem TQ{l:List Sk}(h:dX l=true):Jl l:=by
 unfold dX at h
 simp only[Zn,Zq,F5,OM] at h
 refine⟨by omega,fun s hs=> ?_⟩
 have:=h.2 s hs
 simp[Sk.bad,Sp.ok] at this
 unfold uL
 omega
theorem Vf{n:Nat}{b:List Tk}(h:jw n b=true):okB b∧OP n b:=by
 unfold jw at h
 simp only[Zn,Zq,F5,OM] at h
 refine⟨⟨by omega,fun t ht=> ?_⟩,fun t ht=> ?_⟩ <;>
 ·have:=h.2 t ht
  simp[Tk.bad,Sp.ok] at this
  omega
def iT(l:List Sk)(b:List Tk):Bool:=dX l&&jw l.length b
theorem lO(p:Nat->Bool):∀ n,(∀ i j,i<=j->j<n->p i=true->p j=true)->∃ r,r<=n∧(∀ i,i<r->p i=false)∧∀ i,r<=i->i<n->p i=true
 | 0,_=>⟨0,Zf _,fun i h=>by omega,fun i _ h=>by omega⟩
 | n+1,hp=>by
  exact ES
def tZ(l:List Sk)(b:List Tk):Nat->Int
 | 0=>0
 | s+1=>if 0<=KM l b s then(s:Int) else tZ l b s
def l9(l:List Sk)(b:List Tk):Nat->Int
 | 0=>1000
 | s+1=>if Nw l b s<=0 then min (l9 l b s) s else l9 l b s
def uN(l:List Sk)(b:List Tk):List PV:=
 if iT l b then[.agg [.int .i64 (tZ l b 1001),.int .i64 (l9 l b 1001)],.int .i64 0] else[.agg [.int .i64 0,.int .i64 0],.int .i64 1]
theorem Bm{l:List Sk}{b:List Tk}{r:Nat}(h0:0<r)(h1:∀ i,i<r->0<=KM l b i):∀ n,r<=n->(∀ i,r<=i->i<n->KM l b i<0)->tZ l b n=r - 1
 | 0,h,_=>by omega
 | n+1,h,h2=>by
  simp only[tZ]
  by_cases e:r=n+1
  ·subst e
   rw[if_pos (h1 n (by omega))];omega
  ·rw[if_neg (by have:=h2 n (by omega) (by omega);omega)]
   exact Bm h0 h1 n (by omega) (fun i hi hj=>h2 i hi (by omega))
theorem Ow{l:List Sk}{b:List Tk}{r:Nat}(hr:r<=1000)(h1:∀ i,i<r->0<Nw l b i)(h2:∀ i,r<=i->i<1000->Nw l b i<=0):l9 l b 1001=r:=by
 have g1:∀ n,n<=r->l9 l b n=1000:=by
  intro n
  induction n with
  | zero=>intro _;rfl
  | succ n ih=>
   intro hn
   simp only[l9]
   rw[if_neg (by have:=h1 n (by omega);omega)]
   exact ih (by omega)
 have g2:∀ n,n<=1000->r<n->l9 l b n=r:=by
  intro n
  induction n with
  | zero=>intro _ h;omega
  | succ n ih=>
   intro hn hr'
   simp only[l9]
   rw[if_pos (h2 n (by omega) (by omega))]
   by_cases e:r=n
   ·subst e;rw[g1 r (Zf _)];omega
   ·rw[ih (by omega) (by omega)];omega
 have WT:l9 l b 1000=r:=by
  by_cases e:r=1000
  ·rw[g1 1000 (by omega)];omega
  ·exact g2 1000 (by omega) (by omega)
 show(if Nw l b (1000:Nat)<=0 then min (l9 l b 1000) ((1000:Nat):Int) else l9 l b 1000)=r
 rw[WT]
 split <;> omega
theorem MC{l:List Sk}{b:List Tk}(hl:Jl l)(hb:okB b):0<=KM l b 0:=by
 have h:gY (fun _=>0) l.length<=KM l b 0:=kS _ fun i hi=>by
  rw[zk]
  have h1:=EX (f:=fun _ _ _=>0) (g:=gW 0) (s:=l[i]?.getD fh) (lo:=G8 b i) (hi:=Ib b i) ⟨(wB hb i).1.1,wLe hb i⟩ (fun k=>by
   have:=vR ((hl.get hi).Gw k)
   simp only[gW];omega)
  have h2:KD (fun _ _ _=>0) (l[i]?.getD fh) (G8 b i) (Ib b i)=0:=by
   unfold KD
   simp only[Int.mul_zero,Int.min_self]
   exact rV 0 8 (by omega)
  omega
 rw[kL _ (fun _ _=>rfl)] at h
 exact h
theorem F4{l:List Sk}{b:List Tk}(hl:Jl l)(hb:okB b):∃ r q:Nat,(r<=1001∧(∀ i,i<r->decide (KM l b (i:Nat)<0)=false)∧(∀ i,r<=i->i<1001->decide (KM l b (i:Nat)<0)=true))∧
    (q<=1000∧(∀ i,i<q->decide (Nw l b (i:Nat)<=0)=false)∧(∀ i,q<=i->i<1000->decide (Nw l b (i:Nat)<=0)=true))∧tZ l b 1001=r - 1∧l9 l b 1001=q:=by
 obtain⟨r,h1,h2,h3⟩:=lO (fun i=>decide (KM l b (i:Nat)<0)) 1001 (fun i j hij _ h=>by
  simp only[Zq] at h ⊢
  have:=MG hl hb (m:=(i:Int)) (n:=(j:Int)) (by omega)
  omega)
 obtain⟨q,k1,k2,k3⟩:=lO (fun i=>decide (Nw l b (i:Nat)<=0)) 1000 (fun i j hij _ h=>by
  simp only[Zq] at h ⊢
  have:=Nr hl hb (m:=(i:Int)) (n:=(j:Int)) (by omega)
  omega)
 refine⟨r,q,⟨h1,h2,h3⟩,⟨k1,k2,k3⟩,Bm ?_ (fun i hi=> ?_) 1001 h1 (fun i hi hj=>by simpa using h3 i hi hj),Ow k1 (fun i hi=> ?_) (fun i hi hj=>by simpa using k3 i hi hj)⟩
 ·rcases Vz r with h | h
  ·subst h
   have:=h3 0 (Zf _) (by omega)
   have h0:=MC hl hb
   simp at this
   omega
  ·exact h
 ·have:=h2 i hi
  simp at this
  exact this
 ·have:=k2 i hi
  simp at this
  omega
def b2(i j:Int)(t n:Int):List Tk:=[⟨i,⟨n,n⟩⟩,⟨j,⟨t - n,t - n⟩⟩]
def fLo(f:Int->Int->Int->Int)(s:Sk):Int:=tX (fun k=>f (s.cw k) (s.cc k) (s.cl k)) 8
def fHi(f:Int->Int->Int->Int)(s:Sk):Int:=w8 (fun k=>f (s.cw k) (s.cc k) (s.cl k)) 8
def U2(s1 s2:Sk)(t:Int)(w:Sp)(n:Int):Int:=min (n*fLo (gW w.lo) s1+(t - n)*fLo (gW w.lo) s2) (0 - (n*fHi (gW w.hi) s1+(t - n)*fHi (gW w.hi) s2))
structure H8 (M:Int->Int) (t:Nat) (r:Nat):Prop where
 abu:r<=t - 2
 aba:∀ i,i<r->decide (M ((i:Int)+2)<=M ((i:Int)+1))=false
 abv:∀ i,r<=i->i<t - 2->decide (M ((i:Int)+2)<=M ((i:Int)+1))=true
theorem H8.up{s1 s2:Sk}{w:Sp}{t r:Nat}(h:H8 (U2 s1 s2 t w) t r):∀(k j:Nat),k<=j->j<=r->U2 s1 s2 t w ((k:Int)+1)<=U2 s1 s2 t w ((j:Int)+1)
 | k,0,hk,_=>by obtain rfl:k=0:=by omega
                exact tr _
 | k,j+1,hk,hj=>by
  rcases ZS j k with h1 | h1
  ·obtain rfl:k=j+1:=by omega
   exact tr _
  ·have h2:=h.up k j h1 (by omega)
   have h3:=h.aba j (by omega)
   simp at h3
   have e:((j+1:Nat):Int)+1=j+2:=by omega
   rw[e];omega
theorem Fg(s:Sk)(m:Sp):MY Tryz.prog 213 (fun y=>[y,.p (.ip (storeCells s m) 0)]) (mo s):=by
 intro l κ n inv fin hκ hn Gk hb h0 nA
 refine jY.gQ (N:=55) Tryz.func213 rfl rfl Kn ?_
 iterate 14 refine af ?_
 refine aF.tS [4,6,8,18,19,20,21,22,23,24,25,26,27,28,29,30,31,32,33,34,35,36,37,38,39,40,41,42,43,44,45,46,47,48,49,50,51,52,53,54] (fun g=>[(18,.p (.int .i64 ((g.1:Nat):Int)))]) (fun g=>g.2) (fun g=>g.1<=2∧inv (4*g.1) g.2) (fun g=>2 - g.1) (0,h0) ⟨by omega,nA⟩ (To.sub (Sub.Sz (Sub.cons rfl (Sub.nil)))) (fun g hg=> ?_)
 obtain⟨i,hi⟩:=g
 obtain⟨hle,hinv⟩:=hg
 dsimp only at hle hinv ⊢
 iterate 5 refine af ?_
 refine Ki (fun hc0=> ?_) fun hc0=> ?_
 ·have i2:i<2:=by simp at hc0;omega
  iterate 5 refine af ?_
  refine Kc (aa.sZ rfl rfl rfl Nl (by omega) ?_) ?_
  ·omega
  iterate 16 refine af ?_
  refine aF.tS [6,8,30,31,32,33,34,35,36,37,38,39,40,41,42,43,44,45,46,47,48,49,50,51,52,53] (fun g=>[(30,.p (.int .i64 ((g.1:Nat):Int)))]) (fun g=>g.2) (fun g=>g.1<=2∧inv (4*i+2*g.1) g.2) (fun g=>2 - g.1) (0,hi) ⟨by omega,hinv⟩ (To.sub (Sub.Sz (Sub.cons rfl (Sub.nil)))) (fun g hg=> ?_)
  obtain⟨j,hj⟩:=g
  obtain⟨hle,hinv⟩:=hg
  dsimp only at hle hinv ⊢
  iterate 5 refine af ?_
  refine Ki (fun cR=> ?_) fun cR=> ?_
  ·have j2:j<2:=by simp at cR;omega
   iterate 5 refine af ?_
   refine Kc (aa.sZ rfl rfl rfl Nl (by omega) ?_) ?_
   ·omega
   iterate 16 refine af ?_
   refine aF.tS [8,42,43,44,45,46,47,48,49,50,51,52] (fun g=>[(42,.p (.int .i64 ((g.1:Nat):Int)))]) (fun g=>g.2) (fun g=>g.1<=2∧inv (4*i+2*j+g.1) g.2) (fun g=>2 - g.1) (0,hj) ⟨by omega,hinv⟩ (To.sub (Sub.Sz (Sub.cons rfl (Sub.nil)))) (fun g hg=> ?_)
   obtain⟨k,hk⟩:=g
   obtain⟨hle,hinv⟩:=hg
   dsimp only at hle hinv ⊢
   iterate 5 refine af ?_
   refine Ki (fun jR=> ?_) fun jR=> ?_
   ·have k2:k<2:=by simp at jR;omega
    iterate 5 refine af ?_
    refine Kc (aa.sZ rfl rfl rfl Nl (by omega) ?_) ?_
    ·omega
    iterate 9 refine af ?_
    refine aj.yield 50 rfl rfl rfl rfl rfl rfl (hb _ _ _ hinv (Eg s i2 j2 k2)) ?_
    intro b2 h2 DQ
    iterate 2 refine af ?_
    refine Ki (fun pG=> ?_) fun pG=> ?_
    ·have hq:fin h2:=by simpa[show b2=false by simpa using pG] using DQ
     refine af ?_
     exact⟨.inr rfl,_,en.none_ rfl,.inr hq⟩
    ·have hnext:inv (4*i+2*j+k+1) h2:=by simpa[show b2=true by simpa using pG] using DQ
     iterate 2 refine af ?_
     refine Kc (aa.add rfl rfl rfl (aK ?_)) ?_
     ·omega
     iterate 2 refine af ?_
     refine⟨(k+1,h2),?_,?_,?_⟩
     ·exact⟨by dsimp only;omega,hnext⟩
     ·show 2 - (k+1)<2 - k
      omega
     exact To.sub KS
   ·refine aF.exit ?_
    refine af ?_
    refine Kc (aa.add rfl rfl rfl (aK ?_)) ?_
    ·omega
    iterate 2 refine af ?_
    refine⟨(j+1,hk),?_,?_,?_⟩
    ·have hk2:k=2:=by simp at jR;omega
     subst hk2
     exact⟨by dsimp only;omega,by rw[show 4*i+2*(j+1,hk).1=4*i+2*j+2 by dsimp only;omega];exact hinv⟩
    ·show 2 - (j+1)<2 - j
     omega
    exact To.sub KS
  ·refine aF.exit ?_
   refine af ?_
   refine Kc (aa.add rfl rfl rfl (aK ?_)) ?_
   ·omega
   iterate 2 refine af ?_
   refine⟨(i+1,hj),?_,?_,?_⟩
   ·have hj2:j=2:=by simp at cR;omega
    subst hj2
    exact⟨by dsimp only;omega,by rw[show 4*(i+1,hj).1=4*i+2*2 by dsimp only;omega];exact hinv⟩
   ·show 2 - (i+1)<2 - i
    omega
   exact To.sub KS
 ·refine aF.exit ?_
  have hi2:i=2:=by simp at hc0;omega
  subst hi2
  exact⟨.inl rfl,_,en.none_ rfl,.inl (by simpa[mo] using hinv)⟩
theorem Jh(s:Sk)(m:Sp):Pure Tryz.prog 208 [.agg (storeCells s m)] (.func (.func 213) [] [.ip (storeCells s m) 0]):=by
 refine Kf (N:=4) Tryz.func208 ?_
 exact uZ
theorem Qq(s:Sk)(m:Sp)(fn:Fn)(fi ca:List PV)(F:Nat->Int)(hm:0<=m.lo∧m.lo<=m.hi∧m.hi<=800000)(hF:∀ j,j<8-> -2000000000000<=F j∧F j<=2000000000000)(hf:∀ j,j<8->jN Tryz.prog (.func fn fi ca) [sD s j] (.int .i64 (F j))):Pure Tryz.prog 198 [.agg (storeCells s m),.func fn fi ca] (.agg [.int .i64 (tX (fun j=>min (m.lo*F j) (m.hi*F j)) 8),.int .i64 (w8 (fun j=>max (m.lo*F j) (m.hi*F j)) 8)]):=by
 refine Kf (N:=52) Tryz.func198 ?_
 iterate 15 refine af ?_
 refine Kc (Kp (Jh s m)) ?_
 iterate 2 refine af ?_
 refine aF.rangeFunc 0 rfl (fun _=>rfl) an (Fg s m) (Zf _) (Zs _) (fun _ h=>by cases h) (fun x hx=>by simp[mo] at hx;obtain⟨j,_,rfl⟩:=hx;rfl) rfl (fun k h=>h=[.cells [.p (.int .i64 (tX (fun j=>min (m.lo*F j) (m.hi*F j)) k)),.p (.int .i64 (w8 (fun j=>max (m.lo*F j) (m.hi*F j)) k))] 24,.cells [.p (.bool (k==0))] 4]) (fun c h=>False) (fun _ _ h=>by rw[h];rfl) (fun _ _ h=>h.elim) rfl ?_ ?_ ?_
 ·intro l tmps k h x hJ hx
  subst hJ
  have hk:k<8:=by have:=(Za.1 hx).1;simpa[mo] using this
  obtain rfl:x=[.p (sD s k)]:=by simp[mo,hk] at hx;exact hx.symm
  have hFk:=hF k hk
  have q1:=PF (A:=2000000000000) (B:=800000) (b:=m.lo) ⟨hFk.1,hFk.2⟩ ⟨hm.1,by omega⟩
  have q2:=PF (A:=2000000000000) (B:=800000) (b:=m.hi) ⟨hFk.1,hFk.2⟩ ⟨by omega,hm.2.2⟩
  iterate 4 refine af ?_
  refine⟨rfl,rfl,?_⟩
  iterate 5 refine af ?_
  refine Kc (aa.C0 (hf k hk) rfl rfl rfl) ?_
  iterate 3 refine af ?_
  refine aF.aD 24 mixed (by kernel_rfl) (by decide) ?_
  iterate 4 refine af ?_
  refine Kq (aa.mul rfl rfl rfl (aK ?_)) ?_
  ·omega
  iterate 4 refine af ?_
  refine Kq (aa.mul rfl rfl rfl (aK ?_)) ?_
  ·omega
  refine Kq (aa.min2 rfl rfl rfl) ?_
  iterate 4 refine af ?_
  refine Kq (aa.mul rfl rfl rfl (aK ?_)) ?_
  ·omega
  iterate 4 refine af ?_
  refine Kq (aa.mul rfl rfl rfl (aK ?_)) ?_
  ·omega
  refine Kq (aa.max2 rfl rfl rfl) ?_
  iterate 2 refine af ?_
  refine aA.nil ?_
  iterate 6 refine af ?_
  refine Ki (fun hc0=> ?_) fun hc0=> ?_
  ·iterate 11 refine af ?_
   exact Ca
  ·iterate 5 refine af ?_
   exact Ca
 ·intro h hJ
  subst hJ
  iterate 6 refine af ?_
  exact uW
 ·exact gZ
theorem CH(l:List Sk)(b:List Tk)(hl:l.length<=b6)(hb:okB b)(ht:OP l.length b):Pure Tryz.prog 179 [ic l,wH b] (lJ (PV.int .i64) AZ (bL l b b.length)):=by
 have hb8:=hb.1
 refine Kf (N:=48) Tryz.func179 ?_
 iterate 6 refine af ?_
 refine Kc (aa.makeMap (K:=Int) (α:=Sk×Sp) (enc:=PV.int .i64) (g:=fun a=> .p (AZ a)) rfl) ?_
 iterate 10 refine af ?_
 refine aF.tS [7,8,12,13,14,15,16,17,18,19,20,21,22,23,24,25,26,27,28,29,30,31,32,33,34,35,36,37,38,39,40,41,42,43,44,45,46] (fun g=>[(12,.p (.int .i64 ((g:Nat):Int)))]) (fun g=>[gO (PV.int .i64) (fun a=> .p (AZ a)) (bL l b g)]) (fun g=>g<=b.length) (fun g=>b.length - g) 0 (Zs _) (To.sub (Sub.Sz (Sub.cons rfl Sub.nil))) (fun i hg=> ?_)
 iterate 5 refine af ?_
 refine Ki (fun hc0=> ?_) fun hc0=> ?_
 ·have hk0:i<b.length:=by simp at hc0;omega
  have hti:=hb.2 b[i] (zL _)
  have hts:=ht b[i] (zL _)
  have pQ:b[i].s.toNat<l.length:=by omega
  have vt:=pX l b b[i].s i hg
  have p1:=SU hb b[i].s i hg
  have p2:=R5 hb b[i].s i hg
  have e1:((bM b[i].s (bL l b i)).getD eM).2.lo=gX (A4 b[i].s) b i:=by rw[vt]
  have e2:((bM b[i].s (bL l b i)).getD eM).2.hi=gX (A2 b[i].s) b i:=by rw[vt]
  iterate 5 refine af ?_
  refine Kc (aa.j6 rfl rfl rfl an R2 rfl (fun _=>rfl) (by decide) hk0) ?_
  iterate 9 refine af ?_
  refine Kc (aa.vU (dJ.int .i64 .i64) (gp:=AZ) eM rfl rfl rfl rfl Od rfl) ?_
  iterate 8 refine af ?_
  refine Kc (aa.NF rfl rfl rfl an XL rfl (fun _=>rfl) (by decide) ?_ ?_) ?_
  ·omega
  ·omega
  iterate 12 refine af ?_
  refine Kc (aa.add rfl rfl rfl (aK ?_)) ?_
  ·omega
  iterate 6 refine af ?_
  refine Kc (aa.add rfl rfl rfl (aK ?_)) ?_
  ·omega
  iterate 9 refine af ?_
  refine Kz (aa.mapUpdate (dJ.int .i64 .i64) (g:=fun a=> .p (AZ a)) (c:=(l[b[i].s.toNat],⟨_,_⟩)) (.inl rfl) rfl rfl rfl rfl Od) ?_
  iterate 2 refine af ?_
  refine Kc (aa.add rfl rfl rfl (aK ?_)) ?_
  ·omega
  iterate 2 refine af ?_
  refine⟨i+1,?_,?_,?_⟩
  ·simp at hc0;omega
  ·simp at hc0;omega
  refine To.done [0] rfl KS ?_
  show[aE _ (gO _ (fun a=> .p (AZ a)) (aU _ _ _))]=_
  rw[jf,gK l b i hk0,gM,Zc pQ]
  rfl
 ·obtain rfl:i=b.length:=by simp at hc0;omega
  refine aF.to (To.sx 0 (gp:=AZ) rfl) ?_
  refine aF.exit ?_
  iterate 6 refine af ?_
  exact iQ
theorem Vc(ms:List (Int×(Sk×Sp)))(fn:Fn)(fi ca:List PV)(F:Sk->Nat->Int)(hw:∀ m∈ms,0<=m.2.2.lo∧m.2.2.lo<=m.2.2.hi)(hs:(ms.map yg).sum<=800000)(hF:∀ m∈ms,∀ j,j<8-> -2000000000000<=F m.2.1 j∧F m.2.1 j<=2000000000000)(hf:∀ m∈ms,∀ j,j<8->jN Tryz.prog (.func fn fi ca) [sD m.2.1 j] (.int .i64 (F m.2.1 j))):Pure Tryz.prog 163 [lJ (PV.int .i64) AZ ms,.func fn fi ca] (.agg [.int .i64 (ms.map (nu F)).sum,.int .i64 (ms.map (nw F)).sum]):=by
 have hpos:∀ m∈ms,0<=yg m:=fun m hm=>by have:=hw m hm;unfold yg;omega
 refine Kf (N:=32) Tryz.func163 ?_
 iterate 8 refine af ?_
 refine Kc (aa.rangeMap (enc:=PV.int .i64) (gp:=AZ) rfl rfl Od) ?_
 iterate 2 refine af ?_
 refine aF.tS [6,7,8,11,12,13,14,15,16,17,18,19,20,21,22,23,24,25,26,27,28,29,30] (fun(g:ue)=>[]) (fun(g:ue)=>[.cells [.p (.int .i64 (g.d.map (nu F)).sum),.p (.int .i64 (g.d.map (nw F)).sum)] 24,yD (PV.int .i64) AZ g.r g.last]) (fun(g:ue)=>ue.ok ms g) (fun(g:ue)=>g.r.length) ⟨[],ms,none⟩ ⟨(fun f=>by simp),(fun _ h=>by cases h),fun _ h=>h⟩ (To.sub (Sub.Sz Sub.nil)) (fun g hg=> ?_)
 obtain⟨d,r,last⟩:=g
 dsimp only
 iterate 2 refine af ?_
 refine aj.O0 11 rfl rfl rfl rfl rfl rfl ?_ ?_
 ·intro hr
  subst hr
  iterate 3 refine af ?_
  refine Ki (fun hc0=> ?_) fun hc0=> ?_
  ·cases hc0
  ·refine aF.exit ?_
   iterate 6 refine af ?_
   refine Fin.fQ rfl ⟨_,_,_,rfl,an,rfl⟩ ?_
   have e1:=hg.1 (nu F)
   have e2:=hg.1 (nw F)
   simp at e1 e2
   simp[e1,e2]
 ·intro j m hj
  have hjl:j<r.length:=(Za.1 hj).1
  have hmem:m∈ms:=hg.2.2 m (Zg hj)
  have hmw:=hw m hmem
  have hmh:yg m<=(ms.map yg).sum:=u7 hpos hmem
  have h9:m.2.2.hi<=800000:=(by omega:yg m<=800000)
  have mF:=ue.Iq hg hj
  have s1:=sj (f:=nu F) (g:=yg) (X:=2000000000000) (r:=d) (fun x hx=>M4 (hw x (hg.2.1 x hx)) (hF x (hg.2.1 x hx)))
  have s2:=sj (f:=nw F) (g:=yg) (X:=2000000000000) (r:=d) (fun x hx=>Ip (hw x (hg.2.1 x hx)) (hF x (hg.2.1 x hx)))
  have s3:=mF.1 yg
  dsimp only at s3
  rw[qQ] at s3
  have s4:=lQ (f:=yg) (r:=r.eraseIdx j) (fun x hx=>hpos x (mF.2.2 x hx))
  have s5:=lQ (f:=yg) (r:=d) (fun x hx=>hpos x (hg.2.1 x hx))
  have s6:=M4 hmw (hF m hmem)
  have s7:=Ip hmw (hF m hmem)
  have s8:=hpos m hmem
  iterate 3 refine af ?_
  refine Ki (fun hc0=> ?_) fun hc0=> ?_
  ·iterate 4 refine af ?_
   refine Kc (aa.entry rfl rfl rfl) ?_
   iterate 7 refine af ?_
   refine Kc (aa.makeFunc rfl rfl rfl) ?_
   iterate 6 refine af ?_
   refine Kc (aa.eY (Qq m.2.1 m.2.2 fn fi ca (F m.2.1) ?_ ?_ ?_) rfl rfl rfl rfl (an)) ?_
   ·omega
   ·exact hF m hmem
   ·exact hf m hmem
   iterate 8 refine af ?_
   refine Kc (aa.add rfl rfl rfl (aK ?_)) ?_
   ·exact Ey
   iterate 4 refine af ?_
   refine Kc (aa.add rfl rfl rfl (aK ?_)) ?_
   ·exact Ey
   iterate 3 refine af ?_
   refine⟨⟨d++[m],r.eraseIdx j,some m⟩,?_,?_,?_⟩
   ·exact ue.Iq hg hj
   ·show(r.eraseIdx j).length<r.length
    rw[List.length_eraseIdx,if_pos hjl]
    omega
   refine To.done [0,1] rfl KS ?_
   dsimp only
   rw[qQ,qQ]
   rfl
  ·cases hc0
theorem FL(n w c l:Int)(hn:0<=n∧n<=1000)(hs:mE w c l):Pure Tryz.prog 164 [.agg [.int .i64 w,.int .i64 c,.int .i64 l],.ip [.int .i64 n] 0] (.int .i64 (gW n w c l)):=by
 refine Kf (N:=7) Tryz.func164 ?_
 iterate 9 refine af ?_
 refine Kc (Kp (P3 _ _ _ _ ?_ ?_)) ?_
 ·assumption
 ·assumption
 exact dA
theorem Kk(ms:List (Int×(Sk×Sp)))(n:Int)(hn:0<=n∧n<=1000)(hm:okM ms):Pure Tryz.prog 116 [lJ (PV.int .i64) AZ ms,.int .i64 n] (.agg [.int .i64 (ms.map (nu (RI (gW n)))).sum,.int .i64 (ms.map (nw (RI (gW n)))).sum]):=by
 refine Kf (N:=8) Tryz.func116 ?_
 iterate 8 refine af ?_
 refine Kc (aa.makeFunc rfl rfl rfl) ?_
 refine Kc (Kp (Vc ms (.func 164) [] [.ip [.int .i64 n] 0] (RI (gW n)) ?_ ?_ ?_ ?_)) ?_
 ·exact hm.1
 ·exact hm.2.1
 ·exact fun m Pb j _=>by have h:=(hm.2.2 m Pb).state j;unfold RI;have:=Xr hn h;omega
 ·exact fun m Pb j _=>⟨164,[sD m.2.1 j,.ip [.int .i64 n] 0],rfl,an,FL n _ _ _ hn ((hm.2.2 m Pb).state j)⟩
 exact wZ
theorem yw(n r:Nat)(fn:Fn)(fi ca:List PV)(p:Nat->Bool)(hn:n<=140737488355328)(hr:r<=n)(h1:∀ i,i<r->p i=false)(h2:∀ i,r<=i->i<n->p i=true)(hf:∀ i,i<n->jN Tryz.prog (.func fn fi ca) [.int .i64 ((i:Nat):Int)] (.bool (p i))):Pure Tryz.prog 53 [.int .i64 (n:Int),.func fn fi ca] (.int .i64 (r:Int)):=by
 refine Kf (N:=26) Tryz.func53 ?_
 iterate 12 refine af ?_
 refine aF.zg [5,6,7,9,10,11,12,13,14,15,16,17,18,19,20,21,22,23,24] (fun g=>[(5,.p (.int .i64 ((g.1:Nat):Int))),(6,.p (.int .i64 ((g.2:Nat):Int)))]) (fun g=>g.1<=r∧r<=g.2∧g.2<=n) (fun g=>g.2 - g.1) (0,n) ⟨Zs _,hr,Zf _⟩ (Sub.cons rfl (Sub.cons rfl (Sub.nil))) (fun g hg=> ?_)
 obtain⟨i,j⟩:=g
 obtain⟨hi,hj,hjn⟩:=hg
 dsimp only at hi hj hjn ⊢
 iterate 7 refine af ?_
 refine Ki (fun hc0=> ?_) fun hc0=> ?_
 ·have hij:i<j:=by simp at hc0;omega
  have hf0:=hf ((i+j) / 2) (by omega)
  iterate 6 refine af ?_
  refine Kc (aa.add rfl rfl rfl (aK ?_)) ?_
  ·omega
  refine Kc (aa.dY rfl rfl (by rw[CR];rfl) BB (mK ?_)) ?_
  ·omega
  refine Kc (aa.shr (m:=(((i+j) / 2:Nat):Int)) rfl rfl rfl (by decide) ?_) ?_
  ·refine abl.trans ?_;omega
  refine Kc (aa.dY rfl rfl (by rw[BB];rfl) CR (aK ?_)) ?_
  ·omega
  iterate 6 refine af ?_
  refine Kc (aa.C0 (hf0) rfl rfl rfl) ?_
  iterate 2 refine af ?_
  refine Ki (fun cR=> ?_) fun cR=> ?_
  ·have q1:p ((i+j) / 2)=false:=by simpa using cR
   have q2:(i+j) / 2+1<=r:=by rcases ZS ((i+j) / 2) r with h | h;{omega};{have:=h2 _ h (by omega);rw[q1] at this;cases this}
   iterate 2 refine af ?_
   refine Kc (aa.add rfl rfl rfl (aK ?_)) ?_
   ·omega
   iterate 2 refine af ?_
   refine⟨((i+j) / 2+1,j),?_,?_,?_⟩
   ·exact⟨q2,hj,hjn⟩
   ·dsimp only;omega
   exact To.done [] rfl KS rfl
  ·have q1:p ((i+j) / 2)=true:=by simpa using cR
   have q2:r<=(i+j) / 2:=by rcases ZS ((i+j) / 2) r with h | h;{have:=h1 _ h;rw[q1] at this;cases this};{omega}
   iterate 4 refine af ?_
   refine⟨(i,(i+j) / 2),?_,?_,?_⟩
   ·exact⟨hi,q2,by dsimp only;omega⟩
   ·dsimp only;omega
   exact To.done [] rfl KS rfl
 ·obtain rfl:i=r:=by simp at hc0;omega
  refine aF.exit ?_
  iterate 6 refine af ?_
  refine Fin.fQ rfl rfl ?_
  rfl
theorem w7(l:List Sk)(b:List Tk)(n:Int)(hn:0<=n∧n<=1000)(hl:Jl l)(hb:okB b)(ht:OP l.length b):Pure Tryz.prog 116 [lJ (PV.int .i64) AZ (bL l b b.length),.int .i64 n] (.agg [.int .i64 (KM l b n),.int .i64 (Nw l b n)]):=by
 have h:=Kk (bL l b b.length) n hn (Ja hl hb ht)
 rw[Th ht,UD ht] at h
 exact h
theorem IV(l:List Sk)(b:List Tk)(n:Int)(hn:0<=n∧n<=1000)(hl:Jl l)(hb:okB b)(ht:OP l.length b):Pure Tryz.prog 180 [.int .i64 n,.ip [lJ (PV.int .i64) AZ (bL l b b.length)] 0] (.bool (decide (KM l b n<0))):=by
 refine Kf (N:=9) Tryz.func180 ?_
 iterate 8 refine af ?_
 refine Kc (Kp (w7 l b n hn hl hb ht)) ?_
 refine Kc (aa.field rfl rfl TB rfl) ?_
 iterate 4 refine af ?_
 exact iQ
theorem JN(l:List Sk)(b:List Tk)(n:Int)(hn:0<=n∧n<=1000)(hl:Jl l)(hb:okB b)(ht:OP l.length b):Pure Tryz.prog 181 [.int .i64 n,.ip [lJ (PV.int .i64) AZ (bL l b b.length)] 0] (.bool (decide (Nw l b n<=0))):=by
 refine Kf (N:=9) Tryz.func181 ?_
 iterate 8 refine af ?_
 refine Kc (Kp (w7 l b n hn hl hb ht)) ?_
 refine Kc (aa.field rfl rfl UW rfl) ?_
 iterate 4 refine af ?_
 exact iQ
theorem K7(l:List Sk)(b:List Tk)(hl:l.length<=b6)(hb:b.length<=b6):Pure Tryz.prog 141 [ic l,wH b] (.tuple (uN l b)):=by
 refine Kf (N:=30) Tryz.func141 ?_
 iterate 9 refine af ?_
 refine Kc (Kp (CB _ ?_)) ?_
 ·assumption
 iterate 2 refine af ?_
 refine Kg 13 12 0 rfl (fun h=>(aa.move rfl rfl)) ?_
 refine Kg 14 12 1 rfl (fun h=>(aa.move rfl rfl)) ?_
 refine aj.g 15 12 rfl rfl rfl rfl rfl rfl rfl [(13,_),(14,_)] (fun h=>And.intro (.inr ⟨_,rfl,h⟩) (And.intro (.inr ⟨_,rfl,h⟩) (trivial))) (fun h=>(Kp (FA _ _ ?_ ?_))) ?_
 ·assumption
 ·assumption
 refine Kh 16 12 15 rfl rfl rfl rfl (fun h=>(aa.gr rfl rfl)) ?_
 refine Kc (aa.mG rfl rfl rfl ?_) ?_
 ·exact az
 refine af ?_
 refine Ki (fun hc0=> ?_) fun hc0=> ?_
 ·iterate 7 refine af ?_
  have hv:iT l b=false:=by unfold iT;simp at hc0;rcases hc0 with h | h <;> simp[h]
  refine Fin.ep (xs:=[.agg [.int .i64 0,.int .i64 0],.int .i64 1]) rfl (⟨_,_,rfl,⟨_,_,_,rfl,an,rfl⟩,⟨_,_,rfl,rfl,rfl⟩⟩) rfl ?_
  simp[uN,hv]
 ·have hv:iT l b=true:=by unfold iT;simp at hc0;simp[hc0]
  have okl:Jl l:=TQ (by unfold iT at hv;simp at hv;exact hv.1)
  have Vv:=Vf (n:=l.length) (b:=b) (by unfold iT at hv;simp at hv;exact hv.2)
  obtain⟨r,q,cr,cq,er,eq⟩:=F4 okl Vv.1
  iterate 5 refine af ?_
  refine Kc (Kp (CH l b hl Vv.1 Vv.2)) ?_
  iterate 5 refine af ?_
  refine aj.freeze 1 rfl rfl ?_
  refine Kc (aa.makeFunc rfl rfl rfl) ?_
  refine Kc (Kp (yw 1001 r (.func 180) [] [.ip [lJ (PV.int .i64) AZ (bL l b b.length)] 0] _ (by decide) cr.1 cr.2.1 cr.2.2 (fun i hi=>⟨180,[.int .i64 (i:Int),.ip [lJ (PV.int .i64) AZ (bL l b b.length)] 0],rfl,an,IV l b _ (by omega) okl Vv.1 Vv.2⟩))) ?_
  iterate 4 refine af ?_
  refine Kc (aa.makeFunc rfl rfl rfl) ?_
  refine Kc (Kp (yw 1000 q (.func 181) [] [.ip [lJ (PV.int .i64) AZ (bL l b b.length)] 0] _ (by decide) cq.1 cq.2.1 cq.2.2 (fun i hi=>⟨181,[.int .i64 (i:Int),.ip [lJ (PV.int .i64) AZ (bL l b b.length)] 0],rfl,an,JN l b _ (by omega) okl Vv.1 Vv.2⟩))) ?_
  iterate 5 refine af ?_
  refine Kc (aa.iI rfl rfl rfl (aK ?_)) ?_
  ·have:=cr.1;omega
  iterate 6 refine af ?_
  refine Fin.ep (xs:=[.agg [.int .i64 ((r:Int) - 1),.int .i64 (q:Int)],.int .i64 0]) rfl (⟨_,_,rfl,⟨_,_,_,rfl,an,rfl⟩,⟨_,_,rfl,rfl,rfl⟩⟩) rfl ?_
  simp[uN,hv,er,eq]
end Go.Proofs.YtibffijhebobmaaGreatDoor.Ck
end
