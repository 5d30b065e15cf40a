/-
 Plain arithmetic for the sack. No program in sight.
 The sack's data, as cells.
 Small functions of the sack.
 The document: kinds, corners.
 The document: weights.
 The document: a part.
 The plain law of the sack's sums: a sum over the batch is the document's sum over the sacks. No program in sight.
 Searches; what is valid.
 The document: what is weighed.
 The plain law of shares, water and mixtures. No program in sight.
 What a sack can be: the states that are yielded.
 What a sack adds.
 Batches.
 Sums over a batch, in whatever order.
 What is beyond a share; what water lacks.
 The document: what water lacks.
 The document: beyond a share.
 Searches; shares.
-/
import Derived.Test.YtchiinjiflgepaaGreatDoorFaQC
import Derived.Test.YtchiinjiflgepaaGreatDoorMzQF
import Derived.Test.YtchiinjiflgepaaGreatDoorMzQZ
theorem O8{A:Prop}(h:A:=by
 refine Kc (aa.dM rfl rfl rfl ?_) ?_
 ·exact eM
 exact kL):A:=h
theorem Ic{A:Prop}(h:A:=by
 refine af ?_
 refine ay.nil ?_
 iterate 2 refine af ?_
 exact xQ):A:=h
theorem PU{A:Prop}(h:A:=by
 refine Kc (aa.min2 rfl rfl rfl) ?_
 iterate 3 refine af ?_
 refine Kc (aa.max2 rfl rfl rfl) ?_
 iterate 3 refine af ?_
 refine⟨_,rfl,To.done [0,1,2] rfl Sub.nil ?_⟩
 rcases Ui k with hk0 | hk0
 ·subst hk0
  first
  | exact absurd hc0 (by decide)
  | show[ai.cells [.p (.int .i64 (min _ _)),.p (.int .i64 (max _ _))] 24,.cells [.p (.bool false)] 4,_]=_
    simp only[sK,tI,Int.min_self,Int.max_self,if_true]
    rfl
 ·have hk1:¬ k=0:=by omega
  first
  | exact absurd hc0 (by simp;omega)
  | show[ai.cells [.p (.int .i64 (min _ _)),.p (.int .i64 (max _ _))] 24,.cells [.p (.bool (k==0))] 4,_]=_
    rw[hc0]
    simp only[sK,tI,if_neg hk1]
    rfl):A:=h
theorem VO{A:Prop}(h:A:=by
 have q1:=UP (hf j) h.1
 have q2:=UP (hf j) (show 0<=hi by omega)
 omega):A:=h
theorem abd{A:Prop}(h:A:=by
 first | (show _<=_+mR F m∧_+mR F m<=_;omega) | (show _<=_+mq F m∧_+mq F m<=_;omega)):A:=h
set_option linter.unusedSimpArgs false
set_option linter.unusedVariables false
section
namespace Go.Proofs.YtchiinjiflgepaaGreatDoor.Ck
theorem NU{a b A B:Int}(ha:0<=a∧a<=A)(hb:0<=b∧b<=B):0<=a*b∧a*b<=A*B:=
 ⟨Int.mul_nonneg ha.1 hb.1,Int.mul_le_mul ha.2 hb.2 hb.1 (Int.le_trans ha.1 ha.2)⟩
def l9(w c l:Int):Prop:=(0<=w∧w<=1000)∧(0<=c∧c<=1000)∧(0<=l∧l<=1000)
def Tq(w c l:Int):Int:=w*1000*1000
def uv(w c l:Int):Int:=(1000 - w)*c*1000
def Ua(w c l:Int):Int:=(1000 - w)*(1000 - c)*l
def qE(w c l:Int):Int:=(1000 - w)*(1000 - c)*(1000 - l)
def sE(w c l:Int):Int:=uv w c l+qE w c l
def gT(n w c l:Int):Int:=1000*uv w c l - n*sE w c l
theorem Re{w c l:Int}(h:l9 w c l):0<=(1000 - w)*c∧(1000 - w)*c<=1000000:=by
 obtain⟨hw,hc,hl⟩:=h
 exact NU (A:=1000) (B:=1000) ⟨by omega,by omega⟩ hc
theorem VI{w c l:Int}(h:l9 w c l):0<=(1000 - w)*(1000 - c)∧(1000 - w)*(1000 - c)<=1000000:=by
 obtain⟨hw,hc,hl⟩:=h
 exact NU (A:=1000) (B:=1000) ⟨by omega,by omega⟩ ⟨by omega,by omega⟩
theorem CK{w c l:Int}(h:l9 w c l):0<=qE w c l∧qE w c l<=1000000000:=
 NU (A:=1000000) (B:=1000) (VI h) ⟨by have:=h.2.2;omega,by have:=h.2.2;omega⟩
theorem u6{w c l:Int}(h:l9 w c l):0<=uv w c l∧uv w c l<=1000000000:=by
 have:=Re h
 unfold uv;omega
theorem G1{w c l:Int}(h:l9 w c l):0<=sE w c l∧sE w c l<=2000000000:=by
 have h1:=u6 h
 have h2:=CK h
 unfold sE;omega
theorem He{n w c l:Int}(hn:0<=n∧n<=1000)(h:l9 w c l):0<=n*sE w c l∧n*sE w c l<=2000000000000:=
 NU (A:=1000) (B:=2000000000) hn (G1 h)
theorem X8{n w c l:Int}(hn:0<=n∧n<=1000)(h:l9 w c l): -2000000000000<=gT n w c l∧gT n w c l<=1000000000000:=by
 have h1:=u6 h
 have h2:=He hn h
 unfold gT;omega
def ofF(k w c l:Int):Int:=if k=0 then Tq w c l else if k=1 then uv w c l else if k=2 then Ua w c l else if k=3 then qE w c l else sE w c l
def iI{α:Type}(p:α->Bool):List α->Int
 | []=> -1
 | x::xs=>if p x then 0 else let r:=iI p xs;if r<0 then -1 else r+1
theorem o3{α:Type}(p:α->Bool):∀(xs:List α) (i:Nat) (h:i<xs.length),(∀ j (hj:j<i),p (xs[j]'(by omega))=false)->p xs[i]=true->iI p xs=i
 | x::xs,0,h,h1,h2=>by simp at h2;simp[iI,h2]
 | x::xs,i+1,h,h1,h2=>by
  exact WO
theorem ki{α:Type}(p:α->Bool):∀ xs:List α,(∀ j (hj:j<xs.length),p xs[j]=false)->iI p xs= -1
 | [],_=>rfl
 | x::xs,h=>by
  exact P4
theorem kA{α:Type}(p:α->Bool):∀ xs:List α,decide (0<=iI p xs)=xs.any p
 | []=>rfl
 | x::xs=>by
  exact Rj
def gU{α:Type}(f:α->Int)(b:List α)(i:Nat):Int:=((b.take i).map f).sum
theorem nR{α:Type}(f:α->Int)(b:List α):gU f b 0=0:=by simp[gU]
theorem gH{α:Type}(f:α->Int)(b:List α)(i:Nat)(h:i<b.length):gU f b (i+1)=gU f b i+f b[i]:=by
 unfold gU
 rw[<- YM h,ZH,List.sum_append]
 simp
theorem Cs{α:Type}{f:α->Int}{b:List α}{A B:Int}(h:∀ t∈b,A<=f t∧f t<=B):∀ i,i<=b.length->A*i<=gU f b i∧gU f b i<=B*i
 | 0,_=>by rw[nR];simp
 | i+1,hi=>by
  have ih:=Cs h i (by omega)
  have h1:=h b[i] (A4 _)
  rw[gH f b i hi]
  have e1:A*((i+1:Nat):Int)=A*i+A:=by rw[show((i+1:Nat):Int)=(i:Int)+1 by omega,Int.mul_add,Int.mul_one]
  have e2:B*((i+1:Nat):Int)=B*i+B:=by rw[show((i+1:Nat):Int)=(i:Int)+1 by omega,Int.mul_add,Int.mul_one]
  rw[e1,e2]
  omega
theorem ME{a b A B:Int}(hA: -A<=a∧a<=A)(hb:0<=b∧b<=B): -(B*A)<=b*a∧b*a<=B*A:=by
 have F1:0<=A:=by omega
 have h1:b*a<=b*A:=UP hA.2 hb.1
 have h2:b*A<=B*A:=Int.mul_le_mul_of_nonneg_right hb.2 F1
 have h3:b*(-A)<=b*a:=UP hA.1 hb.1
 rw[Int.mul_neg] at h3
 omega
def sK(f:Nat->Int):Nat->Int
 | 0=>0
 | n+1=>if n=0 then f 0 else min (sK f n) (f n)
def tI(f:Nat->Int):Nat->Int
 | 0=>0
 | n+1=>if n=0 then f 0 else max (tI f n) (f n)
theorem OK{f:Nat->Int}{A B:Int}:∀ n,0<n->(∀ j,j<n->A<=f j∧f j<=B)->A<=sK f n∧sK f n<=B
 | 0,h,_=>by omega
 | n+1,_,h=>by
  have h1:=h n (by omega)
  simp only[sK]
  split
  ·rename_i h0;exact h 0 (by omega)
  ·rename_i h0
   have ih:=OK n (by omega) (fun j hj=>h j (by omega))
   omega
theorem Q9{f:Nat->Int}{A B:Int}:∀ n,0<n->(∀ j,j<n->A<=f j∧f j<=B)->A<=tI f n∧tI f n<=B
 | 0,h,_=>by omega
 | n+1,_,h=>by
  have h1:=h n (by omega)
  simp only[tI]
  split
  ·rename_i h0;exact h 0 (by omega)
  ·rename_i h0
   have ih:=Q9 n (by omega) (fun j hj=>h j (by omega))
   omega
theorem qt{α:Type}(f:α->Int)(d:List α)(m:α):((d++[m]).map f).sum=(d.map f).sum+f m:=by simp
theorem w8{α:Type}(f:α->Int):∀(r:List α) (j:Nat) (m:α),r[j]? =some m->(r.map f).sum=f m+((r.eraseIdx j).map f).sum
 | [],j,m,h=>by simp at h
 | x::r,0,m,h=>by simp at h;subst h;simp
 | x::r,j+1,m,h=>by
  have ih:=w8 f r j m (by simpa using h)
  simp only[ZD,List.sum_cons,List.eraseIdx_cons_succ,ih]
  omega
theorem lu{α:Type}{f:α->Int}:∀{r:List α},(∀ m∈r,0<=f m)->0<=(r.map f).sum
 | [],_=>by simp
 | x::r,h=>by
  have h1:=h x (by simp)
  have h2:=lu (f:=f) (r:=r) (fun m hm=>h m (by simp[hm]))
  simp only[ZD,List.sum_cons]
  omega
theorem vB{α:Type}{f:α->Int}:∀{r:List α} {x:α},(∀ m∈r,0<=f m)->x∈r->f x<=(r.map f).sum
 | [],_,_,h=>by cases h
 | y::r,x,h,hx=>by
  have h1:=h y (by simp)
  have h2:=lu (f:=f) (r:=r) (fun m hm=>h m (by simp[hm]))
  simp only[ZD,List.sum_cons]
  rcases Zt.1 hx with rfl | hx
  ·omega
  ·have:=vB (f:=f) (fun m hm=>h m (by simp[hm])) hx
   omega
theorem qT{α:Type}{f g:α->Int}{X:Int}:∀{r:List α},(∀ m∈r,-(X*g m)<=f m∧f m<=X*g m)-> -(X*(r.map g).sum)<=(r.map f).sum∧(r.map f).sum<=X*(r.map g).sum
 | [],_=>by simp
 | x::r,h=>by
  have h1:=h x (by simp)
  have h2:=qT (r:=r) (fun m hm=>h m (by simp[hm]))
  simp only[ZD,List.sum_cons,Int.mul_add]
  omega
def gQ(f:Nat->Int):Nat->Int
 | 0=>0
 | n+1=>gQ f n+f n
open Go.AF
structure Sp where
 lo:Int
 hi:Int
structure Sk where
 w:Sp
 c:Sp
 l:Sp
structure Tk where
 s:Int
 m:Sp
def Sp.cells(s:Sp):List PV:=[.int .i64 s.lo,.int .i64 s.hi]
def Sk.cells(s:Sk):List PV:=[.int .i64 s.w.lo,.int .i64 s.w.hi,.int .i64 s.c.lo,.int .i64 s.c.hi,.int .i64 s.l.lo,.int .i64 s.l.hi]
def Tk.cells(t:Tk):List PV:=[.int .i64 t.s,.int .i64 t.m.lo,.int .i64 t.m.hi]
def Sp.ok(s:Sp)(lo hi:Int):Bool:=decide (lo<=s.lo)&&decide (s.lo<=s.hi)&&decide (s.hi<=hi)
def Sk.bad(s:Sk):Bool:= !s.w.ok 0 900|| !s.c.ok 0 1000|| !s.l.ok 0 900
def Tk.bad(n:Nat)(t:Tk):Bool:= !(decide (0<=t.s)&&decide (t.s<=(n:Int) - 1))|| !t.m.ok 1 100000
def dS(l:List Sk):PV:= .is (l.flatMap Sk.cells) l.length
def vH(b:List Tk):PV:= .is (b.flatMap Tk.cells) b.length
def dK(l:List Sk):Bool:=decide ((l.length:Int)<=8)&& !l.any Sk.bad
def jo(n:Nat)(b:List Tk):Bool:=decide (1<=(b.length:Int))&&decide ((b.length:Int)<=8)&& !b.any (Tk.bad n)
def okB(b:List Tk):Prop:=b.length<=8∧∀ t∈b,0<=t.m.lo∧t.m.lo<=t.m.hi∧t.m.hi<=100000
def zH(k:Int)(t:Tk):Int:=if t.s=k then t.m.lo else 0
def zD(k:Int)(t:Tk):Int:=if t.s=k then t.m.hi else 0
theorem Q7{b:List Tk}(h:okB b)(k:Int)(i:Nat)(hi:i<=b.length):0<=gU (zH k) b i∧gU (zH k) b i<=800000:=by
 have:=Cs (f:=zH k) (b:=b) (A:=0) (B:=100000) (fun t ht=>by have:=h.2 t ht;unfold zH;split <;> omega) i hi
 have:=h.1
 omega
theorem O5{b:List Tk}(h:okB b)(k:Int)(i:Nat)(hi:i<=b.length):0<=gU (zD k) b i∧gU (zD k) b i<=800000:=by
 have:=Cs (f:=zD k) (b:=b) (A:=0) (B:=100000) (fun t ht=>by have:=h.2 t ht;unfold zD;split <;> omega) i hi
 have:=h.1
 omega
def Sk.cw(s:Sk)(j:Nat):Int:=if (j:Int).tmod 2=1 then s.w.hi else s.w.lo
def Sk.cc(s:Sk)(j:Nat):Int:=if ((j:Int).tdiv 2).tmod 2=1 then s.c.hi else s.c.lo
def Sk.cl(s:Sk)(j:Nat):Int:=if (j:Int).tdiv 4=1 then s.l.hi else s.l.lo
def Sk.sw(s:Sk)(i:Nat):Int:=if (i:Int)=0 then s.w.lo else s.w.hi
def Sk.sc(s:Sk)(i:Nat):Int:=if (i:Int)=0 then s.c.lo else s.c.hi
def Sk.sl(s:Sk)(i:Nat):Int:=if (i:Int)=0 then s.l.lo else s.l.hi
def rQ(s:Sk)(j:Nat):PV:= .agg [.int .i64 (s.sw (j / 4)),.int .i64 (s.sc (j / 2%2)),.int .i64 (s.sl (j%2))]
def lg(s:Sk):List (List V):=(List.range 8).map fun j=>[.p (rQ s j)]
theorem zS(s:Sk){i j k:Nat}(hi:i<2)(hj:j<2)(hk:k<2):(lg s)[4*i+2*j+k]? =some [.p (.agg [.int .i64 (s.sw i),.int .i64 (s.sc j),.int .i64 (s.sl k)])]:=by
 have h:4*i+2*j+k<8:=by omega
 have e1:(4*i+2*j+k) / 4=i:=by omega
 have e2:(4*i+2*j+k) / 2%2=j:=by omega
 have e3:(4*i+2*j+k)%2=k:=by omega
 simp[lg,h,rQ,e1,e2,e3]
def storeCells(s:Sk)(m:Sp):List PV:=s.cells++m.cells
def eV:Sk:=⟨⟨0,0⟩,⟨0,0⟩,⟨0,0⟩⟩
def ep:Sk×Sp:=(eV,⟨0,0⟩)
def zE(a:Sk×Sp):PV:= .agg (storeCells a.1 a.2)
def gD(l:List Sk)(ms:List (Int×(Sk×Sp)))(t:Tk):List (Int×(Sk×Sp)):=
 aW t.s (l[t.s.toNat]?.getD eV,⟨((cD t.s ms).getD ep).2.lo+t.m.lo,((cD t.s ms).getD ep).2.hi+t.m.hi⟩) ms
def bH(l:List Sk)(b:List Tk)(i:Nat):List (Int×(Sk×Sp)):=(b.take i).foldl (gD l) []
theorem gG(l:List Sk)(b:List Tk)(i:Nat)(h:i<b.length):bH l b (i+1)=gD l (bH l b i) b[i]:=by
 unfold bH
 rw[<- YM h,Ri]
 rfl
theorem oR(l:List Sk)(b:List Tk)(k:Int):∀ i,i<=b.length->((cD k (bH l b i)).getD ep).2=⟨gU (zH k) b i,gU (zD k) b i⟩
 | 0,_=>by simp[bH,cD,nR,ep]
 | i+1,hi=>by
  have ih:=oR l b k i (by omega)
  rw[gG l b i hi,gD,j9,gH _ b i hi,gH _ b i hi]
  by_cases h:k=b[i].s
  ·have h1:=ih
   rw[if_pos h]
   simp only[Uz,zH,zD,h,if_true]
   rw[h] at h1
   rw[h1]
  ·rw[if_neg h,ih]
   simp[zH,zD,Ne.symm h]
def LU(n:Nat)(b:List Tk):Prop:=∀ t∈b,0<=t.s∧t.s<(n:Int)
def mR(F:Sk->Nat->Int)(m:Int×(Sk×Sp)):Int:=sK (fun j=>min (m.2.2.lo*F m.2.1 j) (m.2.2.hi*F m.2.1 j)) 8
def mq(F:Sk->Nat->Int)(m:Int×(Sk×Sp)):Int:=tI (fun j=>max (m.2.2.lo*F m.2.1 j) (m.2.2.hi*F m.2.1 j)) 8
def xO(m:Int×(Sk×Sp)):Int:=m.2.2.hi
theorem Xj{lo hi f:Int}(hm:0<=lo∧lo<=hi)(hf: -2000000000000<=f∧f<=2000000000000):(-(2000000000000*hi)<=lo*f∧lo*f<=2000000000000*hi)∧(-(2000000000000*hi)<=hi*f∧hi*f<=2000000000000*hi):=by
 have h1:=ME (A:=2000000000000) (B:=lo) (b:=lo) hf ⟨hm.1,Cy _⟩
 have h2:=ME (A:=2000000000000) (B:=hi) (b:=hi) hf ⟨by omega,Cy _⟩
 omega
theorem Hu{F:Sk->Nat->Int}{m:Int×(Sk×Sp)}(hm:0<=m.2.2.lo∧m.2.2.lo<=m.2.2.hi)(hF:∀ j,j<8-> -2000000000000<=F m.2.1 j∧F m.2.1 j<=2000000000000): -(2000000000000*xO m)<=mR F m∧mR F m<=2000000000000*xO m:=
 OK 8 (by omega) (fun j hj=>by have:=Xj hm (hF j hj);unfold xO;omega)
theorem Dm{F:Sk->Nat->Int}{m:Int×(Sk×Sp)}(hm:0<=m.2.2.lo∧m.2.2.lo<=m.2.2.hi)(hF:∀ j,j<8-> -2000000000000<=F m.2.1 j∧F m.2.1 j<=2000000000000): -(2000000000000*xO m)<=mq F m∧mq F m<=2000000000000*xO m:=
 Q9 8 (by omega) (fun j hj=>by have:=Xj hm (hF j hj);unfold xO;omega)
structure sI where
 d:List (Int×(Sk×Sp))
 r:List (Int×(Sk×Sp))
 last:Option (Int×(Sk×Sp))
def sI.ok(ms:List (Int×(Sk×Sp)))(g:sI):Prop:=(∀ f:Int×(Sk×Sp)->Int,(g.d.map f).sum+(g.r.map f).sum=(ms.map f).sum)∧(∀ m∈g.d,m∈ms)∧(∀ m∈g.r,m∈ms)
theorem sI.C7{ms d r:List (Int×(Sk×Sp))}{l:Option (Int×(Sk×Sp))}{j:Nat}{m:Int×(Sk×Sp)}(h:sI.ok ms ⟨d,r,l⟩)(hj:r[j]? =some m):sI.ok ms ⟨d++[m],r.eraseIdx j,some m⟩:=by
 obtain⟨h1,h2,h3⟩:=h
 refine⟨fun f=> ?_,fun x hx=> ?_,fun x hx=>h3 x (List.mem_of_mem_eraseIdx hx)⟩
 ·have:=h1 f
  have e:=w8 f r j m hj
  simp only at this ⊢
  rw[qt]
  omega
 ·rcases Zp.1 hx with hx | hx
  ·exact h2 x hx
  ·simp at hx;subst hx;exact h3 x (Zi hj)
def vI(s:Sk):Prop:=(0<=s.w.lo∧s.w.lo<=s.w.hi∧s.w.hi<=900)∧(0<=s.c.lo∧s.c.lo<=s.c.hi∧s.c.hi<=1000)∧(0<=s.l.lo∧s.l.lo<=s.l.hi∧s.l.hi<=900)
def okM(ms:List (Int×(Sk×Sp))):Prop:=(∀ m∈ms,0<=m.2.2.lo∧m.2.2.lo<=m.2.2.hi)∧(ms.map xO).sum<=800000∧∀ m∈ms,vI m.2.1
theorem vI.state{s:Sk}(h:vI s)(j:Nat):l9 (s.sw (j / 4)) (s.sc (j / 2%2)) (s.sl (j%2)):=by
 unfold vI at h
 unfold l9 Sk.sw Sk.sc Sk.sl
 refine⟨?_,?_,?_⟩ <;> split <;> omega
def NX(f:Int->Int->Int->Int)(s:Sk)(j:Nat):Int:=f (s.sw (j / 4)) (s.sc (j / 2%2)) (s.sl (j%2))
def Ej(b:List Tk)(i:Nat):Int:=gU (zH (i:Int)) b b.length
def EH(b:List Tk)(i:Nat):Int:=gU (zD (i:Int)) b b.length
def Fg(l:List Sk):Prop:=l.length<=8∧∀ s∈l,vI s
theorem wB{b:List Tk}(h:okB b)(i:Nat):(0<=Ej b i∧Ej b i<=800000)∧(0<=EH b i∧EH b i<=800000):=⟨Q7 h i _ (Zg _),O5 h i _ (Zg _)⟩
theorem vI.CB{s:Sk}(h:vI s)(j:Nat):l9 (s.cw j) (s.cc j) (s.cl j):=by
 unfold vI at h
 unfold l9 Sk.cw Sk.cc Sk.cl
 refine⟨?_,?_,?_⟩ <;> split <;> omega
def Oy(n:Int)(s:Sk)(k:Nat):Int:=1000*ofF 1 (s.cw k) (s.cc k) (s.cl k) - n*ofF 4 (s.cw k) (s.cc k) (s.cl k)
def Tz(l:List Sk)(b:List Tk)(n:Int)(i k:Nat):Int:=min (Ej b i*Oy n (l[i]?.getD eV) k) (EH b i*Oy n (l[i]?.getD eV) k)
def Us(l:List Sk)(b:List Tk)(n:Int)(i k:Nat):Int:=max (Ej b i*Oy n (l[i]?.getD eV) k) (EH b i*Oy n (l[i]?.getD eV) k)
def OV(l:List Sk)(b:List Tk)(n:Int)(i:Nat):Int:=sK (Tz l b n i) 8
def Pb(l:List Sk)(b:List Tk)(n:Int)(i:Nat):Int:=tI (Us l b n i) 8
def cJ:Nat:=9223372036854775807
set_option maxRecDepth 100000
set_option maxHeartbeats 4000000
theorem cM(n lo hi:Int):Pure Tryz.prog 214 [.int .i64 n,.int .i64 lo,.int .i64 hi] (.bool (decide (lo<=n)&&decide (n<=hi))):=by
 refine Kf (N:=15) Tryz.func214 ?_
 exact WR
theorem gZ(a b lo hi:Int):Pure Tryz.prog 211 [.agg [.int .i64 a,.int .i64 b],.int .i64 lo,.int .i64 hi] (.bool (decide (lo<=a)&&decide (a<=b)&&decide (b<=hi))):=by
 refine Kf (N:=24) Tryz.func211 ?_
 iterate 12 refine af ?_
 refine Kg 12 11 3 rfl (fun h=>(aa.fieldAddr rfl rfl an rfl)) ?_
 refine Kh 13 11 12 rfl rfl rfl rfl (fun h=>(aa.load rfl rfl an rfl)) ?_
 refine Kg 14 11 3 rfl (fun h=>(aa.fieldAddr rfl rfl an rfl)) ?_
 refine Kh 15 11 14 rfl rfl rfl rfl (fun h=>(aa.load rfl rfl an rfl)) ?_
 refine aj.g 16 11 rfl rfl rfl rfl rfl rfl rfl [(13,_),(15,_)] (fun h=>And.intro (.inr ⟨_,rfl,h⟩) (And.intro (.inr ⟨_,rfl,h⟩) (trivial))) (fun h=>(aa.leq rfl rfl rfl)) ?_
 refine Kc (aa.dM rfl rfl rfl ?_) ?_
 ·exact eM
 refine af ?_
 refine Kg 19 18 3 rfl (fun h=>(aa.fieldAddr rfl rfl an rfl)) ?_
 refine Kh 20 18 19 rfl rfl rfl rfl (fun h=>(aa.load rfl rfl an rfl)) ?_
 refine Kg 21 18 2 rfl (fun h=>(aa.move rfl rfl)) ?_
 refine aj.g 22 18 rfl rfl rfl rfl rfl rfl rfl [(20,_),(21,_)] (fun h=>And.intro (.inr ⟨_,rfl,h⟩) (And.intro (.inr ⟨_,rfl,h⟩) (trivial))) (fun h=>(aa.leq rfl rfl rfl)) ?_
 exact O8
theorem GQ(w c l:Int)(hs:l9 w c l):Pure Tryz.prog 225 [.agg [.int .i64 w,.int .i64 c,.int .i64 l]] (.int .i64 (1000 - w)):=by
 obtain⟨hw,hc,hl⟩:=id hs
 refine Kf (N:=6) Tryz.func225 ?_
 iterate 9 refine af ?_
 refine Kc (aa.iC rfl rfl rfl (aH ?_)) ?_
 ·omega
 exact kL
theorem Ex(w c l:Int)(hs:l9 w c l):Pure Tryz.prog 222 [.agg [.int .i64 w,.int .i64 c,.int .i64 l]] (.int .i64 (uv w c l)):=by
 obtain⟨hw,hc,hl⟩:=id hs
 have b1:=Re hs
 refine Kf (N:=9) Tryz.func222 ?_
 iterate 6 refine af ?_
 refine aB.az 7 mixed (by kernel_rfl) (by decide) ?_
 refine af ?_
 refine Kq (Kp (GQ _ _ _ ?_)) ?_
 ·assumption
 iterate 2 refine af ?_
 refine Kq (aa.mul rfl rfl rfl (aH ?_)) ?_
 ·omega
 refine Kq (aa.mul rfl rfl rfl (aH ?_)) ?_
 ·omega
 exact Ic
theorem G9(w c l:Int)(hs:l9 w c l):Pure Tryz.prog 226 [.agg [.int .i64 w,.int .i64 c,.int .i64 l]] (.int .i64 (qE w c l)):=by
 obtain⟨hw,hc,hl⟩:=id hs
 have b1:=VI hs
 have b2:=CK hs
 unfold qE at b2
 refine Kf (N:=13) Tryz.func226 ?_
 iterate 6 refine af ?_
 refine aB.az 11 mixed (by kernel_rfl) (by decide) ?_
 refine af ?_
 refine Kq (Kp (GQ _ _ _ ?_)) ?_
 ·assumption
 iterate 2 refine af ?_
 refine Kq (aa.iC rfl rfl rfl (aH ?_)) ?_
 ·omega
 refine Kq (aa.mul rfl rfl rfl (aH ?_)) ?_
 ·omega
 iterate 2 refine af ?_
 refine Kq (aa.iC rfl rfl rfl (aH ?_)) ?_
 ·omega
 refine Kq (aa.mul rfl rfl rfl (aH ?_)) ?_
 ·omega
 exact Ic
theorem N5(w c l:Int)(hs:l9 w c l):Pure Tryz.prog 223 [.agg [.int .i64 w,.int .i64 c,.int .i64 l]] (.int .i64 (sE w c l)):=by
 obtain⟨hw,hc,hl⟩:=id hs
 have b1:=u6 hs
 have b2:=CK hs
 refine Kf (N:=8) Tryz.func223 ?_
 iterate 6 refine af ?_
 refine aB.az 6 mixed (by kernel_rfl) (by decide) ?_
 refine af ?_
 refine Kq (Kp (Ex _ _ _ ?_)) ?_
 ·assumption
 refine af ?_
 refine Kq (Kp (G9 _ _ _ ?_)) ?_
 ·assumption
 refine Kq (aa.add rfl rfl rfl (aH ?_)) ?_
 ·omega
 exact Ic
theorem MN(n w c l:Int)(hn:0<=n∧n<=1000)(hs:l9 w c l):Pure Tryz.prog 218 [.agg [.int .i64 w,.int .i64 c,.int .i64 l],.int .i64 n] (.int .i64 (gT n w c l)):=by
 obtain⟨hw,hc,hl⟩:=id hs
 have b1:=u6 hs
 have b2:=G1 hs
 have b3:=He hn hs
 refine Kf (N:=13) Tryz.func218 ?_
 iterate 6 refine af ?_
 refine aB.az 9 mixed (by kernel_rfl) (by decide) ?_
 refine af ?_
 refine Kq (Kp (Ex _ _ _ ?_)) ?_
 ·assumption
 refine Kq (aa.mul rfl rfl rfl (aH ?_)) ?_
 ·omega
 iterate 2 refine af ?_
 refine Kq (Kp (N5 _ _ _ ?_)) ?_
 ·assumption
 refine Kq (aa.mul rfl rfl rfl (aH ?_)) ?_
 ·omega
 refine Kq (aa.iC rfl rfl rfl (aH ?_)) ?_
 ·omega
 exact Ic
def ET(f:Nat->Int):Nat->Int
 | 0=>f 0
 | n+1=>min (ET f n) (f n)
theorem Bn{K α:Type}[DecidableEq K]{k:K}{v:α}:∀{ms:List (K×α)},cD k ms=some v->(k,v)∈ms
 | [],h=>by simp[cD] at h
 | m::r,h=>by
  simp only[cD] at h
  split at h
  ·rename_i hk
   simp at h
   subst h;subst hk
   simp
  ·exact Zj _ (Bn h)
theorem Ah{K α:Type}[DecidableEq K]{k:K}{a:α}{x:K×α}:∀{ms:List (K×α)},x∈aW k a ms->x=(k,a)∨x∈ms
 | [],h=>by simp[aW] at h;exact .inl h
 | m::r,h=>by
  simp only[aW] at h
  split at h
  ·rcases Zt.1 h with h | h
   ·exact .inl h
   ·exact .inr (Zj _ h)
  ·rcases Zt.1 h with h | h
   ·exact .inr (by simp[h])
   ·rcases Ah h with h | h
    ·exact .inl h
    ·exact .inr (Zj _ h)
theorem uR{K α:Type}[DecidableEq K](f:α->Int)(k:K)(a z:α)(hz:f z=0):∀ ms:List (K×α),((aW k a ms).map fun m=>f m.2).sum=(ms.map fun m=>f m.2).sum - f ((cD k ms).getD z)+f a
 | []=>by simp[aW,cD,hz]
 | m::r=>by
  simp only[aW,cD]
  split
  ·rename_i hk
   simp
   omega
  ·have ih:=uR f k a z hz r
   simp only[ZD,List.sum_cons,ih]
   omega
theorem lN{f g:Nat->Int}:∀ n,(∀ j,j<n->f j=g j)->gQ f n=gQ g n
 | 0,_=>rfl
 | n+1,h=>by simp only[gQ];rw[lN n (fun j hj=>h j (by omega)),h n (by omega)]
theorem kF{f:Nat->Int}:∀ n,(∀ j,j<n->f j=0)->gQ f n=0
 | 0,_=>rfl
 | n+1,h=>by simp only[gQ];rw[kF n (fun j hj=>h j (by omega)),h n (by omega)];rfl
theorem rj{f g:Nat->Int}{k:Nat}:∀ n,k<n->(∀ j,j<n->j≠k->g j=f j)->gQ g n=gQ f n - f k+g k
 | 0,h,_=>by omega
 | n+1,h,hj=>by
  exact Ql
theorem tE(l:List Sk)(b:List Tk)(k:Int)(v:Sk×Sp):∀ i,i<=b.length->cD k (bH l b i)=some v->v.1=l[k.toNat]?.getD eV
 | 0,_,h=>by simp[bH,cD] at h
 | i+1,hi,h=>by
  rw[gG l b i hi,gD,j9] at h
  split at h
  ·rename_i hk
   simp at h
   subst h
   simp[hk]
  ·exact tE l b k v i (by omega) h
theorem u9{l:List Sk}{b:List Tk}(hl:Fg l)(hb:okB b)(ht:LU l.length b):∀ i,i<=b.length->∀ m∈bH l b i,(0<=m.2.2.lo∧m.2.2.lo<=m.2.2.hi)∧vI m.2.1
 | 0,_,m,h=>by simp[bH] at h
 | i+1,hi,m,h=>by
  have ih:=u9 hl hb ht i (by omega)
  rw[gG l b i hi,gD] at h
  rcases Ah h with h | h
  ·subst h
   have h1:=hb.2 b[i] (A4 _)
   have h2:=ht b[i] (A4 _)
   have h3:b[i].s.toNat<l.length:=by omega
   have h4:0<=((cD b[i].s (bH l b i)).getD ep).2.lo∧((cD b[i].s (bH l b i)).getD ep).2.lo<=((cD b[i].s (bH l b i)).getD ep).2.hi:=by
    cases hg:cD b[i].s (bH l b i) with
    | none=>simp[ep]
    | some v=>have:=(ih _ (Bn hg)).1;simpa using this
   refine⟨⟨by dsimp only;omega,by dsimp only;omega⟩,?_⟩
   dsimp only
   rw[Zd h3,Uz]
   exact hl.2 _ (A4 _)
  ·exact ih m h
theorem oV{l:List Sk}{b:List Tk}(ht:LU l.length b)(g:Sk->Int->Int->Int)(h0:∀ s,g s 0 0=0):∀ i,i<=b.length->
    ((bH l b i).map fun m=>g m.2.1 m.2.2.lo m.2.2.hi).sum=gQ (fun j=>g (l[j]?.getD eV) (gU (zH (j:Int)) b i) (gU (zD (j:Int)) b i)) l.length
 | 0,_=>by
  rw[kF]
  ·simp[bH]
  ·intro j _
   simp only[nR]
   exact h0 _
 | i+1,hi=>by
  have ih:=oV ht g h0 i (by omega)
  have h2:=ht b[i] (A4 _)
  have h3:b[i].s.toNat<l.length:=by omega
  have e0:((b[i].s.toNat:Nat):Int)=b[i].s:=by omega
  rw[gG l b i hi,gD,uR (fun v:Sk×Sp=>g v.1 v.2.lo v.2.hi) b[i].s _ ep (by simp[ep,h0]),ih,
   rj (f:=fun j:Nat=>g (l[j]?.getD eV) (gU (zH (j:Int)) b i) (gU (zD (j:Int)) b i)) (g:=fun j:Nat=>g (l[j]?.getD eV) (gU (zH (j:Int)) b (i+1)) (gU (zD (j:Int)) b (i+1))) l.length h3 (fun j hj hn=>by
    have hne:¬ b[i].s=(j:Int):=by omega
    simp only[gH _ b i hi,zH,zD,if_neg hne,Int.add_zero])]
  have hg:=oR l b b[i].s i (by omega)
  have e1:g ((cD b[i].s (bH l b i)).getD ep).1 ((cD b[i].s (bH l b i)).getD ep).2.lo ((cD b[i].s (bH l b i)).getD ep).2.hi=g (l[b[i].s.toNat]?.getD eV) (gU (zH b[i].s) b i) (gU (zD b[i].s) b i):=by
   cases hm:cD b[i].s (bH l b i) with
   | none=>
    rw[hm] at hg
    simp only[Option.getD_none,ep] at hg ⊢
    have q1:gU (zH b[i].s) b i=0:=(congrArg Sp.lo hg).symm
    have q2:gU (zD b[i].s) b i=0:=(congrArg Sp.hi hg).symm
    rw[q1,q2,h0,h0]
   | some v=>
    rw[hm] at hg
    simp only[Uz] at hg ⊢
    rw[tE l b _ v i (by omega) hm,hg]
  dsimp only
  rw[e1,e0,hg,gH _ b i hi,gH _ b i hi]
  simp only[zH,zD,if_true]
theorem xo{l:List Sk}{b:List Tk}(hb:okB b):∀ i,i<=b.length->((bH l b i).map xO).sum<=100000*(i:Int)
 | 0,_=>by simp[bH]
 | i+1,hi=>by
  have ih:=xo (l:=l) hb i (by omega)
  have h1:=hb.2 b[i] (A4 _)
  have e:=uR (fun v:Sk×Sp=>v.2.hi) b[i].s (l[b[i].s.toNat]?.getD eV,⟨((cD b[i].s (bH l b i)).getD ep).2.lo+b[i].m.lo,((cD b[i].s (bH l b i)).getD ep).2.hi+b[i].m.hi⟩) ep rfl (bH l b i)
  rw[gG l b i hi,gD]
  unfold xO at ih ⊢
  rw[e]
  dsimp only
  omega
theorem E0{l:List Sk}{b:List Tk}(hl:Fg l)(hb:okB b)(ht:LU l.length b):okM (bH l b b.length):=by
 have h:=u9 hl hb ht b.length (Zg _)
 refine⟨fun m hm=>(h m hm).1,?_,fun m hm=>(h m hm).2⟩
 have:=xo (l:=l) hb b.length (Zg _)
 have:=hb.1
 omega
theorem yO(f:Nat->Int):∀ n j,j<n->sK f n<=f j
 | 0,j,h=>by omega
 | n+1,j,h=>by
  simp only[sK]
  split
  ·rename_i h0;subst h0;obtain rfl:j=0:=by omega
   exact Cy _
  ·rcases ZZ.1 h with h1 | rfl
   ·have:=yO f n j h1;omega
   ·omega
theorem yp(f:Nat->Int):∀ n,0<n->∃ j,j<n∧sK f n=f j
 | 0,h=>by omega
 | n+1,_=>by
  simp only[sK]
  split
  ·rename_i h0;exact⟨0,by omega,rfl⟩
  ·obtain⟨j,h1,h2⟩:=yp f n (by omega)
   rcases Int.le_total (sK f n) (f n) with h | h
   ·exact⟨j,by omega,by omega⟩
   ·exact⟨n,by omega,by omega⟩
theorem yY(f:Nat->Int):∀ n j,j<n->f j<=tI f n
 | 0,j,h=>by omega
 | n+1,j,h=>by
  simp only[tI]
  split
  ·rename_i h0;subst h0;obtain rfl:j=0:=by omega
   exact Cy _
  ·rcases ZZ.1 h with h1 | rfl
   ·have:=yY f n j h1;omega
   ·omega
theorem yG(f:Nat->Int):∀ n,0<n->∃ j,j<n∧tI f n=f j
 | 0,h=>by omega
 | n+1,_=>by
  simp only[tI]
  split
  ·rename_i h0;exact⟨0,by omega,rfl⟩
  ·obtain⟨j,h1,h2⟩:=yG f n (by omega)
   rcases Int.le_total (f n) (tI f n) with h | h
   ·exact⟨j,by omega,by omega⟩
   ·exact⟨n,by omega,by omega⟩
theorem Sd{f g:Nat->Int}{n:Nat}(hn:0<n)(h1:∀ j,j<n->∃ i,i<n∧g i<=f j)(h2:∀ j,j<n->∃ i,i<n∧f i<=g j):sK f n=sK g n:=by
 obtain⟨j,hj,ej⟩:=yp f n hn
 obtain⟨k,hk,ek⟩:=yp g n hn
 obtain⟨i,hi,le1⟩:=h1 j hj
 obtain⟨i',hi',le2⟩:=h2 k hk
 have:=yO g n i hi
 have:=yO f n i' hi'
 omega
theorem Sx{f g:Nat->Int}{n:Nat}(hn:0<n)(h1:∀ j,j<n->∃ i,i<n∧f j<=g i)(h2:∀ j,j<n->∃ i,i<n∧g j<=f i):tI f n=tI g n:=by
 obtain⟨j,hj,ej⟩:=yG f n hn
 obtain⟨k,hk,ek⟩:=yG g n hn
 obtain⟨i,hi,le1⟩:=h1 j hj
 obtain⟨i',hi',le2⟩:=h2 k hk
 have:=yY g n i hi
 have:=yY f n i' hi'
 omega
def sig(k:Nat):Nat:=4*(k%2)+2*(k / 2%2)+k / 4%2
theorem qU(k:Nat):sig k<8:=by unfold sig;omega
theorem D5:∀ k,k<8->sig (sig k)=k:=by decide
theorem C5(f:Int->Int->Int->Int)(s:Sk):∀ k,k<8->NX f s (sig k)=f (s.cw k) (s.cc k) (s.cl k)
 | 0,_=>rfl | 1,_=>rfl | 2,_=>rfl | 3,_=>rfl | 4,_=>rfl | 5,_=>rfl | 6,_=>rfl | 7,_=>rfl
 | n+8,h=>by omega
theorem On(h:Nat->Int)(g:Nat->Int)(e:∀ k,k<8->h (sig k)=g k):sK h 8=sK g 8:=
 Sd (by omega) (fun j hj=>⟨sig j,qU j,by rw[<- e _ (qU j),D5 j hj];exact Cy _⟩) (fun j hj=>⟨sig j,qU j,by rw[e j hj];exact Cy _⟩)
theorem Ns(h:Nat->Int)(g:Nat->Int)(e:∀ k,k<8->h (sig k)=g k):tI h 8=tI g 8:=
 Sx (by omega) (fun j hj=>⟨sig j,qU j,by rw[<- e _ (qU j),D5 j hj];exact Cy _⟩) (fun j hj=>⟨sig j,qU j,by rw[e j hj];exact Cy _⟩)
theorem qQ(c:Int):∀ n,0<n->sK (fun _=>c) n=c
 | 0,h=>by omega
 | n+1,_=>by
  simp only[sK]
  split
  ·rfl
  ·rw[qQ c n (by omega)];omega
theorem xu(c:Int):∀ n,0<n->tI (fun _=>c) n=c
 | 0,h=>by omega
 | n+1,_=>by
  simp only[tI]
  split
  ·rfl
  ·rw[xu c n (by omega)];omega
def Gt(f:Int->Int->Int->Int)(s:Sk)(lo hi:Int):Int:=sK (fun k=>min (lo*f (s.cw k) (s.cc k) (s.cl k)) (hi*f (s.cw k) (s.cc k) (s.cl k))) 8
def Mo(f:Int->Int->Int->Int)(s:Sk)(lo hi:Int):Int:=tI (fun k=>max (lo*f (s.cw k) (s.cc k) (s.cl k)) (hi*f (s.cw k) (s.cc k) (s.cl k))) 8
theorem HV(f:Int->Int->Int->Int)(s:Sk):Gt f s 0 0=0:=by
 unfold Gt
 simp only[Int.zero_mul,Int.min_self]
 exact qQ 0 8 (by omega)
theorem IC(f:Int->Int->Int->Int)(s:Sk):Mo f s 0 0=0:=by
 unfold Mo
 simp only[Int.zero_mul,Int.max_self]
 exact xu 0 8 (by omega)
theorem TN(f:Int->Int->Int->Int)(m:Int×(Sk×Sp)):mR (NX f) m=Gt f m.2.1 m.2.2.lo m.2.2.hi:=
 On _ _ (fun k hk=>by simp only[C5 f m.2.1 k hk])
theorem Nc(f:Int->Int->Int->Int)(m:Int×(Sk×Sp)):mq (NX f) m=Mo f m.2.1 m.2.2.lo m.2.2.hi:=
 Ns _ _ (fun k hk=>by simp only[C5 f m.2.1 k hk])
def sLo(f:Int->Int->Int->Int)(l:List Sk)(b:List Tk):Int:=gQ (fun i=>Gt f (l[i]?.getD eV) (Ej b i) (EH b i)) l.length
def sHi(f:Int->Int->Int->Int)(l:List Sk)(b:List Tk):Int:=gQ (fun i=>Mo f (l[i]?.getD eV) (Ej b i) (EH b i)) l.length
theorem SH{l:List Sk}{b:List Tk}(ht:LU l.length b)(f:Int->Int->Int->Int):((bH l b b.length).map (mR (NX f))).sum=sLo f l b:=by
 have:=oV ht (Gt f) (HV f) b.length (Zg _)
 unfold sLo Ej EH
 rw[<- this]
 congr 1
 exact UW fun m _=>TN f m
theorem RE{l:List Sk}{b:List Tk}(ht:LU l.length b)(f:Int->Int->Int->Int):((bH l b b.length).map (mq (NX f))).sum=sHi f l b:=by
 have:=oV ht (Mo f) (IC f) b.length (Zg _)
 unfold sHi Ej EH
 rw[<- this]
 congr 1
 exact UW fun m _=>Nc f m
theorem yE(l:List Sk)(b:List Tk)(n:Int)(i:Nat):OV l b n i=Gt (gT n) (l[i]?.getD eV) (Ej b i) (EH b i):=rfl
theorem Eh(l:List Sk)(b:List Tk)(n:Int)(i:Nat):Pb l b n i=Mo (gT n) (l[i]?.getD eV) (Ej b i) (EH b i):=rfl
theorem wLe{b:List Tk}(h:okB b)(i:Nat):Ej b i<=EH b i:=by
 unfold Ej EH
 have gen:∀ n,n<=b.length->gU (zH (i:Int)) b n<=gU (zD (i:Int)) b n:=by
  intro n
  induction n with
  | zero=>intro _;simp[nR]
  | succ n ih=>
   intro hn
   have:=ih (by omega)
   have:=h.2 b[n] (A4 _)
   rw[gH _ b n hn,gH _ b n hn]
   simp only[zH,zD]
   split <;> omega
 exact gen _ (Zg _)
theorem YK{f:Int->Int->Int->Int}{s:Sk}{lo hi:Int}(h:0<=lo∧lo<=hi)(hf:∀ k,0<=f (s.cw k) (s.cc k) (s.cl k)):Gt f s lo hi=lo*ET (fun k=>f (s.cw k) (s.cc k) (s.cl k)) 8:=by
 have gen:∀ n,0<n->sK (fun k=>min (lo*f (s.cw k) (s.cc k) (s.cl k)) (hi*f (s.cw k) (s.cc k) (s.cl k))) n=lo*ET (fun k=>f (s.cw k) (s.cc k) (s.cl k)) n:=by
  intro n hn
  have e:∀ k,min (lo*f (s.cw k) (s.cc k) (s.cl k)) (hi*f (s.cw k) (s.cc k) (s.cl k))=lo*f (s.cw k) (s.cc k) (s.cl k):=fun k=>by
   have:=Int.mul_le_mul_of_nonneg_right h.2 (hf k)
   omega
  simp only[e]
  induction n with
  | zero=>omega
  | succ n ih=>
   simp only[sK,ET]
   split
   ·rename_i h0;subst h0;simp[ET]
   ·rw[ih (by omega)]
    rcases Int.le_total (ET (fun k=>f (s.cw k) (s.cc k) (s.cl k)) n) (f (s.cw n) (s.cc n) (s.cl n)) with h1 | h1
    ·rw[Int.min_eq_left h1,Int.min_eq_left (UP h1 h.1)]
    ·rw[Int.min_eq_right h1,Int.min_eq_right (UP h1 h.1)]
 exact gen 8 (by omega)
theorem Fg.get{l:List Sk}(h:Fg l){i:Nat}(hi:i<l.length):vI (l[i]?.getD eV):=by
 rw[Zd hi,Uz]
 exact h.2 _ (A4 _)
theorem kE{f g:Nat->Int}:∀ n,(∀ j,j<n->f j<=g j)->gQ f n<=gQ g n
 | 0,_=>Cy _
 | n+1,h=>by
  exact Yw
theorem zU{f g:Int->Int->Int->Int}{s:Sk}{lo hi:Int}(h:0<=lo∧lo<=hi)(hf:∀ k,f (s.cw k) (s.cc k) (s.cl k)<=g (s.cw k) (s.cc k) (s.cl k)):Gt f s lo hi<=Gt g s lo hi:=by
 unfold Gt
 obtain⟨j,hj,ej⟩:=yp (fun k=>min (lo*g (s.cw k) (s.cc k) (s.cl k)) (hi*g (s.cw k) (s.cc k) (s.cl k))) 8 (by omega)
 have h1:=yO (fun k=>min (lo*f (s.cw k) (s.cc k) (s.cl k)) (hi*f (s.cw k) (s.cc k) (s.cl k))) 8 j hj
 exact VO
theorem IU{f g:Int->Int->Int->Int}{s:Sk}{lo hi:Int}(h:0<=lo∧lo<=hi)(hf:∀ k,f (s.cw k) (s.cc k) (s.cl k)<=g (s.cw k) (s.cc k) (s.cl k)):Mo f s lo hi<=Mo g s lo hi:=by
 unfold Mo
 obtain⟨j,hj,ej⟩:=yG (fun k=>max (lo*f (s.cw k) (s.cc k) (s.cl k)) (hi*f (s.cw k) (s.cc k) (s.cl k))) 8 (by omega)
 have h1:=yY (fun k=>max (lo*g (s.cw k) (s.cc k) (s.cl k)) (hi*g (s.cw k) (s.cc k) (s.cl k))) 8 j hj
 exact VO
def Gx(l:List Sk)(b:List Tk)(n:Int):Int:=gQ (OV l b n) l.length
def GP(l:List Sk)(b:List Tk)(n:Int):Int:=gQ (Pb l b n) l.length
theorem uf{m n w c l:Int}(h:m<=n)(hs:l9 w c l):gT n w c l<=gT m w c l:=by
 have:=Int.mul_le_mul_of_nonneg_right h (G1 hs).1
 unfold gT;omega
theorem Jr{l:List Sk}{b:List Tk}(hl:Fg l)(hb:okB b){m n:Int}(h:m<=n):Gx l b n<=Gx l b m:=
 kE _ fun i hi=>by
  rw[yE,yE]
  exact zU ⟨(wB hb i).1.1,wLe hb i⟩ fun k=>uf h ((hl.get hi).CB k)
theorem J9{l:List Sk}{b:List Tk}(hl:Fg l)(hb:okB b){m n:Int}(h:m<=n):GP l b n<=GP l b m:=
 kE _ fun i hi=>by
  rw[Eh,Eh]
  exact IU ⟨(wB hb i).1.1,wLe hb i⟩ fun k=>uf h ((hl.get hi).CB k)
theorem ry(xs:List Sk)(f:PV)(p:Sk->Bool)(hx:xs.length<=cJ)(hf:∀ x∈xs,ju Tryz.prog f [.agg x.cells] (.bool (p x))):Pure Tryz.prog 219 [.is (xs.flatMap Sk.cells) xs.length,f] (.int .i64 (iI p xs)):=by
 unfold cJ at hx
 refine Kf (N:=19) Tryz.func219 ?_
 iterate 12 refine af ?_
 refine aB.xS [4,5,8,9,10,11,12,13,14,15,16,17,18] (fun g=>[(8,.p (.int .i64 ((g:Nat):Int)))]) (fun g=>g<=xs.length∧∀ j (hj:j<g) (h:g<=xs.length),p (xs[j]'(by omega))=false) (fun g=>xs.length - g) 0 ⟨Zl _,fun j hj=>absurd hj (by omega)⟩ (Sub.cons rfl (Sub.nil)) (fun i hg=> ?_)
 obtain⟨zF,ou⟩:=hg
 iterate 5 refine af ?_
 refine Ki (fun hc0=> ?_) fun hc0=> ?_
 ·iterate 13 refine af ?_
  refine Kc (aa.jK rfl rfl rfl an Ms rfl (fun _=>rfl) (by decide) ?_) ?_
  ·simp at hc0;omega
  exact KD
 ·exact LC
theorem rI(xs:List Tk)(f:PV)(p:Tk->Bool)(hx:xs.length<=cJ)(hf:∀ x∈xs,ju Tryz.prog f [.agg x.cells] (.bool (p x))):Pure Tryz.prog 220 [.is (xs.flatMap Tk.cells) xs.length,f] (.int .i64 (iI p xs)):=by
 unfold cJ at hx
 refine Kf (N:=19) Tryz.func220 ?_
 iterate 12 refine af ?_
 refine aB.xS [4,5,8,9,10,11,12,13,14,15,16,17,18] (fun g=>[(8,.p (.int .i64 ((g:Nat):Int)))]) (fun g=>g<=xs.length∧∀ j (hj:j<g) (h:g<=xs.length),p (xs[j]'(by omega))=false) (fun g=>xs.length - g) 0 ⟨Zl _,fun j hj=>absurd hj (by omega)⟩ (Sub.cons rfl (Sub.nil)) (fun i hg=> ?_)
 obtain⟨zF,ou⟩:=hg
 iterate 5 refine af ?_
 refine Ki (fun hc0=> ?_) fun hc0=> ?_
 ·iterate 13 refine af ?_
  refine Kc (aa.jK rfl rfl rfl an QF rfl (fun _=>rfl) (by decide) ?_) ?_
  ·simp at hc0;omega
  exact KD
 ·exact LC
theorem n9(xs:List Sk)(f:PV)(p:Sk->Bool)(hx:xs.length<=cJ)(hf:∀ x∈xs,ju Tryz.prog f [.agg x.cells] (.bool (p x))):Pure Tryz.prog 212 [.is (xs.flatMap Sk.cells) xs.length,f] (.bool (xs.any p)):=by
 refine Kf (N:=9) Tryz.func212 ?_
 iterate 8 refine af ?_
 refine Kc (Kp (ry _ _ p ?_ ?_)) ?_
 ·exact hx
 ·exact hf
 exact O2
theorem n8(xs:List Tk)(f:PV)(p:Tk->Bool)(hx:xs.length<=cJ)(hf:∀ x∈xs,ju Tryz.prog f [.agg x.cells] (.bool (p x))):Pure Tryz.prog 215 [.is (xs.flatMap Tk.cells) xs.length,f] (.bool (xs.any p)):=by
 refine Kf (N:=9) Tryz.func215 ?_
 iterate 8 refine af ?_
 refine Kc (Kp (rI _ _ p ?_ ?_)) ?_
 ·exact hx
 ·exact hf
 exact O2
theorem yN(s:Sk):Pure Tryz.prog 210 [.agg s.cells] (.bool s.bad):=by
 refine Kf (N:=19) Tryz.func210 ?_
 iterate 9 refine af ?_
 refine Kc (Kp (gZ _ _ _ _)) ?_
 iterate 2 refine af ?_
 refine Kg 8 7 1 rfl (fun h=>(aa.fieldAddr rfl rfl an rfl)) ?_
 refine Kh 9 7 8 rfl rfl rfl rfl (fun h=>(aa.load rfl rfl an rfl)) ?_
 refine Kh 10 7 9 rfl rfl rfl rfl (fun h=>(Kp (gZ _ _ _ _))) ?_
 refine Kh 11 7 10 rfl rfl rfl rfl (fun h=>(aa.iZ rfl rfl)) ?_
 refine Kc (aa.me rfl rfl rfl ?_) ?_
 ·exact eM
 refine af ?_
 refine Kg 14 13 1 rfl (fun h=>(aa.fieldAddr rfl rfl an rfl)) ?_
 refine Kh 15 13 14 rfl rfl rfl rfl (fun h=>(aa.load rfl rfl an rfl)) ?_
 refine Kh 16 13 15 rfl rfl rfl rfl (fun h=>(Kp (gZ _ _ _ _))) ?_
 refine Kh 17 13 16 rfl rfl rfl rfl (fun h=>(aa.iZ rfl rfl)) ?_
 refine Kc (aa.me rfl rfl rfl ?_) ?_
 ·exact eM
 exact kL
theorem A7(l:List Sk)(t:Tk)(hx:l.length<=cJ):Pure Tryz.prog 213 [.agg t.cells,.ip [dS l] 0] (.bool (t.bad l.length)):=by
 refine Kf (N:=17) Tryz.func213 ?_
 iterate 11 refine af ?_
 refine Kc (aa.iC rfl rfl rfl (aH ?_)) ?_
 ·unfold cJ at*;omega
 refine Kc (Kp (cM _ _ _)) ?_
 iterate 2 refine af ?_
 refine Kg 12 11 2 rfl (fun h=>(aa.fieldAddr rfl rfl an rfl)) ?_
 refine Kh 13 11 12 rfl rfl rfl rfl (fun h=>(aa.load rfl rfl an rfl)) ?_
 refine Kh 14 11 13 rfl rfl rfl rfl (fun h=>(Kp (gZ _ _ _ _))) ?_
 refine Kh 15 11 14 rfl rfl rfl rfl (fun h=>(aa.iZ rfl rfl)) ?_
 refine Kc (aa.me rfl rfl rfl ?_) ?_
 ·exact eM
 exact kL
theorem Ac(l:List Sk)(hx:l.length<=cJ):Pure Tryz.prog 188 [dS l] (.bool (dK l)):=by
 refine Kf (N:=13) Tryz.func188 ?_
 iterate 14 refine af ?_
 refine Kg 8 7 0 rfl (fun h=>(aa.move rfl rfl)) ?_
 refine Kg 9 7 3 rfl (fun h=>(aa.move rfl rfl)) ?_
 refine aj.g 10 7 rfl rfl rfl rfl rfl rfl rfl [(8,_),(9,_)] (fun h=>And.intro (.inr ⟨_,rfl,h⟩) (And.intro (.inr ⟨_,rfl,h⟩) (trivial))) (fun h=>(Kp (n9 l _ Sk.bad ?_ ?_))) ?_
 ·exact hx
 ·exact fun x _=>⟨210,[.agg x.cells],rfl,an,yN x⟩
 refine Kh 11 7 10 rfl rfl rfl rfl (fun h=>(aa.iZ rfl rfl)) ?_
 exact O8
theorem CD(l:List Sk)(b:List Tk)(hx:l.length<=cJ)(hb:b.length<=cJ):Pure Tryz.prog 189 [dS l,vH b] (.bool (jo l.length b)):=by
 refine Kf (N:=16) Tryz.func189 ?_
 iterate 7 refine af ?_
 refine Kc (aa.makeFunc rfl rfl rfl) ?_
 iterate 6 refine af ?_
 refine Kc (Kp (cM _ _ _)) ?_
 refine af ?_
 refine Kg 11 10 1 rfl (fun h=>(aa.move rfl rfl)) ?_
 refine Kg 12 10 5 rfl (fun h=>(aa.move rfl rfl)) ?_
 refine aj.g 13 10 rfl rfl rfl rfl rfl rfl rfl [(11,_),(12,_)] (fun h=>And.intro (.inr ⟨_,rfl,h⟩) (And.intro (.inr ⟨_,rfl,h⟩) (trivial))) (fun h=>(Kp (n8 b _ (Tk.bad l.length) ?_ ?_))) ?_
 ·exact hb
 ·exact fun x _=>⟨213,[.agg x.cells,.ip [dS l] 0],rfl,an,A7 l x hx⟩
 refine Kh 14 10 13 rfl rfl rfl rfl (fun h=>(aa.iZ rfl rfl)) ?_
 exact O8
theorem R7{l:List Sk}(h:dK l=true):Fg l:=by
 unfold dK at h
 simp only[Zo,Zs,D0,LV] at h
 refine⟨by omega,fun s hs=> ?_⟩
 have:=h.2 s hs
 simp[Sk.bad,Sp.ok] at this
 unfold vI
 omega
theorem R8{n:Nat}{b:List Tk}(h:jo n b=true):okB b∧LU n b:=by
 unfold jo at h
 simp only[Zo,Zs,D0,LV] at h
 refine⟨⟨by omega,fun t ht=> ?_⟩,fun t ht=> ?_⟩ <;>
 ·have:=h.2 t ht
  simp[Tk.bad,Sp.ok] at this
  omega
def iT(l:List Sk)(b:List Tk):Bool:=dK l&&jo l.length b
theorem lW(p:Nat->Bool):∀ n,(∀ i j,i<=j->j<n->p i=true->p j=true)->∃ r,r<=n∧(∀ i,i<r->p i=false)∧∀ i,r<=i->i<n->p i=true
 | 0,_=>⟨0,Zg _,fun i h=>by omega,fun i _ h=>by omega⟩
 | n+1,hp=>by
  exact TR
def sQ(l:List Sk)(b:List Tk):Nat->Int
 | 0=>0
 | s+1=>if 0<=Gx l b s then(s:Int) else sQ l b s
def lJ(l:List Sk)(b:List Tk):Nat->Int
 | 0=>1000
 | s+1=>if GP l b s<=0 then min (lJ l b s) s else lJ l b s
def vY(l:List Sk)(b:List Tk):List PV:=
 if iT l b then[.agg [.int .i64 (sQ l b 1001),.int .i64 (lJ l b 1001)],.int .i64 0] else[.agg [.int .i64 0,.int .i64 0],.int .i64 1]
theorem zZ{l:List Sk}{b:List Tk}{r:Nat}(h0:0<r)(h1:∀ i,i<r->0<=Gx l b i):∀ n,r<=n->(∀ i,r<=i->i<n->Gx l b i<0)->sQ l b n=r - 1
 | 0,h,_=>by omega
 | n+1,h,h2=>by
  simp only[sQ]
  by_cases e:r=n+1
  ·subst e
   rw[if_pos (h1 n (by omega))];omega
  ·rw[if_neg (by have:=h2 n (by omega) (by omega);omega)]
   exact zZ h0 h1 n (by omega) (fun i hi hj=>h2 i hi (by omega))
theorem HC{l:List Sk}{b:List Tk}{r:Nat}(hr:r<=1000)(h1:∀ i,i<r->0<GP l b i)(h2:∀ i,r<=i->i<1000->GP l b i<=0):lJ l b 1001=r:=by
 have g1:∀ n,n<=r->lJ l b n=1000:=by
  intro n
  induction n with
  | zero=>intro _;rfl
  | succ n ih=>
   intro hn
   simp only[lJ]
   rw[if_neg (by have:=h1 n (by omega);omega)]
   exact ih (by omega)
 have g2:∀ n,n<=1000->r<n->lJ l b n=r:=by
  intro n
  induction n with
  | zero=>intro _ h;omega
  | succ n ih=>
   intro hn hr'
   simp only[lJ]
   rw[if_pos (h2 n (by omega) (by omega))]
   by_cases e:r=n
   ·subst e;rw[g1 r (Zg _)];omega
   ·rw[ih (by omega) (by omega)];omega
 have XM:lJ l b 1000=r:=by
  by_cases e:r=1000
  ·rw[g1 1000 (by omega)];omega
  ·exact g2 1000 (by omega) (by omega)
 show(if GP l b (1000:Nat)<=0 then min (lJ l b 1000) ((1000:Nat):Int) else lJ l b 1000)=r
 rw[XM]
 split <;> omega
theorem Hr{l:List Sk}{b:List Tk}(hl:Fg l)(hb:okB b):0<=Gx l b 0:=by
 have h:gQ (fun _=>0) l.length<=Gx l b 0:=kE _ fun i hi=>by
  rw[yE]
  have h1:=zU (f:=fun _ _ _=>0) (g:=gT 0) (s:=l[i]?.getD eV) (lo:=Ej b i) (hi:=EH b i) ⟨(wB hb i).1.1,wLe hb i⟩ (fun k=>by
   have:=u6 ((hl.get hi).CB k)
   simp only[gT];omega)
  have h2:Gt (fun _ _ _=>0) (l[i]?.getD eV) (Ej b i) (EH b i)=0:=by
   unfold Gt
   simp only[Int.mul_zero,Int.min_self]
   exact qQ 0 8 (by omega)
  omega
 rw[kF _ (fun _ _=>rfl)] at h
 exact h
theorem Cj{l:List Sk}{b:List Tk}(hl:Fg l)(hb:okB b):∃ r q:Nat,(r<=1001∧(∀ i,i<r->decide (Gx l b (i:Nat)<0)=false)∧(∀ i,r<=i->i<1001->decide (Gx l b (i:Nat)<0)=true))∧
    (q<=1000∧(∀ i,i<q->decide (GP l b (i:Nat)<=0)=false)∧(∀ i,q<=i->i<1000->decide (GP l b (i:Nat)<=0)=true))∧sQ l b 1001=r - 1∧lJ l b 1001=q:=by
 obtain⟨r,h1,h2,h3⟩:=lW (fun i=>decide (Gx l b (i:Nat)<0)) 1001 (fun i j hij _ h=>by
  simp only[Zs] at h ⊢
  have:=Jr hl hb (m:=(i:Int)) (n:=(j:Int)) (by omega)
  omega)
 obtain⟨q,k1,k2,k3⟩:=lW (fun i=>decide (GP l b (i:Nat)<=0)) 1000 (fun i j hij _ h=>by
  simp only[Zs] at h ⊢
  have:=J9 hl hb (m:=(i:Int)) (n:=(j:Int)) (by omega)
  omega)
 refine⟨r,q,⟨h1,h2,h3⟩,⟨k1,k2,k3⟩,zZ ?_ (fun i hi=> ?_) 1001 h1 (fun i hi hj=>by simpa using h3 i hi hj),HC k1 (fun i hi=> ?_) (fun i hi hj=>by simpa using k3 i hi hj)⟩
 ·rcases Ui r with h | h
  ·subst h
   have:=h3 0 (Zg _) (by omega)
   have h0:=Hr hl hb
   simp at this
   omega
  ·exact h
 ·have:=h2 i hi
  simp at this
  exact this
 ·have:=k2 i hi
  simp at this
  omega
def b2(i j:Int)(t n:Int):List Tk:=[⟨i,⟨n,n⟩⟩,⟨j,⟨t - n,t - n⟩⟩]
def fLo(f:Int->Int->Int->Int)(s:Sk):Int:=sK (fun k=>f (s.cw k) (s.cc k) (s.cl k)) 8
def fHi(f:Int->Int->Int->Int)(s:Sk):Int:=tI (fun k=>f (s.cw k) (s.cc k) (s.cl k)) 8
def TG(s1 s2:Sk)(t:Int)(w:Sp)(n:Int):Int:=min (n*fLo (gT w.lo) s1+(t - n)*fLo (gT w.lo) s2) (0 - (n*fHi (gT w.hi) s1+(t - n)*fHi (gT w.hi) s2))
structure DX (M:Int->Int) (t:Nat) (r:Nat):Prop where
 aba:r<=t - 2
 aaB:∀ i,i<r->decide (M ((i:Int)+2)<=M ((i:Int)+1))=false
 aa9:∀ i,r<=i->i<t - 2->decide (M ((i:Int)+2)<=M ((i:Int)+1))=true
theorem DX.up{s1 s2:Sk}{w:Sp}{t r:Nat}(h:DX (TG s1 s2 t w) t r):∀(k j:Nat),k<=j->j<=r->TG s1 s2 t w ((k:Int)+1)<=TG s1 s2 t w ((j:Int)+1)
 | k,0,hk,_=>by obtain rfl:k=0:=by omega
                exact Cy _
 | k,j+1,hk,hj=>by
  rcases ZT j k with h1 | h1
  ·obtain rfl:k=j+1:=by omega
   exact Cy _
  ·have h2:=h.up k j h1 (by omega)
   have h3:=h.aaB j (by omega)
   simp at h3
   have e:((j+1:Nat):Int)+1=j+2:=by omega
   rw[e];omega
theorem CO(s:Sk)(m:Sp):Li Tryz.prog 227 (fun y=>[y,.p (.ip (storeCells s m) 0)]) (lg s):=by
 intro l κ n inv fin hκ hn KX hb h0 ov
 refine iX.gR (N:=55) Tryz.func227 rfl rfl Kn ?_
 iterate 14 refine af ?_
 refine aB.sG [4,6,8,18,19,20,21,22,23,24,25,26,27,28,29,30,31,32,33,34,35,36,37,38,39,40,41,42,43,44,45,46,47,48,49,50,51,52,53,54] (fun g=>[(18,.p (.int .i64 ((g.1:Nat):Int)))]) (fun g=>g.2) (fun g=>g.1<=2∧inv (4*g.1) g.2) (fun g=>2 - g.1) (0,h0) ⟨by omega,ov⟩ (To.sub (Sub.Qk (Sub.cons rfl (Sub.nil)))) (fun g hg=> ?_)
 obtain⟨i,hi⟩:=g
 obtain⟨hle,hinv⟩:=hg
 dsimp only at hle hinv ⊢
 iterate 5 refine af ?_
 refine Ki (fun hc0=> ?_) fun hc0=> ?_
 ·have i2:i<2:=by simp at hc0;omega
  iterate 5 refine af ?_
  refine Kc (aa.rq rfl rfl rfl JV (by omega) ?_) ?_
  ·omega
  iterate 16 refine af ?_
  refine aB.sG [6,8,30,31,32,33,34,35,36,37,38,39,40,41,42,43,44,45,46,47,48,49,50,51,52,53] (fun g=>[(30,.p (.int .i64 ((g.1:Nat):Int)))]) (fun g=>g.2) (fun g=>g.1<=2∧inv (4*i+2*g.1) g.2) (fun g=>2 - g.1) (0,hi) ⟨by omega,hinv⟩ (To.sub (Sub.Qk (Sub.cons rfl (Sub.nil)))) (fun g hg=> ?_)
  obtain⟨j,hj⟩:=g
  obtain⟨hle,hinv⟩:=hg
  dsimp only at hle hinv ⊢
  iterate 5 refine af ?_
  refine Ki (fun cF=> ?_) fun cF=> ?_
  ·have j2:j<2:=by simp at cF;omega
   iterate 5 refine af ?_
   refine Kc (aa.rq rfl rfl rfl JV (by omega) ?_) ?_
   ·omega
   iterate 16 refine af ?_
   refine aB.sG [8,42,43,44,45,46,47,48,49,50,51,52] (fun g=>[(42,.p (.int .i64 ((g.1:Nat):Int)))]) (fun g=>g.2) (fun g=>g.1<=2∧inv (4*i+2*j+g.1) g.2) (fun g=>2 - g.1) (0,hj) ⟨by omega,hinv⟩ (To.sub (Sub.Qk (Sub.cons rfl (Sub.nil)))) (fun g hg=> ?_)
   obtain⟨k,hk⟩:=g
   obtain⟨hle,hinv⟩:=hg
   dsimp only at hle hinv ⊢
   iterate 5 refine af ?_
   refine Ki (fun gW=> ?_) fun gW=> ?_
   ·have k2:k<2:=by simp at gW;omega
    iterate 5 refine af ?_
    refine Kc (aa.rq rfl rfl rfl JV (by omega) ?_) ?_
    ·omega
    iterate 9 refine af ?_
    refine aj.yield 50 rfl rfl rfl rfl rfl rfl (hb _ _ _ hinv (zS s i2 j2 k2)) ?_
    intro b2 h2 BD
    iterate 2 refine af ?_
    refine Ki (fun mc=> ?_) fun mc=> ?_
    ·have hq:fin h2:=by simpa[show b2=false by simpa using mc] using BD
     refine af ?_
     exact⟨.inr rfl,_,eK.none_ rfl,.inr hq⟩
    ·have hnext:inv (4*i+2*j+k+1) h2:=by simpa[show b2=true by simpa using mc] using BD
     iterate 2 refine af ?_
     refine Kc (aa.add rfl rfl rfl (aH ?_)) ?_
     ·omega
     iterate 2 refine af ?_
     refine⟨(k+1,h2),?_,?_,?_⟩
     ·exact⟨by dsimp only;omega,hnext⟩
     ·show 2 - (k+1)<2 - k
      omega
     exact To.sub KS
   ·refine aB.exit ?_
    refine af ?_
    refine Kc (aa.add rfl rfl rfl (aH ?_)) ?_
    ·omega
    iterate 2 refine af ?_
    refine⟨(j+1,hk),?_,?_,?_⟩
    ·have hk2:k=2:=by simp at gW;omega
     subst hk2
     exact⟨by dsimp only;omega,by rw[show 4*i+2*(j+1,hk).1=4*i+2*j+2 by dsimp only;omega];exact hinv⟩
    ·show 2 - (j+1)<2 - j
     omega
    exact To.sub KS
  ·refine aB.exit ?_
   refine af ?_
   refine Kc (aa.add rfl rfl rfl (aH ?_)) ?_
   ·omega
   iterate 2 refine af ?_
   refine⟨(i+1,hj),?_,?_,?_⟩
   ·have hj2:j=2:=by simp at cF;omega
    subst hj2
    exact⟨by dsimp only;omega,by rw[show 4*(i+1,hj).1=4*i+2*2 by dsimp only;omega];exact hinv⟩
   ·show 2 - (i+1)<2 - i
    omega
   exact To.sub KS
 ·refine aB.exit ?_
  have hi2:i=2:=by simp at hc0;omega
  subst hi2
  exact⟨.inl rfl,_,eK.none_ rfl,.inl (by simpa[lg] using hinv)⟩
theorem Fm(s:Sk)(m:Sp):Pure Tryz.prog 224 [.agg (storeCells s m)] (.func (.func 227) [] [.ip (storeCells s m) 0]):=by
 refine Kf (N:=4) Tryz.func224 ?_
 exact NR
theorem NC(s:Sk)(m:Sp)(fn:Fn)(fi ca:List PV)(F:Nat->Int)(hm:0<=m.lo∧m.lo<=m.hi∧m.hi<=800000)(hF:∀ j,j<8-> -2000000000000<=F j∧F j<=2000000000000)(hf:∀ j,j<8->ju Tryz.prog (.func fn fi ca) [rQ s j] (.int .i64 (F j))):Pure Tryz.prog 221 [.agg (storeCells s m),.func fn fi ca] (.agg [.int .i64 (sK (fun j=>min (m.lo*F j) (m.hi*F j)) 8),.int .i64 (tI (fun j=>max (m.lo*F j) (m.hi*F j)) 8)]):=by
 refine Kf (N:=52) Tryz.func221 ?_
 iterate 15 refine af ?_
 refine Kc (Kp (Fm s m)) ?_
 iterate 2 refine af ?_
 refine aB.rangeFunc 0 rfl (fun _=>rfl) an (CO s m) (Zg _) (Zl _) (fun _ h=>by cases h) (fun x hx=>by simp[lg] at hx;obtain⟨j,_,rfl⟩:=hx;rfl) rfl (fun k h=>h=[.cells [.p (.int .i64 (sK (fun j=>min (m.lo*F j) (m.hi*F j)) k)),.p (.int .i64 (tI (fun j=>max (m.lo*F j) (m.hi*F j)) k))] 24,.cells [.p (.bool (k==0))] 4]) (fun c h=>False) (fun _ _ h=>by rw[h];rfl) (fun _ _ h=>h.elim) rfl ?_ ?_ ?_
 ·intro l tmps k h x hJ hx
  subst hJ
  have hk:k<8:=by have:=(Za.1 hx).1;simpa[lg] using this
  obtain rfl:x=[.p (rQ s k)]:=by simp[lg,hk] at hx;exact hx.symm
  have YD:=hF k hk
  have q1:=ME (A:=2000000000000) (B:=800000) (b:=m.lo) ⟨YD.1,YD.2⟩ ⟨hm.1,by omega⟩
  have q2:=ME (A:=2000000000000) (B:=800000) (b:=m.hi) ⟨YD.1,YD.2⟩ ⟨by omega,hm.2.2⟩
  iterate 4 refine af ?_
  refine⟨rfl,rfl,?_⟩
  iterate 5 refine af ?_
  refine Kc (aa.Ak (hf k hk) rfl rfl rfl) ?_
  iterate 3 refine af ?_
  refine aB.az 24 mixed (by kernel_rfl) (by decide) ?_
  iterate 4 refine af ?_
  refine Kq (aa.mul rfl rfl rfl (aH ?_)) ?_
  ·omega
  iterate 4 refine af ?_
  refine Kq (aa.mul rfl rfl rfl (aH ?_)) ?_
  ·omega
  refine Kq (aa.min2 rfl rfl rfl) ?_
  iterate 4 refine af ?_
  refine Kq (aa.mul rfl rfl rfl (aH ?_)) ?_
  ·omega
  iterate 4 refine af ?_
  refine Kq (aa.mul rfl rfl rfl (aH ?_)) ?_
  ·omega
  refine Kq (aa.max2 rfl rfl rfl) ?_
  iterate 2 refine af ?_
  refine ay.nil ?_
  iterate 6 refine af ?_
  refine Ki (fun hc0=> ?_) fun hc0=> ?_
  ·iterate 11 refine af ?_
   exact PU
  ·iterate 5 refine af ?_
   exact PU
 ·intro h hJ
  subst hJ
  iterate 6 refine af ?_
  exact OI
 ·exact o4
theorem AL(l:List Sk)(b:List Tk)(hl:l.length<=cJ)(hb:okB b)(ht:LU l.length b):Pure Tryz.prog 190 [dS l,vH b] (lG (PV.int .i64) zE (bH l b b.length)):=by
 have hb8:=hb.1
 refine Kf (N:=48) Tryz.func190 ?_
 iterate 6 refine af ?_
 refine Kc (aa.makeMap (K:=Int) (α:=Sk×Sp) (enc:=PV.int .i64) (g:=fun a=> .p (zE a)) rfl) ?_
 iterate 10 refine af ?_
 refine aB.sG [7,8,12,13,14,15,16,17,18,19,20,21,22,23,24,25,26,27,28,29,30,31,32,33,34,35,36,37,38,39,40,41,42,43,44,45,46] (fun g=>[(12,.p (.int .i64 ((g:Nat):Int)))]) (fun g=>[mV (PV.int .i64) (fun a=> .p (zE a)) (bH l b g)]) (fun g=>g<=b.length) (fun g=>b.length - g) 0 (Zl _) (To.sub (Sub.Qk (Sub.cons rfl Sub.nil))) (fun i hg=> ?_)
 iterate 5 refine af ?_
 refine Ki (fun hc0=> ?_) fun hc0=> ?_
 ·have hk0:i<b.length:=by simp at hc0;omega
  have hti:=hb.2 b[i] (A4 _)
  have hts:=ht b[i] (A4 _)
  have qm:b[i].s.toNat<l.length:=by omega
  have zF:=oR l b b[i].s i hg
  have p1:=Q7 hb b[i].s i hg
  have p2:=O5 hb b[i].s i hg
  have e1:((cD b[i].s (bH l b i)).getD ep).2.lo=gU (zH b[i].s) b i:=by rw[zF]
  have e2:((cD b[i].s (bH l b i)).getD ep).2.hi=gU (zD b[i].s) b i:=by rw[zF]
  iterate 5 refine af ?_
  refine Kc (aa.jK rfl rfl rfl an QF rfl (fun _=>rfl) (by decide) hk0) ?_
  iterate 9 refine af ?_
  refine Kc (aa.vM (dx.int .i64 .i64) (gp:=zE) ep rfl rfl rfl rfl II rfl) ?_
  iterate 8 refine af ?_
  refine Kc (aa.Ix rfl rfl rfl an Ms rfl (fun _=>rfl) (by decide) ?_ ?_) ?_
  ·omega
  ·omega
  iterate 12 refine af ?_
  refine Kc (aa.add rfl rfl rfl (aH ?_)) ?_
  ·omega
  iterate 6 refine af ?_
  refine Kc (aa.add rfl rfl rfl (aH ?_)) ?_
  ·omega
  iterate 9 refine af ?_
  refine Kz (aa.mapUpdate (dx.int .i64 .i64) (g:=fun a=> .p (zE a)) (c:=(l[b[i].s.toNat],⟨_,_⟩)) (.inl rfl) rfl rfl rfl rfl II) ?_
  iterate 2 refine af ?_
  refine Kc (aa.add rfl rfl rfl (aH ?_)) ?_
  ·omega
  iterate 2 refine af ?_
  refine⟨i+1,?_,?_,?_⟩
  ·simp at hc0;omega
  ·simp at hc0;omega
  refine To.done [0] rfl KS ?_
  show[aE _ (mV _ (fun a=> .p (zE a)) (aW _ _ _))]=_
  rw[xq,gG l b i hk0,gD,Zd qm]
  rfl
 ·obtain rfl:i=b.length:=by simp at hc0;omega
  refine aB.to (To.rM 0 (gp:=zE) rfl) ?_
  refine aB.exit ?_
  iterate 6 refine af ?_
  exact xQ
theorem Ue(ms:List (Int×(Sk×Sp)))(fn:Fn)(fi ca:List PV)(F:Sk->Nat->Int)(hw:∀ m∈ms,0<=m.2.2.lo∧m.2.2.lo<=m.2.2.hi)(hs:(ms.map xO).sum<=800000)(hF:∀ m∈ms,∀ j,j<8-> -2000000000000<=F m.2.1 j∧F m.2.1 j<=2000000000000)(hf:∀ m∈ms,∀ j,j<8->ju Tryz.prog (.func fn fi ca) [rQ m.2.1 j] (.int .i64 (F m.2.1 j))):Pure Tryz.prog 216 [lG (PV.int .i64) zE ms,.func fn fi ca] (.agg [.int .i64 (ms.map (mR F)).sum,.int .i64 (ms.map (mq F)).sum]):=by
 have hpos:∀ m∈ms,0<=xO m:=fun m hm=>by have:=hw m hm;unfold xO;omega
 refine Kf (N:=32) Tryz.func216 ?_
 iterate 8 refine af ?_
 refine Kc (aa.rangeMap (enc:=PV.int .i64) (gp:=zE) rfl rfl II) ?_
 iterate 2 refine af ?_
 refine aB.sG [6,7,8,11,12,13,14,15,16,17,18,19,20,21,22,23,24,25,26,27,28,29,30] (fun(g:sI)=>[]) (fun(g:sI)=>[.cells [.p (.int .i64 (g.d.map (mR F)).sum),.p (.int .i64 (g.d.map (mq F)).sum)] 24,x8 (PV.int .i64) zE g.r g.last]) (fun(g:sI)=>sI.ok ms g) (fun(g:sI)=>g.r.length) ⟨[],ms,none⟩ ⟨(fun f=>by simp),(fun _ h=>by cases h),fun _ h=>h⟩ (To.sub (Sub.Qk Sub.nil)) (fun g hg=> ?_)
 obtain⟨d,r,last⟩:=g
 dsimp only
 iterate 2 refine af ?_
 refine aj.NB 11 rfl rfl rfl rfl rfl rfl ?_ ?_
 ·intro hr
  subst hr
  iterate 3 refine af ?_
  refine Ki (fun hc0=> ?_) fun hc0=> ?_
  ·cases hc0
  ·refine aB.exit ?_
   iterate 6 refine af ?_
   refine Fin.gw rfl ⟨_,_,_,rfl,an,rfl⟩ ?_
   have e1:=hg.1 (mR F)
   have e2:=hg.1 (mq F)
   simp at e1 e2
   simp[e1,e2]
 ·intro j m hj
  have hjl:j<r.length:=(Za.1 hj).1
  have hmem:m∈ms:=hg.2.2 m (Zi hj)
  have hmw:=hw m hmem
  have hmh:xO m<=(ms.map xO).sum:=vB hpos hmem
  have h9:m.2.2.hi<=800000:=(by omega:xO m<=800000)
  have ou:=sI.C7 hg hj
  have s1:=qT (f:=mR F) (g:=xO) (X:=2000000000000) (r:=d) (fun x hx=>Hu (hw x (hg.2.1 x hx)) (hF x (hg.2.1 x hx)))
  have s2:=qT (f:=mq F) (g:=xO) (X:=2000000000000) (r:=d) (fun x hx=>Dm (hw x (hg.2.1 x hx)) (hF x (hg.2.1 x hx)))
  have s3:=ou.1 xO
  dsimp only at s3
  rw[qt] at s3
  have s4:=lu (f:=xO) (r:=r.eraseIdx j) (fun x hx=>hpos x (ou.2.2 x hx))
  have s5:=lu (f:=xO) (r:=d) (fun x hx=>hpos x (hg.2.1 x hx))
  have s6:=Hu hmw (hF m hmem)
  have s7:=Dm hmw (hF m hmem)
  have s8:=hpos m hmem
  iterate 3 refine af ?_
  refine Ki (fun hc0=> ?_) fun hc0=> ?_
  ·iterate 4 refine af ?_
   refine Kc (aa.entry rfl rfl rfl) ?_
   iterate 7 refine af ?_
   refine Kc (aa.makeFunc rfl rfl rfl) ?_
   iterate 6 refine af ?_
   refine Kc (aa.fe (NC m.2.1 m.2.2 fn fi ca (F m.2.1) ?_ ?_ ?_) rfl rfl rfl rfl (an)) ?_
   ·omega
   ·exact hF m hmem
   ·exact hf m hmem
   iterate 8 refine af ?_
   refine Kc (aa.add rfl rfl rfl (aH ?_)) ?_
   ·exact abd
   iterate 4 refine af ?_
   refine Kc (aa.add rfl rfl rfl (aH ?_)) ?_
   ·exact abd
   iterate 3 refine af ?_
   refine⟨⟨d++[m],r.eraseIdx j,some m⟩,?_,?_,?_⟩
   ·exact sI.C7 hg hj
   ·show(r.eraseIdx j).length<r.length
    rw[List.length_eraseIdx,if_pos hjl]
    omega
   refine To.done [0,1] rfl KS ?_
   dsimp only
   rw[qt,qt]
   rfl
  ·cases hc0
theorem Co(n w c l:Int)(hn:0<=n∧n<=1000)(hs:l9 w c l):Pure Tryz.prog 217 [.agg [.int .i64 w,.int .i64 c,.int .i64 l],.ip [.int .i64 n] 0] (.int .i64 (gT n w c l)):=by
 refine Kf (N:=7) Tryz.func217 ?_
 iterate 9 refine af ?_
 refine Kc (Kp (MN _ _ _ _ ?_ ?_)) ?_
 ·assumption
 ·assumption
 exact kL
theorem Ga(ms:List (Int×(Sk×Sp)))(n:Int)(hn:0<=n∧n<=1000)(hm:okM ms):Pure Tryz.prog 193 [lG (PV.int .i64) zE ms,.int .i64 n] (.agg [.int .i64 (ms.map (mR (NX (gT n)))).sum,.int .i64 (ms.map (mq (NX (gT n)))).sum]):=by
 refine Kf (N:=8) Tryz.func193 ?_
 iterate 8 refine af ?_
 refine Kc (aa.makeFunc rfl rfl rfl) ?_
 refine Kc (Kp (Ue ms (.func 217) [] [.ip [.int .i64 n] 0] (NX (gT n)) ?_ ?_ ?_ ?_)) ?_
 ·exact hm.1
 ·exact hm.2.1
 ·exact fun m N8 j _=>by have h:=(hm.2.2 m N8).state j;unfold NX;have:=X8 hn h;omega
 ·exact fun m N8 j _=>⟨217,[rQ m.2.1 j,.ip [.int .i64 n] 0],rfl,an,Co n _ _ _ hn ((hm.2.2 m N8).state j)⟩
 exact NL
theorem xU(n r:Nat)(fn:Fn)(fi ca:List PV)(p:Nat->Bool)(hn:n<=140737488355328)(hr:r<=n)(h1:∀ i,i<r->p i=false)(h2:∀ i,r<=i->i<n->p i=true)(hf:∀ i,i<n->ju Tryz.prog (.func fn fi ca) [.int .i64 ((i:Nat):Int)] (.bool (p i))):Pure Tryz.prog 191 [.int .i64 (n:Int),.func fn fi ca] (.int .i64 (r:Int)):=by
 refine Kf (N:=26) Tryz.func191 ?_
 iterate 12 refine af ?_
 refine aB.xS [5,6,7,9,10,11,12,13,14,15,16,17,18,19,20,21,22,23,24] (fun g=>[(5,.p (.int .i64 ((g.1:Nat):Int))),(6,.p (.int .i64 ((g.2:Nat):Int)))]) (fun g=>g.1<=r∧r<=g.2∧g.2<=n) (fun g=>g.2 - g.1) (0,n) ⟨Zl _,hr,Zg _⟩ (Sub.cons rfl (Sub.cons rfl (Sub.nil))) (fun g hg=> ?_)
 obtain⟨i,j⟩:=g
 obtain⟨hi,hj,hjn⟩:=hg
 dsimp only at hi hj hjn ⊢
 iterate 7 refine af ?_
 refine Ki (fun hc0=> ?_) fun hc0=> ?_
 ·have hij:i<j:=by simp at hc0;omega
  have hf0:=hf ((i+j) / 2) (by omega)
  iterate 6 refine af ?_
  refine Kc (aa.add rfl rfl rfl (aH ?_)) ?_
  ·omega
  refine Kc (aa.di rfl rfl (by rw[yj];rfl) zY (mT ?_)) ?_
  ·omega
  refine Kc (aa.shr (m:=(((i+j) / 2:Nat):Int)) rfl rfl rfl (by decide) ?_) ?_
  ·refine aaJ.trans ?_;omega
  refine Kc (aa.di rfl rfl (by rw[zY];rfl) yj (aH ?_)) ?_
  ·omega
  iterate 6 refine af ?_
  refine Kc (aa.Ak (hf0) rfl rfl rfl) ?_
  iterate 2 refine af ?_
  refine Ki (fun cF=> ?_) fun cF=> ?_
  ·have q1:p ((i+j) / 2)=false:=by simpa using cF
   have q2:(i+j) / 2+1<=r:=by rcases ZT ((i+j) / 2) r with h | h;{omega};{have:=h2 _ h (by omega);rw[q1] at this;cases this}
   iterate 2 refine af ?_
   refine Kc (aa.add rfl rfl rfl (aH ?_)) ?_
   ·omega
   iterate 2 refine af ?_
   refine⟨((i+j) / 2+1,j),?_,?_,?_⟩
   ·exact⟨q2,hj,hjn⟩
   ·dsimp only;omega
   exact wQ
  ·have q1:p ((i+j) / 2)=true:=by simpa using cF
   have q2:r<=(i+j) / 2:=by rcases ZT ((i+j) / 2) r with h | h;{have:=h1 _ h;rw[q1] at this;cases this};{omega}
   iterate 4 refine af ?_
   refine⟨(i,(i+j) / 2),?_,?_,?_⟩
   ·exact⟨hi,q2,by dsimp only;omega⟩
   ·dsimp only;omega
   exact wQ
 ·obtain rfl:i=r:=by simp at hc0;omega
  refine aB.exit ?_
  iterate 6 refine af ?_
  refine Fin.gw rfl rfl ?_
  rfl
theorem vD(l:List Sk)(b:List Tk)(n:Int)(hn:0<=n∧n<=1000)(hl:Fg l)(hb:okB b)(ht:LU l.length b):Pure Tryz.prog 193 [lG (PV.int .i64) zE (bH l b b.length),.int .i64 n] (.agg [.int .i64 (Gx l b n),.int .i64 (GP l b n)]):=by
 have h:=Ga (bH l b b.length) n hn (E0 hl hb ht)
 rw[SH ht,RE ht] at h
 exact h
theorem E6(l:List Sk)(b:List Tk)(n:Int)(hn:0<=n∧n<=1000)(hl:Fg l)(hb:okB b)(ht:LU l.length b):Pure Tryz.prog 192 [.int .i64 n,.ip [lG (PV.int .i64) zE (bH l b b.length)] 0] (.bool (decide (Gx l b n<0))):=by
 refine Kf (N:=9) Tryz.func192 ?_
 iterate 8 refine af ?_
 refine Kc (Kp (vD l b n hn hl hb ht)) ?_
 refine Kc (aa.field rfl rfl SJ rfl) ?_
 iterate 4 refine af ?_
 exact xQ
theorem Fw(l:List Sk)(b:List Tk)(n:Int)(hn:0<=n∧n<=1000)(hl:Fg l)(hb:okB b)(ht:LU l.length b):Pure Tryz.prog 194 [.int .i64 n,.ip [lG (PV.int .i64) zE (bH l b b.length)] 0] (.bool (decide (GP l b n<=0))):=by
 refine Kf (N:=9) Tryz.func194 ?_
 iterate 8 refine af ?_
 refine Kc (Kp (vD l b n hn hl hb ht)) ?_
 refine Kc (aa.field rfl rfl TM rfl) ?_
 iterate 4 refine af ?_
 exact xQ
theorem IQ(l:List Sk)(b:List Tk)(hl:l.length<=cJ)(hb:b.length<=cJ):Pure Tryz.prog 154 [dS l,vH b] (.tuple (vY l b)):=by
 refine Kf (N:=30) Tryz.func154 ?_
 iterate 9 refine af ?_
 refine Kc (Kp (Ac _ ?_)) ?_
 ·assumption
 iterate 2 refine af ?_
 refine Kg 13 12 0 rfl (fun h=>(aa.move rfl rfl)) ?_
 refine Kg 14 12 1 rfl (fun h=>(aa.move rfl rfl)) ?_
 refine aj.g 15 12 rfl rfl rfl rfl rfl rfl rfl [(13,_),(14,_)] (fun h=>And.intro (.inr ⟨_,rfl,h⟩) (And.intro (.inr ⟨_,rfl,h⟩) (trivial))) (fun h=>(Kp (CD _ _ ?_ ?_))) ?_
 ·assumption
 ·assumption
 refine Kh 16 12 15 rfl rfl rfl rfl (fun h=>(aa.iZ rfl rfl)) ?_
 refine Kc (aa.me rfl rfl rfl ?_) ?_
 ·exact eM
 refine af ?_
 refine Ki (fun hc0=> ?_) fun hc0=> ?_
 ·iterate 7 refine af ?_
  have hv:iT l b=false:=by unfold iT;simp at hc0;rcases hc0 with h | h <;> simp[h]
  refine Fin.dW (xs:=[.agg [.int .i64 0,.int .i64 0],.int .i64 1]) rfl (⟨_,_,rfl,⟨_,_,_,rfl,an,rfl⟩,⟨_,_,rfl,rfl,rfl⟩⟩) rfl ?_
  simp[vY,hv]
 ·have hv:iT l b=true:=by unfold iT;simp at hc0;simp[hc0]
  have okl:Fg l:=R7 (by unfold iT at hv;simp at hv;exact hv.1)
  have Sb:=R8 (n:=l.length) (b:=b) (by unfold iT at hv;simp at hv;exact hv.2)
  obtain⟨r,q,cr,cq,er,eq⟩:=Cj okl Sb.1
  iterate 5 refine af ?_
  refine Kc (Kp (AL l b hl Sb.1 Sb.2)) ?_
  iterate 5 refine af ?_
  refine aj.freeze 1 rfl rfl ?_
  refine Kc (aa.makeFunc rfl rfl rfl) ?_
  refine Kc (Kp (xU 1001 r (.func 192) [] [.ip [lG (PV.int .i64) zE (bH l b b.length)] 0] _ (by decide) cr.1 cr.2.1 cr.2.2 (fun i hi=>⟨192,[.int .i64 (i:Int),.ip [lG (PV.int .i64) zE (bH l b b.length)] 0],rfl,an,E6 l b _ (by omega) okl Sb.1 Sb.2⟩))) ?_
  iterate 4 refine af ?_
  refine Kc (aa.makeFunc rfl rfl rfl) ?_
  refine Kc (Kp (xU 1000 q (.func 194) [] [.ip [lG (PV.int .i64) zE (bH l b b.length)] 0] _ (by decide) cq.1 cq.2.1 cq.2.2 (fun i hi=>⟨194,[.int .i64 (i:Int),.ip [lG (PV.int .i64) zE (bH l b b.length)] 0],rfl,an,Fw l b _ (by omega) okl Sb.1 Sb.2⟩))) ?_
  iterate 5 refine af ?_
  refine Kc (aa.iC rfl rfl rfl (aH ?_)) ?_
  ·have:=cr.1;omega
  iterate 6 refine af ?_
  refine Fin.dW (xs:=[.agg [.int .i64 ((r:Int) - 1),.int .i64 (q:Int)],.int .i64 0]) rfl (⟨_,_,rfl,⟨_,_,_,rfl,an,rfl⟩,⟨_,_,rfl,rfl,rfl⟩⟩) rfl ?_
  simp[vY,hv,er,eq]
end Go.Proofs.YtchiinjiflgepaaGreatDoor.Ck
end
