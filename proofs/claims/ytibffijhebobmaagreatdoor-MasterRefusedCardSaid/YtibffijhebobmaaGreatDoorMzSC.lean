/-
 Plain arithmetic for the sack. No program in sight.
 The sack's data, as cells.
 Small functions of the sack.
 The document: kinds, corners.
 The document: weights.
 The document: a part.
 The plain law of the sack's sums: a sum over the batch is the document's sum over the sacks. No program in sight.
 Searches; what is valid.
 The document: what is weighed.
 The plain law of shares, water and mixtures. No program in sight.
 What a sack can be: the states that are yielded.
 What a sack adds.
 Batches.
 Sums over a batch, in whatever order.
 What is beyond a share; what water lacks.
 The document: what water lacks.
 The document: beyond a share.
 Searches; shares.
 The plain law of SackMixed: what is within a share's span is what a mixture's numbers say. No program in sight.
-/
import Derived.Test.YtibffijhebobmaaGreatDoorFaSC
import Derived.Test.YtibffijhebobmaaGreatDoorMzSF
import Derived.Test.YtibffijhebobmaaGreatDoorMzSZ
theorem uP{A:Prop}(h:A:=by
 refine Kc (aa.ec rfl rfl rfl ?_) ?_
 ·exact ax
 exact dO):A:=h
theorem qK{A:Prop}(h:A:=by
 refine af ?_
 refine av.nil ?_
 iterate 2 refine af ?_
 exact jO):A:=h
theorem BA{A:Prop}(h:A:=by
 refine Kc (aa.min2 rfl rfl rfl) ?_
 iterate 3 refine af ?_
 refine Kc (aa.max2 rfl rfl rfl) ?_
 iterate 3 refine af ?_
 refine⟨_,rfl,To.done [0,1,2] rfl Sub.nil ?_⟩
 rcases Ua k with hk0 | hk0
 ·subst hk0
  first
  | exact absurd hc0 (by decide)
  | show[ai.cells [.p (.int .i64 (min _ _)),.p (.int .i64 (max _ _))] 24,.cells [.p (.bool false)] 4,_]=_
    simp only[tZ,xh,Int.min_self,Int.max_self,if_true]
    rfl
 ·have XK:¬ k=0:=by omega
  first
  | exact absurd hc0 (by simp;omega)
  | show[ai.cells [.p (.int .i64 (min _ _)),.p (.int .i64 (max _ _))] 24,.cells [.p (.bool (k==0))] 4,_]=_
    rw[hc0]
    simp only[tZ,xh,if_neg XK]
    rfl):A:=h
theorem D4{A:Prop}(h:A:=by
 have q1:=Wm (hf j) h.1
 have q2:=Wm (hf j) (show 0<=hi by omega)
 omega):A:=h
theorem D0{A:Prop}(h:A:=by
 first | (show _<=_+nc F m∧_+nc F m<=_;omega) | (show _<=_+nT F m∧_+nT F m<=_;omega)):A:=h
set_option linter.unusedSimpArgs false
set_option linter.unusedVariables false
section
namespace Go.Proofs.YtibffijhebobmaaGreatDoor.Ck
theorem Pf{a b A B:Int}(ha:0<=a∧a<=A)(hb:0<=b∧b<=B):0<=a*b∧a*b<=A*B:=
 ⟨Int.mul_nonneg ha.1 hb.1,Int.mul_le_mul ha.2 hb.2 hb.1 (Int.le_trans ha.1 ha.2)⟩
def mH(w c l:Int):Prop:=(0<=w∧w<=1000)∧(0<=c∧c<=1000)∧(0<=l∧l<=1000)
def V9(w c l:Int):Int:=w*1000*1000
def vh(w c l:Int):Int:=(1000 - w)*c*1000
def Vz(w c l:Int):Int:=(1000 - w)*(1000 - c)*l
def sX(w c l:Int):Int:=(1000 - w)*(1000 - c)*(1000 - l)
def tQ(w c l:Int):Int:=vh w c l+sX w c l
def hY(n w c l:Int):Int:=1000*vh w c l - n*tQ w c l
theorem SW{w c l:Int}(h:mH w c l):0<=(1000 - w)*c∧(1000 - w)*c<=1000000:=by
 obtain⟨hw,hc,hl⟩:=h
 exact Pf (A:=1000) (B:=1000) ⟨by omega,by omega⟩ hc
theorem Xr{w c l:Int}(h:mH w c l):0<=(1000 - w)*(1000 - c)∧(1000 - w)*(1000 - c)<=1000000:=by
 obtain⟨hw,hc,hl⟩:=h
 exact Pf (A:=1000) (B:=1000) ⟨by omega,by omega⟩ ⟨by omega,by omega⟩
theorem Fj{w c l:Int}(h:mH w c l):0<=sX w c l∧sX w c l<=1000000000:=
 Pf (A:=1000000) (B:=1000) (Xr h) ⟨by have:=h.2.2;omega,by have:=h.2.2;omega⟩
theorem wu{w c l:Int}(h:mH w c l):0<=vh w c l∧vh w c l<=1000000000:=by
 have:=SW h
 unfold vh;omega
theorem NS{w c l:Int}(h:mH w c l):0<=tQ w c l∧tQ w c l<=2000000000:=by
 have h1:=wu h
 have h2:=Fj h
 unfold tQ;omega
theorem KR{n w c l:Int}(hn:0<=n∧n<=1000)(h:mH w c l):0<=n*tQ w c l∧n*tQ w c l<=2000000000000:=
 Pf (A:=1000) (B:=2000000000) hn (NS h)
theorem YE{n w c l:Int}(hn:0<=n∧n<=1000)(h:mH w c l): -2000000000000<=hY n w c l∧hY n w c l<=1000000000000:=by
 have h1:=wu h
 have h2:=KR hn h
 unfold hY;omega
def ofF(k w c l:Int):Int:=if k=0 then V9 w c l else if k=1 then vh w c l else if k=2 then Vz w c l else if k=3 then sX w c l else tQ w c l
def iL{α:Type}(p:α->Bool):List α->Int
 | []=> -1
 | x::xs=>if p x then 0 else let r:=iL p xs;if r<0 then -1 else r+1
theorem qT{α:Type}(p:α->Bool):∀(xs:List α) (i:Nat) (h:i<xs.length),(∀ j (hj:j<i),p (xs[j]'(by omega))=false)->p xs[i]=true->iL p xs=i
 | x::xs,0,h,h1,h2=>by simp at h2;simp[iL,h2]
 | x::xs,i+1,h,h1,h2=>by
  exact Bn
theorem kN{α:Type}(p:α->Bool):∀ xs:List α,(∀ j (hj:j<xs.length),p xs[j]=false)->iL p xs= -1
 | [],_=>rfl
 | x::xs,h=>by
  exact Bv
theorem lf{α:Type}(p:α->Bool):∀ xs:List α,decide (0<=iL p xs)=xs.any p
 | []=>rfl
 | x::xs=>by
  exact Dq
def ig{α:Type}(f:α->Int)(b:List α)(i:Nat):Int:=((b.take i).map f).sum
theorem oo{α:Type}(f:α->Int)(b:List α):ig f b 0=0:=by simp[ig]
theorem gT{α:Type}(f:α->Int)(b:List α)(i:Nat)(h:i<b.length):ig f b (i+1)=ig f b i+f b[i]:=by
 unfold ig
 rw[<- ZbB h,ZC,List.sum_append]
 simp
theorem Fu{α:Type}{f:α->Int}{b:List α}{A B:Int}(h:∀ t∈b,A<=f t∧f t<=B):∀ i,i<=b.length->A*i<=ig f b i∧ig f b i<=B*i
 | 0,_=>by rw[oo];simp
 | i+1,hi=>by
  have ih:=Fu h i (by omega)
  have h1:=h b[i] (Cg _)
  rw[gT f b i hi]
  have e1:A*((i+1:Nat):Int)=A*i+A:=by rw[show((i+1:Nat):Int)=(i:Int)+1 by omega,Int.mul_add,Int.mul_one]
  have e2:B*((i+1:Nat):Int)=B*i+B:=by rw[show((i+1:Nat):Int)=(i:Int)+1 by omega,Int.mul_add,Int.mul_one]
  rw[e1,e2]
  omega
theorem RF{a b A B:Int}(hA: -A<=a∧a<=A)(hb:0<=b∧b<=B): -(B*A)<=b*a∧b*a<=B*A:=by
 have Ts:0<=A:=by omega
 have h1:b*a<=b*A:=Wm hA.2 hb.1
 have h2:b*A<=B*A:=Int.mul_le_mul_of_nonneg_right hb.2 Ts
 have h3:b*(-A)<=b*a:=Wm hA.1 hb.1
 rw[Int.mul_neg] at h3
 omega
def tZ(f:Nat->Int):Nat->Int
 | 0=>0
 | n+1=>if n=0 then f 0 else min (tZ f n) (f n)
def xh(f:Nat->Int):Nat->Int
 | 0=>0
 | n+1=>if n=0 then f 0 else max (xh f n) (f n)
theorem Ta{f:Nat->Int}{A B:Int}:∀ n,0<n->(∀ j,j<n->A<=f j∧f j<=B)->A<=tZ f n∧tZ f n<=B
 | 0,h,_=>by omega
 | n+1,_,h=>by
  have h1:=h n (by omega)
  simp only[tZ]
  split
  ·rename_i h0;exact h 0 (by omega)
  ·rename_i h0
   have ih:=Ta n (by omega) (fun j hj=>h j (by omega))
   omega
theorem S5{f:Nat->Int}{A B:Int}:∀ n,0<n->(∀ j,j<n->A<=f j∧f j<=B)->A<=xh f n∧xh f n<=B
 | 0,h,_=>by omega
 | n+1,_,h=>by
  have h1:=h n (by omega)
  simp only[xh]
  split
  ·rename_i h0;exact h 0 (by omega)
  ·rename_i h0
   have ih:=S5 n (by omega) (fun j hj=>h j (by omega))
   omega
theorem rq{α:Type}(f:α->Int)(d:List α)(m:α):((d++[m]).map f).sum=(d.map f).sum+f m:=by simp
theorem yo{α:Type}(f:α->Int):∀(r:List α) (j:Nat) (m:α),r[j]? =some m->(r.map f).sum=f m+((r.eraseIdx j).map f).sum
 | [],j,m,h=>by simp at h
 | x::r,0,m,h=>by simp at h;subst h;simp
 | x::r,j+1,m,h=>by
  have ih:=yo f r j m (by simpa using h)
  simp only[ZD,List.sum_cons,List.eraseIdx_cons_succ,ih]
  omega
theorem lN{α:Type}{f:α->Int}:∀{r:List α},(∀ m∈r,0<=f m)->0<=(r.map f).sum
 | [],_=>by simp
 | x::r,h=>by
  have h1:=h x (by simp)
  have h2:=lN (f:=f) (r:=r) (fun m hm=>h m (by simp[hm]))
  simp only[ZD,List.sum_cons]
  omega
theorem uQ{α:Type}{f:α->Int}:∀{r:List α} {x:α},(∀ m∈r,0<=f m)->x∈r->f x<=(r.map f).sum
 | [],_,_,h=>by cases h
 | y::r,x,h,hx=>by
  have h1:=h y (by simp)
  have h2:=lN (f:=f) (r:=r) (fun m hm=>h m (by simp[hm]))
  simp only[ZD,List.sum_cons]
  rcases Zw.1 hx with rfl | hx
  ·omega
  ·have:=uQ (f:=f) (fun m hm=>h m (by simp[hm])) hx
   omega
theorem sC{α:Type}{f g:α->Int}{X:Int}:∀{r:List α},(∀ m∈r,-(X*g m)<=f m∧f m<=X*g m)-> -(X*(r.map g).sum)<=(r.map f).sum∧(r.map f).sum<=X*(r.map g).sum
 | [],_=>by simp
 | x::r,h=>by
  have h1:=h x (by simp)
  have h2:=sC (r:=r) (fun m hm=>h m (by simp[hm]))
  simp only[ZD,List.sum_cons,Int.mul_add]
  omega
def iw(f:Nat->Int):Nat->Int
 | 0=>0
 | n+1=>iw f n+f n
open Go.AF
structure Sp where
 lo:Int
 hi:Int
structure Sk where
 w:Sp
 c:Sp
 l:Sp
structure Tk where
 s:Int
 m:Sp
def Sp.cells(s:Sp):List PV:=[.int .i64 s.lo,.int .i64 s.hi]
def Sk.cells(s:Sk):List PV:=[.int .i64 s.w.lo,.int .i64 s.w.hi,.int .i64 s.c.lo,.int .i64 s.c.hi,.int .i64 s.l.lo,.int .i64 s.l.hi]
def Tk.cells(t:Tk):List PV:=[.int .i64 t.s,.int .i64 t.m.lo,.int .i64 t.m.hi]
def Sp.ok(s:Sp)(lo hi:Int):Bool:=decide (lo<=s.lo)&&decide (s.lo<=s.hi)&&decide (s.hi<=hi)
def Sk.bad(s:Sk):Bool:= !s.w.ok 0 900|| !s.c.ok 0 1000|| !s.l.ok 0 900
def Tk.bad(n:Nat)(t:Tk):Bool:= !(decide (0<=t.s)&&decide (t.s<=(n:Int) - 1))|| !t.m.ok 1 100000
def cM(l:List Sk):PV:= .is (l.flatMap Sk.cells) l.length
def vI(b:List Tk):PV:= .is (b.flatMap Tk.cells) b.length
def dM(l:List Sk):Bool:=decide ((l.length:Int)<=8)&& !l.any Sk.bad
def jw(n:Nat)(b:List Tk):Bool:=decide (1<=(b.length:Int))&&decide ((b.length:Int)<=8)&& !b.any (Tk.bad n)
def okB(b:List Tk):Prop:=b.length<=8∧∀ t∈b,0<=t.m.lo∧t.m.lo<=t.m.hi∧t.m.hi<=100000
def AL(k:Int)(t:Tk):Int:=if t.s=k then t.m.lo else 0
def AM(k:Int)(t:Tk):Int:=if t.s=k then t.m.hi else 0
theorem SO{b:List Tk}(h:okB b)(k:Int)(i:Nat)(hi:i<=b.length):0<=ig (AL k) b i∧ig (AL k) b i<=800000:=by
 have:=Fu (f:=AL k) (b:=b) (A:=0) (B:=100000) (fun t ht=>by have:=h.2 t ht;unfold AL;split <;> omega) i hi
 have:=h.1
 omega
theorem S9{b:List Tk}(h:okB b)(k:Int)(i:Nat)(hi:i<=b.length):0<=ig (AM k) b i∧ig (AM k) b i<=800000:=by
 have:=Fu (f:=AM k) (b:=b) (A:=0) (B:=100000) (fun t ht=>by have:=h.2 t ht;unfold AM;split <;> omega) i hi
 have:=h.1
 omega
def Sk.cw(s:Sk)(j:Nat):Int:=if (j:Int).tmod 2=1 then s.w.hi else s.w.lo
def Sk.cc(s:Sk)(j:Nat):Int:=if ((j:Int).tdiv 2).tmod 2=1 then s.c.hi else s.c.lo
def Sk.cl(s:Sk)(j:Nat):Int:=if (j:Int).tdiv 4=1 then s.l.hi else s.l.lo
def Sk.sw(s:Sk)(i:Nat):Int:=if (i:Int)=0 then s.w.lo else s.w.hi
def Sk.sc(s:Sk)(i:Nat):Int:=if (i:Int)=0 then s.c.lo else s.c.hi
def Sk.sl(s:Sk)(i:Nat):Int:=if (i:Int)=0 then s.l.lo else s.l.hi
def sK(s:Sk)(j:Nat):PV:= .agg [.int .i64 (s.sw (j / 4)),.int .i64 (s.sc (j / 2%2)),.int .i64 (s.sl (j%2))]
def mw(s:Sk):List (List V):=(List.range 8).map fun j=>[.p (sK s j)]
theorem EK(s:Sk){i j k:Nat}(hi:i<2)(hj:j<2)(hk:k<2):(mw s)[4*i+2*j+k]? =some [.p (.agg [.int .i64 (s.sw i),.int .i64 (s.sc j),.int .i64 (s.sl k)])]:=by
 have h:4*i+2*j+k<8:=by omega
 have e1:(4*i+2*j+k) / 4=i:=by omega
 have e2:(4*i+2*j+k) / 2%2=j:=by omega
 have e3:(4*i+2*j+k)%2=k:=by omega
 simp[mw,h,sK,e1,e2,e3]
def storeCells(s:Sk)(m:Sp):List PV:=s.cells++m.cells
def fe:Sk:=⟨⟨0,0⟩,⟨0,0⟩,⟨0,0⟩⟩
def eE:Sk×Sp:=(fe,⟨0,0⟩)
def AK(a:Sk×Sp):PV:= .agg (storeCells a.1 a.2)
def gU(l:List Sk)(ms:List (Int×(Sk×Sp)))(t:Tk):List (Int×(Sk×Sp)):=
 aV t.s (l[t.s.toNat]?.getD fe,⟨((cD t.s ms).getD eE).2.lo+t.m.lo,((cD t.s ms).getD eE).2.hi+t.m.hi⟩) ms
def bL(l:List Sk)(b:List Tk)(i:Nat):List (Int×(Sk×Sp)):=(b.take i).foldl (gU l) []
theorem gS(l:List Sk)(b:List Tk)(i:Nat)(h:i<b.length):bL l b (i+1)=gU l (bL l b i) b[i]:=by
 unfold bL
 rw[<- ZbB h,Sf]
 rfl
theorem pn(l:List Sk)(b:List Tk)(k:Int):∀ i,i<=b.length->((cD k (bL l b i)).getD eE).2=⟨ig (AL k) b i,ig (AM k) b i⟩
 | 0,_=>by simp[bL,cD,oo,eE]
 | i+1,hi=>by
  have ih:=pn l b k i (by omega)
  rw[gS l b i hi,gU,lg,gT _ b i hi,gT _ b i hi]
  by_cases h:k=b[i].s
  ·have h1:=ih
   rw[if_pos h]
   simp only[TC,AL,AM,h,if_true]
   rw[h] at h1
   rw[h1]
  ·rw[if_neg h,ih]
   simp[AL,AM,Ne.symm h]
def O3(n:Nat)(b:List Tk):Prop:=∀ t∈b,0<=t.s∧t.s<(n:Int)
def nc(F:Sk->Nat->Int)(m:Int×(Sk×Sp)):Int:=tZ (fun j=>min (m.2.2.lo*F m.2.1 j) (m.2.2.hi*F m.2.1 j)) 8
def nT(F:Sk->Nat->Int)(m:Int×(Sk×Sp)):Int:=xh (fun j=>max (m.2.2.lo*F m.2.1 j) (m.2.2.hi*F m.2.1 j)) 8
def yl(m:Int×(Sk×Sp)):Int:=m.2.2.hi
theorem XG{lo hi f:Int}(hm:0<=lo∧lo<=hi)(hf: -2000000000000<=f∧f<=2000000000000):(-(2000000000000*hi)<=lo*f∧lo*f<=2000000000000*hi)∧(-(2000000000000*hi)<=hi*f∧hi*f<=2000000000000*hi):=by
 have h1:=RF (A:=2000000000000) (B:=lo) (b:=lo) hf ⟨hm.1,Ge _⟩
 have h2:=RF (A:=2000000000000) (B:=hi) (b:=hi) hf ⟨by omega,Ge _⟩
 omega
theorem Ni{F:Sk->Nat->Int}{m:Int×(Sk×Sp)}(hm:0<=m.2.2.lo∧m.2.2.lo<=m.2.2.hi)(hF:∀ j,j<8-> -2000000000000<=F m.2.1 j∧F m.2.1 j<=2000000000000): -(2000000000000*yl m)<=nc F m∧nc F m<=2000000000000*yl m:=
 Ta 8 (by omega) (fun j hj=>by have:=XG hm (hF j hj);unfold yl;omega)
theorem GO{F:Sk->Nat->Int}{m:Int×(Sk×Sp)}(hm:0<=m.2.2.lo∧m.2.2.lo<=m.2.2.hi)(hF:∀ j,j<8-> -2000000000000<=F m.2.1 j∧F m.2.1 j<=2000000000000): -(2000000000000*yl m)<=nT F m∧nT F m<=2000000000000*yl m:=
 S5 8 (by omega) (fun j hj=>by have:=XG hm (hF j hj);unfold yl;omega)
structure tW where
 d:List (Int×(Sk×Sp))
 r:List (Int×(Sk×Sp))
 last:Option (Int×(Sk×Sp))
def tW.ok(ms:List (Int×(Sk×Sp)))(g:tW):Prop:=(∀ f:Int×(Sk×Sp)->Int,(g.d.map f).sum+(g.r.map f).sum=(ms.map f).sum)∧(∀ m∈g.d,m∈ms)∧(∀ m∈g.r,m∈ms)
theorem tW.Gu{ms d r:List (Int×(Sk×Sp))}{l:Option (Int×(Sk×Sp))}{j:Nat}{m:Int×(Sk×Sp)}(h:tW.ok ms ⟨d,r,l⟩)(hj:r[j]? =some m):tW.ok ms ⟨d++[m],r.eraseIdx j,some m⟩:=by
 obtain⟨h1,h2,h3⟩:=h
 refine⟨fun f=> ?_,fun x hx=> ?_,fun x hx=>h3 x (List.mem_of_mem_eraseIdx hx)⟩
 ·have:=h1 f
  have e:=yo f r j m hj
  simp only at this ⊢
  rw[rq]
  omega
 ·rcases Zq.1 hx with hx | hx
  ·exact h2 x hx
  ·simp at hx;subst hx;exact h3 x (Zh hj)
def vj(s:Sk):Prop:=(0<=s.w.lo∧s.w.lo<=s.w.hi∧s.w.hi<=900)∧(0<=s.c.lo∧s.c.lo<=s.c.hi∧s.c.hi<=1000)∧(0<=s.l.lo∧s.l.lo<=s.l.hi∧s.l.hi<=900)
def okM(ms:List (Int×(Sk×Sp))):Prop:=(∀ m∈ms,0<=m.2.2.lo∧m.2.2.lo<=m.2.2.hi)∧(ms.map yl).sum<=800000∧∀ m∈ms,vj m.2.1
theorem vj.state{s:Sk}(h:vj s)(j:Nat):mH (s.sw (j / 4)) (s.sc (j / 2%2)) (s.sl (j%2)):=by
 unfold vj at h
 unfold mH Sk.sw Sk.sc Sk.sl
 refine⟨?_,?_,?_⟩ <;> split <;> omega
def PJ(f:Int->Int->Int->Int)(s:Sk)(j:Nat):Int:=f (s.sw (j / 4)) (s.sc (j / 2%2)) (s.sl (j%2))
def GG(b:List Tk)(i:Nat):Int:=ig (AL (i:Int)) b b.length
def HY(b:List Tk)(i:Nat):Int:=ig (AM (i:Int)) b b.length
def Ir(l:List Sk):Prop:=l.length<=8∧∀ s∈l,vj s
theorem wB{b:List Tk}(h:okB b)(i:Nat):(0<=GG b i∧GG b i<=800000)∧(0<=HY b i∧HY b i<=800000):=⟨SO h i _ (Zf _),S9 h i _ (Zf _)⟩
theorem vj.EY{s:Sk}(h:vj s)(j:Nat):mH (s.cw j) (s.cc j) (s.cl j):=by
 unfold vj at h
 unfold mH Sk.cw Sk.cc Sk.cl
 refine⟨?_,?_,?_⟩ <;> split <;> omega
def QI(n:Int)(s:Sk)(k:Nat):Int:=1000*ofF 1 (s.cw k) (s.cc k) (s.cl k) - n*ofF 4 (s.cw k) (s.cc k) (s.cl k)
def U7(l:List Sk)(b:List Tk)(n:Int)(i k:Nat):Int:=min (GG b i*QI n (l[i]?.getD fe) k) (HY b i*QI n (l[i]?.getD fe) k)
def Vg(l:List Sk)(b:List Tk)(n:Int)(i k:Nat):Int:=max (GG b i*QI n (l[i]?.getD fe) k) (HY b i*QI n (l[i]?.getD fe) k)
def Se(l:List Sk)(b:List Tk)(n:Int)(i:Nat):Int:=tZ (U7 l b n i) 8
def Sx(l:List Sk)(b:List Tk)(n:Int)(i:Nat):Int:=xh (Vg l b n i) 8
def cN:Nat:=9223372036854775807
set_option maxRecDepth 100000
set_option maxHeartbeats 4000000
theorem cP(n lo hi:Int):Pure Tryz.prog 50 [.int .i64 n,.int .i64 lo,.int .i64 hi] (.bool (decide (lo<=n)&&decide (n<=hi))):=by
 refine Kf (N:=15) Tryz.func50 ?_
 exact C9
theorem iE(a b lo hi:Int):Pure Tryz.prog 52 [.agg [.int .i64 a,.int .i64 b],.int .i64 lo,.int .i64 hi] (.bool (decide (lo<=a)&&decide (a<=b)&&decide (b<=hi))):=by
 refine Kf (N:=24) Tryz.func52 ?_
 iterate 12 refine af ?_
 refine Kg 12 11 3 rfl (fun h=>(aa.fieldAddr rfl rfl an rfl)) ?_
 refine Kh 13 11 12 rfl rfl rfl rfl (fun h=>(aa.load rfl rfl an rfl)) ?_
 refine Kg 14 11 3 rfl (fun h=>(aa.fieldAddr rfl rfl an rfl)) ?_
 refine Kh 15 11 14 rfl rfl rfl rfl (fun h=>(aa.load rfl rfl an rfl)) ?_
 refine aj.g 16 11 rfl rfl rfl rfl rfl rfl rfl [(13,_),(15,_)] (fun h=>And.intro (.inr ⟨_,rfl,h⟩) (And.intro (.inr ⟨_,rfl,h⟩) (trivial))) (fun h=>(aa.leq rfl rfl rfl)) ?_
 refine Kc (aa.ec rfl rfl rfl ?_) ?_
 ·exact ax
 refine af ?_
 refine Kg 19 18 3 rfl (fun h=>(aa.fieldAddr rfl rfl an rfl)) ?_
 refine Kh 20 18 19 rfl rfl rfl rfl (fun h=>(aa.load rfl rfl an rfl)) ?_
 refine Kg 21 18 2 rfl (fun h=>(aa.move rfl rfl)) ?_
 refine aj.g 22 18 rfl rfl rfl rfl rfl rfl rfl [(20,_),(21,_)] (fun h=>And.intro (.inr ⟨_,rfl,h⟩) (And.intro (.inr ⟨_,rfl,h⟩) (trivial))) (fun h=>(aa.leq rfl rfl rfl)) ?_
 exact uP
theorem Nb(w c l:Int)(hs:mH w c l):Pure Tryz.prog 209 [.agg [.int .i64 w,.int .i64 c,.int .i64 l]] (.int .i64 (1000 - w)):=by
 obtain⟨hw,hc,hl⟩:=id hs
 refine Kf (N:=6) Tryz.func209 ?_
 iterate 9 refine af ?_
 refine Kc (aa.fN rfl rfl rfl (aI ?_)) ?_
 ·omega
 exact dO
theorem HV(w c l:Int)(hs:mH w c l):Pure Tryz.prog 199 [.agg [.int .i64 w,.int .i64 c,.int .i64 l]] (.int .i64 (vh w c l)):=by
 obtain⟨hw,hc,hl⟩:=id hs
 have b1:=SW hs
 refine Kf (N:=9) Tryz.func199 ?_
 iterate 6 refine af ?_
 refine aF.aB 7 mixed (by kernel_rfl) (by decide) ?_
 refine af ?_
 refine Kq (Kp (Nb _ _ _ ?_)) ?_
 ·assumption
 iterate 2 refine af ?_
 refine Kq (aa.mul rfl rfl rfl (aI ?_)) ?_
 ·omega
 refine Kq (aa.mul rfl rfl rfl (aI ?_)) ?_
 ·omega
 exact qK
theorem LC(w c l:Int)(hs:mH w c l):Pure Tryz.prog 210 [.agg [.int .i64 w,.int .i64 c,.int .i64 l]] (.int .i64 (sX w c l)):=by
 obtain⟨hw,hc,hl⟩:=id hs
 have b1:=Xr hs
 have b2:=Fj hs
 unfold sX at b2
 refine Kf (N:=13) Tryz.func210 ?_
 iterate 6 refine af ?_
 refine aF.aB 11 mixed (by kernel_rfl) (by decide) ?_
 refine af ?_
 refine Kq (Kp (Nb _ _ _ ?_)) ?_
 ·assumption
 iterate 2 refine af ?_
 refine Kq (aa.fN rfl rfl rfl (aI ?_)) ?_
 ·omega
 refine Kq (aa.mul rfl rfl rfl (aI ?_)) ?_
 ·omega
 iterate 2 refine af ?_
 refine Kq (aa.fN rfl rfl rfl (aI ?_)) ?_
 ·omega
 refine Kq (aa.mul rfl rfl rfl (aI ?_)) ?_
 ·omega
 exact qK
theorem RO(w c l:Int)(hs:mH w c l):Pure Tryz.prog 200 [.agg [.int .i64 w,.int .i64 c,.int .i64 l]] (.int .i64 (tQ w c l)):=by
 obtain⟨hw,hc,hl⟩:=id hs
 have b1:=wu hs
 have b2:=Fj hs
 refine Kf (N:=8) Tryz.func200 ?_
 iterate 6 refine af ?_
 refine aF.aB 6 mixed (by kernel_rfl) (by decide) ?_
 refine af ?_
 refine Kq (Kp (HV _ _ _ ?_)) ?_
 ·assumption
 refine af ?_
 refine Kq (Kp (LC _ _ _ ?_)) ?_
 ·assumption
 refine Kq (aa.add rfl rfl rfl (aI ?_)) ?_
 ·omega
 exact qK
theorem RL(n w c l:Int)(hn:0<=n∧n<=1000)(hs:mH w c l):Pure Tryz.prog 165 [.agg [.int .i64 w,.int .i64 c,.int .i64 l],.int .i64 n] (.int .i64 (hY n w c l)):=by
 obtain⟨hw,hc,hl⟩:=id hs
 have b1:=wu hs
 have b2:=NS hs
 have b3:=KR hn hs
 refine Kf (N:=13) Tryz.func165 ?_
 iterate 6 refine af ?_
 refine aF.aB 9 mixed (by kernel_rfl) (by decide) ?_
 refine af ?_
 refine Kq (Kp (HV _ _ _ ?_)) ?_
 ·assumption
 refine Kq (aa.mul rfl rfl rfl (aI ?_)) ?_
 ·omega
 iterate 2 refine af ?_
 refine Kq (Kp (RO _ _ _ ?_)) ?_
 ·assumption
 refine Kq (aa.mul rfl rfl rfl (aI ?_)) ?_
 ·omega
 refine Kq (aa.fN rfl rfl rfl (aI ?_)) ?_
 ·omega
 exact qK
def Jd(f:Nat->Int):Nat->Int
 | 0=>f 0
 | n+1=>min (Jd f n) (f n)
theorem CZ{K α:Type}[DecidableEq K]{k:K}{v:α}:∀{ms:List (K×α)},cD k ms=some v->(k,v)∈ms
 | [],h=>by simp[cD] at h
 | m::r,h=>by
  simp only[cD] at h
  split at h
  ·rename_i hk
   simp at h
   subst h;subst hk
   simp
  ·exact Zl _ (CZ h)
theorem EN{K α:Type}[DecidableEq K]{k:K}{a:α}{x:K×α}:∀{ms:List (K×α)},x∈aV k a ms->x=(k,a)∨x∈ms
 | [],h=>by simp[aV] at h;exact .inl h
 | m::r,h=>by
  simp only[aV] at h
  split at h
  ·rcases Zw.1 h with h | h
   ·exact .inl h
   ·exact .inr (Zl _ h)
  ·rcases Zw.1 h with h | h
   ·exact .inr (by simp[h])
   ·rcases EN h with h | h
    ·exact .inl h
    ·exact .inr (Zl _ h)
theorem vu{K α:Type}[DecidableEq K](f:α->Int)(k:K)(a z:α)(hz:f z=0):∀ ms:List (K×α),((aV k a ms).map fun m=>f m.2).sum=(ms.map fun m=>f m.2).sum - f ((cD k ms).getD z)+f a
 | []=>by simp[aV,cD,hz]
 | m::r=>by
  simp only[aV,cD]
  split
  ·rename_i hk
   simp
   omega
  ·have ih:=vu f k a z hz r
   simp only[ZD,List.sum_cons,ih]
   omega
theorem lJ{f g:Nat->Int}:∀ n,(∀ j,j<n->f j=g j)->iw f n=iw g n
 | 0,_=>rfl
 | n+1,h=>by simp only[iw];rw[lJ n (fun j hj=>h j (by omega)),h n (by omega)]
theorem ld{f:Nat->Int}:∀ n,(∀ j,j<n->f j=0)->iw f n=0
 | 0,_=>rfl
 | n+1,h=>by simp only[iw];rw[ld n (fun j hj=>h j (by omega)),h n (by omega)];rfl
theorem sP{f g:Nat->Int}{k:Nat}:∀ n,k<n->(∀ j,j<n->j≠k->g j=f j)->iw g n=iw f n - f k+g k
 | 0,h,_=>by omega
 | n+1,h,hj=>by
  exact BW
theorem xB(l:List Sk)(b:List Tk)(k:Int)(v:Sk×Sp):∀ i,i<=b.length->cD k (bL l b i)=some v->v.1=l[k.toNat]?.getD fe
 | 0,_,h=>by simp[bL,cD] at h
 | i+1,hi,h=>by
  rw[gS l b i hi,gU,lg] at h
  split at h
  ·rename_i hk
   simp at h
   subst h
   simp[hk]
  ·exact xB l b k v i (by omega) h
theorem xM{l:List Sk}{b:List Tk}(hl:Ir l)(hb:okB b)(ht:O3 l.length b):∀ i,i<=b.length->∀ m∈bL l b i,(0<=m.2.2.lo∧m.2.2.lo<=m.2.2.hi)∧vj m.2.1
 | 0,_,m,h=>by simp[bL] at h
 | i+1,hi,m,h=>by
  have ih:=xM hl hb ht i (by omega)
  rw[gS l b i hi,gU] at h
  rcases EN h with h | h
  ·subst h
   have h1:=hb.2 b[i] (Cg _)
   have h2:=ht b[i] (Cg _)
   have h3:b[i].s.toNat<l.length:=by omega
   have h4:0<=((cD b[i].s (bL l b i)).getD eE).2.lo∧((cD b[i].s (bL l b i)).getD eE).2.lo<=((cD b[i].s (bL l b i)).getD eE).2.hi:=by
    cases hg:cD b[i].s (bL l b i) with
    | none=>simp[eE]
    | some v=>have:=(ih _ (CZ hg)).1;simpa using this
   refine⟨⟨by dsimp only;omega,by dsimp only;omega⟩,?_⟩
   dsimp only
   rw[Zb h3,TC]
   exact hl.2 _ (Cg _)
  ·exact ih m h
theorem pg{l:List Sk}{b:List Tk}(ht:O3 l.length b)(g:Sk->Int->Int->Int)(h0:∀ s,g s 0 0=0):∀ i,i<=b.length->
    ((bL l b i).map fun m=>g m.2.1 m.2.2.lo m.2.2.hi).sum=iw (fun j=>g (l[j]?.getD fe) (ig (AL (j:Int)) b i) (ig (AM (j:Int)) b i)) l.length
 | 0,_=>by
  rw[ld]
  ·simp[bL]
  ·intro j _
   simp only[oo]
   exact h0 _
 | i+1,hi=>by
  have ih:=pg ht g h0 i (by omega)
  have h2:=ht b[i] (Cg _)
  have h3:b[i].s.toNat<l.length:=by omega
  have e0:((b[i].s.toNat:Nat):Int)=b[i].s:=by omega
  rw[gS l b i hi,gU,vu (fun v:Sk×Sp=>g v.1 v.2.lo v.2.hi) b[i].s _ eE (by simp[eE,h0]),ih,
   sP (f:=fun j:Nat=>g (l[j]?.getD fe) (ig (AL (j:Int)) b i) (ig (AM (j:Int)) b i)) (g:=fun j:Nat=>g (l[j]?.getD fe) (ig (AL (j:Int)) b (i+1)) (ig (AM (j:Int)) b (i+1))) l.length h3 (fun j hj hn=>by
    have hne:¬ b[i].s=(j:Int):=by omega
    simp only[gT _ b i hi,AL,AM,if_neg hne,Int.add_zero])]
  have hg:=pn l b b[i].s i (by omega)
  have e1:g ((cD b[i].s (bL l b i)).getD eE).1 ((cD b[i].s (bL l b i)).getD eE).2.lo ((cD b[i].s (bL l b i)).getD eE).2.hi=g (l[b[i].s.toNat]?.getD fe) (ig (AL b[i].s) b i) (ig (AM b[i].s) b i):=by
   cases hm:cD b[i].s (bL l b i) with
   | none=>
    rw[hm] at hg
    simp only[Option.getD_none,eE] at hg ⊢
    have q1:ig (AL b[i].s) b i=0:=(congrArg Sp.lo hg).symm
    have q2:ig (AM b[i].s) b i=0:=(congrArg Sp.hi hg).symm
    rw[q1,q2,h0,h0]
   | some v=>
    rw[hm] at hg
    simp only[TC] at hg ⊢
    rw[xB l b _ v i (by omega) hm,hg]
  dsimp only
  rw[e1,e0,hg,gT _ b i hi,gT _ b i hi]
  simp only[AL,AM,if_true]
theorem zk{l:List Sk}{b:List Tk}(hb:okB b):∀ i,i<=b.length->((bL l b i).map yl).sum<=100000*(i:Int)
 | 0,_=>by simp[bL]
 | i+1,hi=>by
  have ih:=zk (l:=l) hb i (by omega)
  have h1:=hb.2 b[i] (Cg _)
  have e:=vu (fun v:Sk×Sp=>v.2.hi) b[i].s (l[b[i].s.toNat]?.getD fe,⟨((cD b[i].s (bL l b i)).getD eE).2.lo+b[i].m.lo,((cD b[i].s (bL l b i)).getD eE).2.hi+b[i].m.hi⟩) eE rfl (bL l b i)
  rw[gS l b i hi,gU]
  unfold yl at ih ⊢
  rw[e]
  dsimp only
  omega
theorem Jk{l:List Sk}{b:List Tk}(hl:Ir l)(hb:okB b)(ht:O3 l.length b):okM (bL l b b.length):=by
 have h:=xM hl hb ht b.length (Zf _)
 refine⟨fun m hm=>(h m hm).1,?_,fun m hm=>(h m hm).2⟩
 have:=zk (l:=l) hb b.length (Zf _)
 have:=hb.1
 omega
theorem Aa(f:Nat->Int):∀ n j,j<n->tZ f n<=f j
 | 0,j,h=>by omega
 | n+1,j,h=>by
  simp only[tZ]
  split
  ·rename_i h0;subst h0;obtain rfl:j=0:=by omega
   exact Ge _
  ·rcases O2.1 h with h1 | rfl
   ·have:=Aa f n j h1;omega
   ·omega
theorem z8(f:Nat->Int):∀ n,0<n->∃ j,j<n∧tZ f n=f j
 | 0,h=>by omega
 | n+1,_=>by
  simp only[tZ]
  split
  ·rename_i h0;exact⟨0,by omega,rfl⟩
  ·obtain⟨j,h1,h2⟩:=z8 f n (by omega)
   rcases Int.le_total (tZ f n) (f n) with h | h
   ·exact⟨j,by omega,by omega⟩
   ·exact⟨n,by omega,by omega⟩
theorem As(f:Nat->Int):∀ n j,j<n->f j<=xh f n
 | 0,j,h=>by omega
 | n+1,j,h=>by
  simp only[xh]
  split
  ·rename_i h0;subst h0;obtain rfl:j=0:=by omega
   exact Ge _
  ·rcases O2.1 h with h1 | rfl
   ·have:=As f n j h1;omega
   ·omega
theorem zQ(f:Nat->Int):∀ n,0<n->∃ j,j<n∧xh f n=f j
 | 0,h=>by omega
 | n+1,_=>by
  simp only[xh]
  split
  ·rename_i h0;exact⟨0,by omega,rfl⟩
  ·obtain⟨j,h1,h2⟩:=zQ f n (by omega)
   rcases Int.le_total (f n) (xh f n) with h | h
   ·exact⟨j,by omega,by omega⟩
   ·exact⟨n,by omega,by omega⟩
theorem Ti{f g:Nat->Int}{n:Nat}(hn:0<n)(h1:∀ j,j<n->∃ i,i<n∧g i<=f j)(h2:∀ j,j<n->∃ i,i<n∧f i<=g j):tZ f n=tZ g n:=by
 obtain⟨j,hj,ej⟩:=z8 f n hn
 obtain⟨k,hk,ek⟩:=z8 g n hn
 obtain⟨i,hi,le1⟩:=h1 j hj
 obtain⟨i',hi',le2⟩:=h2 k hk
 have:=Aa g n i hi
 have:=Aa f n i' hi'
 omega
theorem TD{f g:Nat->Int}{n:Nat}(hn:0<n)(h1:∀ j,j<n->∃ i,i<n∧f j<=g i)(h2:∀ j,j<n->∃ i,i<n∧g j<=f i):xh f n=xh g n:=by
 obtain⟨j,hj,ej⟩:=zQ f n hn
 obtain⟨k,hk,ek⟩:=zQ g n hn
 obtain⟨i,hi,le1⟩:=h1 j hj
 obtain⟨i',hi',le2⟩:=h2 k hk
 have:=As g n i hi
 have:=As f n i' hi'
 omega
def sig(k:Nat):Nat:=4*(k%2)+2*(k / 2%2)+k / 4%2
theorem tg(k:Nat):sig k<8:=by unfold sig;omega
theorem GR:∀ k,k<8->sig (sig k)=k:=by decide
theorem HO(f:Int->Int->Int->Int)(s:Sk):∀ k,k<8->PJ f s (sig k)=f (s.cw k) (s.cc k) (s.cl k)
 | 0,_=>rfl | 1,_=>rfl | 2,_=>rfl | 3,_=>rfl | 4,_=>rfl | 5,_=>rfl | 6,_=>rfl | 7,_=>rfl
 | n+8,h=>by omega
theorem RW(h:Nat->Int)(g:Nat->Int)(e:∀ k,k<8->h (sig k)=g k):tZ h 8=tZ g 8:=
 Ti (by omega) (fun j hj=>⟨sig j,tg j,by rw[<- e _ (tg j),GR j hj];exact Ge _⟩) (fun j hj=>⟨sig j,tg j,by rw[e j hj];exact Ge _⟩)
theorem QN(h:Nat->Int)(g:Nat->Int)(e:∀ k,k<8->h (sig k)=g k):xh h 8=xh g 8:=
 TD (by omega) (fun j hj=>⟨sig j,tg j,by rw[<- e _ (tg j),GR j hj];exact Ge _⟩) (fun j hj=>⟨sig j,tg j,by rw[e j hj];exact Ge _⟩)
theorem sY(c:Int):∀ n,0<n->tZ (fun _=>c) n=c
 | 0,h=>by omega
 | n+1,_=>by
  simp only[tZ]
  split
  ·rfl
  ·rw[sY c n (by omega)];omega
theorem yO(c:Int):∀ n,0<n->xh (fun _=>c) n=c
 | 0,h=>by omega
 | n+1,_=>by
  simp only[xh]
  split
  ·rfl
  ·rw[yO c n (by omega)];omega
def J6(f:Int->Int->Int->Int)(s:Sk)(lo hi:Int):Int:=tZ (fun k=>min (lo*f (s.cw k) (s.cc k) (s.cl k)) (hi*f (s.cw k) (s.cc k) (s.cl k))) 8
def Qa(f:Int->Int->Int->Int)(s:Sk)(lo hi:Int):Int:=xh (fun k=>max (lo*f (s.cw k) (s.cc k) (s.cl k)) (hi*f (s.cw k) (s.cc k) (s.cl k))) 8
theorem Oz(f:Int->Int->Int->Int)(s:Sk):J6 f s 0 0=0:=by
 unfold J6
 simp only[Int.zero_mul,Int.min_self]
 exact sY 0 8 (by omega)
theorem Le(f:Int->Int->Int->Int)(s:Sk):Qa f s 0 0=0:=by
 unfold Qa
 simp only[Int.zero_mul,Int.max_self]
 exact yO 0 8 (by omega)
theorem Uz(f:Int->Int->Int->Int)(m:Int×(Sk×Sp)):nc (PJ f) m=J6 f m.2.1 m.2.2.lo m.2.2.hi:=
 RW _ _ (fun k hk=>by simp only[HO f m.2.1 k hk])
theorem Qi(f:Int->Int->Int->Int)(m:Int×(Sk×Sp)):nT (PJ f) m=Qa f m.2.1 m.2.2.lo m.2.2.hi:=
 QN _ _ (fun k hk=>by simp only[HO f m.2.1 k hk])
def sLo(f:Int->Int->Int->Int)(l:List Sk)(b:List Tk):Int:=iw (fun i=>J6 f (l[i]?.getD fe) (GG b i) (HY b i)) l.length
def sHi(f:Int->Int->Int->Int)(l:List Sk)(b:List Tk):Int:=iw (fun i=>Qa f (l[i]?.getD fe) (GG b i) (HY b i)) l.length
theorem UJ{l:List Sk}{b:List Tk}(ht:O3 l.length b)(f:Int->Int->Int->Int):((bL l b b.length).map (nc (PJ f))).sum=sLo f l b:=by
 have:=pg ht (J6 f) (Oz f) b.length (Zf _)
 unfold sLo GG HY
 rw[<- this]
 congr 1
 exact Wk fun m _=>Uz f m
theorem Vo{l:List Sk}{b:List Tk}(ht:O3 l.length b)(f:Int->Int->Int->Int):((bL l b b.length).map (nT (PJ f))).sum=sHi f l b:=by
 have:=pg ht (Qa f) (Le f) b.length (Zf _)
 unfold sHi GG HY
 rw[<- this]
 congr 1
 exact Wk fun m _=>Qi f m
theorem zN(l:List Sk)(b:List Tk)(n:Int)(i:Nat):Se l b n i=J6 (hY n) (l[i]?.getD fe) (GG b i) (HY b i):=rfl
theorem Hu(l:List Sk)(b:List Tk)(n:Int)(i:Nat):Sx l b n i=Qa (hY n) (l[i]?.getD fe) (GG b i) (HY b i):=rfl
theorem wLe{b:List Tk}(h:okB b)(i:Nat):GG b i<=HY b i:=by
 unfold GG HY
 have gen:∀ n,n<=b.length->ig (AL (i:Int)) b n<=ig (AM (i:Int)) b n:=by
  intro n
  induction n with
  | zero=>intro _;simp[oo]
  | succ n ih=>
   intro hn
   have:=ih (by omega)
   have:=h.2 b[n] (Cg _)
   rw[gT _ b n hn,gT _ b n hn]
   simp only[AL,AM]
   split <;> omega
 exact gen _ (Zf _)
theorem aaa{f:Int->Int->Int->Int}{s:Sk}{lo hi:Int}(h:0<=lo∧lo<=hi)(hf:∀ k,0<=f (s.cw k) (s.cc k) (s.cl k)):J6 f s lo hi=lo*Jd (fun k=>f (s.cw k) (s.cc k) (s.cl k)) 8:=by
 have gen:∀ n,0<n->tZ (fun k=>min (lo*f (s.cw k) (s.cc k) (s.cl k)) (hi*f (s.cw k) (s.cc k) (s.cl k))) n=lo*Jd (fun k=>f (s.cw k) (s.cc k) (s.cl k)) n:=by
  intro n hn
  have e:∀ k,min (lo*f (s.cw k) (s.cc k) (s.cl k)) (hi*f (s.cw k) (s.cc k) (s.cl k))=lo*f (s.cw k) (s.cc k) (s.cl k):=fun k=>by
   have:=Int.mul_le_mul_of_nonneg_right h.2 (hf k)
   omega
  simp only[e]
  induction n with
  | zero=>omega
  | succ n ih=>
   simp only[tZ,Jd]
   split
   ·rename_i h0;subst h0;simp[Jd]
   ·rw[ih (by omega)]
    rcases Int.le_total (Jd (fun k=>f (s.cw k) (s.cc k) (s.cl k)) n) (f (s.cw n) (s.cc n) (s.cl n)) with h1 | h1
    ·rw[Int.min_eq_left h1,Int.min_eq_left (Wm h1 h.1)]
    ·rw[Int.min_eq_right h1,Int.min_eq_right (Wm h1 h.1)]
 exact gen 8 (by omega)
theorem Ir.get{l:List Sk}(h:Ir l){i:Nat}(hi:i<l.length):vj (l[i]?.getD fe):=by
 rw[Zb hi,TC]
 exact h.2 _ (Cg _)
theorem kF{f g:Nat->Int}:∀ n,(∀ j,j<n->f j<=g j)->iw f n<=iw g n
 | 0,_=>Ge _
 | n+1,h=>by
  exact Ec
theorem AR{f g:Int->Int->Int->Int}{s:Sk}{lo hi:Int}(h:0<=lo∧lo<=hi)(hf:∀ k,f (s.cw k) (s.cc k) (s.cl k)<=g (s.cw k) (s.cc k) (s.cl k)):J6 f s lo hi<=J6 g s lo hi:=by
 unfold J6
 obtain⟨j,hj,ej⟩:=z8 (fun k=>min (lo*g (s.cw k) (s.cc k) (s.cl k)) (hi*g (s.cw k) (s.cc k) (s.cl k))) 8 (by omega)
 have h1:=Aa (fun k=>min (lo*f (s.cw k) (s.cc k) (s.cl k)) (hi*f (s.cw k) (s.cc k) (s.cl k))) 8 j hj
 exact D4
theorem M6{f g:Int->Int->Int->Int}{s:Sk}{lo hi:Int}(h:0<=lo∧lo<=hi)(hf:∀ k,f (s.cw k) (s.cc k) (s.cl k)<=g (s.cw k) (s.cc k) (s.cl k)):Qa f s lo hi<=Qa g s lo hi:=by
 unfold Qa
 obtain⟨j,hj,ej⟩:=zQ (fun k=>max (lo*f (s.cw k) (s.cc k) (s.cl k)) (hi*f (s.cw k) (s.cc k) (s.cl k))) 8 (by omega)
 have h1:=As (fun k=>max (lo*g (s.cw k) (s.cc k) (s.cl k)) (hi*g (s.cw k) (s.cc k) (s.cl k))) 8 j hj
 exact D4
def Ko(l:List Sk)(b:List Tk)(n:Int):Int:=iw (Se l b n) l.length
def Nn(l:List Sk)(b:List Tk)(n:Int):Int:=iw (Sx l b n) l.length
theorem wG{m n w c l:Int}(h:m<=n)(hs:mH w c l):hY n w c l<=hY m w c l:=by
 have:=Int.mul_le_mul_of_nonneg_right h (NS hs).1
 unfold hY;omega
theorem Mf{l:List Sk}{b:List Tk}(hl:Ir l)(hb:okB b){m n:Int}(h:m<=n):Ko l b n<=Ko l b m:=
 kF _ fun i hi=>by
  rw[zN,zN]
  exact AR ⟨(wB hb i).1.1,wLe hb i⟩ fun k=>wG h ((hl.get hi).EY k)
theorem Ly{l:List Sk}{b:List Tk}(hl:Ir l)(hb:okB b){m n:Int}(h:m<=n):Nn l b n<=Nn l b m:=
 kF _ fun i hi=>by
  rw[Hu,Hu]
  exact M6 ⟨(wB hb i).1.1,wLe hb i⟩ fun k=>wG h ((hl.get hi).EY k)
theorem sN(xs:List Sk)(f:PV)(p:Sk->Bool)(hx:xs.length<=cN)(hf:∀ x∈xs,jG Tryz.prog f [.agg x.cells] (.bool (p x))):Pure Tryz.prog 162 [.is (xs.flatMap Sk.cells) xs.length,f] (.int .i64 (iL p xs)):=by
 unfold cN at hx
 refine Kf (N:=19) Tryz.func162 ?_
 iterate 12 refine af ?_
 refine aF.yW [4,5,8,9,10,11,12,13,14,15,16,17,18] (fun g=>[(8,.p (.int .i64 ((g:Nat):Int)))]) (fun g=>g<=xs.length∧∀ j (hj:j<g) (h:g<=xs.length),p (xs[j]'(by omega))=false) (fun g=>xs.length - g) 0 ⟨Zp _,fun j hj=>absurd hj (by omega)⟩ (Sub.cons rfl (Sub.nil)) (fun i hg=> ?_)
 obtain⟨zE,nk⟩:=hg
 iterate 5 refine af ?_
 refine Ki (fun hc0=> ?_) fun hc0=> ?_
 ·iterate 13 refine af ?_
  refine Kc (aa.j7 rfl rfl rfl an OT rfl (fun _=>rfl) (by decide) ?_) ?_
  ·simp at hc0;omega
  exact xA
 ·exact xG
theorem sA(xs:List Tk)(f:PV)(p:Tk->Bool)(hx:xs.length<=cN)(hf:∀ x∈xs,jG Tryz.prog f [.agg x.cells] (.bool (p x))):Pure Tryz.prog 212 [.is (xs.flatMap Tk.cells) xs.length,f] (.int .i64 (iL p xs)):=by
 unfold cN at hx
 refine Kf (N:=19) Tryz.func212 ?_
 iterate 12 refine af ?_
 refine aF.yW [4,5,8,9,10,11,12,13,14,15,16,17,18] (fun g=>[(8,.p (.int .i64 ((g:Nat):Int)))]) (fun g=>g<=xs.length∧∀ j (hj:j<g) (h:g<=xs.length),p (xs[j]'(by omega))=false) (fun g=>xs.length - g) 0 ⟨Zp _,fun j hj=>absurd hj (by omega)⟩ (Sub.cons rfl (Sub.nil)) (fun i hg=> ?_)
 obtain⟨zE,nk⟩:=hg
 iterate 5 refine af ?_
 refine Ki (fun hc0=> ?_) fun hc0=> ?_
 ·iterate 13 refine af ?_
  refine Kc (aa.j7 rfl rfl rfl an SF rfl (fun _=>rfl) (by decide) ?_) ?_
  ·simp at hc0;omega
  exact xA
 ·exact xG
theorem oT(xs:List Sk)(f:PV)(p:Sk->Bool)(hx:xs.length<=cN)(hf:∀ x∈xs,jG Tryz.prog f [.agg x.cells] (.bool (p x))):Pure Tryz.prog 114 [.is (xs.flatMap Sk.cells) xs.length,f] (.bool (xs.any p)):=by
 refine Kf (N:=9) Tryz.func114 ?_
 iterate 8 refine af ?_
 refine Kc (Kp (sN _ _ p ?_ ?_)) ?_
 ·exact hx
 ·exact hf
 exact ve
theorem oQ(xs:List Tk)(f:PV)(p:Tk->Bool)(hx:xs.length<=cN)(hf:∀ x∈xs,jG Tryz.prog f [.agg x.cells] (.bool (p x))):Pure Tryz.prog 206 [.is (xs.flatMap Tk.cells) xs.length,f] (.bool (xs.any p)):=by
 refine Kf (N:=9) Tryz.func206 ?_
 iterate 8 refine af ?_
 refine Kc (Kp (sA _ _ p ?_ ?_)) ?_
 ·exact hx
 ·exact hf
 exact ve
theorem Ax(s:Sk):Pure Tryz.prog 113 [.agg s.cells] (.bool s.bad):=by
 refine Kf (N:=19) Tryz.func113 ?_
 iterate 9 refine af ?_
 refine Kc (Kp (iE _ _ _ _)) ?_
 iterate 2 refine af ?_
 refine Kg 8 7 1 rfl (fun h=>(aa.fieldAddr rfl rfl an rfl)) ?_
 refine Kh 9 7 8 rfl rfl rfl rfl (fun h=>(aa.load rfl rfl an rfl)) ?_
 refine Kh 10 7 9 rfl rfl rfl rfl (fun h=>(Kp (iE _ _ _ _))) ?_
 refine Kh 11 7 10 rfl rfl rfl rfl (fun h=>(aa.gW rfl rfl)) ?_
 refine Kc (aa.kA rfl rfl rfl ?_) ?_
 ·exact ax
 refine af ?_
 refine Kg 14 13 1 rfl (fun h=>(aa.fieldAddr rfl rfl an rfl)) ?_
 refine Kh 15 13 14 rfl rfl rfl rfl (fun h=>(aa.load rfl rfl an rfl)) ?_
 refine Kh 16 13 15 rfl rfl rfl rfl (fun h=>(Kp (iE _ _ _ _))) ?_
 refine Kh 17 13 16 rfl rfl rfl rfl (fun h=>(aa.gW rfl rfl)) ?_
 refine Kc (aa.kA rfl rfl rfl ?_) ?_
 ·exact ax
 exact dO
theorem BE(l:List Sk)(t:Tk)(hx:l.length<=cN):Pure Tryz.prog 205 [.agg t.cells,.ip [cM l] 0] (.bool (t.bad l.length)):=by
 refine Kf (N:=17) Tryz.func205 ?_
 iterate 11 refine af ?_
 refine Kc (aa.fN rfl rfl rfl (aI ?_)) ?_
 ·unfold cN at*;omega
 refine Kc (Kp (cP _ _ _)) ?_
 iterate 2 refine af ?_
 refine Kg 12 11 2 rfl (fun h=>(aa.fieldAddr rfl rfl an rfl)) ?_
 refine Kh 13 11 12 rfl rfl rfl rfl (fun h=>(aa.load rfl rfl an rfl)) ?_
 refine Kh 14 11 13 rfl rfl rfl rfl (fun h=>(Kp (iE _ _ _ _))) ?_
 refine Kh 15 11 14 rfl rfl rfl rfl (fun h=>(aa.gW rfl rfl)) ?_
 refine Kc (aa.kA rfl rfl rfl ?_) ?_
 ·exact ax
 exact dO
theorem Bz(l:List Sk)(hx:l.length<=cN):Pure Tryz.prog 51 [cM l] (.bool (dM l)):=by
 refine Kf (N:=13) Tryz.func51 ?_
 iterate 14 refine af ?_
 refine Kg 8 7 0 rfl (fun h=>(aa.move rfl rfl)) ?_
 refine Kg 9 7 3 rfl (fun h=>(aa.move rfl rfl)) ?_
 refine aj.g 10 7 rfl rfl rfl rfl rfl rfl rfl [(8,_),(9,_)] (fun h=>And.intro (.inr ⟨_,rfl,h⟩) (And.intro (.inr ⟨_,rfl,h⟩) (trivial))) (fun h=>(Kp (oT l _ Sk.bad ?_ ?_))) ?_
 ·exact hx
 ·exact fun x _=>⟨113,[.agg x.cells],rfl,an,Ax x⟩
 refine Kh 11 7 10 rfl rfl rfl rfl (fun h=>(aa.gW rfl rfl)) ?_
 exact uP
theorem E8(l:List Sk)(b:List Tk)(hx:l.length<=cN)(hb:b.length<=cN):Pure Tryz.prog 178 [cM l,vI b] (.bool (jw l.length b)):=by
 refine Kf (N:=16) Tryz.func178 ?_
 iterate 7 refine af ?_
 refine Kc (aa.makeFunc rfl rfl rfl) ?_
 iterate 6 refine af ?_
 refine Kc (Kp (cP _ _ _)) ?_
 refine af ?_
 refine Kg 11 10 1 rfl (fun h=>(aa.move rfl rfl)) ?_
 refine Kg 12 10 5 rfl (fun h=>(aa.move rfl rfl)) ?_
 refine aj.g 13 10 rfl rfl rfl rfl rfl rfl rfl [(11,_),(12,_)] (fun h=>And.intro (.inr ⟨_,rfl,h⟩) (And.intro (.inr ⟨_,rfl,h⟩) (trivial))) (fun h=>(Kp (oQ b _ (Tk.bad l.length) ?_ ?_))) ?_
 ·exact hb
 ·exact fun x _=>⟨205,[.agg x.cells,.ip [cM l] 0],rfl,an,BE l x hx⟩
 refine Kh 14 10 13 rfl rfl rfl rfl (fun h=>(aa.gW rfl rfl)) ?_
 exact uP
theorem TA{l:List Sk}(h:dM l=true):Ir l:=by
 unfold dM at h
 simp only[Zm,Zn,Ku,Ru] at h
 refine⟨by omega,fun s hs=> ?_⟩
 have:=h.2 s hs
 simp[Sk.bad,Sp.ok] at this
 unfold vj
 omega
theorem UF{n:Nat}{b:List Tk}(h:jw n b=true):okB b∧O3 n b:=by
 unfold jw at h
 simp only[Zm,Zn,Ku,Ru] at h
 refine⟨⟨by omega,fun t ht=> ?_⟩,fun t ht=> ?_⟩ <;>
 ·have:=h.2 t ht
  simp[Tk.bad,Sp.ok] at this
  omega
def iB(l:List Sk)(b:List Tk):Bool:=dM l&&jw l.length b
theorem lP(p:Nat->Bool):∀ n,(∀ i j,i<=j->j<n->p i=true->p j=true)->∃ r,r<=n∧(∀ i,i<r->p i=false)∧∀ i,r<=i->i<n->p i=true
 | 0,_=>⟨0,Zf _,fun i h=>by omega,fun i _ h=>by omega⟩
 | n+1,hp=>by
  exact BR
def tV(l:List Sk)(b:List Tk):Nat->Int
 | 0=>0
 | s+1=>if 0<=Ko l b s then(s:Int) else tV l b s
def lM(l:List Sk)(b:List Tk):Nat->Int
 | 0=>1000
 | s+1=>if Nn l b s<=0 then min (lM l b s) s else lM l b s
def uJ(l:List Sk)(b:List Tk):List PV:=
 if iB l b then[.agg [.int .i64 (tV l b 1001),.int .i64 (lM l b 1001)],.int .i64 0] else[.agg [.int .i64 0,.int .i64 0],.int .i64 1]
theorem BO{l:List Sk}{b:List Tk}{r:Nat}(h0:0<r)(h1:∀ i,i<r->0<=Ko l b i):∀ n,r<=n->(∀ i,r<=i->i<n->Ko l b i<0)->tV l b n=r - 1
 | 0,h,_=>by omega
 | n+1,h,h2=>by
  simp only[tV]
  by_cases e:r=n+1
  ·subst e
   rw[if_pos (h1 n (by omega))];omega
  ·rw[if_neg (by have:=h2 n (by omega) (by omega);omega)]
   exact BO h0 h1 n (by omega) (fun i hi hj=>h2 i hi (by omega))
theorem NJ{l:List Sk}{b:List Tk}{r:Nat}(hr:r<=1000)(h1:∀ i,i<r->0<Nn l b i)(h2:∀ i,r<=i->i<1000->Nn l b i<=0):lM l b 1001=r:=by
 have g1:∀ n,n<=r->lM l b n=1000:=by
  intro n
  induction n with
  | zero=>intro _;rfl
  | succ n ih=>
   intro hn
   simp only[lM]
   rw[if_neg (by have:=h1 n (by omega);omega)]
   exact ih (by omega)
 have g2:∀ n,n<=1000->r<n->lM l b n=r:=by
  intro n
  induction n with
  | zero=>intro _ h;omega
  | succ n ih=>
   intro hn hr'
   simp only[lM]
   rw[if_pos (h2 n (by omega) (by omega))]
   by_cases e:r=n
   ·subst e;rw[g1 r (Zf _)];omega
   ·rw[ih (by omega) (by omega)];omega
 have Xj:lM l b 1000=r:=by
  by_cases e:r=1000
  ·rw[g1 1000 (by omega)];omega
  ·exact g2 1000 (by omega) (by omega)
 show(if Nn l b (1000:Nat)<=0 then min (lM l b 1000) ((1000:Nat):Int) else lM l b 1000)=r
 rw[Xj]
 split <;> omega
theorem N9{l:List Sk}{b:List Tk}(hl:Ir l)(hb:okB b):0<=Ko l b 0:=by
 have h:iw (fun _=>0) l.length<=Ko l b 0:=kF _ fun i hi=>by
  rw[zN]
  have h1:=AR (f:=fun _ _ _=>0) (g:=hY 0) (s:=l[i]?.getD fe) (lo:=GG b i) (hi:=HY b i) ⟨(wB hb i).1.1,wLe hb i⟩ (fun k=>by
   have:=wu ((hl.get hi).EY k)
   simp only[hY];omega)
  have h2:J6 (fun _ _ _=>0) (l[i]?.getD fe) (GG b i) (HY b i)=0:=by
   unfold J6
   simp only[Int.mul_zero,Int.min_self]
   exact sY 0 8 (by omega)
  omega
 rw[ld _ (fun _ _=>rfl)] at h
 exact h
theorem Gj{l:List Sk}{b:List Tk}(hl:Ir l)(hb:okB b):∃ r q:Nat,(r<=1001∧(∀ i,i<r->decide (Ko l b (i:Nat)<0)=false)∧(∀ i,r<=i->i<1001->decide (Ko l b (i:Nat)<0)=true))∧
    (q<=1000∧(∀ i,i<q->decide (Nn l b (i:Nat)<=0)=false)∧(∀ i,q<=i->i<1000->decide (Nn l b (i:Nat)<=0)=true))∧tV l b 1001=r - 1∧lM l b 1001=q:=by
 obtain⟨r,h1,h2,h3⟩:=lP (fun i=>decide (Ko l b (i:Nat)<0)) 1001 (fun i j hij _ h=>by
  simp only[Zn] at h ⊢
  have:=Mf hl hb (m:=(i:Int)) (n:=(j:Int)) (by omega)
  omega)
 obtain⟨q,k1,k2,k3⟩:=lP (fun i=>decide (Nn l b (i:Nat)<=0)) 1000 (fun i j hij _ h=>by
  simp only[Zn] at h ⊢
  have:=Ly hl hb (m:=(i:Int)) (n:=(j:Int)) (by omega)
  omega)
 refine⟨r,q,⟨h1,h2,h3⟩,⟨k1,k2,k3⟩,BO ?_ (fun i hi=> ?_) 1001 h1 (fun i hi hj=>by simpa using h3 i hi hj),NJ k1 (fun i hi=> ?_) (fun i hi hj=>by simpa using k3 i hi hj)⟩
 ·rcases Ua r with h | h
  ·subst h
   have:=h3 0 (Zf _) (by omega)
   have h0:=N9 hl hb
   simp at this
   omega
  ·exact h
 ·have:=h2 i hi
  simp at this
  exact this
 ·have:=k2 i hi
  simp at this
  omega
def b2(i j:Int)(t n:Int):List Tk:=[⟨i,⟨n,n⟩⟩,⟨j,⟨t - n,t - n⟩⟩]
def fLo(f:Int->Int->Int->Int)(s:Sk):Int:=tZ (fun k=>f (s.cw k) (s.cc k) (s.cl k)) 8
def fHi(f:Int->Int->Int->Int)(s:Sk):Int:=xh (fun k=>f (s.cw k) (s.cc k) (s.cl k)) 8
def UP(s1 s2:Sk)(t:Int)(w:Sp)(n:Int):Int:=min (n*fLo (hY w.lo) s1+(t - n)*fLo (hY w.lo) s2) (0 - (n*fHi (hY w.hi) s1+(t - n)*fHi (hY w.hi) s2))
structure GC (M:Int->Int) (t:Nat) (r:Nat):Prop where
 abf:r<=t - 2
 aaV:∀ i,i<r->decide (M ((i:Int)+2)<=M ((i:Int)+1))=false
 abi:∀ i,r<=i->i<t - 2->decide (M ((i:Int)+2)<=M ((i:Int)+1))=true
theorem GC.up{s1 s2:Sk}{w:Sp}{t r:Nat}(h:GC (UP s1 s2 t w) t r):∀(k j:Nat),k<=j->j<=r->UP s1 s2 t w ((k:Int)+1)<=UP s1 s2 t w ((j:Int)+1)
 | k,0,hk,_=>by obtain rfl:k=0:=by omega
                exact Ge _
 | k,j+1,hk,hj=>by
  rcases ZM j k with h1 | h1
  ·obtain rfl:k=j+1:=by omega
   exact Ge _
  ·have h2:=h.up k j h1 (by omega)
   have h3:=h.aaV j (by omega)
   simp at h3
   have e:((j+1:Nat):Int)+1=j+2:=by omega
   rw[e];omega
def okE(l:List Sk)(b:List Tk):Int:=if iB l b then 0 else 1
theorem Gb(s:Sk)(m:Sp):LR Tryz.prog 213 (fun y=>[y,.p (.ip (storeCells s m) 0)]) (mw s):=by
 intro l κ n inv fin hκ hn FD hb h0 uV
 refine j4.ir (N:=55) Tryz.func213 rfl rfl Kn ?_
 iterate 14 refine af ?_
 refine aF.tM [4,6,8,18,19,20,21,22,23,24,25,26,27,28,29,30,31,32,33,34,35,36,37,38,39,40,41,42,43,44,45,46,47,48,49,50,51,52,53,54] (fun g=>[(18,.p (.int .i64 ((g.1:Nat):Int)))]) (fun g=>g.2) (fun g=>g.1<=2∧inv (4*g.1) g.2) (fun g=>2 - g.1) (0,h0) ⟨by omega,uV⟩ (To.sub (Sub.SK (Sub.cons rfl (Sub.nil)))) (fun g hg=> ?_)
 obtain⟨i,hi⟩:=g
 obtain⟨hle,hinv⟩:=hg
 dsimp only at hle hinv ⊢
 iterate 5 refine af ?_
 refine Ki (fun hc0=> ?_) fun hc0=> ?_
 ·have i2:i<2:=by simp at hc0;omega
  iterate 5 refine af ?_
  refine Kc (aa.sW rfl rfl rfl OJ (by omega) ?_) ?_
  ·omega
  iterate 16 refine af ?_
  refine aF.tM [6,8,30,31,32,33,34,35,36,37,38,39,40,41,42,43,44,45,46,47,48,49,50,51,52,53] (fun g=>[(30,.p (.int .i64 ((g.1:Nat):Int)))]) (fun g=>g.2) (fun g=>g.1<=2∧inv (4*i+2*g.1) g.2) (fun g=>2 - g.1) (0,hi) ⟨by omega,hinv⟩ (To.sub (Sub.SK (Sub.cons rfl (Sub.nil)))) (fun g hg=> ?_)
  obtain⟨j,hj⟩:=g
  obtain⟨hle,hinv⟩:=hg
  dsimp only at hle hinv ⊢
  iterate 5 refine af ?_
  refine Ki (fun cK=> ?_) fun cK=> ?_
  ·have j2:j<2:=by simp at cK;omega
   iterate 5 refine af ?_
   refine Kc (aa.sW rfl rfl rfl OJ (by omega) ?_) ?_
   ·omega
   iterate 16 refine af ?_
   refine aF.tM [8,42,43,44,45,46,47,48,49,50,51,52] (fun g=>[(42,.p (.int .i64 ((g.1:Nat):Int)))]) (fun g=>g.2) (fun g=>g.1<=2∧inv (4*i+2*j+g.1) g.2) (fun g=>2 - g.1) (0,hj) ⟨by omega,hinv⟩ (To.sub (Sub.SK (Sub.cons rfl (Sub.nil)))) (fun g hg=> ?_)
   obtain⟨k,hk⟩:=g
   obtain⟨hle,hinv⟩:=hg
   dsimp only at hle hinv ⊢
   iterate 5 refine af ?_
   refine Ki (fun jb=> ?_) fun jb=> ?_
   ·have k2:k<2:=by simp at jb;omega
    iterate 5 refine af ?_
    refine Kc (aa.sW rfl rfl rfl OJ (by omega) ?_) ?_
    ·omega
    iterate 9 refine af ?_
    refine aj.yield 50 rfl rfl rfl rfl rfl rfl (hb _ _ _ hinv (EK s i2 j2 k2)) ?_
    intro b2 h2 Bb
    iterate 2 refine af ?_
    refine Ki (fun mc=> ?_) fun mc=> ?_
    ·have hq:fin h2:=by simpa[show b2=false by simpa using mc] using Bb
     refine af ?_
     exact⟨.inr rfl,_,eX.none_ rfl,.inr hq⟩
    ·have hnext:inv (4*i+2*j+k+1) h2:=by simpa[show b2=true by simpa using mc] using Bb
     iterate 2 refine af ?_
     refine Kc (aa.add rfl rfl rfl (aI ?_)) ?_
     ·omega
     iterate 2 refine af ?_
     refine⟨(k+1,h2),?_,?_,?_⟩
     ·exact⟨by dsimp only;omega,hnext⟩
     ·show 2 - (k+1)<2 - k
      omega
     exact To.sub KS
   ·refine aF.exit ?_
    refine af ?_
    refine Kc (aa.add rfl rfl rfl (aI ?_)) ?_
    ·omega
    iterate 2 refine af ?_
    refine⟨(j+1,hk),?_,?_,?_⟩
    ·have hk2:k=2:=by simp at jb;omega
     subst hk2
     exact⟨by dsimp only;omega,by rw[show 4*i+2*(j+1,hk).1=4*i+2*j+2 by dsimp only;omega];exact hinv⟩
    ·show 2 - (j+1)<2 - j
     omega
    exact To.sub KS
  ·refine aF.exit ?_
   refine af ?_
   refine Kc (aa.add rfl rfl rfl (aI ?_)) ?_
   ·omega
   iterate 2 refine af ?_
   refine⟨(i+1,hj),?_,?_,?_⟩
   ·have hj2:j=2:=by simp at cK;omega
    subst hj2
    exact⟨by dsimp only;omega,by rw[show 4*(i+1,hj).1=4*i+2*2 by dsimp only;omega];exact hinv⟩
   ·show 2 - (i+1)<2 - i
    omega
   exact To.sub KS
 ·refine aF.exit ?_
  have hi2:i=2:=by simp at hc0;omega
  subst hi2
  exact⟨.inl rfl,_,eX.none_ rfl,.inl (by simpa[mw] using hinv)⟩
theorem JV(s:Sk)(m:Sp):Pure Tryz.prog 208 [.agg (storeCells s m)] (.func (.func 213) [] [.ip (storeCells s m) 0]):=by
 refine Kf (N:=4) Tryz.func208 ?_
 exact uM
theorem PW(s:Sk)(m:Sp)(fn:Fn)(fi ca:List PV)(F:Nat->Int)(hm:0<=m.lo∧m.lo<=m.hi∧m.hi<=800000)(hF:∀ j,j<8-> -2000000000000<=F j∧F j<=2000000000000)(hf:∀ j,j<8->jG Tryz.prog (.func fn fi ca) [sK s j] (.int .i64 (F j))):Pure Tryz.prog 198 [.agg (storeCells s m),.func fn fi ca] (.agg [.int .i64 (tZ (fun j=>min (m.lo*F j) (m.hi*F j)) 8),.int .i64 (xh (fun j=>max (m.lo*F j) (m.hi*F j)) 8)]):=by
 refine Kf (N:=52) Tryz.func198 ?_
 iterate 15 refine af ?_
 refine Kc (Kp (JV s m)) ?_
 iterate 2 refine af ?_
 refine aF.rangeFunc 0 rfl (fun _=>rfl) an (Gb s m) (Zf _) (Zp _) (fun _ h=>by cases h) (fun x hx=>by simp[mw] at hx;obtain⟨j,_,rfl⟩:=hx;rfl) rfl (fun k h=>h=[.cells [.p (.int .i64 (tZ (fun j=>min (m.lo*F j) (m.hi*F j)) k)),.p (.int .i64 (xh (fun j=>max (m.lo*F j) (m.hi*F j)) k))] 24,.cells [.p (.bool (k==0))] 4]) (fun c h=>False) (fun _ _ h=>by rw[h];rfl) (fun _ _ h=>h.elim) rfl ?_ ?_ ?_
 ·intro l tmps k h x hJ hx
  subst hJ
  have hk:k<8:=by have:=(Za.1 hx).1;simpa[mw] using this
  obtain rfl:x=[.p (sK s k)]:=by simp[mw,hk] at hx;exact hx.symm
  have hFk:=hF k hk
  have q1:=RF (A:=2000000000000) (B:=800000) (b:=m.lo) ⟨hFk.1,hFk.2⟩ ⟨hm.1,by omega⟩
  have q2:=RF (A:=2000000000000) (B:=800000) (b:=m.hi) ⟨hFk.1,hFk.2⟩ ⟨by omega,hm.2.2⟩
  iterate 4 refine af ?_
  refine⟨rfl,rfl,?_⟩
  iterate 5 refine af ?_
  refine Kc (aa.DC (hf k hk) rfl rfl rfl) ?_
  iterate 3 refine af ?_
  refine aF.aB 24 mixed (by kernel_rfl) (by decide) ?_
  iterate 4 refine af ?_
  refine Kq (aa.mul rfl rfl rfl (aI ?_)) ?_
  ·omega
  iterate 4 refine af ?_
  refine Kq (aa.mul rfl rfl rfl (aI ?_)) ?_
  ·omega
  refine Kq (aa.min2 rfl rfl rfl) ?_
  iterate 4 refine af ?_
  refine Kq (aa.mul rfl rfl rfl (aI ?_)) ?_
  ·omega
  iterate 4 refine af ?_
  refine Kq (aa.mul rfl rfl rfl (aI ?_)) ?_
  ·omega
  refine Kq (aa.max2 rfl rfl rfl) ?_
  iterate 2 refine af ?_
  refine av.nil ?_
  iterate 6 refine af ?_
  refine Ki (fun hc0=> ?_) fun hc0=> ?_
  ·iterate 11 refine af ?_
   exact BA
  ·iterate 5 refine af ?_
   exact BA
 ·intro h hJ
  subst hJ
  iterate 6 refine af ?_
  exact wT
 ·exact gY
theorem Bj(l:List Sk)(b:List Tk)(hl:l.length<=cN)(hb:okB b)(ht:O3 l.length b):Pure Tryz.prog 179 [cM l,vI b] (lW (PV.int .i64) AK (bL l b b.length)):=by
 have hb8:=hb.1
 refine Kf (N:=48) Tryz.func179 ?_
 iterate 6 refine af ?_
 refine Kc (aa.makeMap (K:=Int) (α:=Sk×Sp) (enc:=PV.int .i64) (g:=fun a=> .p (AK a)) rfl) ?_
 iterate 10 refine af ?_
 refine aF.tM [7,8,12,13,14,15,16,17,18,19,20,21,22,23,24,25,26,27,28,29,30,31,32,33,34,35,36,37,38,39,40,41,42,43,44,45,46] (fun g=>[(12,.p (.int .i64 ((g:Nat):Int)))]) (fun g=>[nI (PV.int .i64) (fun a=> .p (AK a)) (bL l b g)]) (fun g=>g<=b.length) (fun g=>b.length - g) 0 (Zp _) (To.sub (Sub.SK (Sub.cons rfl Sub.nil))) (fun i hg=> ?_)
 iterate 5 refine af ?_
 refine Ki (fun hc0=> ?_) fun hc0=> ?_
 ·have hk0:i<b.length:=by simp at hc0;omega
  have hti:=hb.2 b[i] (Cg _)
  have hts:=ht b[i] (Cg _)
  have tJ:b[i].s.toNat<l.length:=by omega
  have zE:=pn l b b[i].s i hg
  have p1:=SO hb b[i].s i hg
  have p2:=S9 hb b[i].s i hg
  have e1:((cD b[i].s (bL l b i)).getD eE).2.lo=ig (AL b[i].s) b i:=by rw[zE]
  have e2:((cD b[i].s (bL l b i)).getD eE).2.hi=ig (AM b[i].s) b i:=by rw[zE]
  iterate 5 refine af ?_
  refine Kc (aa.j7 rfl rfl rfl an SF rfl (fun _=>rfl) (by decide) hk0) ?_
  iterate 9 refine af ?_
  refine Kc (aa.wA (dw.int .i64 .i64) (gp:=AK) eE rfl rfl rfl rfl Ng rfl) ?_
  iterate 8 refine af ?_
  refine Kc (aa.Oa rfl rfl rfl an OT rfl (fun _=>rfl) (by decide) ?_ ?_) ?_
  ·omega
  ·omega
  iterate 12 refine af ?_
  refine Kc (aa.add rfl rfl rfl (aI ?_)) ?_
  ·omega
  iterate 6 refine af ?_
  refine Kc (aa.add rfl rfl rfl (aI ?_)) ?_
  ·omega
  iterate 9 refine af ?_
  refine Kz (aa.mapUpdate (dw.int .i64 .i64) (g:=fun a=> .p (AK a)) (c:=(l[b[i].s.toNat],⟨_,_⟩)) (.inl rfl) rfl rfl rfl rfl Ng) ?_
  iterate 2 refine af ?_
  refine Kc (aa.add rfl rfl rfl (aI ?_)) ?_
  ·omega
  iterate 2 refine af ?_
  refine⟨i+1,?_,?_,?_⟩
  ·simp at hc0;omega
  ·simp at hc0;omega
  refine To.done [0] rfl KS ?_
  show[aH _ (nI _ (fun a=> .p (AK a)) (aV _ _ _))]=_
  rw[za,gS l b i hk0,gU,Zb tJ]
  rfl
 ·obtain rfl:i=b.length:=by simp at hc0;omega
  refine aF.to (To.sM 0 (gp:=AK) rfl) ?_
  refine aF.exit ?_
  iterate 6 refine af ?_
  exact jO
theorem TB(ms:List (Int×(Sk×Sp)))(fn:Fn)(fi ca:List PV)(F:Sk->Nat->Int)(hw:∀ m∈ms,0<=m.2.2.lo∧m.2.2.lo<=m.2.2.hi)(hs:(ms.map yl).sum<=800000)(hF:∀ m∈ms,∀ j,j<8-> -2000000000000<=F m.2.1 j∧F m.2.1 j<=2000000000000)(hf:∀ m∈ms,∀ j,j<8->jG Tryz.prog (.func fn fi ca) [sK m.2.1 j] (.int .i64 (F m.2.1 j))):Pure Tryz.prog 163 [lW (PV.int .i64) AK ms,.func fn fi ca] (.agg [.int .i64 (ms.map (nc F)).sum,.int .i64 (ms.map (nT F)).sum]):=by
 have hpos:∀ m∈ms,0<=yl m:=fun m hm=>by have:=hw m hm;unfold yl;omega
 refine Kf (N:=32) Tryz.func163 ?_
 iterate 8 refine af ?_
 refine Kc (aa.rangeMap (enc:=PV.int .i64) (gp:=AK) rfl rfl Ng) ?_
 iterate 2 refine af ?_
 refine aF.tM [6,7,8,11,12,13,14,15,16,17,18,19,20,21,22,23,24,25,26,27,28,29,30] (fun(g:tW)=>[]) (fun(g:tW)=>[.cells [.p (.int .i64 (g.d.map (nc F)).sum),.p (.int .i64 (g.d.map (nT F)).sum)] 24,yI (PV.int .i64) AK g.r g.last]) (fun(g:tW)=>tW.ok ms g) (fun(g:tW)=>g.r.length) ⟨[],ms,none⟩ ⟨(fun f=>by simp),(fun _ h=>by cases h),fun _ h=>h⟩ (To.sub (Sub.SK Sub.nil)) (fun g hg=> ?_)
 obtain⟨d,r,last⟩:=g
 dsimp only
 iterate 2 refine af ?_
 refine aj.QF 11 rfl rfl rfl rfl rfl rfl ?_ ?_
 ·intro hr
  subst hr
  iterate 3 refine af ?_
  refine Ki (fun hc0=> ?_) fun hc0=> ?_
  ·cases hc0
  ·refine aF.exit ?_
   iterate 6 refine af ?_
   refine Fin.gL rfl ⟨_,_,_,rfl,an,rfl⟩ ?_
   have e1:=hg.1 (nc F)
   have e2:=hg.1 (nT F)
   simp at e1 e2
   simp[e1,e2]
 ·intro j m hj
  have hjl:j<r.length:=(Za.1 hj).1
  have hmem:m∈ms:=hg.2.2 m (Zh hj)
  have hmw:=hw m hmem
  have hmh:yl m<=(ms.map yl).sum:=uQ hpos hmem
  have h9:m.2.2.hi<=800000:=(by omega:yl m<=800000)
  have nk:=tW.Gu hg hj
  have s1:=sC (f:=nc F) (g:=yl) (X:=2000000000000) (r:=d) (fun x hx=>Ni (hw x (hg.2.1 x hx)) (hF x (hg.2.1 x hx)))
  have s2:=sC (f:=nT F) (g:=yl) (X:=2000000000000) (r:=d) (fun x hx=>GO (hw x (hg.2.1 x hx)) (hF x (hg.2.1 x hx)))
  have s3:=nk.1 yl
  dsimp only at s3
  rw[rq] at s3
  have s4:=lN (f:=yl) (r:=r.eraseIdx j) (fun x hx=>hpos x (nk.2.2 x hx))
  have s5:=lN (f:=yl) (r:=d) (fun x hx=>hpos x (hg.2.1 x hx))
  have s6:=Ni hmw (hF m hmem)
  have s7:=GO hmw (hF m hmem)
  have s8:=hpos m hmem
  iterate 3 refine af ?_
  refine Ki (fun hc0=> ?_) fun hc0=> ?_
  ·iterate 4 refine af ?_
   refine Kc (aa.entry rfl rfl rfl) ?_
   iterate 7 refine af ?_
   refine Kc (aa.makeFunc rfl rfl rfl) ?_
   iterate 6 refine af ?_
   refine Kc (aa.dH (PW m.2.1 m.2.2 fn fi ca (F m.2.1) ?_ ?_ ?_) rfl rfl rfl rfl (an)) ?_
   ·omega
   ·exact hF m hmem
   ·exact hf m hmem
   iterate 8 refine af ?_
   refine Kc (aa.add rfl rfl rfl (aI ?_)) ?_
   ·exact D0
   iterate 4 refine af ?_
   refine Kc (aa.add rfl rfl rfl (aI ?_)) ?_
   ·exact D0
   iterate 3 refine af ?_
   refine⟨⟨d++[m],r.eraseIdx j,some m⟩,?_,?_,?_⟩
   ·exact tW.Gu hg hj
   ·show(r.eraseIdx j).length<r.length
    rw[List.length_eraseIdx,if_pos hjl]
    omega
   refine To.done [0,1] rfl KS ?_
   dsimp only
   rw[rq,rq]
   rfl
  ·cases hc0
theorem E2(n w c l:Int)(hn:0<=n∧n<=1000)(hs:mH w c l):Pure Tryz.prog 164 [.agg [.int .i64 w,.int .i64 c,.int .i64 l],.ip [.int .i64 n] 0] (.int .i64 (hY n w c l)):=by
 refine Kf (N:=7) Tryz.func164 ?_
 iterate 9 refine af ?_
 refine Kc (Kp (RL _ _ _ _ ?_ ?_)) ?_
 ·assumption
 ·assumption
 exact dO
theorem Jo(ms:List (Int×(Sk×Sp)))(n:Int)(hn:0<=n∧n<=1000)(hm:okM ms):Pure Tryz.prog 116 [lW (PV.int .i64) AK ms,.int .i64 n] (.agg [.int .i64 (ms.map (nc (PJ (hY n)))).sum,.int .i64 (ms.map (nT (PJ (hY n)))).sum]):=by
 refine Kf (N:=8) Tryz.func116 ?_
 iterate 8 refine af ?_
 refine Kc (aa.makeFunc rfl rfl rfl) ?_
 refine Kc (Kp (TB ms (.func 164) [] [.ip [.int .i64 n] 0] (PJ (hY n)) ?_ ?_ ?_ ?_)) ?_
 ·exact hm.1
 ·exact hm.2.1
 ·exact fun m QZ j _=>by have h:=(hm.2.2 m QZ).state j;unfold PJ;have:=YE hn h;omega
 ·exact fun m QZ j _=>⟨164,[sK m.2.1 j,.ip [.int .i64 n] 0],rfl,an,E2 n _ _ _ hn ((hm.2.2 m QZ).state j)⟩
 exact vJ
theorem yM(n r:Nat)(fn:Fn)(fi ca:List PV)(p:Nat->Bool)(hn:n<=140737488355328)(hr:r<=n)(h1:∀ i,i<r->p i=false)(h2:∀ i,r<=i->i<n->p i=true)(hf:∀ i,i<n->jG Tryz.prog (.func fn fi ca) [.int .i64 ((i:Nat):Int)] (.bool (p i))):Pure Tryz.prog 53 [.int .i64 (n:Int),.func fn fi ca] (.int .i64 (r:Int)):=by
 refine Kf (N:=26) Tryz.func53 ?_
 iterate 12 refine af ?_
 refine aF.yW [5,6,7,9,10,11,12,13,14,15,16,17,18,19,20,21,22,23,24] (fun g=>[(5,.p (.int .i64 ((g.1:Nat):Int))),(6,.p (.int .i64 ((g.2:Nat):Int)))]) (fun g=>g.1<=r∧r<=g.2∧g.2<=n) (fun g=>g.2 - g.1) (0,n) ⟨Zp _,hr,Zf _⟩ (Sub.cons rfl (Sub.cons rfl (Sub.nil))) (fun g hg=> ?_)
 obtain⟨i,j⟩:=g
 obtain⟨hi,hj,hjn⟩:=hg
 dsimp only at hi hj hjn ⊢
 iterate 7 refine af ?_
 refine Ki (fun hc0=> ?_) fun hc0=> ?_
 ·have hij:i<j:=by simp at hc0;omega
  have hf0:=hf ((i+j) / 2) (by omega)
  iterate 6 refine af ?_
  refine Kc (aa.add rfl rfl rfl (aI ?_)) ?_
  ·omega
  refine Kc (aa.dS rfl rfl (by rw[B0];rfl) CK (mY ?_)) ?_
  ·omega
  refine Kc (aa.shr (m:=(((i+j) / 2:Nat):Int)) rfl rfl rfl (by decide) ?_) ?_
  ·refine aba.trans ?_;omega
  refine Kc (aa.dS rfl rfl (by rw[CK];rfl) B0 (aI ?_)) ?_
  ·omega
  iterate 6 refine af ?_
  refine Kc (aa.DC (hf0) rfl rfl rfl) ?_
  iterate 2 refine af ?_
  refine Ki (fun cK=> ?_) fun cK=> ?_
  ·have q1:p ((i+j) / 2)=false:=by simpa using cK
   have q2:(i+j) / 2+1<=r:=by rcases ZM ((i+j) / 2) r with h | h;{omega};{have:=h2 _ h (by omega);rw[q1] at this;cases this}
   iterate 2 refine af ?_
   refine Kc (aa.add rfl rfl rfl (aI ?_)) ?_
   ·omega
   iterate 2 refine af ?_
   refine⟨((i+j) / 2+1,j),?_,?_,?_⟩
   ·exact⟨q2,hj,hjn⟩
   ·dsimp only;omega
   exact To.done [] rfl KS rfl
  ·have q1:p ((i+j) / 2)=true:=by simpa using cK
   have q2:r<=(i+j) / 2:=by rcases ZM ((i+j) / 2) r with h | h;{have:=h1 _ h;rw[q1] at this;cases this};{omega}
   iterate 4 refine af ?_
   refine⟨(i,(i+j) / 2),?_,?_,?_⟩
   ·exact⟨hi,q2,by dsimp only;omega⟩
   ·dsimp only;omega
   exact To.done [] rfl KS rfl
 ·obtain rfl:i=r:=by simp at hc0;omega
  refine aF.exit ?_
  iterate 6 refine af ?_
  refine Fin.gL rfl rfl ?_
  rfl
theorem uK(l:List Sk)(b:List Tk)(n:Int)(hn:0<=n∧n<=1000)(hl:Ir l)(hb:okB b)(ht:O3 l.length b):Pure Tryz.prog 116 [lW (PV.int .i64) AK (bL l b b.length),.int .i64 n] (.agg [.int .i64 (Ko l b n),.int .i64 (Nn l b n)]):=by
 have h:=Jo (bL l b b.length) n hn (Jk hl hb ht)
 rw[UJ ht,Vo ht] at h
 exact h
theorem IV(l:List Sk)(b:List Tk)(n:Int)(hn:0<=n∧n<=1000)(hl:Ir l)(hb:okB b)(ht:O3 l.length b):Pure Tryz.prog 180 [.int .i64 n,.ip [lW (PV.int .i64) AK (bL l b b.length)] 0] (.bool (decide (Ko l b n<0))):=by
 refine Kf (N:=9) Tryz.func180 ?_
 iterate 8 refine af ?_
 refine Kc (Kp (uK l b n hn hl hb ht)) ?_
 refine Kc (aa.field rfl rfl T8 rfl) ?_
 iterate 4 refine af ?_
 exact jO
theorem I9(l:List Sk)(b:List Tk)(n:Int)(hn:0<=n∧n<=1000)(hl:Ir l)(hb:okB b)(ht:O3 l.length b):Pure Tryz.prog 181 [.int .i64 n,.ip [lW (PV.int .i64) AK (bL l b b.length)] 0] (.bool (decide (Nn l b n<=0))):=by
 refine Kf (N:=9) Tryz.func181 ?_
 iterate 8 refine af ?_
 refine Kc (Kp (uK l b n hn hl hb ht)) ?_
 refine Kc (aa.field rfl rfl VI rfl) ?_
 iterate 4 refine af ?_
 exact jO
theorem Mh(l:List Sk)(b:List Tk)(hl:l.length<=cN)(hb:b.length<=cN):Pure Tryz.prog 141 [cM l,vI b] (.tuple (uJ l b)):=by
 refine Kf (N:=30) Tryz.func141 ?_
 iterate 9 refine af ?_
 refine Kc (Kp (Bz _ ?_)) ?_
 ·assumption
 iterate 2 refine af ?_
 refine Kg 13 12 0 rfl (fun h=>(aa.move rfl rfl)) ?_
 refine Kg 14 12 1 rfl (fun h=>(aa.move rfl rfl)) ?_
 refine aj.g 15 12 rfl rfl rfl rfl rfl rfl rfl [(13,_),(14,_)] (fun h=>And.intro (.inr ⟨_,rfl,h⟩) (And.intro (.inr ⟨_,rfl,h⟩) (trivial))) (fun h=>(Kp (E8 _ _ ?_ ?_))) ?_
 ·assumption
 ·assumption
 refine Kh 16 12 15 rfl rfl rfl rfl (fun h=>(aa.gW rfl rfl)) ?_
 refine Kc (aa.kA rfl rfl rfl ?_) ?_
 ·exact ax
 refine af ?_
 refine Ki (fun hc0=> ?_) fun hc0=> ?_
 ·iterate 7 refine af ?_
  have hv:iB l b=false:=by unfold iB;simp at hc0;rcases hc0 with h | h <;> simp[h]
  refine Fin.dI (xs:=[.agg [.int .i64 0,.int .i64 0],.int .i64 1]) rfl (⟨_,_,rfl,⟨_,_,_,rfl,an,rfl⟩,⟨_,_,rfl,rfl,rfl⟩⟩) rfl ?_
  simp[uJ,hv]
 ·have hv:iB l b=true:=by unfold iB;simp at hc0;simp[hc0]
  have okl:Ir l:=TA (by unfold iB at hv;simp at hv;exact hv.1)
  have Vq:=UF (n:=l.length) (b:=b) (by unfold iB at hv;simp at hv;exact hv.2)
  obtain⟨r,q,cr,cq,er,eq⟩:=Gj okl Vq.1
  iterate 5 refine af ?_
  refine Kc (Kp (Bj l b hl Vq.1 Vq.2)) ?_
  iterate 5 refine af ?_
  refine aj.freeze 1 rfl rfl ?_
  refine Kc (aa.makeFunc rfl rfl rfl) ?_
  refine Kc (Kp (yM 1001 r (.func 180) [] [.ip [lW (PV.int .i64) AK (bL l b b.length)] 0] _ (by decide) cr.1 cr.2.1 cr.2.2 (fun i hi=>⟨180,[.int .i64 (i:Int),.ip [lW (PV.int .i64) AK (bL l b b.length)] 0],rfl,an,IV l b _ (by omega) okl Vq.1 Vq.2⟩))) ?_
  iterate 4 refine af ?_
  refine Kc (aa.makeFunc rfl rfl rfl) ?_
  refine Kc (Kp (yM 1000 q (.func 181) [] [.ip [lW (PV.int .i64) AK (bL l b b.length)] 0] _ (by decide) cq.1 cq.2.1 cq.2.2 (fun i hi=>⟨181,[.int .i64 (i:Int),.ip [lW (PV.int .i64) AK (bL l b b.length)] 0],rfl,an,I9 l b _ (by omega) okl Vq.1 Vq.2⟩))) ?_
  iterate 5 refine af ?_
  refine Kc (aa.fN rfl rfl rfl (aI ?_)) ?_
  ·have:=cr.1;omega
  iterate 6 refine af ?_
  refine Fin.dI (xs:=[.agg [.int .i64 ((r:Int) - 1),.int .i64 (q:Int)],.int .i64 0]) rfl (⟨_,_,rfl,⟨_,_,_,rfl,an,rfl⟩,⟨_,_,rfl,rfl,rfl⟩⟩) rfl ?_
  simp[uJ,hv,er,eq]
end Go.Proofs.YtibffijhebobmaaGreatDoor.Ck
end
