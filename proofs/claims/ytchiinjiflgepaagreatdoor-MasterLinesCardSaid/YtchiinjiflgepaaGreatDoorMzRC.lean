/-
 Plain arithmetic for the sack. No program in sight.
 The sack's data, as cells.
 Small functions of the sack.
 The document: kinds, corners.
 The document: weights.
 The document: a part.
 The plain law of the sack's sums: a sum over the batch is the document's sum over the sacks. No program in sight.
 Searches; what is valid.
 The document: what is weighed.
 The plain law of shares, water and mixtures. No program in sight.
 What a sack can be: the states that are yielded.
 What a sack adds.
 Batches.
 Sums over a batch, in whatever order.
 What is beyond a share; what water lacks.
 The document: what water lacks.
 The document: beyond a share.
 Searches; shares.
-/
import Derived.Test.YtchiinjiflgepaaGreatDoorFaRC
import Derived.Test.YtchiinjiflgepaaGreatDoorMzRF
import Derived.Test.YtchiinjiflgepaaGreatDoorMzRZ
theorem R1{A:Prop}(h:A:=by
 refine Kg 100 99 11 rfl (fun h=>(aa.fieldAddr rfl rfl ai rfl)) ?_
 refine Kh 101 99 100 rfl rfl rfl rfl (fun h=>(aa.load rfl rfl ai rfl)) ?_
 refine Kg 102 99 16 rfl (fun h=>(aa.move rfl rfl)) ?_
 refine aq.g 103 99 rfl rfl rfl rfl rfl rfl rfl [(101,_),(102,_)] (fun h=>And.intro (.inr ⟨_,rfl,h⟩) (And.intro (.inr ⟨_,rfl,h⟩) (trivial))) (fun h=>(aa.mul rfl rfl rfl (aA ?_))) ?_
 ·omega
 refine Kg 104 99 11 rfl (fun h=>(aa.fieldAddr rfl rfl ai rfl)) ?_
 refine Kh 105 99 104 rfl rfl rfl rfl (fun h=>(aa.load rfl rfl ai rfl)) ?_
 refine Kg 106 99 16 rfl (fun h=>(aa.move rfl rfl)) ?_
 refine aq.g 107 99 rfl rfl rfl rfl rfl rfl rfl [(105,_),(106,_)] (fun h=>And.intro (.inr ⟨_,rfl,h⟩) (And.intro (.inr ⟨_,rfl,h⟩) (trivial))) (fun h=>(aa.mul rfl rfl rfl (aA ?_))) ?_
 ·omega
 refine aq.g 108 99 rfl rfl rfl rfl rfl rfl rfl [(103,_),(107,_)] (fun h=>And.intro (.inr ⟨_,rfl,h⟩) (And.intro (.inr ⟨_,rfl,h⟩) (trivial))) (fun h=>(aa.max2 rfl rfl rfl)) ?_
 refine Kg 109 99 14 rfl (fun h=>(aa.move rfl rfl)) ?_
 refine aq.g 110 99 rfl rfl rfl rfl rfl rfl rfl [(108,_),(109,_)] (fun h=>And.intro (.inr ⟨_,rfl,h⟩) (And.intro (.inr ⟨_,rfl,h⟩) (trivial))) (fun h=>(aa.gtr rfl rfl rfl)) ?_
 refine Kc (aa.lE rfl rfl rfl ?_) ?_
 ·exact fO
 exact ac6):A:=h
theorem T6{A:Prop}(h:A:=by
 iterate 12 refine af ?_
 refine Kg 12 11 3 rfl (fun h=>(aa.fieldAddr rfl rfl ai rfl)) ?_
 refine Kh 13 11 12 rfl rfl rfl rfl (fun h=>(aa.load rfl rfl ai rfl)) ?_
 refine Kg 14 11 3 rfl (fun h=>(aa.fieldAddr rfl rfl ai rfl)) ?_
 refine Kh 15 11 14 rfl rfl rfl rfl (fun h=>(aa.load rfl rfl ai rfl)) ?_
 refine aq.g 16 11 rfl rfl rfl rfl rfl rfl rfl [(13,_),(15,_)] (fun h=>And.intro (.inr ⟨_,rfl,h⟩) (And.intro (.inr ⟨_,rfl,h⟩) (trivial))) (fun h=>(aa.leq rfl rfl rfl)) ?_
 refine Kc (aa.gy rfl rfl rfl ?_) ?_
 ·exact fO
 refine af ?_
 refine Kg 19 18 3 rfl (fun h=>(aa.fieldAddr rfl rfl ai rfl)) ?_
 refine Kh 20 18 19 rfl rfl rfl rfl (fun h=>(aa.load rfl rfl ai rfl)) ?_
 refine Kg 21 18 2 rfl (fun h=>(aa.move rfl rfl)) ?_
 refine aq.g 22 18 rfl rfl rfl rfl rfl rfl rfl [(20,_),(21,_)] (fun h=>And.intro (.inr ⟨_,rfl,h⟩) (And.intro (.inr ⟨_,rfl,h⟩) (trivial))) (fun h=>(aa.leq rfl rfl rfl)) ?_
 refine Kc (aa.gy rfl rfl rfl ?_) ?_
 ·exact fO
 exact mc):A:=h
theorem RE{A:Prop}(h:A:=by
 refine Kc (aa.quo rfl rfl rfl ?_ (aA ?_)) ?_
 ·omega
 ·exact oe
 refine Kc (aa.rem rfl rfl rfl ?_ rfl) ?_
 ·omega
 iterate 2 refine af ?_
 refine Ki (fun eG=> ?_) fun eG=> ?_
 ·iterate 11 refine af ?_
  refine Kc (aa.quo rfl rfl rfl ?_ (aA ?_)) ?_
  ·omega
  ·exact oe
  iterate 2 refine af ?_
  refine Ki (fun gQ=> ?_) fun gQ=> ?_
  ·iterate 10 refine af ?_
   exact G3
  ·iterate 4 refine af ?_
   exact G3
 ·iterate 5 refine af ?_
  refine Kc (aa.quo rfl rfl rfl ?_ (aA ?_)) ?_
  ·omega
  ·exact oe
  iterate 2 refine af ?_
  refine Ki (fun gQ=> ?_) fun gQ=> ?_
  ·iterate 10 refine af ?_
   exact G3
  ·iterate 4 refine af ?_
   exact G3):A:=h
theorem aaT{A:Prop}(h:A:=by
 refine Ki (fun gQ=> ?_) fun gQ=> ?_
 ·iterate 4 refine af ?_
  refine Kc (aa.min2 rfl rfl rfl) ?_
  iterate 5 refine af ?_
  exact Ts
 ·iterate 3 refine af ?_
  exact Ts):A:=h
theorem JW{A:Prop}(h:A:=by
 refine af ?_
 refine ay.nil ?_
 iterate 2 refine af ?_
 exact C8):A:=h
theorem TO{A:Prop}(h:A:=by
 refine Kc (aa.add rfl rfl rfl (aA ?_)) ?_
 ·omega
 iterate 2 refine af ?_
 refine⟨i+1,?_,?_,?_⟩
 ·exact oe
 ·exact oe
 exact ac4):A:=h
theorem RT{A:Prop}(h:A:=by
 iterate 3 refine af ?_
 refine Kc (aa.add rfl rfl rfl (aA ?_)) ?_
 ·simp at hc0;unfold bK at hx;omega
 exact L6):A:=h
theorem G3{A:Prop}(h:A:=by
 refine Kc (aa.aF rfl ai (by decide) rfl rfl rfl) ?_
 refine Kc (aa.fV rfl rfl rfl ai ai rfl ?_ rfl (by decide) rfl ai (by decide) ?_) ?_
 ·simp[gV]
 ·simp at hc0;omega
 iterate 4 refine af ?_
 refine Kc (aa.add rfl rfl rfl (aA ?_)) ?_
 ·simp at hc0;omega
 iterate 2 refine af ?_
 refine⟨i+1,?_,?_,?_⟩
 ·simp at hc0;omega
 ·simp at hc0;omega
 refine To.done [2] rfl KS ?_
 show[ak.row (bE _ (_++_)) _]=[ak.row _ _]
 rw[bI,aP,kW,Zy]
 simp only[Zl,ZP] at bw eG gQ
 simp only[iB,Sk.cw,Sk.cc,Sk.cl,bw,eG,gQ,if_true,if_false,ZE,zF,bE,aZ]):A:=h
theorem ac6{A:Prop}(h:A:=by
 refine af ?_
 refine Ki (fun gQ=> ?_) fun gQ=> ?_
 ·have g3:(decide ((k:Int)=0)||decide (nG (jj l b n i) k<max (w6 b i*lB n l[i] k) (w8 b i*lB n l[i] k)))=true:=gQ
  rw[<- eg] at g3
  have r3:nG (jj l b n i) (k+1)=jj l b n i k:=QH (by simpa using g3)
  iterate 4 refine af ?_
  refine Kc (aa.mul rfl rfl rfl (aA ?_)) ?_
  ·omega
  iterate 3 refine af ?_
  refine Kc (aa.mul rfl rfl rfl (aA ?_)) ?_
  ·omega
  refine Kc (aa.max2 rfl rfl rfl) ?_
  iterate 4 refine af ?_
  refine Kc (aa.add rfl rfl rfl (aA ?_)) ?_
  ·omega
  iterate 2 refine af ?_
  refine⟨k+1,?_,?_,?_⟩
  ·simp at bw;omega
  ·simp at bw;omega
  refine To.done [0] rfl ?_ rfl
  refine Sub.cons rfl (Sub.cons ?_ (Sub.cons ?_ KS))
  ·rw[r2];first | rfl | (rw[ef];rfl)
  ·rw[r3];first | rfl | (rw[eg];rfl)
 ·have g3:(decide ((k:Int)=0)||decide (nG (jj l b n i) k<max (w6 b i*lB n l[i] k) (w8 b i*lB n l[i] k)))=false:=gQ
  rw[<- eg] at g3
  have r3:nG (jj l b n i) (k+1)=nG (jj l b n i) k:=Qh (by simpa using g3)
  iterate 3 refine af ?_
  refine Kc (aa.add rfl rfl rfl (aA ?_)) ?_
  ·omega
  iterate 2 refine af ?_
  refine⟨k+1,?_,?_,?_⟩
  ·simp at bw;omega
  ·simp at bw;omega
  refine To.done [0] rfl ?_ rfl
  refine Sub.cons rfl (Sub.cons ?_ (Sub.cons ?_ KS))
  ·rw[r2];first | rfl | (rw[ef];rfl)
  ·rw[r3];first | rfl | (rw[eg];rfl)):A:=h
theorem Ts{A:Prop}(h:A:=by
 refine Kc (aa.add rfl rfl rfl (aA ?_)) ?_
 ·omega
 iterate 2 refine af ?_
 refine⟨s+1,?_,?_,?_⟩
 ·omega
 ·omega
 refine To.done [0,1] rfl KS ?_
 simp only[Zl,ZP] at eG gQ
 have c2:(0<=Dl l b (s:Int))↔_:=Iff.rfl
 unfold Dl at c2
 simp only[pZ,kL,Dl,H7,eG,gQ,if_true,if_false]
 rfl):A:=h
theorem Sz{A:Prop}(h:A:=by
 refine Kc (aa.min2 rfl rfl rfl) ?_
 iterate 3 refine af ?_
 refine Kc (aa.max2 rfl rfl rfl) ?_
 iterate 3 refine af ?_
 refine⟨_,rfl,To.done [0,1,2] rfl Sub.nil ?_⟩
 rcases WT k with hk0 | hk0
 ·subst hk0
  first
  | exact absurd hc0 (by decide)
  | show[ak.cells [.p (.int .i64 (min _ _)),.p (.int .i64 (max _ _))] 24,.cells [.p (.bool false)] 4,_]=_
    simp only[ny,nG,Int.min_self,Int.max_self,if_true]
    rfl
 ·have Wq:¬ k=0:=by omega
  first
  | exact absurd hc0 (by simp;omega)
  | show[ak.cells [.p (.int .i64 (min _ _)),.p (.int .i64 (max _ _))] 24,.cells [.p (.bool (k==0))] 4,_]=_
    rw[hc0]
    simp only[ny,nG,if_neg Wq]
    rfl):A:=h
theorem Lx{A:Prop}(h:A:=by
 refine Kc (aa.mul rfl rfl rfl (aA ?_)) ?_
 ·omega
 iterate 3 refine af ?_
 refine Fin.cY rfl rfl ?_
 simp_all [MH,vi,rQ,vG,mV]):A:=h
theorem TJ{A:Prop}(h:A:=by
 iterate 7 refine af ?_
 have hv:gT l b=false:=by unfold gT;simp at hc0;rcases hc0 with h | h <;> simp[h]
 refine Fin.bq (xs:=[.agg [.int .i64 0,.int .i64 0],.int .i64 1]) rfl (⟨_,_,rfl,⟨_,_,_,rfl,ai,rfl⟩,⟨_,_,rfl,rfl,rfl⟩⟩) rfl ?_
 simp[qn,hv]):A:=h
theorem ac4{A:Prop}(h:A:=by
 refine To.done [0,1] rfl KS ?_
 simp only[Zl,ZP] at bw
 simp only[gG _ b i hk0,xC,xA,bw,if_true,if_false,Int.add_zero]
 rfl):A:=h
theorem TP{A:Prop}(h:A:=by
 have q1:=VA (hf j) h.1
 have q2:=VA (hf j) (show 0<=hi by omega)
 omega):A:=h
theorem abx{A:Prop}(h:A:=by
 first | (show _<=_+ow F m∧_+ow F m<=_;omega) | (show _<=_+nT F m∧_+nT F m<=_;omega)):A:=h
set_option linter.unusedSimpArgs false
set_option linter.unusedVariables false
section
namespace Go.Proofs.YtchiinjiflgepaaGreatDoor.Ck
theorem AP{a b A B:Int}(ha:0<=a∧a<=A)(hb:0<=b∧b<=B):0<=a*b∧a*b<=A*B:=
 ⟨Int.mul_nonneg ha.1 hb.1,Int.mul_le_mul ha.2 hb.2 hb.1 (Int.le_trans ha.1 ha.2)⟩
def jr(w c l:Int):Prop:=(0<=w∧w<=1000)∧(0<=c∧c<=1000)∧(0<=l∧l<=1000)
def vi(w c l:Int):Int:=w*1000*1000
def rQ(w c l:Int):Int:=(1000 - w)*c*1000
def vG(w c l:Int):Int:=(1000 - w)*(1000 - c)*l
def mV(w c l:Int):Int:=(1000 - w)*(1000 - c)*(1000 - l)
def mw(w c l:Int):Int:=rQ w c l+mV w c l
def gr(n w c l:Int):Int:=1000*rQ w c l - n*mw w c l
theorem Ld{w c l:Int}(h:jr w c l):0<=(1000 - w)*c∧(1000 - w)*c<=1000000:=by
 obtain⟨hw,hc,hl⟩:=h
 exact AP (A:=1000) (B:=1000) ⟨by omega,by omega⟩ hc
theorem Pb{w c l:Int}(h:jr w c l):0<=(1000 - w)*(1000 - c)∧(1000 - w)*(1000 - c)<=1000000:=by
 obtain⟨hw,hc,hl⟩:=h
 exact AP (A:=1000) (B:=1000) ⟨by omega,by omega⟩ ⟨by omega,by omega⟩
theorem LI{w c l:Int}(h:jr w c l):0<=vG w c l∧vG w c l<=1000000000:=
 AP (A:=1000000) (B:=1000) (Pb h) h.2.2
theorem uZ{w c l:Int}(h:jr w c l):0<=mV w c l∧mV w c l<=1000000000:=
 AP (A:=1000000) (B:=1000) (Pb h) ⟨by have:=h.2.2;omega,by have:=h.2.2;omega⟩
theorem qv{w c l:Int}(h:jr w c l):0<=rQ w c l∧rQ w c l<=1000000000:=by
 have:=Ld h
 unfold rQ;omega
theorem U0{w c l:Int}(h:jr w c l):0<=vi w c l∧vi w c l<=1000000000:=by
 have:=h.1
 unfold vi;omega
theorem FT{w c l:Int}(h:jr w c l):0<=mw w c l∧mw w c l<=2000000000:=by
 have h1:=qv h
 have h2:=uZ h
 unfold mw;omega
theorem Mh{n w c l:Int}(hn:0<=n∧n<=1000)(h:jr w c l):0<=n*mw w c l∧n*mw w c l<=2000000000000:=
 AP (A:=1000) (B:=2000000000) hn (FT h)
theorem Yb{n w c l:Int}(hn:0<=n∧n<=1000)(h:jr w c l): -2000000000000<=gr n w c l∧gr n w c l<=1000000000000:=by
 have h1:=qv h
 have h2:=Mh hn h
 unfold gr;omega
theorem tdiv_le{n d B:Int}(hd:0<d)(hn: -B<=n∧n<=B): -B<=n.tdiv d∧n.tdiv d<=B:=by
 have h1:=Int.natAbs_tdiv_le_natAbs n d
 omega
def MH(k w c l:Int):Int:=if k=0 then vi w c l else if k=1 then rQ w c l else if k=2 then vG w c l else if k=3 then mV w c l else mw w c l
theorem ofB{k w c l:Int}(h:jr w c l):0<=MH k w c l∧MH k w c l<=2000000000:=by
 have h1:=U0 h
 have h2:=qv h
 have h3:=LI h
 have h4:=uZ h
 have h5:=FT h
 unfold MH
 split
 ·omega
 ·split
  ·omega
  ·split
   ·omega
   ·split <;> omega
def jw{α:Type}(p:α->Bool):List α->Int
 | []=> -1
 | x::xs=>if p x then 0 else let r:=jw p xs;if r<0 then -1 else r+1
theorem rE{α:Type}(p:α->Bool):∀(xs:List α) (i:Nat) (h:i<xs.length),(∀ j (hj:j<i),p (xs[j]'(by omega))=false)->p xs[i]=true->jw p xs=i
 | x::xs,0,h,h1,h2=>by simp at h2;simp[jw,h2]
 | x::xs,i+1,h,h1,h2=>by
  exact UN
theorem lM{α:Type}(p:α->Bool):∀ xs:List α,(∀ j (hj:j<xs.length),p xs[j]=false)->jw p xs= -1
 | [],_=>rfl
 | x::xs,h=>by
  exact abk
theorem lK{α:Type}(p:α->Bool):∀ xs:List α,decide (0<=jw p xs)=xs.any p
 | []=>rfl
 | x::xs=>by
  exact abK
theorem vI{α:Type}{p:α->Bool}{xs:List α}{i:Nat}(h:i<xs.length)(hp:p xs[i]=true):xs.any p=true:=List.any_eq_true.2 ⟨xs[i],ZZ h,hp⟩
theorem any_none{α:Type}{p:α->Bool}{xs:List α}(h:∀ j (hj:j<xs.length),p xs[j]=false):xs.any p=false:=by
 exact TT
def gR{α:Type}(f:α->Int)(b:List α)(i:Nat):Int:=((b.take i).map f).sum
theorem l6{α:Type}(f:α->Int)(b:List α):gR f b 0=0:=by simp[gR]
theorem gG{α:Type}(f:α->Int)(b:List α)(i:Nat)(h:i<b.length):gR f b (i+1)=gR f b i+f b[i]:=by
 unfold gR
 rw[<- ZbE h,Zy,List.sum_append]
 simp
theorem D0{α:Type}{f:α->Int}{b:List α}{A B:Int}(h:∀ t∈b,A<=f t∧f t<=B):∀ i,i<=b.length->A*i<=gR f b i∧gR f b i<=B*i
 | 0,_=>by rw[l6];simp
 | i+1,hi=>by
  have ih:=D0 h i (by omega)
  have h1:=h b[i] (ZZ _)
  rw[gG f b i hi]
  have e1:A*((i+1:Nat):Int)=A*i+A:=by rw[show((i+1:Nat):Int)=(i:Int)+1 by omega,Int.mul_add,Int.mul_one]
  have e2:B*((i+1:Nat):Int)=B*i+B:=by rw[show((i+1:Nat):Int)=(i:Int)+1 by omega,Int.mul_add,Int.mul_one]
  rw[e1,e2]
  omega
theorem Cj{a b A B:Int}(hA: -A<=a∧a<=A)(hb:0<=b∧b<=B): -(B*A)<=b*a∧b*a<=B*A:=by
 have UQ:0<=A:=by omega
 have h1:b*a<=b*A:=VA hA.2 hb.1
 have h2:b*A<=B*A:=Int.mul_le_mul_of_nonneg_right hb.2 UQ
 have h3:b*(-A)<=b*a:=VA hA.1 hb.1
 rw[Int.mul_neg] at h3
 omega
def ny(f:Nat->Int):Nat->Int
 | 0=>0
 | n+1=>if n=0 then f 0 else min (ny f n) (f n)
def nG(f:Nat->Int):Nat->Int
 | 0=>0
 | n+1=>if n=0 then f 0 else max (nG f n) (f n)
theorem Jg{f:Nat->Int}{A B:Int}:∀ n,0<n->(∀ j,j<n->A<=f j∧f j<=B)->A<=ny f n∧ny f n<=B
 | 0,h,_=>by omega
 | n+1,_,h=>by
  have h1:=h n (by omega)
  simp only[ny]
  split
  ·rename_i h0;exact h 0 (by omega)
  ·rename_i h0
   have ih:=Jg n (by omega) (fun j hj=>h j (by omega))
   omega
theorem Ly{f:Nat->Int}{A B:Int}:∀ n,0<n->(∀ j,j<n->A<=f j∧f j<=B)->A<=nG f n∧nG f n<=B
 | 0,h,_=>by omega
 | n+1,_,h=>by
  have h1:=h n (by omega)
  simp only[nG]
  split
  ·rename_i h0;exact h 0 (by omega)
  ·rename_i h0
   have ih:=Ly n (by omega) (fun j hj=>h j (by omega))
   omega
theorem qO{α:Type}(f:α->Int)(d:List α)(m:α):((d++[m]).map f).sum=(d.map f).sum+f m:=by simp
theorem yf{α:Type}(f:α->Int):∀(r:List α) (j:Nat) (m:α),r[j]? =some m->(r.map f).sum=f m+((r.eraseIdx j).map f).sum
 | [],j,m,h=>by simp at h
 | x::r,0,m,h=>by simp at h;subst h;simp
 | x::r,j+1,m,h=>by
  have ih:=yf f r j m (by simpa using h)
  simp only[ZE,List.sum_cons,List.eraseIdx_cons_succ,ih]
  omega
theorem mG{α:Type}{f:α->Int}:∀{r:List α},(∀ m∈r,0<=f m)->0<=(r.map f).sum
 | [],_=>by simp
 | x::r,h=>by
  have h1:=h x (by simp)
  have h2:=mG (f:=f) (r:=r) (fun m hm=>h m (by simp[hm]))
  simp only[ZE,List.sum_cons]
  omega
theorem uU{α:Type}{f:α->Int}:∀{r:List α} {x:α},(∀ m∈r,0<=f m)->x∈r->f x<=(r.map f).sum
 | [],_,_,h=>by cases h
 | y::r,x,h,hx=>by
  have h1:=h y (by simp)
  have h2:=mG (f:=f) (r:=r) (fun m hm=>h m (by simp[hm]))
  simp only[ZE,List.sum_cons]
  rcases Zv.1 hx with rfl | hx
  ·omega
  ·have:=uU (f:=f) (fun m hm=>h m (by simp[hm])) hx
   omega
theorem sS{α:Type}{f g:α->Int}{X:Int}:∀{r:List α},(∀ m∈r,-(X*g m)<=f m∧f m<=X*g m)-> -(X*(r.map g).sum)<=(r.map f).sum∧(r.map f).sum<=X*(r.map g).sum
 | [],_=>by simp
 | x::r,h=>by
  have h1:=h x (by simp)
  have h2:=sS (r:=r) (fun m hm=>h m (by simp[hm]))
  simp only[ZE,List.sum_cons,Int.mul_add]
  omega
def fc(f:Nat->Int):Nat->Int
 | 0=>0
 | n+1=>fc f n+f n
theorem zc{f:Nat->Int}{A B:Int}:∀ n,(∀ j,j<n->A<=f j∧f j<=B)->A*n<=fc f n∧fc f n<=B*n
 | 0,_=>by simp[fc]
 | n+1,h=>by
  exact RA
theorem UU{w c l:Int}(h:jr w c l):0<=mw w c l∧mw w c l<=1000000000:=by
 obtain⟨hw,hc,hl⟩:=h
 have h1:0<=(1000 - c)*(1000 - l)∧(1000 - c)*(1000 - l)<=(1000 - c)*1000:=
  ⟨Int.mul_nonneg (by omega) (by omega),VA (by omega) (by omega)⟩
 have h2:=AP (a:=1000 - w) (A:=1000) (b:=c*1000+(1000 - c)*(1000 - l)) (B:=1000000) ⟨by omega,by omega⟩ ⟨by omega,by omega⟩
 have e:mw w c l=(1000 - w)*(c*1000+(1000 - c)*(1000 - l)):=by
  unfold mw rQ mV
  rw[Int.mul_add,Int.mul_assoc,Int.mul_assoc]
 rw[e]
 omega
theorem Wa{n w c l:Int}(hn:0<=n∧n<=1000)(h:jr w c l): -1000000000000<=gr n w c l∧gr n w c l<=1000000000000:=by
 have h1:=qv h
 have h2:=AP (a:=n) (A:=1000) hn (UU h)
 unfold gr;omega
open Go.AF
structure Sp where
 lo:Int
 hi:Int
structure Sk where
 w:Sp
 c:Sp
 l:Sp
structure Tk where
 s:Int
 m:Sp
def Sp.cells(s:Sp):List PV:=[.int .i64 s.lo,.int .i64 s.hi]
def Sk.cells(s:Sk):List PV:=[.int .i64 s.w.lo,.int .i64 s.w.hi,.int .i64 s.c.lo,.int .i64 s.c.hi,.int .i64 s.l.lo,.int .i64 s.l.hi]
def Tk.cells(t:Tk):List PV:=[.int .i64 t.s,.int .i64 t.m.lo,.int .i64 t.m.hi]
def Sp.ok(s:Sp)(lo hi:Int):Bool:=decide (lo<=s.lo)&&decide (s.lo<=s.hi)&&decide (s.hi<=hi)
def Sk.bad(s:Sk):Bool:= !s.w.ok 0 900|| !s.c.ok 0 1000|| !s.l.ok 0 900
def Tk.bad(n:Nat)(t:Tk):Bool:= !(decide (0<=t.s)&&decide (t.s<=(n:Int) - 1))|| !t.m.ok 1 100000
def b8(l:List Sk):PV:= .is (l.flatMap Sk.cells) l.length
def kY(b:List Tk):PV:= .is (b.flatMap Tk.cells) b.length
def c8(l:List Sk):Bool:=decide ((l.length:Int)<=8)&& !l.any Sk.bad
def hO(n:Nat)(b:List Tk):Bool:=decide (1<=(b.length:Int))&&decide ((b.length:Int)<=8)&& !b.any (Tk.bad n)
def okB(b:List Tk):Prop:=b.length<=8∧∀ t∈b,0<=t.m.lo∧t.m.lo<=t.m.hi∧t.m.hi<=100000
def xC(k:Int)(t:Tk):Int:=if t.s=k then t.m.lo else 0
def xA(k:Int)(t:Tk):Int:=if t.s=k then t.m.hi else 0
theorem JB{b:List Tk}(h:okB b)(k:Int)(i:Nat)(hi:i<=b.length):0<=gR (xC k) b i∧gR (xC k) b i<=800000:=by
 have:=D0 (f:=xC k) (b:=b) (A:=0) (B:=100000) (fun t ht=>by have:=h.2 t ht;unfold xC;split <;> omega) i hi
 have:=h.1
 omega
theorem LK{b:List Tk}(h:okB b)(k:Int)(i:Nat)(hi:i<=b.length):0<=gR (xA k) b i∧gR (xA k) b i<=800000:=by
 have:=D0 (f:=xA k) (b:=b) (A:=0) (B:=100000) (fun t ht=>by have:=h.2 t ht;unfold xA;split <;> omega) i hi
 have:=h.1
 omega
def Sk.cw(s:Sk)(j:Nat):Int:=if (j:Int).tmod 2=1 then s.w.hi else s.w.lo
def Sk.cc(s:Sk)(j:Nat):Int:=if ((j:Int).tdiv 2).tmod 2=1 then s.c.hi else s.c.lo
def Sk.cl(s:Sk)(j:Nat):Int:=if (j:Int).tdiv 4=1 then s.l.hi else s.l.lo
def iB(s:Sk)(j:Nat):List PV:=[.int .i64 (s.cw j),.int .i64 (s.cc j),.int .i64 (s.cl j)]
def dS(s:Sk)(n:Nat):List PV:=(List.range n).flatMap (iB s)
theorem kW(s:Sk)(n:Nat):dS s (n+1)=dS s n++iB s n:=by simp[dS,Xt]
theorem gV(s:Sk):∀ n,(dS s n).length=n*3
 | 0=>rfl
 | n+1=>by rw[kW,Zc,gV s n];simp[iB];omega
def Sk.sw(s:Sk)(i:Nat):Int:=if (i:Int)=0 then s.w.lo else s.w.hi
def Sk.sc(s:Sk)(i:Nat):Int:=if (i:Int)=0 then s.c.lo else s.c.hi
def Sk.sl(s:Sk)(i:Nat):Int:=if (i:Int)=0 then s.l.lo else s.l.hi
def tw(s:Sk)(j:Nat):PV:= .agg [.int .i64 (s.sw (j / 4)),.int .i64 (s.sc (j / 2%2)),.int .i64 (s.sl (j%2))]
def mT(s:Sk):List (List V):=(List.range 8).map fun j=>[.p (tw s j)]
theorem A8(s:Sk){i j k:Nat}(hi:i<2)(hj:j<2)(hk:k<2):(mT s)[4*i+2*j+k]? =some [.p (.agg [.int .i64 (s.sw i),.int .i64 (s.sc j),.int .i64 (s.sl k)])]:=by
 have h:4*i+2*j+k<8:=by omega
 have e1:(4*i+2*j+k) / 4=i:=by omega
 have e2:(4*i+2*j+k) / 2%2=j:=by omega
 have e3:(4*i+2*j+k)%2=k:=by omega
 simp[mT,h,tw,e1,e2,e3]
def storeCells(s:Sk)(m:Sp):List PV:=s.cells++m.cells
def fM:Sk:=⟨⟨0,0⟩,⟨0,0⟩,⟨0,0⟩⟩
def fh:Sk×Sp:=(fM,⟨0,0⟩)
def Av(a:Sk×Sp):PV:= .agg (storeCells a.1 a.2)
def iI(l:List Sk)(ms:List (Int×(Sk×Sp)))(t:Tk):List (Int×(Sk×Sp)):=
 bh t.s (l[t.s.toNat]?.getD fM,⟨((cQ t.s ms).getD fh).2.lo+t.m.lo,((cQ t.s ms).getD fh).2.hi+t.m.hi⟩) ms
def bZ(l:List Sk)(b:List Tk)(i:Nat):List (Int×(Sk×Sp)):=(b.take i).foldl (iI l) []
theorem iG(l:List Sk)(b:List Tk)(i:Nat)(h:i<b.length):bZ l b (i+1)=iI l (bZ l b i) b[i]:=by
 unfold bZ
 rw[<- ZbE h,Su]
 rfl
theorem qj(l:List Sk)(b:List Tk)(k:Int):∀ i,i<=b.length->((cQ k (bZ l b i)).getD fh).2=⟨gR (xC k) b i,gR (xA k) b i⟩
 | 0,_=>by simp[bZ,cQ,l6,fh]
 | i+1,hi=>by
  have ih:=qj l b k i (by omega)
  rw[iG l b i hi,iI,lS,gG _ b i hi,gG _ b i hi]
  by_cases h:k=b[i].s
  ·have h1:=ih
   rw[if_pos h]
   simp only[NW,xC,xA,h,if_true]
   rw[h] at h1
   rw[h1]
  ·rw[if_neg h,ih]
   simp[xC,xA,Ne.symm h]
def NI(n:Nat)(b:List Tk):Prop:=∀ t∈b,0<=t.s∧t.s<(n:Int)
def ow(F:Sk->Nat->Int)(m:Int×(Sk×Sp)):Int:=ny (fun j=>min (m.2.2.lo*F m.2.1 j) (m.2.2.hi*F m.2.1 j)) 8
def nT(F:Sk->Nat->Int)(m:Int×(Sk×Sp)):Int:=nG (fun j=>max (m.2.2.lo*F m.2.1 j) (m.2.2.hi*F m.2.1 j)) 8
def yL(m:Int×(Sk×Sp)):Int:=m.2.2.hi
theorem XP{lo hi f:Int}(hm:0<=lo∧lo<=hi)(hf: -2000000000000<=f∧f<=2000000000000):(-(2000000000000*hi)<=lo*f∧lo*f<=2000000000000*hi)∧(-(2000000000000*hi)<=hi*f∧hi*f<=2000000000000*hi):=by
 have h1:=Cj (A:=2000000000000) (B:=lo) (b:=lo) hf ⟨hm.1,Dy _⟩
 have h2:=Cj (A:=2000000000000) (B:=hi) (b:=hi) hf ⟨by omega,Dy _⟩
 omega
theorem LB{F:Sk->Nat->Int}{m:Int×(Sk×Sp)}(hm:0<=m.2.2.lo∧m.2.2.lo<=m.2.2.hi)(hF:∀ j,j<8-> -2000000000000<=F m.2.1 j∧F m.2.1 j<=2000000000000): -(2000000000000*yL m)<=ow F m∧ow F m<=2000000000000*yL m:=
 Jg 8 (by omega) (fun j hj=>by have:=XP hm (hF j hj);unfold yL;omega)
theorem EM{F:Sk->Nat->Int}{m:Int×(Sk×Sp)}(hm:0<=m.2.2.lo∧m.2.2.lo<=m.2.2.hi)(hF:∀ j,j<8-> -2000000000000<=F m.2.1 j∧F m.2.1 j<=2000000000000): -(2000000000000*yL m)<=nT F m∧nT F m<=2000000000000*yL m:=
 Ly 8 (by omega) (fun j hj=>by have:=XP hm (hF j hj);unfold yL;omega)
structure ud where
 d:List (Int×(Sk×Sp))
 r:List (Int×(Sk×Sp))
 last:Option (Int×(Sk×Sp))
def ud.ok(ms:List (Int×(Sk×Sp)))(g:ud):Prop:=(∀ f:Int×(Sk×Sp)->Int,(g.d.map f).sum+(g.r.map f).sum=(ms.map f).sum)∧(∀ m∈g.d,m∈ms)∧(∀ m∈g.r,m∈ms)
theorem ud.Fh{ms d r:List (Int×(Sk×Sp))}{l:Option (Int×(Sk×Sp))}{j:Nat}{m:Int×(Sk×Sp)}(h:ud.ok ms ⟨d,r,l⟩)(hj:r[j]? =some m):ud.ok ms ⟨d++[m],r.eraseIdx j,some m⟩:=by
 obtain⟨h1,h2,h3⟩:=h
 refine⟨fun f=> ?_,fun x hx=> ?_,fun x hx=>h3 x (List.mem_of_mem_eraseIdx hx)⟩
 ·have:=h1 f
  have e:=yf f r j m hj
  simp only at this ⊢
  rw[qO]
  omega
 ·rcases Zs.1 hx with hx | hx
  ·exact h2 x hx
  ·simp at hx;subst hx;exact h3 x (Zi hj)
def tf(s:Sk):Prop:=(0<=s.w.lo∧s.w.lo<=s.w.hi∧s.w.hi<=900)∧(0<=s.c.lo∧s.c.lo<=s.c.hi∧s.c.hi<=1000)∧(0<=s.l.lo∧s.l.lo<=s.l.hi∧s.l.hi<=900)
def okM(ms:List (Int×(Sk×Sp))):Prop:=(∀ m∈ms,0<=m.2.2.lo∧m.2.2.lo<=m.2.2.hi)∧(ms.map yL).sum<=800000∧∀ m∈ms,tf m.2.1
theorem tf.state{s:Sk}(h:tf s)(j:Nat):jr (s.sw (j / 4)) (s.sc (j / 2%2)) (s.sl (j%2)):=by
 unfold tf at h
 unfold jr Sk.sw Sk.sc Sk.sl
 refine⟨?_,?_,?_⟩ <;> split <;> omega
def Ov(f:Int->Int->Int->Int)(s:Sk)(j:Nat):Int:=f (s.sw (j / 4)) (s.sc (j / 2%2)) (s.sl (j%2))
def w6(b:List Tk)(i:Nat):Int:=gR (xC (i:Int)) b b.length
def w8(b:List Tk)(i:Nat):Int:=gR (xA (i:Int)) b b.length
def Dz(l:List Sk):Prop:=l.length<=8∧∀ s∈l,tf s
theorem wB{b:List Tk}(h:okB b)(i:Nat):(0<=w6 b i∧w6 b i<=800000)∧(0<=w8 b i∧w8 b i<=800000):=⟨JB h i _ (Zg _),LK h i _ (Zg _)⟩
theorem tf.nQ{s:Sk}(h:tf s)(j:Nat):jr (s.cw j) (s.cc j) (s.cl j):=by
 unfold tf at h
 unfold jr Sk.cw Sk.cc Sk.cl
 refine⟨?_,?_,?_⟩ <;> split <;> omega
theorem jc(s:Sk){k:Nat}(h:k<8):((dS s 8).drop (k*3)).take 3=iB s k:=by
 have:=mj (f:=iB s) (sz:=3) (fun _=>rfl) (List.range 8) k (by simpa using h)
 simpa[dS] using this
theorem jW(s:Sk):dS s 8≠[]:=by
 intro h
 have:=gV s 8
 rw[h] at this
 simp at this
def lB(n:Int)(s:Sk)(k:Nat):Int:=1000*MH 1 (s.cw k) (s.cc k) (s.cl k) - n*MH 4 (s.cw k) (s.cc k) (s.cl k)
theorem KH{n:Int}{s:Sk}(hn:0<=n∧n<=1000)(h:tf s)(k:Nat): -1000000000000<=lB n s k∧lB n s k<=1000000000000:=by
 have:=Wa hn (h.nQ k)
 have e:lB n s k=gr n (s.cw k) (s.cc k) (s.cl k):=by simp[lB,gr,MH]
 rw[e];exact this
def ji(l:List Sk)(b:List Tk)(n:Int)(i k:Nat):Int:=min (w6 b i*lB n (l[i]?.getD fM) k) (w8 b i*lB n (l[i]?.getD fM) k)
def jj(l:List Sk)(b:List Tk)(n:Int)(i k:Nat):Int:=max (w6 b i*lB n (l[i]?.getD fM) k) (w8 b i*lB n (l[i]?.getD fM) k)
def rF(l:List Sk)(b:List Tk)(n:Int)(i:Nat):Int:=ny (ji l b n i) 8
def qQ(l:List Sk)(b:List Tk)(n:Int)(i:Nat):Int:=nG (jj l b n i) 8
theorem ab6{l:List Sk}{b:List Tk}{n:Int}(hb:okB b)(hn:0<=n∧n<=1000){i:Nat}(hi:i<l.length)(hl:tf l[i]):
    (-800000000000000000<=rF l b n i∧rF l b n i<=800000000000000000)∧(-800000000000000000<=qQ l b n i∧qQ l b n i<=800000000000000000):=by
 have h1:=wB hb i
 have key:∀ k,(-800000000000000000<=ji l b n i k∧ji l b n i k<=800000000000000000)∧(-800000000000000000<=jj l b n i k∧jj l b n i k<=800000000000000000):=fun k=>by
  unfold ji jj
  rw[Zb hi,NW]
  have hx:=KH hn hl k
  have q1:=Cj (A:=1000000000000) (B:=800000) (b:=w6 b i) hx h1.1
  have q2:=Cj (A:=1000000000000) (B:=800000) (b:=w8 b i) hx h1.2
  omega
 exact⟨Jg 8 (by omega) (fun k _=>(key k).1),Ly 8 (by omega) (fun k _=>(key k).2)⟩
def bK:Nat:=9223372036854775807
set_option maxRecDepth 100000
set_option maxHeartbeats 4000000
theorem cW(n lo hi:Int):Pure Tryz.prog 214 [.int .i64 n,.int .i64 lo,.int .i64 hi] (.bool (decide (lo<=n)&&decide (n<=hi))):=by
 refine Kf (N:=15) Tryz.func214 ?_
 exact J3
theorem tF(n lo hi:Int):Pure Tryz.prog 198 [.int .i64 n,.int .i64 lo,.int .i64 hi] (.bool (decide (lo<=n)&&decide (n<=hi))):=by
 refine Kf (N:=15) Tryz.func198 ?_
 exact J3
theorem je(a b lo hi:Int):Pure Tryz.prog 211 [.agg [.int .i64 a,.int .i64 b],.int .i64 lo,.int .i64 hi] (.bool (decide (lo<=a)&&decide (a<=b)&&decide (b<=hi))):=by
 refine Kf (N:=24) Tryz.func211 ?_
 exact T6
theorem jn(a b lo hi:Int):Pure Tryz.prog 159 [.agg [.int .i64 a,.int .i64 b],.int .i64 lo,.int .i64 hi] (.bool (decide (lo<=a)&&decide (a<=b)&&decide (b<=hi))):=by
 refine Kf (N:=24) Tryz.func159 ?_
 exact T6
theorem KQ(w c l:Int)(hs:jr w c l):Pure Tryz.prog 225 [.agg [.int .i64 w,.int .i64 c,.int .i64 l]] (.int .i64 (1000 - w)):=by
 obtain⟨hw,hc,hl⟩:=id hs
 refine Kf (N:=6) Tryz.func225 ?_
 iterate 9 refine af ?_
 refine Kc (aa.ec rfl rfl rfl (aA ?_)) ?_
 ·omega
 exact mc
theorem D6(w c l:Int)(hs:jr w c l):Pure Tryz.prog 222 [.agg [.int .i64 w,.int .i64 c,.int .i64 l]] (.int .i64 (rQ w c l)):=by
 obtain⟨hw,hc,hl⟩:=id hs
 have b1:=Ld hs
 refine Kf (N:=9) Tryz.func222 ?_
 iterate 6 refine af ?_
 refine aC.az 7 mixed (by kernel_rfl) (by decide) ?_
 refine af ?_
 refine Kq (Kp (KQ _ _ _ ?_)) ?_
 ·assumption
 iterate 2 refine af ?_
 refine Kq (aa.mul rfl rfl rfl (aA ?_)) ?_
 ·omega
 refine Kq (aa.mul rfl rfl rfl (aA ?_)) ?_
 ·omega
 exact JW
theorem Kw(w c l:Int)(hs:jr w c l):Pure Tryz.prog 226 [.agg [.int .i64 w,.int .i64 c,.int .i64 l]] (.int .i64 (mV w c l)):=by
 obtain⟨hw,hc,hl⟩:=id hs
 have b1:=Pb hs
 have b2:=uZ hs
 unfold mV at b2
 refine Kf (N:=13) Tryz.func226 ?_
 iterate 6 refine af ?_
 refine aC.az 11 mixed (by kernel_rfl) (by decide) ?_
 refine af ?_
 refine Kq (Kp (KQ _ _ _ ?_)) ?_
 ·assumption
 iterate 2 refine af ?_
 refine Kq (aa.ec rfl rfl rfl (aA ?_)) ?_
 ·omega
 refine Kq (aa.mul rfl rfl rfl (aA ?_)) ?_
 ·omega
 iterate 2 refine af ?_
 refine Kq (aa.ec rfl rfl rfl (aA ?_)) ?_
 ·omega
 refine Kq (aa.mul rfl rfl rfl (aA ?_)) ?_
 ·omega
 exact JW
theorem PC(w c l:Int)(hs:jr w c l):Pure Tryz.prog 223 [.agg [.int .i64 w,.int .i64 c,.int .i64 l]] (.int .i64 (mw w c l)):=by
 obtain⟨hw,hc,hl⟩:=id hs
 have b1:=qv hs
 have b2:=uZ hs
 refine Kf (N:=8) Tryz.func223 ?_
 iterate 6 refine af ?_
 refine aC.az 6 mixed (by kernel_rfl) (by decide) ?_
 refine af ?_
 refine Kq (Kp (D6 _ _ _ ?_)) ?_
 ·assumption
 refine af ?_
 refine Kq (Kp (Kw _ _ _ ?_)) ?_
 ·assumption
 refine Kq (aa.add rfl rfl rfl (aA ?_)) ?_
 ·omega
 exact JW
theorem QM(n w c l:Int)(hn:0<=n∧n<=1000)(hs:jr w c l):Pure Tryz.prog 218 [.agg [.int .i64 w,.int .i64 c,.int .i64 l],.int .i64 n] (.int .i64 (gr n w c l)):=by
 obtain⟨hw,hc,hl⟩:=id hs
 have b1:=qv hs
 have b2:=FT hs
 have b3:=Mh hn hs
 refine Kf (N:=13) Tryz.func218 ?_
 iterate 6 refine af ?_
 refine aC.az 9 mixed (by kernel_rfl) (by decide) ?_
 refine af ?_
 refine Kq (Kp (D6 _ _ _ ?_)) ?_
 ·assumption
 refine Kq (aa.mul rfl rfl rfl (aA ?_)) ?_
 ·omega
 iterate 2 refine af ?_
 refine Kq (Kp (PC _ _ _ ?_)) ?_
 ·assumption
 refine Kq (aa.mul rfl rfl rfl (aA ?_)) ?_
 ·omega
 refine Kq (aa.ec rfl rfl rfl (aA ?_)) ?_
 ·omega
 exact JW
theorem Al(k w c l:Int)(hk:k=0∨k=1∨k=2∨k=3)(hs:jr w c l):Pure Tryz.prog 201 [.int .i64 k,.int .i64 w,.int .i64 c,.int .i64 l] (.int .i64 (MH k w c l)):=by
 obtain⟨hw,hc,hl⟩:=id hs
 have b1:=Ld hs
 have b2:=Pb hs
 have b3:=LI hs
 have b4:=uZ hs
 unfold vG at b3
 unfold mV at b4
 refine Kf (N:=50) Tryz.func201 ?_
 iterate 15 refine af ?_
 refine Ki (fun hc0=> ?_) fun hc0=> ?_
 ·iterate 3 refine af ?_
  refine Kc (aa.mul rfl rfl rfl (aA ?_)) ?_
  ·omega
  exact Lx
 ·iterate 5 refine af ?_
  refine Ki (fun bw=> ?_) fun bw=> ?_
  ·iterate 3 refine af ?_
   refine Kc (aa.ec rfl rfl rfl (aA ?_)) ?_
   ·omega
   refine af ?_
   refine Kc (aa.mul rfl rfl rfl (aA ?_)) ?_
   ·omega
   exact Lx
  ·iterate 5 refine af ?_
   refine Ki (fun eG=> ?_) fun eG=> ?_
   ·iterate 3 refine af ?_
    refine Kc (aa.ec rfl rfl rfl (aA ?_)) ?_
    ·omega
    refine af ?_
    refine Kc (aa.ec rfl rfl rfl (aA ?_)) ?_
    ·omega
    refine Kc (aa.mul rfl rfl rfl (aA ?_)) ?_
    ·omega
    refine af ?_
    exact Lx
   ·iterate 5 refine af ?_
    refine Ki (fun gQ=> ?_) fun gQ=> ?_
    ·iterate 3 refine af ?_
     refine Kc (aa.ec rfl rfl rfl (aA ?_)) ?_
     ·omega
     refine af ?_
     refine Kc (aa.ec rfl rfl rfl (aA ?_)) ?_
     ·omega
     refine Kc (aa.mul rfl rfl rfl (aA ?_)) ?_
     ·omega
     refine af ?_
     refine Kc (aa.ec rfl rfl rfl (aA ?_)) ?_
     ·omega
     exact Lx
    ·exfalso;simp at hc0 bw eG gQ;omega
theorem O5(w c l:Int)(hs:jr w c l):Pure Tryz.prog 201 [.int .i64 4,.int .i64 w,.int .i64 c,.int .i64 l] (.int .i64 (MH 4 w c l)):=by
 have b1:=ofB (k:=1) hs
 have b2:=ofB (k:=3) hs
 refine Kf (N:=50) Tryz.func201 ?_
 iterate 15 refine af ?_
 refine Ki (fun hc0=> ?_) fun hc0=> ?_
 ·exact absurd hc0 (by decide)
 ·iterate 5 refine af ?_
  refine Ki (fun bw=> ?_) fun bw=> ?_
  ·exact absurd bw (by decide)
  ·iterate 5 refine af ?_
   refine Ki (fun eG=> ?_) fun eG=> ?_
   ·exact absurd eG (by decide)
   ·iterate 5 refine af ?_
    refine Ki (fun gQ=> ?_) fun gQ=> ?_
    ·exact absurd gQ (by decide)
    ·iterate 6 refine af ?_
     refine Kc (Kp (Al _ _ _ _ ?_ ?_)) ?_
     ·omega
     ·assumption
     iterate 3 refine af ?_
     refine Kc (Kp (Al _ _ _ _ ?_ ?_)) ?_
     ·omega
     ·assumption
     refine Kc (aa.add rfl rfl rfl (aA ?_)) ?_
     ·omega
     iterate 3 refine af ?_
     refine Fin.cY rfl rfl ?_
     simp[MH,mw]
theorem Md(k w c l:Int)(hk:0<=k∧k<=4)(hs:jr w c l):Pure Tryz.prog 201 [.int .i64 k,.int .i64 w,.int .i64 c,.int .i64 l] (.int .i64 (MH k w c l)):=by
 by_cases h:k=4
 ·subst h;exact O5 w c l hs
 ·exact Al k w c l (by omega) hs
theorem Bw(s:Sk):Pure Tryz.prog 200 [.agg s.cells] (.is (dS s 8) 8):=by
 refine Kf (N:=47) Tryz.func200 ?_
 iterate 15 refine af ?_
 refine aC.nu [3,4,5,6,7,8,9,10,11,12,13,14,15,16,17,18,19,20,21,22,23,24,25,26,27,28,29,30,31,32,33,34,35,36,37,38,39,40,41,42,43,44,45] (fun g=>[(4,.p (.int .i64 ((g:Nat):Int))),(3,gP 0 g)]) (fun g=>[dG ((dS s g).map .p) 248 g]) (fun g=>g<=8) (fun g=>8 - g) 0 (by omega) (To.pad.trans (To.sub (fun _ _ h=>h))) (fun i hg=> ?_)
 have q2:=tdiv_le (n:=(i:Int)) (d:=2) (B:=8) (by omega) (by omega)
 have q4:=tdiv_le (n:=(i:Int)) (d:=4) (B:=8) (by omega) (by omega)
 iterate 6 refine af ?_
 refine Ki (fun hc0=> ?_) fun hc0=> ?_
 ·iterate 22 refine af ?_
  refine Kc (aa.rem rfl rfl rfl ?_ rfl) ?_
  ·omega
  iterate 2 refine af ?_
  refine Ki (fun bw=> ?_) fun bw=> ?_
  ·iterate 11 refine af ?_
   exact RE
  ·iterate 5 refine af ?_
   exact RE
 ·refine aC.to (To.acc 3 0 i rfl rfl (fun h=>by subst h;rfl)) ?_
  refine aC.exit ?_
  iterate 6 refine af ?_
  refine Fin.cY rfl rfl ?_
  have h8:i=8:=by simp at hc0;omega
  subst h8
  rfl
theorem DL(b:List Tk)(k:Int)(hb:okB b):Pure Tryz.prog 199 [kY b,.int .i64 k] (.agg [.int .i64 (gR (xC k) b b.length),.int .i64 (gR (xA k) b b.length)]):=by
 have hb8:=hb.1
 refine Kf (N:=40) Tryz.func199 ?_
 iterate 14 refine af ?_
 refine aC.nu [6,7,8,9,10,11,12,13,14,15,16,17,18,19,20,21,22,23,24,25,26,27,28,29,30,31,32,33,34,35,36,37,38] (fun g=>[(6,.p (.int .i64 ((g:Nat):Int)))]) (fun g=>[.cells [.p (.int .i64 (0)),.p (.int .i64 (0))] 24,.cells [.p (.int .i64 (gR (xC k) b g)),.p (.int .i64 (gR (xA k) b g))] 24]) (fun g=>g<=b.length) (fun g=>b.length - g) 0 (Zn _) (by simp only[l6];exact To.sub (Sub.L8 (Sub.cons rfl Sub.nil))) (fun i hg=> ?_)
 have p1:=JB hb k i hg
 have p2:=LK hb k i hg
 iterate 8 refine af ?_
 refine Ki (fun hc0=> ?_) fun hc0=> ?_
 ·have hk0:i<b.length:=by simp at hc0;omega
  have ht:=hb.2 b[i] (ZZ _)
  iterate 7 refine af ?_
  refine Kc (aa.eM rfl rfl rfl ai vp rfl (fun _=>rfl) (by decide) hk0) ?_
  iterate 5 refine af ?_
  refine Ki (fun bw=> ?_) fun bw=> ?_
  ·refine aC.az 19 mixed (by kernel_rfl) (by decide) ?_
   iterate 4 refine af ?_
   refine Kq (aa.eM rfl rfl rfl ai vp rfl (fun _=>rfl) (by decide) hk0) ?_
   iterate 3 refine af ?_
   refine Kq (aa.add rfl rfl rfl (aA ?_)) ?_
   ·omega
   iterate 4 refine af ?_
   refine Kq (aa.eM rfl rfl rfl ai vp rfl (fun _=>rfl) (by decide) hk0) ?_
   iterate 3 refine af ?_
   refine Kq (aa.add rfl rfl rfl (aA ?_)) ?_
   ·omega
   refine Kq (aa.build rfl ai rfl rfl) ?_
   refine ay.nil ?_
   iterate 4 refine af ?_
   exact TO
  ·iterate 3 refine af ?_
   exact TO
 ·obtain rfl:i=b.length:=by simp at hc0;omega
  refine aC.exit ?_
  iterate 6 refine af ?_
  exact B0
def Hg(f:Nat->Int):Nat->Int
 | 0=>f 0
 | n+1=>min (Hg f n) (f n)
theorem Bo{K α:Type}[DecidableEq K]{k:K}{v:α}:∀{ms:List (K×α)},cQ k ms=some v->(k,v)∈ms
 | [],h=>by simp[cQ] at h
 | m::r,h=>by
  simp only[cQ] at h
  split at h
  ·rename_i hk
   simp at h
   subst h;subst hk
   simp
  ·exact Zk _ (Bo h)
theorem Bc{K α:Type}[DecidableEq K]{k:K}{a:α}{x:K×α}:∀{ms:List (K×α)},x∈bh k a ms->x=(k,a)∨x∈ms
 | [],h=>by simp[bh] at h;exact .inl h
 | m::r,h=>by
  simp only[bh] at h
  split at h
  ·rcases Zv.1 h with h | h
   ·exact .inl h
   ·exact .inr (Zk _ h)
  ·rcases Zv.1 h with h | h
   ·exact .inr (by simp[h])
   ·rcases Bc h with h | h
    ·exact .inl h
    ·exact .inr (Zk _ h)
theorem v8{K α:Type}[DecidableEq K](f:α->Int)(k:K)(a z:α)(hz:f z=0):∀ ms:List (K×α),((bh k a ms).map fun m=>f m.2).sum=(ms.map fun m=>f m.2).sum - f ((cQ k ms).getD z)+f a
 | []=>by simp[bh,cQ,hz]
 | m::r=>by
  simp only[bh,cQ]
  split
  ·rename_i hk
   simp
   omega
  ·have ih:=v8 f k a z hz r
   simp only[ZE,List.sum_cons,ih]
   omega
theorem mZ{f g:Nat->Int}:∀ n,(∀ j,j<n->f j=g j)->fc f n=fc g n
 | 0,_=>rfl
 | n+1,h=>by simp only[fc];rw[mZ n (fun j hj=>h j (by omega)),h n (by omega)]
theorem lI{f:Nat->Int}:∀ n,(∀ j,j<n->f j=0)->fc f n=0
 | 0,_=>rfl
 | n+1,h=>by simp only[fc];rw[lI n (fun j hj=>h j (by omega)),h n (by omega)];rfl
theorem sW{f g:Nat->Int}{k:Nat}:∀ n,k<n->(∀ j,j<n->j≠k->g j=f j)->fc g n=fc f n - f k+g k
 | 0,h,_=>by omega
 | n+1,h,hj=>by
  exact Ti
theorem wN(l:List Sk)(b:List Tk)(k:Int)(v:Sk×Sp):∀ i,i<=b.length->cQ k (bZ l b i)=some v->v.1=l[k.toNat]?.getD fM
 | 0,_,h=>by simp[bZ,cQ] at h
 | i+1,hi,h=>by
  rw[iG l b i hi,iI,lS] at h
  split at h
  ·rename_i hk
   simp at h
   subst h
   simp[hk]
  ·exact wN l b k v i (by omega) h
theorem wK{l:List Sk}{b:List Tk}(hl:Dz l)(hb:okB b)(ht:NI l.length b):∀ i,i<=b.length->∀ m∈bZ l b i,(0<=m.2.2.lo∧m.2.2.lo<=m.2.2.hi)∧tf m.2.1
 | 0,_,m,h=>by simp[bZ] at h
 | i+1,hi,m,h=>by
  have ih:=wK hl hb ht i (by omega)
  rw[iG l b i hi,iI] at h
  rcases Bc h with h | h
  ·subst h
   have h1:=hb.2 b[i] (ZZ _)
   have h2:=ht b[i] (ZZ _)
   have h3:b[i].s.toNat<l.length:=by omega
   have h4:0<=((cQ b[i].s (bZ l b i)).getD fh).2.lo∧((cQ b[i].s (bZ l b i)).getD fh).2.lo<=((cQ b[i].s (bZ l b i)).getD fh).2.hi:=by
    cases hg:cQ b[i].s (bZ l b i) with
    | none=>simp[fh]
    | some v=>have:=(ih _ (Bo hg)).1;simpa using this
   refine⟨⟨by dsimp only;omega,by dsimp only;omega⟩,?_⟩
   dsimp only
   rw[Zb h3,NW]
   exact hl.2 _ (ZZ _)
  ·exact ih m h
theorem qp{l:List Sk}{b:List Tk}(ht:NI l.length b)(g:Sk->Int->Int->Int)(h0:∀ s,g s 0 0=0):∀ i,i<=b.length->
    ((bZ l b i).map fun m=>g m.2.1 m.2.2.lo m.2.2.hi).sum=fc (fun j=>g (l[j]?.getD fM) (gR (xC (j:Int)) b i) (gR (xA (j:Int)) b i)) l.length
 | 0,_=>by
  rw[lI]
  ·simp[bZ]
  ·intro j _
   simp only[l6]
   exact h0 _
 | i+1,hi=>by
  have ih:=qp ht g h0 i (by omega)
  have h2:=ht b[i] (ZZ _)
  have h3:b[i].s.toNat<l.length:=by omega
  have e0:((b[i].s.toNat:Nat):Int)=b[i].s:=by omega
  rw[iG l b i hi,iI,v8 (fun v:Sk×Sp=>g v.1 v.2.lo v.2.hi) b[i].s _ fh (by simp[fh,h0]),ih,
   sW (f:=fun j:Nat=>g (l[j]?.getD fM) (gR (xC (j:Int)) b i) (gR (xA (j:Int)) b i)) (g:=fun j:Nat=>g (l[j]?.getD fM) (gR (xC (j:Int)) b (i+1)) (gR (xA (j:Int)) b (i+1))) l.length h3 (fun j hj hn=>by
    have hne:¬ b[i].s=(j:Int):=by omega
    simp only[gG _ b i hi,xC,xA,if_neg hne,Int.add_zero])]
  have hg:=qj l b b[i].s i (by omega)
  have e1:g ((cQ b[i].s (bZ l b i)).getD fh).1 ((cQ b[i].s (bZ l b i)).getD fh).2.lo ((cQ b[i].s (bZ l b i)).getD fh).2.hi=g (l[b[i].s.toNat]?.getD fM) (gR (xC b[i].s) b i) (gR (xA b[i].s) b i):=by
   cases hm:cQ b[i].s (bZ l b i) with
   | none=>
    rw[hm] at hg
    simp only[Option.getD_none,fh] at hg ⊢
    have q1:gR (xC b[i].s) b i=0:=(congrArg Sp.lo hg).symm
    have q2:gR (xA b[i].s) b i=0:=(congrArg Sp.hi hg).symm
    rw[q1,q2,h0,h0]
   | some v=>
    rw[hm] at hg
    simp only[NW] at hg ⊢
    rw[wN l b _ v i (by omega) hm,hg]
  dsimp only
  rw[e1,e0,hg,gG _ b i hi,gG _ b i hi]
  simp only[xC,xA,if_true]
theorem yR{l:List Sk}{b:List Tk}(hb:okB b):∀ i,i<=b.length->((bZ l b i).map yL).sum<=100000*(i:Int)
 | 0,_=>by simp[bZ]
 | i+1,hi=>by
  have ih:=yR (l:=l) hb i (by omega)
  have h1:=hb.2 b[i] (ZZ _)
  have e:=v8 (fun v:Sk×Sp=>v.2.hi) b[i].s (l[b[i].s.toNat]?.getD fM,⟨((cQ b[i].s (bZ l b i)).getD fh).2.lo+b[i].m.lo,((cQ b[i].s (bZ l b i)).getD fh).2.hi+b[i].m.hi⟩) fh rfl (bZ l b i)
  rw[iG l b i hi,iI]
  unfold yL at ih ⊢
  rw[e]
  dsimp only
  omega
theorem Gj{l:List Sk}{b:List Tk}(hl:Dz l)(hb:okB b)(ht:NI l.length b):okM (bZ l b b.length):=by
 have h:=wK hl hb ht b.length (Zg _)
 refine⟨fun m hm=>(h m hm).1,?_,fun m hm=>(h m hm).2⟩
 have:=yR (l:=l) hb b.length (Zg _)
 have:=hb.1
 omega
theorem yW(f:Nat->Int):∀ n j,j<n->ny f n<=f j
 | 0,j,h=>by omega
 | n+1,j,h=>by
  simp only[ny]
  split
  ·rename_i h0;subst h0;obtain rfl:j=0:=by omega
   exact Dy _
  ·rcases NX.1 h with h1 | rfl
   ·have:=yW f n j h1;omega
   ·omega
theorem An(f:Nat->Int):∀ n,0<n->∃ j,j<n∧ny f n=f j
 | 0,h=>by omega
 | n+1,_=>by
  simp only[ny]
  split
  ·rename_i h0;exact⟨0,by omega,rfl⟩
  ·obtain⟨j,h1,h2⟩:=An f n (by omega)
   rcases Int.le_total (ny f n) (f n) with h | h
   ·exact⟨j,by omega,by omega⟩
   ·exact⟨n,by omega,by omega⟩
theorem zg(f:Nat->Int):∀ n j,j<n->f j<=nG f n
 | 0,j,h=>by omega
 | n+1,j,h=>by
  simp only[nG]
  split
  ·rename_i h0;subst h0;obtain rfl:j=0:=by omega
   exact Dy _
  ·rcases NX.1 h with h1 | rfl
   ·have:=zg f n j h1;omega
   ·omega
theorem z7(f:Nat->Int):∀ n,0<n->∃ j,j<n∧nG f n=f j
 | 0,h=>by omega
 | n+1,_=>by
  simp only[nG]
  split
  ·rename_i h0;exact⟨0,by omega,rfl⟩
  ·obtain⟨j,h1,h2⟩:=z7 f n (by omega)
   rcases Int.le_total (f n) (nG f n) with h | h
   ·exact⟨j,by omega,by omega⟩
   ·exact⟨n,by omega,by omega⟩
theorem Wc{f g:Nat->Int}{n:Nat}(hn:0<n)(h1:∀ j,j<n->∃ i,i<n∧g i<=f j)(h2:∀ j,j<n->∃ i,i<n∧f i<=g j):ny f n=ny g n:=by
 obtain⟨j,hj,ej⟩:=An f n hn
 obtain⟨k,hk,ek⟩:=An g n hn
 obtain⟨i,hi,le1⟩:=h1 j hj
 obtain⟨i',hi',le2⟩:=h2 k hk
 have:=yW g n i hi
 have:=yW f n i' hi'
 omega
theorem VO{f g:Nat->Int}{n:Nat}(hn:0<n)(h1:∀ j,j<n->∃ i,i<n∧f j<=g i)(h2:∀ j,j<n->∃ i,i<n∧g j<=f i):nG f n=nG g n:=by
 obtain⟨j,hj,ej⟩:=z7 f n hn
 obtain⟨k,hk,ek⟩:=z7 g n hn
 obtain⟨i,hi,le1⟩:=h1 j hj
 obtain⟨i',hi',le2⟩:=h2 k hk
 have:=zg g n i hi
 have:=zg f n i' hi'
 omega
def sig(k:Nat):Nat:=4*(k%2)+2*(k / 2%2)+k / 4%2
theorem sK(k:Nat):sig k<8:=by unfold sig;omega
theorem El:∀ k,k<8->sig (sig k)=k:=by decide
theorem Fb(f:Int->Int->Int->Int)(s:Sk):∀ k,k<8->Ov f s (sig k)=f (s.cw k) (s.cc k) (s.cl k)
 | 0,_=>rfl | 1,_=>rfl | 2,_=>rfl | 3,_=>rfl | 4,_=>rfl | 5,_=>rfl | 6,_=>rfl | 7,_=>rfl
 | n+8,h=>by omega
theorem Ol(h:Nat->Int)(g:Nat->Int)(e:∀ k,k<8->h (sig k)=g k):ny h 8=ny g 8:=
 Wc (by omega) (fun j hj=>⟨sig j,sK j,by rw[<- e _ (sK j),El j hj];exact Dy _⟩) (fun j hj=>⟨sig j,sK j,by rw[e j hj];exact Dy _⟩)
theorem O9(h:Nat->Int)(g:Nat->Int)(e:∀ k,k<8->h (sig k)=g k):nG h 8=nG g 8:=
 VO (by omega) (fun j hj=>⟨sig j,sK j,by rw[<- e _ (sK j),El j hj];exact Dy _⟩) (fun j hj=>⟨sig j,sK j,by rw[e j hj];exact Dy _⟩)
theorem sH(c:Int):∀ n,0<n->ny (fun _=>c) n=c
 | 0,h=>by omega
 | n+1,_=>by
  simp only[ny]
  split
  ·rfl
  ·rw[sH c n (by omega)];omega
theorem ym(c:Int):∀ n,0<n->nG (fun _=>c) n=c
 | 0,h=>by omega
 | n+1,_=>by
  simp only[nG]
  split
  ·rfl
  ·rw[ym c n (by omega)];omega
def Ik(f:Int->Int->Int->Int)(s:Sk)(lo hi:Int):Int:=ny (fun k=>min (lo*f (s.cw k) (s.cc k) (s.cl k)) (hi*f (s.cw k) (s.cc k) (s.cl k))) 8
def OF(f:Int->Int->Int->Int)(s:Sk)(lo hi:Int):Int:=nG (fun k=>max (lo*f (s.cw k) (s.cc k) (s.cl k)) (hi*f (s.cw k) (s.cc k) (s.cl k))) 8
theorem Jw(f:Int->Int->Int->Int)(s:Sk):Ik f s 0 0=0:=by
 unfold Ik
 simp only[Int.zero_mul,Int.min_self]
 exact sH 0 8 (by omega)
theorem Lm(f:Int->Int->Int->Int)(s:Sk):OF f s 0 0=0:=by
 unfold OF
 simp only[Int.zero_mul,Int.max_self]
 exact ym 0 8 (by omega)
theorem VY(f:Int->Int->Int->Int)(m:Int×(Sk×Sp)):ow (Ov f) m=Ik f m.2.1 m.2.2.lo m.2.2.hi:=
 Ol _ _ (fun k hk=>by simp only[Fb f m.2.1 k hk])
theorem Pu(f:Int->Int->Int->Int)(m:Int×(Sk×Sp)):nT (Ov f) m=OF f m.2.1 m.2.2.lo m.2.2.hi:=
 O9 _ _ (fun k hk=>by simp only[Fb f m.2.1 k hk])
def sLo(f:Int->Int->Int->Int)(l:List Sk)(b:List Tk):Int:=fc (fun i=>Ik f (l[i]?.getD fM) (w6 b i) (w8 b i)) l.length
def sHi(f:Int->Int->Int->Int)(l:List Sk)(b:List Tk):Int:=fc (fun i=>OF f (l[i]?.getD fM) (w6 b i) (w8 b i)) l.length
theorem Vg{l:List Sk}{b:List Tk}(ht:NI l.length b)(f:Int->Int->Int->Int):((bZ l b b.length).map (ow (Ov f))).sum=sLo f l b:=by
 have:=qp ht (Ik f) (Jw f) b.length (Zg _)
 unfold sLo w6 w8
 rw[<- this]
 congr 1
 exact Xx fun m _=>VY f m
theorem Ut{l:List Sk}{b:List Tk}(ht:NI l.length b)(f:Int->Int->Int->Int):((bZ l b b.length).map (nT (Ov f))).sum=sHi f l b:=by
 have:=qp ht (OF f) (Lm f) b.length (Zg _)
 unfold sHi w6 w8
 rw[<- this]
 congr 1
 exact Xx fun m _=>Pu f m
theorem zn(l:List Sk)(b:List Tk)(n:Int)(i:Nat):rF l b n i=Ik (gr n) (l[i]?.getD fM) (w6 b i) (w8 b i):=rfl
theorem E5(l:List Sk)(b:List Tk)(n:Int)(i:Nat):qQ l b n i=OF (gr n) (l[i]?.getD fM) (w6 b i) (w8 b i):=rfl
theorem wLe{b:List Tk}(h:okB b)(i:Nat):w6 b i<=w8 b i:=by
 unfold w6 w8
 have gen:∀ n,n<=b.length->gR (xC (i:Int)) b n<=gR (xA (i:Int)) b n:=by
  intro n
  induction n with
  | zero=>intro _;simp[l6]
  | succ n ih=>
   intro hn
   have:=ih (by omega)
   have:=h.2 b[n] (ZZ _)
   rw[gG _ b n hn,gG _ b n hn]
   simp only[xC,xA]
   split <;> omega
 exact gen _ (Zg _)
theorem abI{f:Int->Int->Int->Int}{s:Sk}{lo hi:Int}(h:0<=lo∧lo<=hi)(hf:∀ k,0<=f (s.cw k) (s.cc k) (s.cl k)):Ik f s lo hi=lo*Hg (fun k=>f (s.cw k) (s.cc k) (s.cl k)) 8:=by
 have gen:∀ n,0<n->ny (fun k=>min (lo*f (s.cw k) (s.cc k) (s.cl k)) (hi*f (s.cw k) (s.cc k) (s.cl k))) n=lo*Hg (fun k=>f (s.cw k) (s.cc k) (s.cl k)) n:=by
  intro n hn
  have e:∀ k,min (lo*f (s.cw k) (s.cc k) (s.cl k)) (hi*f (s.cw k) (s.cc k) (s.cl k))=lo*f (s.cw k) (s.cc k) (s.cl k):=fun k=>by
   have:=Int.mul_le_mul_of_nonneg_right h.2 (hf k)
   omega
  simp only[e]
  induction n with
  | zero=>omega
  | succ n ih=>
   simp only[ny,Hg]
   split
   ·rename_i h0;subst h0;simp[Hg]
   ·rw[ih (by omega)]
    rcases Int.le_total (Hg (fun k=>f (s.cw k) (s.cc k) (s.cl k)) n) (f (s.cw n) (s.cc n) (s.cl n)) with h1 | h1
    ·rw[Int.min_eq_left h1,Int.min_eq_left (VA h1 h.1)]
    ·rw[Int.min_eq_right h1,Int.min_eq_right (VA h1 h.1)]
 exact gen 8 (by omega)
theorem Dz.get{l:List Sk}(h:Dz l){i:Nat}(hi:i<l.length):tf (l[i]?.getD fM):=by
 rw[Zb hi,NW]
 exact h.2 _ (ZZ _)
theorem l8{f g:Nat->Int}:∀ n,(∀ j,j<n->f j<=g j)->fc f n<=fc g n
 | 0,_=>Dy _
 | n+1,h=>by
  exact SN
theorem Cb{f g:Int->Int->Int->Int}{s:Sk}{lo hi:Int}(h:0<=lo∧lo<=hi)(hf:∀ k,f (s.cw k) (s.cc k) (s.cl k)<=g (s.cw k) (s.cc k) (s.cl k)):Ik f s lo hi<=Ik g s lo hi:=by
 unfold Ik
 obtain⟨j,hj,ej⟩:=An (fun k=>min (lo*g (s.cw k) (s.cc k) (s.cl k)) (hi*g (s.cw k) (s.cc k) (s.cl k))) 8 (by omega)
 have h1:=yW (fun k=>min (lo*f (s.cw k) (s.cc k) (s.cl k)) (hi*f (s.cw k) (s.cc k) (s.cl k))) 8 j hj
 exact TP
theorem JF{f g:Int->Int->Int->Int}{s:Sk}{lo hi:Int}(h:0<=lo∧lo<=hi)(hf:∀ k,f (s.cw k) (s.cc k) (s.cl k)<=g (s.cw k) (s.cc k) (s.cl k)):OF f s lo hi<=OF g s lo hi:=by
 unfold OF
 obtain⟨j,hj,ej⟩:=z7 (fun k=>max (lo*f (s.cw k) (s.cc k) (s.cl k)) (hi*f (s.cw k) (s.cc k) (s.cl k))) 8 (by omega)
 have h1:=zg (fun k=>max (lo*g (s.cw k) (s.cc k) (s.cl k)) (hi*g (s.cw k) (s.cc k) (s.cl k))) 8 j hj
 exact TP
def Dl(l:List Sk)(b:List Tk)(n:Int):Int:=fc (rF l b n) l.length
def H7(l:List Sk)(b:List Tk)(n:Int):Int:=fc (qQ l b n) l.length
theorem wz{m n w c l:Int}(h:m<=n)(hs:jr w c l):gr n w c l<=gr m w c l:=by
 have:=Int.mul_le_mul_of_nonneg_right h (FT hs).1
 unfold gr;omega
theorem K3{l:List Sk}{b:List Tk}(hl:Dz l)(hb:okB b){m n:Int}(h:m<=n):Dl l b n<=Dl l b m:=
 l8 _ fun i hi=>by
  rw[zn,zn]
  exact Cb ⟨(wB hb i).1.1,wLe hb i⟩ fun k=>wz h ((hl.get hi).nQ k)
theorem Le{l:List Sk}{b:List Tk}(hl:Dz l)(hb:okB b){m n:Int}(h:m<=n):H7 l b n<=H7 l b m:=
 l8 _ fun i hi=>by
  rw[E5,E5]
  exact JF ⟨(wB hb i).1.1,wLe hb i⟩ fun k=>wz h ((hl.get hi).nQ k)
theorem rW(xs:List Sk)(f:PV)(p:Sk->Bool)(hx:xs.length<=bK)(hf:∀ x∈xs,kG Tryz.prog f [.agg x.cells] (.bool (p x))):Pure Tryz.prog 219 [.is (xs.flatMap Sk.cells) xs.length,f] (.int .i64 (jw p xs)):=by
 unfold bK at hx
 refine Kf (N:=19) Tryz.func219 ?_
 iterate 12 refine af ?_
 refine aC.pK [4,5,8,9,10,11,12,13,14,15,16,17,18] (fun g=>[(8,.p (.int .i64 ((g:Nat):Int)))]) (fun g=>g<=xs.length∧∀ j (hj:j<g) (h:g<=xs.length),p (xs[j]'(by omega))=false) (fun g=>xs.length - g) 0 ⟨Zn _,fun j hj=>absurd hj (by omega)⟩ (Sub.cons rfl (Sub.nil)) (fun i hg=> ?_)
 obtain⟨pQ,jM⟩:=hg
 iterate 5 refine af ?_
 refine Ki (fun hc0=> ?_) fun hc0=> ?_
 ·iterate 13 refine af ?_
  refine Kc (aa.eM rfl rfl rfl ai CA rfl (fun _=>rfl) (by decide) ?_) ?_
  ·exact oe
  exact Mm
 ·exact PO
theorem tg(xs:List Tk)(f:PV)(p:Tk->Bool)(hx:xs.length<=bK)(hf:∀ x∈xs,kG Tryz.prog f [.agg x.cells] (.bool (p x))):Pure Tryz.prog 220 [.is (xs.flatMap Tk.cells) xs.length,f] (.int .i64 (jw p xs)):=by
 unfold bK at hx
 refine Kf (N:=19) Tryz.func220 ?_
 iterate 12 refine af ?_
 refine aC.pK [4,5,8,9,10,11,12,13,14,15,16,17,18] (fun g=>[(8,.p (.int .i64 ((g:Nat):Int)))]) (fun g=>g<=xs.length∧∀ j (hj:j<g) (h:g<=xs.length),p (xs[j]'(by omega))=false) (fun g=>xs.length - g) 0 ⟨Zn _,fun j hj=>absurd hj (by omega)⟩ (Sub.cons rfl (Sub.nil)) (fun i hg=> ?_)
 obtain⟨pQ,jM⟩:=hg
 iterate 5 refine af ?_
 refine Ki (fun hc0=> ?_) fun hc0=> ?_
 ·iterate 13 refine af ?_
  refine Kc (aa.eM rfl rfl rfl ai vp rfl (fun _=>rfl) (by decide) ?_) ?_
  ·exact oe
  exact Mm
 ·exact PO
theorem pG(xs:List Sk)(f:PV)(p:Sk->Bool)(hx:xs.length<=bK)(hf:∀ x∈xs,kG Tryz.prog f [.agg x.cells] (.bool (p x))):Pure Tryz.prog 212 [.is (xs.flatMap Sk.cells) xs.length,f] (.bool (xs.any p)):=by
 refine Kf (N:=9) Tryz.func212 ?_
 iterate 8 refine af ?_
 refine Kc (Kp (rW _ _ p ?_ ?_)) ?_
 ·exact hx
 ·exact hf
 exact L1
theorem pn(xs:List Tk)(f:PV)(p:Tk->Bool)(hx:xs.length<=bK)(hf:∀ x∈xs,kG Tryz.prog f [.agg x.cells] (.bool (p x))):Pure Tryz.prog 215 [.is (xs.flatMap Tk.cells) xs.length,f] (.bool (xs.any p)):=by
 refine Kf (N:=9) Tryz.func215 ?_
 iterate 8 refine af ?_
 refine Kc (Kp (tg _ _ p ?_ ?_)) ?_
 ·exact hx
 ·exact hf
 exact L1
theorem Ab(s:Sk):Pure Tryz.prog 210 [.agg s.cells] (.bool s.bad):=by
 refine Kf (N:=19) Tryz.func210 ?_
 iterate 9 refine af ?_
 refine Kc (Kp (je _ _ _ _)) ?_
 iterate 2 refine af ?_
 refine Kg 8 7 1 rfl (fun h=>(aa.fieldAddr rfl rfl ai rfl)) ?_
 refine Kh 9 7 8 rfl rfl rfl rfl (fun h=>(aa.load rfl rfl ai rfl)) ?_
 refine Kh 10 7 9 rfl rfl rfl rfl (fun h=>(Kp (je _ _ _ _))) ?_
 refine Kh 11 7 10 rfl rfl rfl rfl (fun h=>(aa.fI rfl rfl)) ?_
 refine Kc (aa.lE rfl rfl rfl ?_) ?_
 ·exact fO
 refine af ?_
 refine Kg 14 13 1 rfl (fun h=>(aa.fieldAddr rfl rfl ai rfl)) ?_
 refine Kh 15 13 14 rfl rfl rfl rfl (fun h=>(aa.load rfl rfl ai rfl)) ?_
 refine Kh 16 13 15 rfl rfl rfl rfl (fun h=>(Kp (je _ _ _ _))) ?_
 refine Kh 17 13 16 rfl rfl rfl rfl (fun h=>(aa.fI rfl rfl)) ?_
 refine Kc (aa.lE rfl rfl rfl ?_) ?_
 ·exact fO
 exact mc
theorem B8(l:List Sk)(t:Tk)(hx:l.length<=bK):Pure Tryz.prog 213 [.agg t.cells,.ip [b8 l] 0] (.bool (t.bad l.length)):=by
 refine Kf (N:=17) Tryz.func213 ?_
 iterate 11 refine af ?_
 refine Kc (aa.ec rfl rfl rfl (aA ?_)) ?_
 ·unfold bK at*;omega
 refine Kc (Kp (cW _ _ _)) ?_
 iterate 2 refine af ?_
 refine Kg 12 11 2 rfl (fun h=>(aa.fieldAddr rfl rfl ai rfl)) ?_
 refine Kh 13 11 12 rfl rfl rfl rfl (fun h=>(aa.load rfl rfl ai rfl)) ?_
 refine Kh 14 11 13 rfl rfl rfl rfl (fun h=>(Kp (je _ _ _ _))) ?_
 refine Kh 15 11 14 rfl rfl rfl rfl (fun h=>(aa.fI rfl rfl)) ?_
 refine Kc (aa.lE rfl rfl rfl ?_) ?_
 ·exact fO
 exact mc
theorem AU(l:List Sk)(hx:l.length<=bK):Pure Tryz.prog 188 [b8 l] (.bool (c8 l)):=by
 refine Kf (N:=13) Tryz.func188 ?_
 iterate 14 refine af ?_
 refine Kg 8 7 0 rfl (fun h=>(aa.move rfl rfl)) ?_
 refine Kg 9 7 3 rfl (fun h=>(aa.move rfl rfl)) ?_
 refine aq.g 10 7 rfl rfl rfl rfl rfl rfl rfl [(8,_),(9,_)] (fun h=>And.intro (.inr ⟨_,rfl,h⟩) (And.intro (.inr ⟨_,rfl,h⟩) (trivial))) (fun h=>(Kp (pG l _ Sk.bad ?_ ?_))) ?_
 ·exact hx
 ·exact fun x _=>⟨210,[.agg x.cells],rfl,ai,Ab x⟩
 refine Kh 11 7 10 rfl rfl rfl rfl (fun h=>(aa.fI rfl rfl)) ?_
 refine Kc (aa.gy rfl rfl rfl ?_) ?_
 ·exact fO
 exact mc
theorem DI(l:List Sk)(b:List Tk)(hx:l.length<=bK)(hb:b.length<=bK):Pure Tryz.prog 189 [b8 l,kY b] (.bool (hO l.length b)):=by
 refine Kf (N:=16) Tryz.func189 ?_
 iterate 7 refine af ?_
 refine Kc (aa.makeFunc rfl rfl rfl) ?_
 iterate 6 refine af ?_
 refine Kc (Kp (cW _ _ _)) ?_
 refine af ?_
 refine Kg 11 10 1 rfl (fun h=>(aa.move rfl rfl)) ?_
 refine Kg 12 10 5 rfl (fun h=>(aa.move rfl rfl)) ?_
 refine aq.g 13 10 rfl rfl rfl rfl rfl rfl rfl [(11,_),(12,_)] (fun h=>And.intro (.inr ⟨_,rfl,h⟩) (And.intro (.inr ⟨_,rfl,h⟩) (trivial))) (fun h=>(Kp (pn b _ (Tk.bad l.length) ?_ ?_))) ?_
 ·exact hb
 ·exact fun x _=>⟨213,[.agg x.cells,.ip [b8 l] 0],rfl,ai,B8 l x hx⟩
 refine Kh 14 10 13 rfl rfl rfl rfl (fun h=>(aa.fI rfl rfl)) ?_
 refine Kc (aa.gy rfl rfl rfl ?_) ?_
 ·exact fO
 exact mc
theorem xZ(l:List Sk)(hx:l.length<=bK):Pure Tryz.prog 115 [b8 l] (.bool (c8 l)):=by
 refine Kf (N:=38) Tryz.func115 ?_
 iterate 10 refine af ?_
 refine aC.pK [2,3,4,5,6,7,8,9,10,11,12,13,14,15,16,17,18,19,20,21,22,23,24,25,26,27,28,29,30,31,32,33,34] (fun g=>[(3,.p (.int .i64 ((g:Nat):Int)))]) (fun g=>g<=l.length∧∀ j (hj:j<g) (h:g<=l.length),Sk.bad (l[j]'(by omega))=false) (fun g=>l.length - g) 0 ⟨Zn _,fun j hj=>absurd hj (by omega)⟩ (Sub.cons rfl (Sub.nil)) (fun i hg=> ?_)
 obtain⟨pQ,jM⟩:=hg
 iterate 8 refine af ?_
 refine Ki (fun hc0=> ?_) fun hc0=> ?_
 ·have hk0:i<l.length:=by simp at hc0;omega
  iterate 7 refine af ?_
  refine Kc (aa.eM rfl rfl rfl ai CA rfl (fun _=>rfl) (by decide) hk0) ?_
  iterate 2 refine af ?_
  refine Kc (Kp (jn _ _ _ _)) ?_
  iterate 2 refine af ?_
  refine Kg 18 17 0 rfl (fun h=>(aa.move rfl rfl)) ?_
  refine Kg 19 17 3 rfl (fun h=>(aa.move rfl rfl)) ?_
  refine aq.g 20 17 rfl rfl rfl rfl rfl rfl rfl [(18,_),(19,_)] (fun h=>And.intro (.inr ⟨_,rfl,h⟩) (And.intro (.inr ⟨_,rfl,h⟩) (trivial))) (fun h=>(aa.eM rfl rfl rfl ai CA rfl (fun _=>rfl) (by decide) hk0)) ?_
  refine Kh 21 17 20 rfl rfl rfl rfl (fun h=>(aa.fieldAddr rfl rfl ai rfl)) ?_
  refine Kh 22 17 21 rfl rfl rfl rfl (fun h=>(aa.load rfl rfl ai rfl)) ?_
  refine Kh 23 17 22 rfl rfl rfl rfl (fun h=>(Kp (jn _ _ _ _))) ?_
  refine Kh 24 17 23 rfl rfl rfl rfl (fun h=>(aa.fI rfl rfl)) ?_
  refine Kc (aa.lE rfl rfl rfl ?_) ?_
  ·exact fO
  refine af ?_
  refine Kg 27 26 0 rfl (fun h=>(aa.move rfl rfl)) ?_
  refine Kg 28 26 3 rfl (fun h=>(aa.move rfl rfl)) ?_
  refine aq.g 29 26 rfl rfl rfl rfl rfl rfl rfl [(27,_),(28,_)] (fun h=>And.intro (.inr ⟨_,rfl,h⟩) (And.intro (.inr ⟨_,rfl,h⟩) (trivial))) (fun h=>(aa.eM rfl rfl rfl ai CA rfl (fun _=>rfl) (by decide) hk0)) ?_
  refine Kh 30 26 29 rfl rfl rfl rfl (fun h=>(aa.fieldAddr rfl rfl ai rfl)) ?_
  refine Kh 31 26 30 rfl rfl rfl rfl (fun h=>(aa.load rfl rfl ai rfl)) ?_
  refine Kh 32 26 31 rfl rfl rfl rfl (fun h=>(Kp (jn _ _ _ _))) ?_
  refine Kh 33 26 32 rfl rfl rfl rfl (fun h=>(aa.fI rfl rfl)) ?_
  refine Kc (aa.lE rfl rfl rfl ?_) ?_
  ·exact fO
  refine af ?_
  refine Ki (fun bw=> ?_) fun bw=> ?_
  ·iterate 5 refine af ?_
   refine Fin.cY rfl rfl ?_
   unfold c8
   rw[vI (p:=Sk.bad) (by simp at hc0;omega) bw]
   simp
  ·exact RT
 ·refine aC.exit ?_
  iterate 8 refine af ?_
  refine Fin.cY rfl rfl ?_
  unfold c8
  rw[any_none (fun j hj=>jM j (by simp at hc0;omega) pQ)]
  simp
theorem F3(l:List Sk)(b:List Tk)(hl:l.length<=bK)(hx:b.length<=bK):Pure Tryz.prog 160 [b8 l,kY b] (.bool (hO l.length b)):=by
 refine Kf (N:=34) Tryz.func160 ?_
 iterate 10 refine af ?_
 refine aC.pK [4,5,6,7,8,9,10,11,12,13,14,15,16,17,18,19,20,21,22,23,24,25,26,27,28,29,30] (fun g=>[(5,.p (.int .i64 ((g:Nat):Int)))]) (fun g=>g<=b.length∧∀ j (hj:j<g) (h:g<=b.length),Tk.bad l.length (b[j]'(by omega))=false) (fun g=>b.length - g) 0 ⟨Zn _,fun j hj=>absurd hj (by omega)⟩ (Sub.cons rfl (Sub.nil)) (fun i hg=> ?_)
 obtain⟨pQ,jM⟩:=hg
 iterate 8 refine af ?_
 refine Ki (fun hc0=> ?_) fun hc0=> ?_
 ·have hk0:i<b.length:=by simp at hc0;omega
  iterate 7 refine af ?_
  refine Kc (aa.eM rfl rfl rfl ai vp rfl (fun _=>rfl) (by decide) hk0) ?_
  iterate 4 refine af ?_
  refine Kc (aa.ec rfl rfl rfl (aA ?_)) ?_
  ·unfold bK at*;omega
  refine Kc (Kp (tF _ _ _)) ?_
  iterate 2 refine af ?_
  refine Kg 23 22 1 rfl (fun h=>(aa.move rfl rfl)) ?_
  refine Kg 24 22 5 rfl (fun h=>(aa.move rfl rfl)) ?_
  refine aq.g 25 22 rfl rfl rfl rfl rfl rfl rfl [(23,_),(24,_)] (fun h=>And.intro (.inr ⟨_,rfl,h⟩) (And.intro (.inr ⟨_,rfl,h⟩) (trivial))) (fun h=>(aa.eM rfl rfl rfl ai vp rfl (fun _=>rfl) (by decide) hk0)) ?_
  refine Kh 26 22 25 rfl rfl rfl rfl (fun h=>(aa.fieldAddr rfl rfl ai rfl)) ?_
  refine Kh 27 22 26 rfl rfl rfl rfl (fun h=>(aa.load rfl rfl ai rfl)) ?_
  refine Kh 28 22 27 rfl rfl rfl rfl (fun h=>(Kp (jn _ _ _ _))) ?_
  refine Kh 29 22 28 rfl rfl rfl rfl (fun h=>(aa.fI rfl rfl)) ?_
  refine Kc (aa.lE rfl rfl rfl ?_) ?_
  ·exact fO
  refine af ?_
  refine Ki (fun bw=> ?_) fun bw=> ?_
  ·iterate 5 refine af ?_
   refine Fin.cY rfl rfl ?_
   unfold hO
   rw[vI (p:=Tk.bad l.length) (by simp at hc0;omega) bw]
   simp
  ·exact RT
 ·refine aC.exit ?_
  iterate 4 refine af ?_
  refine Kc (Kp (tF _ _ _)) ?_
  iterate 3 refine af ?_
  refine Fin.cY rfl rfl ?_
  unfold hO
  rw[any_none (fun j hj=>jM j (by simp at hc0;omega) pQ)]
  simp
theorem M6{l:List Sk}(h:c8 l=true):Dz l:=by
 unfold c8 at h
 simp only[Zo,Zl,HX,NM] at h
 refine⟨by omega,fun s hs=> ?_⟩
 have:=h.2 s hs
 simp[Sk.bad,Sp.ok] at this
 unfold tf
 omega
theorem LQ{n:Nat}{b:List Tk}(h:hO n b=true):okB b∧NI n b:=by
 unfold hO at h
 simp only[Zo,Zl,HX,NM] at h
 refine⟨⟨by omega,fun t ht=> ?_⟩,fun t ht=> ?_⟩ <;>
 ·have:=h.2 t ht
  simp[Tk.bad,Sp.ok] at this
  omega
def gT(l:List Sk)(b:List Tk):Bool:=c8 l&&hO l.length b
theorem mJ(p:Nat->Bool):∀ n,(∀ i j,i<=j->j<n->p i=true->p j=true)->∃ r,r<=n∧(∀ i,i<r->p i=false)∧∀ i,r<=i->i<n->p i=true
 | 0,_=>⟨0,Zg _,fun i h=>by omega,fun i _ h=>by omega⟩
 | n+1,hp=>by
  exact SO
def pZ(l:List Sk)(b:List Tk):Nat->Int
 | 0=>0
 | s+1=>if 0<=Dl l b s then(s:Int) else pZ l b s
def kL(l:List Sk)(b:List Tk):Nat->Int
 | 0=>1000
 | s+1=>if H7 l b s<=0 then min (kL l b s) s else kL l b s
def qn(l:List Sk)(b:List Tk):List PV:=
 if gT l b then[.agg [.int .i64 (pZ l b 1001),.int .i64 (kL l b 1001)],.int .i64 0] else[.agg [.int .i64 0,.int .i64 0],.int .i64 1]
theorem AI{l:List Sk}{b:List Tk}{r:Nat}(h0:0<r)(h1:∀ i,i<r->0<=Dl l b i):∀ n,r<=n->(∀ i,r<=i->i<n->Dl l b i<0)->pZ l b n=r - 1
 | 0,h,_=>by omega
 | n+1,h,h2=>by
  simp only[pZ]
  by_cases e:r=n+1
  ·subst e
   rw[if_pos (h1 n (by omega))];omega
  ·rw[if_neg (by have:=h2 n (by omega) (by omega);omega)]
   exact AI h0 h1 n (by omega) (fun i hi hj=>h2 i hi (by omega))
theorem Mb{l:List Sk}{b:List Tk}{r:Nat}(hr:r<=1000)(h1:∀ i,i<r->0<H7 l b i)(h2:∀ i,r<=i->i<1000->H7 l b i<=0):kL l b 1001=r:=by
 have g1:∀ n,n<=r->kL l b n=1000:=by
  intro n
  induction n with
  | zero=>intro _;rfl
  | succ n ih=>
   intro hn
   simp only[kL]
   rw[if_neg (by have:=h1 n (by omega);omega)]
   exact ih (by omega)
 have g2:∀ n,n<=1000->r<n->kL l b n=r:=by
  intro n
  induction n with
  | zero=>intro _ h;omega
  | succ n ih=>
   intro hn hr'
   simp only[kL]
   rw[if_pos (h2 n (by omega) (by omega))]
   by_cases e:r=n
   ·subst e;rw[g1 r (Zg _)];omega
   ·rw[ih (by omega) (by omega)];omega
 have Y7:kL l b 1000=r:=by
  by_cases e:r=1000
  ·rw[g1 1000 (by omega)];omega
  ·exact g2 1000 (by omega) (by omega)
 show(if H7 l b (1000:Nat)<=0 then min (kL l b 1000) ((1000:Nat):Int) else kL l b 1000)=r
 rw[Y7]
 split <;> omega
theorem J7{l:List Sk}{b:List Tk}(hl:Dz l)(hb:okB b):0<=Dl l b 0:=by
 have h:fc (fun _=>0) l.length<=Dl l b 0:=l8 _ fun i hi=>by
  rw[zn]
  have h1:=Cb (f:=fun _ _ _=>0) (g:=gr 0) (s:=l[i]?.getD fM) (lo:=w6 b i) (hi:=w8 b i) ⟨(wB hb i).1.1,wLe hb i⟩ (fun k=>by
   have:=qv ((hl.get hi).nQ k)
   simp only[gr];omega)
  have h2:Ik (fun _ _ _=>0) (l[i]?.getD fM) (w6 b i) (w8 b i)=0:=by
   unfold Ik
   simp only[Int.mul_zero,Int.min_self]
   exact sH 0 8 (by omega)
  omega
 rw[lI _ (fun _ _=>rfl)] at h
 exact h
theorem CS{l:List Sk}{b:List Tk}(hl:Dz l)(hb:okB b):∃ r q:Nat,(r<=1001∧(∀ i,i<r->decide (Dl l b (i:Nat)<0)=false)∧(∀ i,r<=i->i<1001->decide (Dl l b (i:Nat)<0)=true))∧
    (q<=1000∧(∀ i,i<q->decide (H7 l b (i:Nat)<=0)=false)∧(∀ i,q<=i->i<1000->decide (H7 l b (i:Nat)<=0)=true))∧pZ l b 1001=r - 1∧kL l b 1001=q:=by
 obtain⟨r,h1,h2,h3⟩:=mJ (fun i=>decide (Dl l b (i:Nat)<0)) 1001 (fun i j hij _ h=>by
  simp only[Zl] at h ⊢
  have:=K3 hl hb (m:=(i:Int)) (n:=(j:Int)) (by omega)
  omega)
 obtain⟨q,k1,k2,k3⟩:=mJ (fun i=>decide (H7 l b (i:Nat)<=0)) 1000 (fun i j hij _ h=>by
  simp only[Zl] at h ⊢
  have:=Le hl hb (m:=(i:Int)) (n:=(j:Int)) (by omega)
  omega)
 refine⟨r,q,⟨h1,h2,h3⟩,⟨k1,k2,k3⟩,AI ?_ (fun i hi=> ?_) 1001 h1 (fun i hi hj=>by simpa using h3 i hi hj),Mb k1 (fun i hi=> ?_) (fun i hi hj=>by simpa using k3 i hi hj)⟩
 ·rcases WT r with h | h
  ·subst h
   have:=h3 0 (Zg _) (by omega)
   have h0:=J7 hl hb
   simp at this
   omega
  ·exact h
 ·have:=h2 i hi
  simp at this
  exact this
 ·have:=k2 i hi
  simp at this
  omega
def b2(i j:Int)(t n:Int):List Tk:=[⟨i,⟨n,n⟩⟩,⟨j,⟨t - n,t - n⟩⟩]
def fLo(f:Int->Int->Int->Int)(s:Sk):Int:=ny (fun k=>f (s.cw k) (s.cc k) (s.cl k)) 8
def fHi(f:Int->Int->Int->Int)(s:Sk):Int:=nG (fun k=>f (s.cw k) (s.cc k) (s.cl k)) 8
def WZ(s1 s2:Sk)(t:Int)(w:Sp)(n:Int):Int:=min (n*fLo (gr w.lo) s1+(t - n)*fLo (gr w.lo) s2) (0 - (n*fHi (gr w.hi) s1+(t - n)*fHi (gr w.hi) s2))
structure Eu (M:Int->Int) (t:Nat) (r:Nat):Prop where
 acX:r<=t - 2
 ab7:∀ i,i<r->decide (M ((i:Int)+2)<=M ((i:Int)+1))=false
 acU:∀ i,r<=i->i<t - 2->decide (M ((i:Int)+2)<=M ((i:Int)+1))=true
theorem Eu.up{s1 s2:Sk}{w:Sp}{t r:Nat}(h:Eu (WZ s1 s2 t w) t r):∀(k j:Nat),k<=j->j<=r->WZ s1 s2 t w ((k:Int)+1)<=WZ s1 s2 t w ((j:Int)+1)
 | k,0,hk,_=>by obtain rfl:k=0:=by omega
                exact Dy _
 | k,j+1,hk,hj=>by
  rcases ZS j k with h1 | h1
  ·obtain rfl:k=j+1:=by omega
   exact Dy _
  ·have h2:=h.up k j h1 (by omega)
   have h3:=h.ab7 j (by omega)
   simp at h3
   have e:((j+1:Nat):Int)+1=j+2:=by omega
   rw[e];omega
theorem Dn(s:Sk)(m:Sp):LA Tryz.prog 227 (fun y=>[y,.p (.ip (storeCells s m) 0)]) (mT s):=by
 intro l κ n inv fin hκ hn M7 hb h0 rU
 refine jR.iS (N:=55) Tryz.func227 rfl rfl Kn ?_
 iterate 14 refine af ?_
 refine aC.nu [4,6,8,18,19,20,21,22,23,24,25,26,27,28,29,30,31,32,33,34,35,36,37,38,39,40,41,42,43,44,45,46,47,48,49,50,51,52,53,54] (fun g=>[(18,.p (.int .i64 ((g.1:Nat):Int)))]) (fun g=>g.2) (fun g=>g.1<=2∧inv (4*g.1) g.2) (fun g=>2 - g.1) (0,h0) ⟨by omega,rU⟩ (To.sub (Sub.L8 (Sub.cons rfl (Sub.nil)))) (fun g hg=> ?_)
 obtain⟨i,hi⟩:=g
 obtain⟨hle,hinv⟩:=hg
 dsimp only at hle hinv ⊢
 iterate 5 refine af ?_
 refine Ki (fun hc0=> ?_) fun hc0=> ?_
 ·have i2:i<2:=by simp at hc0;omega
  iterate 5 refine af ?_
  refine Kc (aa.sr rfl rfl rfl Mu (by omega) ?_) ?_
  ·omega
  iterate 16 refine af ?_
  refine aC.nu [6,8,30,31,32,33,34,35,36,37,38,39,40,41,42,43,44,45,46,47,48,49,50,51,52,53] (fun g=>[(30,.p (.int .i64 ((g.1:Nat):Int)))]) (fun g=>g.2) (fun g=>g.1<=2∧inv (4*i+2*g.1) g.2) (fun g=>2 - g.1) (0,hi) ⟨by omega,hinv⟩ (To.sub (Sub.L8 (Sub.cons rfl (Sub.nil)))) (fun g hg=> ?_)
  obtain⟨j,hj⟩:=g
  obtain⟨hle,hinv⟩:=hg
  dsimp only at hle hinv ⊢
  iterate 5 refine af ?_
  refine Ki (fun bw=> ?_) fun bw=> ?_
  ·have j2:j<2:=by simp at bw;omega
   iterate 5 refine af ?_
   refine Kc (aa.sr rfl rfl rfl Mu (by omega) ?_) ?_
   ·omega
   iterate 16 refine af ?_
   refine aC.nu [8,42,43,44,45,46,47,48,49,50,51,52] (fun g=>[(42,.p (.int .i64 ((g.1:Nat):Int)))]) (fun g=>g.2) (fun g=>g.1<=2∧inv (4*i+2*j+g.1) g.2) (fun g=>2 - g.1) (0,hj) ⟨by omega,hinv⟩ (To.sub (Sub.L8 (Sub.cons rfl (Sub.nil)))) (fun g hg=> ?_)
   obtain⟨k,hk⟩:=g
   obtain⟨hle,hinv⟩:=hg
   dsimp only at hle hinv ⊢
   iterate 5 refine af ?_
   refine Ki (fun eG=> ?_) fun eG=> ?_
   ·have k2:k<2:=by simp at eG;omega
    iterate 5 refine af ?_
    refine Kc (aa.sr rfl rfl rfl Mu (by omega) ?_) ?_
    ·omega
    iterate 9 refine af ?_
    refine aq.yield 50 rfl rfl rfl rfl rfl rfl (hb _ _ _ hinv (A8 s i2 j2 k2)) ?_
    intro b2 h2 BE
    iterate 2 refine af ?_
    refine Ki (fun gQ=> ?_) fun gQ=> ?_
    ·have hq:fin h2:=by simpa[show b2=false by simpa using gQ] using BE
     refine af ?_
     exact⟨.inr rfl,_,fE.none_ rfl,.inr hq⟩
    ·have hnext:inv (4*i+2*j+k+1) h2:=by simpa[show b2=true by simpa using gQ] using BE
     iterate 2 refine af ?_
     refine Kc (aa.add rfl rfl rfl (aA ?_)) ?_
     ·omega
     iterate 2 refine af ?_
     refine⟨(k+1,h2),?_,?_,?_⟩
     ·exact⟨by dsimp only;omega,hnext⟩
     ·show 2 - (k+1)<2 - k
      omega
     exact To.sub KS
   ·refine aC.exit ?_
    refine af ?_
    refine Kc (aa.add rfl rfl rfl (aA ?_)) ?_
    ·omega
    iterate 2 refine af ?_
    refine⟨(j+1,hk),?_,?_,?_⟩
    ·have hk2:k=2:=by simp at eG;omega
     subst hk2
     exact⟨by dsimp only;omega,by rw[show 4*i+2*(j+1,hk).1=4*i+2*j+2 by dsimp only;omega];exact hinv⟩
    ·show 2 - (j+1)<2 - j
     omega
    exact To.sub KS
  ·refine aC.exit ?_
   refine af ?_
   refine Kc (aa.add rfl rfl rfl (aA ?_)) ?_
   ·omega
   iterate 2 refine af ?_
   refine⟨(i+1,hj),?_,?_,?_⟩
   ·have hj2:j=2:=by simp at bw;omega
    subst hj2
    exact⟨by dsimp only;omega,by rw[show 4*(i+1,hj).1=4*i+2*2 by dsimp only;omega];exact hinv⟩
   ·show 2 - (i+1)<2 - i
    omega
   exact To.sub KS
 ·refine aC.exit ?_
  have hi2:i=2:=by simp at hc0;omega
  subst hi2
  exact⟨.inl rfl,_,fE.none_ rfl,.inl (by simpa[mT] using hinv)⟩
theorem F9(s:Sk)(m:Sp):Pure Tryz.prog 224 [.agg (storeCells s m)] (.func (.func 227) [] [.ip (storeCells s m) 0]):=by
 refine Kf (N:=4) Tryz.func224 ?_
 exact MN
theorem PB(s:Sk)(m:Sp)(fn:Fn)(fi ca:List PV)(F:Nat->Int)(hm:0<=m.lo∧m.lo<=m.hi∧m.hi<=800000)(hF:∀ j,j<8-> -2000000000000<=F j∧F j<=2000000000000)(hf:∀ j,j<8->kG Tryz.prog (.func fn fi ca) [tw s j] (.int .i64 (F j))):Pure Tryz.prog 221 [.agg (storeCells s m),.func fn fi ca] (.agg [.int .i64 (ny (fun j=>min (m.lo*F j) (m.hi*F j)) 8),.int .i64 (nG (fun j=>max (m.lo*F j) (m.hi*F j)) 8)]):=by
 refine Kf (N:=52) Tryz.func221 ?_
 iterate 15 refine af ?_
 refine Kc (Kp (F9 s m)) ?_
 iterate 2 refine af ?_
 refine aC.rangeFunc 0 rfl (fun _=>rfl) ai (Dn s m) (Zg _) (Zn _) (fun _ h=>by cases h) (fun x hx=>by simp[mT] at hx;obtain⟨j,_,rfl⟩:=hx;rfl) rfl (fun k h=>h=[.cells [.p (.int .i64 (ny (fun j=>min (m.lo*F j) (m.hi*F j)) k)),.p (.int .i64 (nG (fun j=>max (m.lo*F j) (m.hi*F j)) k))] 24,.cells [.p (.bool (k==0))] 4]) (fun c h=>False) (fun _ _ h=>by rw[h];rfl) (fun _ _ h=>h.elim) rfl ?_ ?_ ?_
 ·intro l tmps k h x hJ hx
  subst hJ
  have hk:k<8:=by have:=(Za.1 hx).1;simpa[mT] using this
  obtain rfl:x=[.p (tw s k)]:=by simp[mT,hk] at hx;exact hx.symm
  have hFk:=hF k hk
  have q1:=Cj (A:=2000000000000) (B:=800000) (b:=m.lo) ⟨hFk.1,hFk.2⟩ ⟨hm.1,by omega⟩
  have q2:=Cj (A:=2000000000000) (B:=800000) (b:=m.hi) ⟨hFk.1,hFk.2⟩ ⟨by omega,hm.2.2⟩
  iterate 4 refine af ?_
  refine⟨rfl,rfl,?_⟩
  iterate 5 refine af ?_
  refine Kc (aa.BH (hf k hk) rfl rfl rfl) ?_
  iterate 3 refine af ?_
  refine aC.az 24 mixed (by kernel_rfl) (by decide) ?_
  iterate 4 refine af ?_
  refine Kq (aa.mul rfl rfl rfl (aA ?_)) ?_
  ·omega
  iterate 4 refine af ?_
  refine Kq (aa.mul rfl rfl rfl (aA ?_)) ?_
  ·omega
  refine Kq (aa.min2 rfl rfl rfl) ?_
  iterate 4 refine af ?_
  refine Kq (aa.mul rfl rfl rfl (aA ?_)) ?_
  ·omega
  iterate 4 refine af ?_
  refine Kq (aa.mul rfl rfl rfl (aA ?_)) ?_
  ·omega
  refine Kq (aa.max2 rfl rfl rfl) ?_
  iterate 2 refine af ?_
  refine ay.nil ?_
  iterate 6 refine af ?_
  refine Ki (fun hc0=> ?_) fun hc0=> ?_
  ·iterate 11 refine af ?_
   exact Sz
  ·iterate 5 refine af ?_
   exact Sz
 ·intro h hJ
  subst hJ
  iterate 6 refine af ?_
  exact Rc
 ·exact qU
theorem Ay(l:List Sk)(b:List Tk)(hl:l.length<=bK)(hb:okB b)(ht:NI l.length b):Pure Tryz.prog 190 [b8 l,kY b] (mF (PV.int .i64) Av (bZ l b b.length)):=by
 have hb8:=hb.1
 refine Kf (N:=48) Tryz.func190 ?_
 iterate 6 refine af ?_
 refine Kc (aa.makeMap (K:=Int) (α:=Sk×Sp) (enc:=PV.int .i64) (g:=fun a=> .p (Av a)) rfl) ?_
 iterate 10 refine af ?_
 refine aC.nu [7,8,12,13,14,15,16,17,18,19,20,21,22,23,24,25,26,27,28,29,30,31,32,33,34,35,36,37,38,39,40,41,42,43,44,45,46] (fun g=>[(12,.p (.int .i64 ((g:Nat):Int)))]) (fun g=>[nJ (PV.int .i64) (fun a=> .p (Av a)) (bZ l b g)]) (fun g=>g<=b.length) (fun g=>b.length - g) 0 (Zn _) (To.sub (Sub.L8 (Sub.cons rfl Sub.nil))) (fun i hg=> ?_)
 iterate 5 refine af ?_
 refine Ki (fun hc0=> ?_) fun hc0=> ?_
 ·have hk0:i<b.length:=by simp at hc0;omega
  have hti:=hb.2 b[i] (ZZ _)
  have hts:=ht b[i] (ZZ _)
  have vS:b[i].s.toNat<l.length:=by omega
  have pQ:=qj l b b[i].s i hg
  have p1:=JB hb b[i].s i hg
  have p2:=LK hb b[i].s i hg
  have e1:((cQ b[i].s (bZ l b i)).getD fh).2.lo=gR (xC b[i].s) b i:=by rw[pQ]
  have e2:((cQ b[i].s (bZ l b i)).getD fh).2.hi=gR (xA b[i].s) b i:=by rw[pQ]
  iterate 5 refine af ?_
  refine Kc (aa.eM rfl rfl rfl ai vp rfl (fun _=>rfl) (by decide) hk0) ?_
  iterate 9 refine af ?_
  refine Kc (aa.vq (dV.int .i64 .i64) (gp:=Av) fh rfl rfl rfl rfl K9 rfl) ?_
  iterate 8 refine af ?_
  refine Kc (aa.Cc rfl rfl rfl ai CA rfl (fun _=>rfl) (by decide) ?_ ?_) ?_
  ·omega
  ·omega
  iterate 12 refine af ?_
  refine Kc (aa.add rfl rfl rfl (aA ?_)) ?_
  ·omega
  iterate 6 refine af ?_
  refine Kc (aa.add rfl rfl rfl (aA ?_)) ?_
  ·omega
  iterate 9 refine af ?_
  refine Kz (aa.mapUpdate (dV.int .i64 .i64) (g:=fun a=> .p (Av a)) (c:=(l[b[i].s.toNat],⟨_,_⟩)) (.inl rfl) rfl rfl rfl rfl K9) ?_
  iterate 2 refine af ?_
  refine Kc (aa.add rfl rfl rfl (aA ?_)) ?_
  ·omega
  iterate 2 refine af ?_
  refine⟨i+1,?_,?_,?_⟩
  ·exact oe
  ·exact oe
  refine To.done [0] rfl KS ?_
  show[aM _ (nJ _ (fun a=> .p (Av a)) (bh _ _ _))]=_
  rw[yD,iG l b i hk0,iI,Zb vS]
  rfl
 ·obtain rfl:i=b.length:=by simp at hc0;omega
  refine aC.to (To.su 0 (gp:=Av) rfl) ?_
  exact ON
theorem UT(ms:List (Int×(Sk×Sp)))(fn:Fn)(fi ca:List PV)(F:Sk->Nat->Int)(hw:∀ m∈ms,0<=m.2.2.lo∧m.2.2.lo<=m.2.2.hi)(hs:(ms.map yL).sum<=800000)(hF:∀ m∈ms,∀ j,j<8-> -2000000000000<=F m.2.1 j∧F m.2.1 j<=2000000000000)(hf:∀ m∈ms,∀ j,j<8->kG Tryz.prog (.func fn fi ca) [tw m.2.1 j] (.int .i64 (F m.2.1 j))):Pure Tryz.prog 216 [mF (PV.int .i64) Av ms,.func fn fi ca] (.agg [.int .i64 (ms.map (ow F)).sum,.int .i64 (ms.map (nT F)).sum]):=by
 have hpos:∀ m∈ms,0<=yL m:=fun m hm=>by have:=hw m hm;unfold yL;omega
 refine Kf (N:=32) Tryz.func216 ?_
 iterate 8 refine af ?_
 refine Kc (aa.rangeMap (enc:=PV.int .i64) (gp:=Av) rfl rfl K9) ?_
 iterate 2 refine af ?_
 refine aC.nu [6,7,8,11,12,13,14,15,16,17,18,19,20,21,22,23,24,25,26,27,28,29,30] (fun(g:ud)=>[]) (fun(g:ud)=>[.cells [.p (.int .i64 (g.d.map (ow F)).sum),.p (.int .i64 (g.d.map (nT F)).sum)] 24,yB (PV.int .i64) Av g.r g.last]) (fun(g:ud)=>ud.ok ms g) (fun(g:ud)=>g.r.length) ⟨[],ms,none⟩ ⟨(fun f=>by simp),(fun _ h=>by cases h),fun _ h=>h⟩ (To.sub (Sub.L8 Sub.nil)) (fun g hg=> ?_)
 obtain⟨d,r,last⟩:=g
 dsimp only
 iterate 2 refine af ?_
 refine aq.Qs 11 rfl rfl rfl rfl rfl rfl ?_ ?_
 ·intro hr
  subst hr
  iterate 3 refine af ?_
  refine Ki (fun hc0=> ?_) fun hc0=> ?_
  ·cases hc0
  ·refine aC.exit ?_
   iterate 6 refine af ?_
   refine Fin.cY rfl ⟨_,_,_,rfl,ai,rfl⟩ ?_
   have e1:=hg.1 (ow F)
   have e2:=hg.1 (nT F)
   simp at e1 e2
   simp[e1,e2]
 ·intro j m hj
  have hjl:j<r.length:=(Za.1 hj).1
  have hmem:m∈ms:=hg.2.2 m (Zi hj)
  have hmw:=hw m hmem
  have hmh:yL m<=(ms.map yL).sum:=uU hpos hmem
  have h9:m.2.2.hi<=800000:=(by omega:yL m<=800000)
  have jM:=ud.Fh hg hj
  have s1:=sS (f:=ow F) (g:=yL) (X:=2000000000000) (r:=d) (fun x hx=>LB (hw x (hg.2.1 x hx)) (hF x (hg.2.1 x hx)))
  have s2:=sS (f:=nT F) (g:=yL) (X:=2000000000000) (r:=d) (fun x hx=>EM (hw x (hg.2.1 x hx)) (hF x (hg.2.1 x hx)))
  have s3:=jM.1 yL
  dsimp only at s3
  rw[qO] at s3
  have s4:=mG (f:=yL) (r:=r.eraseIdx j) (fun x hx=>hpos x (jM.2.2 x hx))
  have s5:=mG (f:=yL) (r:=d) (fun x hx=>hpos x (hg.2.1 x hx))
  have s6:=LB hmw (hF m hmem)
  have s7:=EM hmw (hF m hmem)
  have s8:=hpos m hmem
  iterate 3 refine af ?_
  refine Ki (fun hc0=> ?_) fun hc0=> ?_
  ·iterate 4 refine af ?_
   refine Kc (aa.entry rfl rfl rfl) ?_
   iterate 7 refine af ?_
   refine Kc (aa.makeFunc rfl rfl rfl) ?_
   iterate 6 refine af ?_
   refine Kc (aa.fT (PB m.2.1 m.2.2 fn fi ca (F m.2.1) ?_ ?_ ?_) rfl rfl rfl rfl (ai)) ?_
   ·omega
   ·exact hF m hmem
   ·exact hf m hmem
   iterate 8 refine af ?_
   refine Kc (aa.add rfl rfl rfl (aA ?_)) ?_
   ·exact abx
   iterate 4 refine af ?_
   refine Kc (aa.add rfl rfl rfl (aA ?_)) ?_
   ·exact abx
   iterate 3 refine af ?_
   refine⟨⟨d++[m],r.eraseIdx j,some m⟩,?_,?_,?_⟩
   ·exact ud.Fh hg hj
   ·show(r.eraseIdx j).length<r.length
    rw[List.length_eraseIdx,if_pos hjl]
    omega
   refine To.done [0,1] rfl KS ?_
   dsimp only
   rw[qO,qO]
   rfl
  ·cases hc0
theorem CY(n w c l:Int)(hn:0<=n∧n<=1000)(hs:jr w c l):Pure Tryz.prog 217 [.agg [.int .i64 w,.int .i64 c,.int .i64 l],.ip [.int .i64 n] 0] (.int .i64 (gr n w c l)):=by
 refine Kf (N:=7) Tryz.func217 ?_
 iterate 9 refine af ?_
 refine Kc (Kp (QM _ _ _ _ ?_ ?_)) ?_
 ·assumption
 ·assumption
 exact mc
theorem GB(ms:List (Int×(Sk×Sp)))(n:Int)(hn:0<=n∧n<=1000)(hm:okM ms):Pure Tryz.prog 193 [mF (PV.int .i64) Av ms,.int .i64 n] (.agg [.int .i64 (ms.map (ow (Ov (gr n)))).sum,.int .i64 (ms.map (nT (Ov (gr n)))).sum]):=by
 refine Kf (N:=8) Tryz.func193 ?_
 iterate 8 refine af ?_
 refine Kc (aa.makeFunc rfl rfl rfl) ?_
 refine Kc (Kp (UT ms (.func 217) [] [.ip [.int .i64 n] 0] (Ov (gr n)) ?_ ?_ ?_ ?_)) ?_
 ·exact hm.1
 ·exact hm.2.1
 ·exact fun m OI j _=>by have h:=(hm.2.2 m OI).state j;unfold Ov;have:=Yb hn h;omega
 ·exact fun m OI j _=>⟨217,[tw m.2.1 j,.ip [.int .i64 n] 0],rfl,ai,CY n _ _ _ hn ((hm.2.2 m OI).state j)⟩
 iterate 3 refine af ?_
 exact B0
theorem Qt{f:Nat->Int}{k:Nat}(h:k=0∨f k<ny f k):ny f (k+1)=f k:=by
 simp only[ny]
 split
 ·rename_i h0;subst h0;rfl
 ·omega
theorem Py{f:Nat->Int}{k:Nat}(h:¬ k=0∧ny f k<=f k):ny f (k+1)=ny f k:=by
 simp only[ny]
 rw[if_neg h.1]
 omega
theorem QH{f:Nat->Int}{k:Nat}(h:k=0∨nG f k<f k):nG f (k+1)=f k:=by
 simp only[nG]
 split
 ·rename_i h0;subst h0;rfl
 ·omega
theorem Qh{f:Nat->Int}{k:Nat}(h:¬ k=0∧f k<=nG f k):nG f (k+1)=nG f k:=by
 simp only[nG]
 rw[if_neg h.1]
 omega
theorem Dk(l:List Sk)(b:List Tk)(n:Int)(hl:Dz l)(hb:okB b)(hn:0<=n∧n<=1000):Pure Tryz.prog 161 [b8 l,kY b,.int .i64 n] (.tuple [.int .i64 (fc (rF l b n) l.length),.int .i64 (fc (qQ l b n) l.length)]):=by
 have hl8:=hl.1
 have hB:∀ i,i<l.length->_:=fun i hi=>ab6 (l:=l) (b:=b) (n:=n) hb hn hi (hl.2 l[i] (ZZ _))
 refine Kf (N:=129) Tryz.func161 ?_
 iterate 16 refine af ?_
 refine aC.pK [8,9,10,11,12,13,14,15,16,17,18,19,20,21,22,23,24,25,26,27,28,29,30,31,32,33,34,35,36,37,38,39,40,41,42,43,44,45,46,47,48,49,50,51,52,53,54,55,56,57,58,59,60,61,62,63,64,65,66,67,68,69,70,71,72,73,74,75,76,77,78,79,80,81,82,83,84,85,86,87,88,89,90,91,92,93,94,95,96,97,98,99,100,101,102,103,104,105,106,107,108,109,110,111,112,113,114,115,116,117,118,119,120,121,122,123,124,125,126] (fun g=>[(10,.p (.int .i64 ((g:Nat):Int))),(8,.p (.int .i64 (fc (rF l b n) g))),(9,.p (.int .i64 (fc (qQ l b n) g)))]) (fun g=>g<=l.length) (fun g=>l.length - g) 0 (Zn _) (Sub.cons rfl (Sub.cons rfl (Sub.cons rfl (Sub.nil)))) (fun i hg=> ?_)
 iterate 8 refine af ?_
 refine Ki (fun hc0=> ?_) fun hc0=> ?_
 ·have hk0:i<l.length:=by simp at hc0;omega
  have hs:=hl.2 l[i] (ZZ _)
  have h1:=wB hb i
  unfold w6 w8 at h1
  have p1:=zc (f:=rF l b n) (A:= -800000000000000000) (B:=800000000000000000) i (fun j hj=>(hB j (by omega)).1)
  have p2:=zc (f:=qQ l b n) (A:= -800000000000000000) (B:=800000000000000000) i (fun j hj=>(hB j (by omega)).2)
  iterate 7 refine af ?_
  refine Kc (Kp (DL b (i:Int) hb)) ?_
  iterate 7 refine af ?_
  refine Kc (aa.eM rfl rfl rfl ai CA rfl (fun _=>rfl) (by decide) hk0) ?_
  refine af ?_
  refine Kc (Kp (Bw l[i])) ?_
  iterate 13 refine af ?_
  refine aC.pK [13,14,15,16,31,32,33,34,35,36,37,38,39,40,41,42,43,44,45,46,47,48,49,50,51,52,53,54,55,56,57,58,59,60,61,62,63,64,65,66,67,68,69,70,71,72,73,74,75,76,77,78,79,80,81,82,83,84,85,86,87,88,89,90,91,92,93,94,95,96,97,98,99,100,101,102,103,104,105,106,107,108,109,110,111,112,113,114,115,116,117,118,119,120] (fun g=>[(15,.p (.int .i64 ((g:Nat):Int))),(13,.p (.int .i64 (ny (ji l b n i) g))),(14,.p (.int .i64 (nG (jj l b n i) g)))]) (fun g=>g<=8) (fun g=>8 - g) 0 (Zn _) (Sub.cons rfl (Sub.cons rfl (Sub.cons rfl (Sub.nil)))) (fun k hg=> ?_)
  iterate 8 refine af ?_
  refine Ki (fun bw=> ?_) fun bw=> ?_
  ·have HZ:k<8:=by simp at bw;omega
   have o1:=ofB (k:=1) (hs.nQ k)
   have o4:=ofB (k:=4) (hs.nQ k)
   have o5:=AP hn o4
   have hx:=KH hn hs k
   unfold lB at hx
   have q1:=Cj (A:=1000000000000) (B:=800000) hx h1.1
   have q2:=Cj (A:=1000000000000) (B:=800000) hx h1.2
   have ef:ji l b n i k=min (w6 b i*lB n l[i] k) (w8 b i*lB n l[i] k):=by unfold ji;rw[Zb hk0,NW]
   have eg:jj l b n i k=max (w6 b i*lB n l[i] k) (w8 b i*lB n l[i] k):=by unfold jj;rw[Zb hk0,NW]
   iterate 4 refine af ?_
   refine aC.az 37 mixed (by kernel_rfl) (by decide) ?_
   iterate 2 refine af ?_
   refine Kq (aa.kn rfl rfl rfl ai yC HZ (jc _ HZ) (jW _)) ?_
   iterate 4 refine af ?_
   refine Kq (aa.kn rfl rfl rfl ai yC HZ (jc _ HZ) (jW _)) ?_
   iterate 4 refine af ?_
   refine Kq (aa.kn rfl rfl rfl ai yC HZ (jc _ HZ) (jW _)) ?_
   iterate 2 refine af ?_
   refine Kq (Kp (Md _ _ _ _ ?_ ?_)) ?_
   ·omega
   ·exact hs.nQ k
   refine Kq (aa.mul rfl rfl rfl (aA ?_)) ?_
   ·omega
   iterate 3 refine af ?_
   refine Kq (aa.kn rfl rfl rfl ai yC HZ (jc _ HZ) (jW _)) ?_
   iterate 4 refine af ?_
   refine Kq (aa.kn rfl rfl rfl ai yC HZ (jc _ HZ) (jW _)) ?_
   iterate 4 refine af ?_
   refine Kq (aa.kn rfl rfl rfl ai yC HZ (jc _ HZ) (jW _)) ?_
   iterate 2 refine af ?_
   refine Kq (Kp (Md _ _ _ _ ?_ ?_)) ?_
   ·omega
   ·exact hs.nQ k
   refine Kq (aa.mul rfl rfl rfl (aA ?_)) ?_
   ·omega
   refine Kq (aa.ec rfl rfl rfl (aA ?_)) ?_
   ·omega
   refine af ?_
   refine ay.nil ?_
   iterate 7 refine af ?_
   refine Kg 76 75 11 rfl (fun h=>(aa.fieldAddr rfl rfl ai rfl)) ?_
   refine Kh 77 75 76 rfl rfl rfl rfl (fun h=>(aa.load rfl rfl ai rfl)) ?_
   refine Kg 78 75 16 rfl (fun h=>(aa.move rfl rfl)) ?_
   refine aq.g 79 75 rfl rfl rfl rfl rfl rfl rfl [(77,_),(78,_)] (fun h=>And.intro (.inr ⟨_,rfl,h⟩) (And.intro (.inr ⟨_,rfl,h⟩) (trivial))) (fun h=>(aa.mul rfl rfl rfl (aA ?_))) ?_
   ·omega
   refine Kg 80 75 11 rfl (fun h=>(aa.fieldAddr rfl rfl ai rfl)) ?_
   refine Kh 81 75 80 rfl rfl rfl rfl (fun h=>(aa.load rfl rfl ai rfl)) ?_
   refine Kg 82 75 16 rfl (fun h=>(aa.move rfl rfl)) ?_
   refine aq.g 83 75 rfl rfl rfl rfl rfl rfl rfl [(81,_),(82,_)] (fun h=>And.intro (.inr ⟨_,rfl,h⟩) (And.intro (.inr ⟨_,rfl,h⟩) (trivial))) (fun h=>(aa.mul rfl rfl rfl (aA ?_))) ?_
   ·omega
   refine aq.g 84 75 rfl rfl rfl rfl rfl rfl rfl [(79,_),(83,_)] (fun h=>And.intro (.inr ⟨_,rfl,h⟩) (And.intro (.inr ⟨_,rfl,h⟩) (trivial))) (fun h=>(aa.min2 rfl rfl rfl)) ?_
   refine Kg 85 75 13 rfl (fun h=>(aa.move rfl rfl)) ?_
   refine aq.g 86 75 rfl rfl rfl rfl rfl rfl rfl [(84,_),(85,_)] (fun h=>And.intro (.inr ⟨_,rfl,h⟩) (And.intro (.inr ⟨_,rfl,h⟩) (trivial))) (fun h=>(aa.lss rfl rfl rfl)) ?_
   refine Kc (aa.lE rfl rfl rfl ?_) ?_
   ·exact fO
   refine af ?_
   refine Ki (fun eG=> ?_) fun eG=> ?_
   ·have g2:(decide ((k:Int)=0)||decide (min (w6 b i*lB n l[i] k) (w8 b i*lB n l[i] k)<ny (ji l b n i) k))=true:=eG
    rw[<- ef] at g2
    have r2:ny (ji l b n i) (k+1)=ji l b n i k:=Qt (by simpa using g2)
    iterate 4 refine af ?_
    refine Kc (aa.mul rfl rfl rfl (aA ?_)) ?_
    ·omega
    iterate 3 refine af ?_
    refine Kc (aa.mul rfl rfl rfl (aA ?_)) ?_
    ·omega
    refine Kc (aa.min2 rfl rfl rfl) ?_
    iterate 7 refine af ?_
    exact R1
   ·have g2:(decide ((k:Int)=0)||decide (min (w6 b i*lB n l[i] k) (w8 b i*lB n l[i] k)<ny (ji l b n i) k))=false:=eG
    rw[<- ef] at g2
    have r2:ny (ji l b n i) (k+1)=ny (ji l b n i) k:=Py (by simpa using g2)
    iterate 6 refine af ?_
    exact R1
  ·obtain rfl:k=8:=by simp at bw;omega
   have hBi:=hB i hk0
   unfold rF qQ at hBi
   refine aC.exit ?_
   iterate 4 refine af ?_
   refine Kc (aa.add rfl rfl rfl (aA ?_)) ?_
   ·omega
   iterate 5 refine af ?_
   refine Kc (aa.add rfl rfl rfl (aA ?_)) ?_
   ·omega
   iterate 4 refine af ?_
   refine Kc (aa.add rfl rfl rfl (aA ?_)) ?_
   ·omega
   iterate 2 refine af ?_
   refine⟨i+1,?_,?_,?_⟩
   ·exact oe
   ·exact oe
   refine To.done [] rfl ?_ rfl
   refine Sub.cons rfl (Sub.cons rfl (Sub.cons rfl KS))
 ·obtain rfl:i=l.length:=by simp at hc0;omega
  refine aC.exit ?_
  iterate 8 refine af ?_
  exact Fin.many (xs:=[.int .i64 (fc (rF l b n) l.length),.int .i64 (fc (qQ l b n) l.length)]) rfl (⟨_,_,rfl,rfl,⟨_,_,rfl,rfl,rfl⟩⟩) rfl
theorem yz(n r:Nat)(fn:Fn)(fi ca:List PV)(p:Nat->Bool)(hn:n<=140737488355328)(hr:r<=n)(h1:∀ i,i<r->p i=false)(h2:∀ i,r<=i->i<n->p i=true)(hf:∀ i,i<n->kG Tryz.prog (.func fn fi ca) [.int .i64 ((i:Nat):Int)] (.bool (p i))):Pure Tryz.prog 191 [.int .i64 (n:Int),.func fn fi ca] (.int .i64 (r:Int)):=by
 refine Kf (N:=26) Tryz.func191 ?_
 iterate 12 refine af ?_
 refine aC.pK [5,6,7,9,10,11,12,13,14,15,16,17,18,19,20,21,22,23,24] (fun g=>[(5,.p (.int .i64 ((g.1:Nat):Int))),(6,.p (.int .i64 ((g.2:Nat):Int)))]) (fun g=>g.1<=r∧r<=g.2∧g.2<=n) (fun g=>g.2 - g.1) (0,n) ⟨Zn _,hr,Zg _⟩ (Sub.cons rfl (Sub.cons rfl (Sub.nil))) (fun g hg=> ?_)
 obtain⟨i,j⟩:=g
 obtain⟨hi,hj,hjn⟩:=hg
 dsimp only at hi hj hjn ⊢
 iterate 7 refine af ?_
 refine Ki (fun hc0=> ?_) fun hc0=> ?_
 ·have hij:i<j:=by simp at hc0;omega
  have hf0:=hf ((i+j) / 2) (by omega)
  iterate 6 refine af ?_
  refine Kc (aa.add rfl rfl rfl (aA ?_)) ?_
  ·omega
  refine Kc (aa.dP rfl rfl (by rw[y4];rfl) BL (oo ?_)) ?_
  ·omega
  refine Kc (aa.shr (m:=(((i+j) / 2:Nat):Int)) rfl rfl rfl (by decide) ?_) ?_
  ·refine abT.trans ?_;omega
  refine Kc (aa.dP rfl rfl (by rw[BL];rfl) y4 (aA ?_)) ?_
  ·omega
  iterate 6 refine af ?_
  refine Kc (aa.BH (hf0) rfl rfl rfl) ?_
  iterate 2 refine af ?_
  refine Ki (fun bw=> ?_) fun bw=> ?_
  ·have q1:p ((i+j) / 2)=false:=by simpa using bw
   have q2:(i+j) / 2+1<=r:=by rcases ZS ((i+j) / 2) r with h | h;{omega};{have:=h2 _ h (by omega);rw[q1] at this;cases this}
   iterate 2 refine af ?_
   refine Kc (aa.add rfl rfl rfl (aA ?_)) ?_
   ·omega
   iterate 2 refine af ?_
   refine⟨((i+j) / 2+1,j),?_,?_,?_⟩
   ·exact⟨q2,hj,hjn⟩
   ·dsimp only;omega
   exact Bz
  ·have q1:p ((i+j) / 2)=true:=by simpa using bw
   have q2:r<=(i+j) / 2:=by rcases ZS ((i+j) / 2) r with h | h;{have:=h1 _ h;rw[q1] at this;cases this};{omega}
   iterate 4 refine af ?_
   refine⟨(i,(i+j) / 2),?_,?_,?_⟩
   ·exact⟨hi,q2,by dsimp only;omega⟩
   ·dsimp only;omega
   exact Bz
 ·obtain rfl:i=r:=by simp at hc0;omega
  refine aC.exit ?_
  iterate 6 refine af ?_
  refine Fin.cY rfl rfl ?_
  rfl
theorem wI(l:List Sk)(b:List Tk)(n:Int)(hn:0<=n∧n<=1000)(hl:Dz l)(hb:okB b)(ht:NI l.length b):Pure Tryz.prog 193 [mF (PV.int .i64) Av (bZ l b b.length),.int .i64 n] (.agg [.int .i64 (Dl l b n),.int .i64 (H7 l b n)]):=by
 have h:=GB (bZ l b b.length) n hn (Gj hl hb ht)
 rw[Vg ht,Ut ht] at h
 exact h
theorem GG(l:List Sk)(b:List Tk)(n:Int)(hn:0<=n∧n<=1000)(hl:Dz l)(hb:okB b)(ht:NI l.length b):Pure Tryz.prog 192 [.int .i64 n,.ip [mF (PV.int .i64) Av (bZ l b b.length)] 0] (.bool (decide (Dl l b n<0))):=by
 refine Kf (N:=9) Tryz.func192 ?_
 iterate 8 refine af ?_
 refine Kc (Kp (wI l b n hn hl hb ht)) ?_
 refine Kc (aa.field rfl rfl WJ rfl) ?_
 iterate 4 refine af ?_
 exact C8
theorem GC(l:List Sk)(b:List Tk)(n:Int)(hn:0<=n∧n<=1000)(hl:Dz l)(hb:okB b)(ht:NI l.length b):Pure Tryz.prog 194 [.int .i64 n,.ip [mF (PV.int .i64) Av (bZ l b b.length)] 0] (.bool (decide (H7 l b n<=0))):=by
 refine Kf (N:=9) Tryz.func194 ?_
 iterate 8 refine af ?_
 refine Kc (Kp (wI l b n hn hl hb ht)) ?_
 refine Kc (aa.field rfl rfl UI rfl) ?_
 iterate 4 refine af ?_
 exact C8
theorem Jq(l:List Sk)(b:List Tk)(hl:l.length<=bK)(hb:b.length<=bK):Pure Tryz.prog 154 [b8 l,kY b] (.tuple (qn l b)):=by
 refine Kf (N:=30) Tryz.func154 ?_
 iterate 9 refine af ?_
 refine Kc (Kp (AU _ ?_)) ?_
 ·assumption
 iterate 2 refine af ?_
 refine Kg 13 12 0 rfl (fun h=>(aa.move rfl rfl)) ?_
 refine Kg 14 12 1 rfl (fun h=>(aa.move rfl rfl)) ?_
 refine aq.g 15 12 rfl rfl rfl rfl rfl rfl rfl [(13,_),(14,_)] (fun h=>And.intro (.inr ⟨_,rfl,h⟩) (And.intro (.inr ⟨_,rfl,h⟩) (trivial))) (fun h=>(Kp (DI _ _ ?_ ?_))) ?_
 ·assumption
 ·assumption
 refine Kh 16 12 15 rfl rfl rfl rfl (fun h=>(aa.fI rfl rfl)) ?_
 refine Kc (aa.lE rfl rfl rfl ?_) ?_
 ·exact fO
 refine af ?_
 refine Ki (fun hc0=> ?_) fun hc0=> ?_
 ·exact TJ
 ·have hv:gT l b=true:=by unfold gT;simp at hc0;simp[hc0]
  have okl:Dz l:=M6 (by unfold gT at hv;simp at hv;exact hv.1)
  have N6:=LQ (n:=l.length) (b:=b) (by unfold gT at hv;simp at hv;exact hv.2)
  obtain⟨r,q,cr,cq,er,eq⟩:=CS okl N6.1
  iterate 5 refine af ?_
  refine Kc (Kp (Ay l b hl N6.1 N6.2)) ?_
  iterate 5 refine af ?_
  refine aq.freeze 1 rfl rfl ?_
  refine Kc (aa.makeFunc rfl rfl rfl) ?_
  refine Kc (Kp (yz 1001 r (.func 192) [] [.ip [mF (PV.int .i64) Av (bZ l b b.length)] 0] _ (by decide) cr.1 cr.2.1 cr.2.2 (fun i hi=>⟨192,[.int .i64 (i:Int),.ip [mF (PV.int .i64) Av (bZ l b b.length)] 0],rfl,ai,GG l b _ (by omega) okl N6.1 N6.2⟩))) ?_
  iterate 4 refine af ?_
  refine Kc (aa.makeFunc rfl rfl rfl) ?_
  refine Kc (Kp (yz 1000 q (.func 194) [] [.ip [mF (PV.int .i64) Av (bZ l b b.length)] 0] _ (by decide) cq.1 cq.2.1 cq.2.2 (fun i hi=>⟨194,[.int .i64 (i:Int),.ip [mF (PV.int .i64) Av (bZ l b b.length)] 0],rfl,ai,GC l b _ (by omega) okl N6.1 N6.2⟩))) ?_
  iterate 5 refine af ?_
  refine Kc (aa.ec rfl rfl rfl (aA ?_)) ?_
  ·have:=cr.1;omega
  iterate 6 refine af ?_
  refine Fin.bq (xs:=[.agg [.int .i64 ((r:Int) - 1),.int .i64 (q:Int)],.int .i64 0]) rfl (⟨_,_,rfl,⟨_,_,_,rfl,ai,rfl⟩,⟨_,_,rfl,rfl,rfl⟩⟩) rfl ?_
  simp[qn,hv,er,eq]
theorem Ho(l:List Sk)(b:List Tk)(hl:l.length<=bK)(hb:b.length<=bK):Pure Tryz.prog 118 [b8 l,kY b] (.tuple (qn l b)):=by
 refine Kf (N:=44) Tryz.func118 ?_
 iterate 9 refine af ?_
 refine Kc (Kp (xZ _ ?_)) ?_
 ·assumption
 iterate 2 refine af ?_
 refine Kg 14 13 0 rfl (fun h=>(aa.move rfl rfl)) ?_
 refine Kg 15 13 1 rfl (fun h=>(aa.move rfl rfl)) ?_
 refine aq.g 16 13 rfl rfl rfl rfl rfl rfl rfl [(14,_),(15,_)] (fun h=>And.intro (.inr ⟨_,rfl,h⟩) (And.intro (.inr ⟨_,rfl,h⟩) (trivial))) (fun h=>(Kp (F3 _ _ ?_ ?_))) ?_
 ·assumption
 ·assumption
 refine Kh 17 13 16 rfl rfl rfl rfl (fun h=>(aa.fI rfl rfl)) ?_
 refine Kc (aa.lE rfl rfl rfl ?_) ?_
 ·exact fO
 refine af ?_
 refine Ki (fun hc0=> ?_) fun hc0=> ?_
 ·exact TJ
 ·have hv:gT l b=true:=by unfold gT;simp at hc0;simp[hc0]
  have okl:Dz l:=M6 (by unfold gT at hv;simp at hv;exact hv.1)
  have N6:=LQ (n:=l.length) (b:=b) (by unfold gT at hv;simp at hv;exact hv.2)
  iterate 13 refine af ?_
  refine aC.nu [7,8,9,21,22,23,24,25,26,27,28,29,30,31,32,33,34,35,36,37,38,39,40,41,42] (fun g=>[(7,.p (.int .i64 ((g:Nat):Int)))]) (fun g=>[.cells [.p (.int .i64 (0)),.p (.int .i64 (0))] 24,.cells [.p (.int .i64 (pZ l b g)),.p (.int .i64 (kL l b g))] 24]) (fun g=>g<=1001) (fun g=>1001 - g) 0 (Zn _) (To.sub (Sub.L8 (Sub.cons rfl Sub.nil))) (fun s hg=> ?_)
  iterate 6 refine af ?_
  refine Ki (fun bw=> ?_) fun bw=> ?_
  ·have hs1:s<=1000:=by simp at bw;omega
   iterate 8 refine af ?_
   refine Kc (Kp (Dk l b (s:Int) okl N6.1 (by omega))) ?_
   iterate 12 refine af ?_
   refine Ki (fun eG=> ?_) fun eG=> ?_
   ·iterate 10 refine af ?_
    exact aaT
   ·iterate 6 refine af ?_
    exact aaT
  ·obtain rfl:s=1001:=by simp at bw;omega
   refine aC.exit ?_
   iterate 7 refine af ?_
   refine Fin.bq (xs:=[.agg [.int .i64 (pZ l b 1001),.int .i64 (kL l b 1001)],.int .i64 0]) rfl (⟨_,_,rfl,⟨_,_,_,rfl,ai,rfl⟩,⟨_,_,rfl,rfl,rfl⟩⟩) rfl ?_
   simp[qn,hv]
end Go.Proofs.YtchiinjiflgepaaGreatDoor.Ck
end
