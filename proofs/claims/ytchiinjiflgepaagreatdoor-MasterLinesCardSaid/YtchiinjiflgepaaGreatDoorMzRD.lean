/-
 Chapter 4: dies, draws and plans as plain data; what is valid; how wide leads are; how a plan is followed.
 Chapter 4: the steps by which a plan is followed.
 Chapter 4: what is valid.
 Chapter 4: how wide leads are; how a plan is followed.
 The reference of chapter 4.
-/
import Derived.Test.YtchiinjiflgepaaGreatDoorFaRE
import Derived.Test.YtchiinjiflgepaaGreatDoorPmR
import Derived.Test.YtchiinjiflgepaaGreatDoorMzRF
import Derived.Test.YtchiinjiflgepaaGreatDoorMzRC
import Derived.Test.YtchiinjiflgepaaGreatDoorMzRZ
theorem TX{A:Prop}(h:A:=by
 refine af ?_
 refine Kc (aa.BH (hf _ (ZZ _)) rfl rfl rfl) ?_
 refine af ?_
 refine Ki (fun bw=> ?_) fun bw=> ?_
 ·exact ac2
 ·exact ac5):A:=h
theorem WV{A:Prop}(h:A:=by
 iterate 12 refine af ?_
 refine Kg 12 11 3 rfl (fun h=>(aa.fieldAddr rfl rfl ai rfl)) ?_
 refine Kh 13 11 12 rfl rfl rfl rfl (fun h=>(aa.load rfl rfl ai rfl)) ?_
 refine Kg 14 11 3 rfl (fun h=>(aa.fieldAddr rfl rfl ai rfl)) ?_
 refine Kh 15 11 14 rfl rfl rfl rfl (fun h=>(aa.load rfl rfl ai rfl)) ?_
 refine aq.g 16 11 rfl rfl rfl rfl rfl rfl rfl [(13,_),(15,_)] (fun h=>And.intro (.inr ⟨_,rfl,h⟩) (And.intro (.inr ⟨_,rfl,h⟩) (trivial))) (fun h=>(aa.leq rfl rfl rfl)) ?_
 refine Kc (aa.gy rfl rfl rfl ?_) ?_
 ·exact fO
 refine af ?_
 refine Kg 19 18 3 rfl (fun h=>(aa.fieldAddr rfl rfl ai rfl)) ?_
 refine Kh 20 18 19 rfl rfl rfl rfl (fun h=>(aa.load rfl rfl ai rfl)) ?_
 refine Kg 21 18 2 rfl (fun h=>(aa.move rfl rfl)) ?_
 refine aq.g 22 18 rfl rfl rfl rfl rfl rfl rfl [(20,_),(21,_)] (fun h=>And.intro (.inr ⟨_,rfl,h⟩) (And.intro (.inr ⟨_,rfl,h⟩) (trivial))) (fun h=>(aa.leq rfl rfl rfl)) ?_
 refine Kc (aa.gy rfl rfl rfl ?_) ?_
 ·exact fO
 exact Bg):A:=h
theorem SV{A:Prop}(h:A:=by
 iterate 9 refine af ?_
 refine Kc (Kp (cW _ _ _)) ?_
 iterate 2 refine af ?_
 refine Kg 8 7 1 rfl (fun h=>(aa.fieldAddr rfl rfl ai rfl)) ?_
 refine Kh 9 7 8 rfl rfl rfl rfl (fun h=>(aa.load rfl rfl ai rfl)) ?_
 refine Kh 10 7 9 rfl rfl rfl rfl (fun h=>(Kp (je _ _ _ _))) ?_
 refine Kh 11 7 10 rfl rfl rfl rfl (fun h=>(aa.fI rfl rfl)) ?_
 refine Kc (aa.lE rfl rfl rfl ?_) ?_
 ·exact fO
 exact Bg):A:=h
theorem ac5{A:Prop}(h:A:=by
 iterate 2 refine af ?_
 refine Kc (aa.add rfl rfl rfl (aA ?_)) ?_
 ·exact oe
 exact L6):A:=h
theorem Tr{A:Prop}(h:A:=by
 iterate 10 refine af ?_
 refine Kg 11 10 0 rfl (fun h=>(aa.move rfl rfl)) ?_
 refine Kg 12 10 2 rfl (fun h=>(aa.move rfl rfl)) ?_
 refine aq.g 13 10 rfl rfl rfl rfl rfl rfl rfl [(11,_),(12,_)] (fun h=>And.intro (.inr ⟨_,rfl,h⟩) (And.intro (.inr ⟨_,rfl,h⟩) (trivial))) (fun h=>(aa.leq rfl rfl rfl)) ?_
 refine Kc (aa.gy rfl rfl rfl ?_) ?_
 ·exact fO
 exact Bg):A:=h
theorem WE{A:Prop}(h:A:=by
 iterate 10 refine af ?_
 refine Kc (aa.As (g:=gt cJ.d p.dies) (av _) rfl rfl rfl ai LV rfl (fun _=>rfl) (by decide) h0 hj) ?_
 refine Kc (Kl (.p (.agg (gt cJ.d p.dies j.toNat).cells))) ?_
 iterate 11 refine af ?_
 exact Q7):A:=h
theorem Td{A:Prop}(h:A:=by
 refine Kq (aa.gy rfl rfl rfl ?_) ?_
 ·exact fO
 refine af ?_
 refine ay.nil ?_
 iterate 2 refine af ?_
 exact Fq):A:=h
theorem TR{A:Prop}(h:A:=by
 have hi2:i=l.length:=by have h:¬ ((i:Int)<(l.length:Int)):=Zf eG;omega
 subst hi2
 refine aC.exit ?_
 iterate 9 refine af ?_
 refine Ki (fun A6=> ?_) fun A6=> ?_
 ·have hlt:(l.length:Int)<(plan.length:Int):=Ze A6
  iterate 9 refine af ?_
  refine Fin.bq (xs:=[.nilSlice,.int .i64 (l.length:Int),.int .i64 2]) rfl ⟨_,_,rfl,rfl,⟨_,_,rfl,rfl,⟨_,_,rfl,rfl,rfl⟩⟩⟩ rfl ?_
  rw[iy hv hd,Ct,AD hlt]
  rfl
 ·have hlt:¬ (l.length:Int)<(plan.length:Int):=Zf A6
  refine aC.freeze 0 rfl (jy _) ?_
  iterate 11 refine af ?_
  skip
  refine Fin.bq (xs:=[(.is (u.flatMap bG) p.dies.length),.int .i64 (l.length:Int),.int .i64 0]) rfl ⟨_,_,rfl,rfl,⟨_,_,rfl,rfl,⟨_,_,rfl,rfl,rfl⟩⟩⟩ rfl ?_
  rw[iy hv hd,Ct,Jl hlt]
  show[PV.is _ _,_,_]=[PV.is _ _,_,_]
  rw[hul]):A:=h
theorem Q7{A:Prop}(h:A:=by
 refine Kc (aa.mul rfl rfl rfl (aA ?_)) ?_
 ·omega
 refine Kc (aa.add rfl rfl rfl (aA ?_)) ?_
 ·omega
 iterate 3 refine af ?_
 refine Kc (aa.ec rfl rfl rfl (aA ?_)) ?_
 ·omega
 refine Kc (aa.mul rfl rfl rfl (aA ?_)) ?_
 ·omega
 iterate 3 refine af ?_
 exact Fin.cY rfl rfl rfl):A:=h
theorem S9{A:Prop}(h:A:=by
 have Jb:tX p (gt cJ.d p.dies (gt 0 plan i).toNat) (gt 0 u (gt 0 plan i).toNat) (gt b7.d l i)=false:=by first | simpa only[HX] using tN | (unfold tX;simpa only[HX] using tN)
 iterate 8 refine af ?_
 refine Fin.bq (xs:=[.nilSlice,.int .i64 (i:Int),.int .i64 11]) rfl ⟨_,_,rfl,rfl,⟨_,_,rfl,rfl,⟨_,_,rfl,rfl,rfl⟩⟩⟩ rfl ?_
 rw[iy hv hd,Ct,Mz hk0 hpl hin Jb]
 rfl):A:=h
theorem Tn{A:Prop}(h:A:=by
 have hin:gO (gt 0 plan i) 0 ((p.dies.length:Int) - 1)=false:=by simpa using o3
 iterate 8 refine af ?_
 refine Fin.bq (xs:=[.nilSlice,.int .i64 (i:Int),.int .i64 2]) rfl ⟨_,_,rfl,rfl,⟨_,_,rfl,rfl,⟨_,_,rfl,rfl,rfl⟩⟩⟩ rfl ?_
 rw[iy hv hd,Ct,TY hk0 hpl hin]
 rfl):A:=h
theorem Yg{A:Prop}(h:A:=by
 iterate 3 refine af ?_
 refine Kc (aa.add rfl rfl rfl (aA ?_)) ?_
 ·omega
 iterate 2 refine af ?_
 refine⟨i+1,?_,?_,?_⟩
 ·refine⟨hk0,fun j hj h=> ?_⟩
  rcases NX.1 hj with h1 | rfl
  ·exact jM j h1 pQ
  ·exact XL
 ·omega
 exact To.done [] rfl KS rfl):A:=h
theorem RQ{A:Prop}(h:A:=by
 have hpl:(plan.length:Int)<=(i:Int):=Ze gQ
 iterate 8 refine af ?_
 refine Fin.bq (xs:=[.nilSlice,.int .i64 (i:Int),.int .i64 4]) rfl ⟨_,_,rfl,rfl,⟨_,_,rfl,rfl,⟨_,_,rfl,rfl,rfl⟩⟩⟩ rfl ?_
 rw[iy hv hd,Ct,TM hk0 hpl]
 rfl):A:=h
theorem RC{A:Prop}(h:A:=by
 have hd:jN l=false:=by simpa using bw
 iterate 7 refine af ?_
 refine Fin.bq (xs:=[.nilSlice,.int .i64 0,.int .i64 2]) rfl ⟨_,_,rfl,rfl,⟨_,_,rfl,rfl,⟨_,_,rfl,rfl,rfl⟩⟩⟩ rfl ?_
 rw[Mi hv hd]
 rfl):A:=h
theorem Tp{A:Prop}(h:A:=by
 have hv:dY p=false:=by simpa using hc0
 iterate 7 refine af ?_
 refine Fin.bq (xs:=[.agg [.int .i64 0,.int .i64 0],.int .i64 1]) rfl (⟨_,_,rfl,⟨_,_,_,rfl,ai,rfl⟩,⟨_,_,rfl,rfl,rfl⟩⟩) rfl ?_
 rw[Pt hv]):A:=h
theorem SA{A:Prop}(h:A:=by
 have hv:dY p=false:=by simpa using hc0
 iterate 7 refine af ?_
 refine Fin.bq (xs:=[.nilSlice,.int .i64 0,.int .i64 1]) rfl ⟨_,_,rfl,rfl,⟨_,_,rfl,rfl,⟨_,_,rfl,rfl,rfl⟩⟩⟩ rfl ?_
 rw[De hv]
 rfl):A:=h
theorem SS{A:Prop}(h:A:=by
 iterate 7 refine af ?_
 refine Fin.bq (xs:=[.agg [.int .i64 0,.int .i64 0],.int .i64 2]) rfl (⟨_,_,rfl,⟨_,_,_,rfl,ai,rfl⟩,⟨_,_,rfl,rfl,rfl⟩⟩) rfl ?_
 rw[Oh hv (by assumption)]):A:=h
theorem R4{A:Prop}(h:A:=by
 refine aC.exit ?_
 iterate 5 refine af ?_
 refine Fin.cY rfl rfl ?_
 rw[Ck.lM p xs (fun j hj=>jM j (by simp at hc0;omega) pQ)]):A:=h
theorem ac2{A:Prop}(h:A:=by
 iterate 6 refine af ?_
 refine Fin.cY rfl rfl ?_
 rw[Ck.rE p xs i (by simp at hc0;omega) (fun j hj=>jM j hj pQ) bw]):A:=h
set_option linter.unusedSimpArgs false
set_option linter.unusedVariables false
section
namespace Go.Proofs.YtchiinjiflgepaaGreatDoor.Di
open Go.AF
def bK:Nat:=9223372036854775807
def gt{α:Type}(d:α)(l:List α)(k:Nat):α:=l.getD k d
theorem av{α:Type}(d:α){l:List α}:∀ k (h:k<l.length),l[k]=gt d l k:=fun k h=>by
 unfold gt
 exact Ra
theorem aV{α:Type}(d:α){l:List α}{k:Nat}(h:k<l.length):gt d l k∈l:=by rw[<- av d k h];exact ZZ _
structure cJ where
 wide:Int
 lo:Int
 hi:Int
 deriving DecidableEq
def cJ.cells(d:cJ):List PV:=[.int .i64 d.wide,.int .i64 d.lo,.int .i64 d.hi]
def cJ.d:cJ:=⟨0,0,0⟩
def lN(l:List cJ):PV:= .is (l.flatMap cJ.cells) l.length
structure bX where
 dies:List cJ
 uJ:Int
 uL:Int
 change:Int
 deriving DecidableEq
def bX.cells(p:bX):List PV:=[lN p.dies,.int .i64 p.uJ,.int .i64 p.uL,.int .i64 p.change]
def ew(p:bX):PV:= .agg p.cells
structure b7 where
 len:Int
 lo:Int
 hi:Int
 deriving DecidableEq
def b7.cells(d:b7):List PV:=[.int .i64 d.len,.int .i64 d.lo,.int .i64 d.hi]
def b7.d:b7:=⟨0,0,0⟩
def dn(l:List b7):PV:= .is (l.flatMap b7.cells) l.length
def bG(n:Int):List PV:=[.int .i64 n]
def aQ(l:List Int):PV:= .is (l.flatMap bG) l.length
def gO(n lo hi:Int):Bool:=decide (lo<=n)&&decide (n<=hi)
def NH(a b lo hi:Int):Bool:=decide (lo<=a)&&decide (a<=b)&&decide (b<=hi)
def OB(d:cJ):Bool:=gO d.wide 1 20000&&NH d.lo d.hi 0 200
def nA(d:cJ):Bool:= !gO d.wide 1 20000|| !NH d.lo d.hi 0 200
def dY(p:bX):Bool:=gO p.dies.length 1 4&&gO p.change 0 10000&&NH p.uJ p.uL 0 300&& !p.dies.any nA
def OM(d:b7):Bool:=gO d.len 1 1000&&NH d.lo d.hi 0 20000
def pH(d:b7):Bool:= !gO d.len 1 1000|| !NH d.lo d.hi 0 20000
def jN(l:List b7):Bool:=decide ((l.length:Int)<=8)&& !l.any pH
theorem IJ(d:cJ):nA d= !OB d:=by unfold nA OB;rw[Bool.not_and]
theorem MM(d:b7):pH d= !OM d:=by unfold pH OM;rw[Bool.not_and]
theorem eX{n lo hi:Int}(h:gO n lo hi=true):lo<=n∧n<=hi:=by
 unfold gO at h;simpa using h
theorem wS{a b lo hi:Int}(h:NH a b lo hi=true):lo<=a∧a<=b∧b<=hi:=by
 unfold NH at h;simp only[Zo,Zl] at h;exact⟨h.1.1,h.1.2,h.2⟩
theorem jh{d:cJ}(h:nA d=false):(1<=d.wide∧d.wide<=20000)∧0<=d.lo∧d.lo<=d.hi∧d.hi<=200:=by
 rw[IJ] at h
 have h:OB d=true:=by simpa using h
 unfold OB at h
 rw[Zo] at h
 exact⟨eX h.1,wS h.2⟩
theorem jU{d:b7}(h:pH d=false):(1<=d.len∧d.len<=1000)∧0<=d.lo∧d.lo<=d.hi∧d.hi<=20000:=by
 rw[MM] at h
 have h:OM d=true:=by simpa using h
 unfold OM at h
 rw[Zo] at h
 exact⟨eX h.1,wS h.2⟩
theorem fy{p:bX}(h:dY p=true):(1<=p.dies.length∧p.dies.length<=4)∧(0<=p.change∧p.change<=10000)∧(0<=p.uJ∧p.uJ<=p.uL∧p.uL<=300)∧∀ d∈p.dies,nA d=false:=by
 unfold dY at h
 simp only[Zo] at h
 obtain⟨⟨⟨h1,h2⟩,h3⟩,h4⟩:=h
 have h1:=eX h1
 refine⟨⟨by omega,by omega⟩,eX h2,wS h3,fun d hd=> ?_⟩
 have h4:p.dies.any nA=false:=by simpa using h4
 have:=NM.1 h4 d hd
 simpa using this
theorem iz{l:List b7}(h:jN l=true):l.length<=8∧∀ d∈l,pH d=false:=by
 unfold jN at h
 simp only[Zo,Zl] at h
 obtain⟨h1,h2⟩:=h
 refine⟨by omega,fun d hd=> ?_⟩
 have h4:l.any pH=false:=by simpa using h2
 have:=NM.1 h4 d hd
 simpa using this
def thin(p:bX)(d:cJ)(u:Int):Int:=(d.wide+d.lo*u)*(1000 - p.uL)
def iA(p:bX)(d:cJ)(u:Int):Int:=(d.wide+d.hi*u)*(1000 - p.uJ)
def tX(p:bX)(d:cJ)(u:Int)(w:b7):Bool:=decide (1000*w.lo<=thin p d u)&&decide (iA p d (u+w.len)<=1000*w.hi)
theorem lg{a b u s:Int}(ha:1<=a∧a<=20000)(hb:0<=b∧b<=200)(hu:0<=u∧u<=9000)(hs:0<=s∧s<=300):0<=b*u∧b*u<=1800000∧0<=(a+b*u)*(1000 - s)∧(a+b*u)*(1000 - s)<=1820000000:=by
 have h1:b*u<=200*9000:=Int.mul_le_mul hb.2 hu.2 hu.1 (by omega)
 have h2:0<=b*u:=Int.mul_nonneg hb.1 hu.1
 refine⟨h2,h1,Int.mul_nonneg (by omega) (by omega),?_⟩
 have:(a+b*u)*(1000 - s)<=(20000+200*9000)*1000:=Int.mul_le_mul (by omega) (by omega) (by omega) (by omega)
 omega
def dh(p:bX)(die used:Int):(Int×Int)×Int:=
 if dY p=false then((0,0),1) else if gO die 0 ((p.dies.length:Int) - 1)=false∨gO used 0 8000=false then((0,0),2) else
  ((thin p (gt cJ.d p.dies die.toNat) used / 1000,(iA p (gt cJ.d p.dies die.toNat) used+999) / 1000),0)
def gB(p:bX)(plan:List Int):Nat->List Int->List b7->Option (List Int)×Int×Int
 | i,u,[]=>if (i:Int)<(plan.length:Int) then(none,i,2) else(some u,i,0)
 | i,u,w::l=>if (plan.length:Int)<=(i:Int) then(none,i,4) else if gO (gt 0 plan i) 0 ((p.dies.length:Int) - 1)=false then(none,i,2) else
   if tX p (gt cJ.d p.dies (gt 0 plan i).toNat) (gt 0 u (gt 0 plan i).toNat) w=false then(none,i,11) else gB p plan (i+1) (u.set (gt 0 plan i).toNat (gt 0 u (gt 0 plan i).toNat+w.len)) l
def gf(p:bX)(l:List b7)(plan:List Int):Option (List Int)×Int×Int:=
 if dY p=false then(none,0,1) else if jN l=false then(none,0,2) else gB p plan 0 (List.replicate p.dies.length 0) l
def Q6:Option (List Int)->PV
 | none=> .nilSlice
 | some u=>aQ u
def OQ(p:bX)(d:cJ):List PV:=[.int .i64 d.wide,.int .i64 d.lo,.int .i64 d.hi,.int .i64 p.uJ,.int .i64 p.uL]
def xJ(p:bX)(u:List Int)(B:Int):Prop:=u.length=p.dies.length∧∀ k,k<u.length->0<=gt 0 u k∧gt 0 u k<=B
theorem Dv{u:List Int}{k j:Nat}{x:Int}(hk:k<u.length):gt 0 (u.set k x) j=if j=k then x else gt 0 u j:=by
 unfold gt
 rw[Zh,Zh,Zu]
 by_cases h:k=j
 ·subst h;simp[hk]
 ·rw[if_neg h,if_neg (fun e=>h e.symm)]
theorem JC(p:bX):xJ p (List.replicate p.dies.length 0) (1000*((0:Nat):Int)):=by
 refine⟨ZbL,fun k hk=> ?_⟩
 unfold gt
 rw[Zh,List.getElem?_replicate]
 split <;> simp
theorem Ae(n:Nat):(List.replicate n [PV.int .i64 0]).flatten=(List.replicate n (0:Int)).flatMap bG:=by
 induction n with
 | zero=>rfl
 | succ n ih=>rw[Xu,Xu,Q8,ZJ,ih];rfl
theorem BZ{p:bX}{u:List Int}{i q:Nat}{x:Int}(h:xJ p u (1000*(i:Int)))(hq:q<p.dies.length)(hx:1<=x∧x<=1000):xJ p (u.set q (gt 0 u q+x)) (1000*((i+1:Nat):Int)):=by
 obtain⟨h1,h2⟩:=h
 refine⟨by rw[yl];exact h1,fun k hk=> ?_⟩
 rw[yl] at hk
 rw[Dv (by omega)]
 have h3:=h2 q (by omega)
 have h4:=h2 k hk
 split
 ·omega
 ·omega
theorem oM(l:List b7)(i:Nat)(h:i<l.length):l.drop i=gt b7.d l i::l.drop (i+1):=by
 rw[VI h,av b7.d i h]
section
variable {p:bX} {l:List b7} {plan u:List Int} {i:Nat}
theorem TM(hk:i<l.length)(hpl:(plan.length:Int)<=(i:Int)):gB p plan i u (l.drop i)=(none,(i:Int),4):=by
 rw[oM l i hk,gB,if_pos hpl]
theorem TY(hk:i<l.length)(hpl:¬ (plan.length:Int)<=(i:Int))(hin:gO (gt 0 plan i) 0 ((p.dies.length:Int) - 1)=false):gB p plan i u (l.drop i)=(none,(i:Int),2):=by
 rw[oM l i hk,gB,if_neg hpl,if_pos hin]
theorem Mz(hk:i<l.length)(hpl:¬ (plan.length:Int)<=(i:Int))(hin:gO (gt 0 plan i) 0 ((p.dies.length:Int) - 1)=true)(Jb:tX p (gt cJ.d p.dies (gt 0 plan i).toNat) (gt 0 u (gt 0 plan i).toNat) (gt b7.d l i)=false):gB p plan i u (l.drop i)=(none,(i:Int),11):=by
 rw[oM l i hk,gB,if_neg hpl,if_neg (by rw[hin];decide),if_pos Jb]
theorem A5(hk:i<l.length)(hpl:¬ (plan.length:Int)<=(i:Int))(hin:gO (gt 0 plan i) 0 ((p.dies.length:Int) - 1)=true)(Jb:tX p (gt cJ.d p.dies (gt 0 plan i).toNat) (gt 0 u (gt 0 plan i).toNat) (gt b7.d l i)=true):gB p plan i u (l.drop i)=gB p plan (i+1) (u.set (gt 0 plan i).toNat (gt 0 u (gt 0 plan i).toNat+(gt b7.d l i).len)) (l.drop (i+1)):=by
 rw[oM l i hk,gB,if_neg hpl,if_neg (by rw[hin];decide),if_neg (by rw[Jb];decide)]
theorem AD(h:(l.length:Int)<(plan.length:Int)):gB p plan l.length u (l.drop l.length)=(none,(l.length:Int),2):=by
 rw[List.drop_length,gB,if_pos h]
theorem Jl(h:¬ (l.length:Int)<(plan.length:Int)):gB p plan l.length u (l.drop l.length)=(some u,(l.length:Int),0):=by
 rw[List.drop_length,gB,if_neg h]
theorem De(h:dY p=false):gf p l plan=(none,0,1):=by unfold gf;rw[if_pos h]
theorem Mi(h:dY p=true)(h2:jN l=false):gf p l plan=(none,0,2):=by unfold gf;rw[if_neg (by rw[h];decide),if_pos h2]
theorem iy(h:dY p=true)(h2:jN l=true):gf p l plan=gB p plan 0 (List.replicate p.dies.length 0) l:=by unfold gf;rw[if_neg (by rw[h];decide),if_neg (by rw[h2];decide)]
theorem Pt{a b:Int}(h:dY p=false):dh p a b=((0,0),1):=by unfold dh;rw[if_pos h]
theorem Oh{a b:Int}(h:dY p=true)(h2:(!gO a 0 ((p.dies.length:Int) - 1)|| !gO b 0 8000)=true):dh p a b=((0,0),2):=by
 unfold dh
 rw[if_neg (by rw[h];decide),if_pos (by simpa using h2)]
theorem uN{a b:Int}(h:dY p=true)(h2:(!gO a 0 ((p.dies.length:Int) - 1)|| !gO b 0 8000)=false):dh p a b=((thin p (gt cJ.d p.dies a.toNat) b / 1000,(iA p (gt cJ.d p.dies a.toNat) b+999) / 1000),0):=by
 unfold dh
 rw[if_neg (by rw[h];decide),if_neg (by simpa using h2)]
end
set_option maxRecDepth 100000
set_option maxHeartbeats 4000000
theorem cW(n lo hi:Int):Pure Tryz.prog 60 [.int .i64 n,.int .i64 lo,.int .i64 hi] (.bool (gO n lo hi)):=by
 refine Kf (N:=15) Tryz.func60 ?_
 exact Tr
theorem je(a b lo hi:Int):Pure Tryz.prog 132 [.agg [.int .i64 a,.int .i64 b],.int .i64 lo,.int .i64 hi] (.bool (NH a b lo hi)):=by
 refine Kf (N:=24) Tryz.func132 ?_
 exact WV
theorem qe(n lo hi:Int):Pure Tryz.prog 75 [.int .i64 n,.int .i64 lo,.int .i64 hi] (.bool (gO n lo hi)):=by
 refine Kf (N:=15) Tryz.func75 ?_
 exact Tr
theorem jn(a b lo hi:Int):Pure Tryz.prog 76 [.agg [.int .i64 a,.int .i64 b],.int .i64 lo,.int .i64 hi] (.bool (NH a b lo hi)):=by
 refine Kf (N:=24) Tryz.func76 ?_
 exact WV
theorem GK(d:cJ):Pure Tryz.prog 131 [.agg d.cells] (.bool (nA d)):=by
 refine Kf (N:=13) Tryz.func131 ?_
 exact SV
theorem G9(d:b7):Pure Tryz.prog 134 [.agg d.cells] (.bool (pH d)):=by
 refine Kf (N:=13) Tryz.func134 ?_
 exact SV
theorem uc(xs:List cJ)(f:PV)(p:cJ->Bool)(hx:xs.length<=bK)(hf:∀ x∈xs,kG Tryz.prog f [.agg x.cells] (.bool (p x))):Pure Tryz.prog 173 [.is (xs.flatMap cJ.cells) xs.length,f] (.int .i64 (Ck.jw p xs)):=by
 unfold bK at hx
 refine Kf (N:=19) Tryz.func173 ?_
 iterate 12 refine af ?_
 refine aC.pK [4,5,8,9,10,11,12,13,14,15,16,17,18] (fun g=>[(8,.p (.int .i64 ((g:Nat):Int)))]) (fun g=>g<=xs.length∧∀ j (hj:j<g) (h:g<=xs.length),p (xs[j]'(by omega))=false) (fun g=>xs.length - g) 0 ⟨Zn _,fun j hj=>absurd hj (by omega)⟩ (Sub.cons rfl (Sub.nil)) (fun i hg=> ?_)
 obtain⟨pQ,jM⟩:=hg
 iterate 5 refine af ?_
 refine Ki (fun hc0=> ?_) fun hc0=> ?_
 ·iterate 13 refine af ?_
  refine Kc (aa.eM rfl rfl rfl ai LV rfl (fun _=>rfl) (by decide) ?_) ?_
  ·exact oe
  exact TX
 ·exact R4
theorem tq(xs:List b7)(f:PV)(p:b7->Bool)(hx:xs.length<=bK)(hf:∀ x∈xs,kG Tryz.prog f [.agg x.cells] (.bool (p x))):Pure Tryz.prog 174 [.is (xs.flatMap b7.cells) xs.length,f] (.int .i64 (Ck.jw p xs)):=by
 unfold bK at hx
 refine Kf (N:=19) Tryz.func174 ?_
 iterate 12 refine af ?_
 refine aC.pK [4,5,8,9,10,11,12,13,14,15,16,17,18] (fun g=>[(8,.p (.int .i64 ((g:Nat):Int)))]) (fun g=>g<=xs.length∧∀ j (hj:j<g) (h:g<=xs.length),p (xs[j]'(by omega))=false) (fun g=>xs.length - g) 0 ⟨Zn _,fun j hj=>absurd hj (by omega)⟩ (Sub.cons rfl (Sub.nil)) (fun i hg=> ?_)
 obtain⟨pQ,jM⟩:=hg
 iterate 5 refine af ?_
 refine Ki (fun hc0=> ?_) fun hc0=> ?_
 ·iterate 13 refine af ?_
  refine Kc (aa.eM rfl rfl rfl ai xg rfl (fun _=>rfl) (by decide) ?_) ?_
  ·exact oe
  exact TX
 ·exact R4
theorem pY(xs:List cJ)(f:PV)(p:cJ->Bool)(hx:xs.length<=bK)(hf:∀ x∈xs,kG Tryz.prog f [.agg x.cells] (.bool (p x))):Pure Tryz.prog 133 [.is (xs.flatMap cJ.cells) xs.length,f] (.bool (xs.any p)):=by
 refine Kf (N:=9) Tryz.func133 ?_
 iterate 8 refine af ?_
 refine Kc (Kp (uc _ _ p ?_ ?_)) ?_
 ·exact hx
 ·exact hf
 iterate 4 refine af ?_
 refine Fin.cY rfl rfl ?_
 rw[Ck.lK]
theorem pz(xs:List b7)(f:PV)(p:b7->Bool)(hx:xs.length<=bK)(hf:∀ x∈xs,kG Tryz.prog f [.agg x.cells] (.bool (p x))):Pure Tryz.prog 135 [.is (xs.flatMap b7.cells) xs.length,f] (.bool (xs.any p)):=by
 refine Kf (N:=9) Tryz.func135 ?_
 iterate 8 refine af ?_
 refine Kc (Kp (tq _ _ p ?_ ?_)) ?_
 ·exact hx
 ·exact hf
 iterate 4 refine af ?_
 refine Fin.cY rfl rfl ?_
 rw[Ck.lK]
theorem pR(p:bX)(hx:p.dies.length<=bK):Pure Tryz.prog 58 [ew p] (.bool (dY p)):=by
 refine Kf (N:=27) Tryz.func58 ?_
 iterate 14 refine af ?_
 refine Kc (Kp (cW _ _ _)) ?_
 refine af ?_
 refine Kg 10 9 1 rfl (fun h=>(aa.fieldAddr rfl rfl ai rfl)) ?_
 refine Kh 11 9 10 rfl rfl rfl rfl (fun h=>(aa.load rfl rfl ai rfl)) ?_
 refine Kh 12 9 11 rfl rfl rfl rfl (fun h=>(Kp (cW _ _ _))) ?_
 refine Kc (aa.gy rfl rfl rfl ?_) ?_
 ·exact fO
 iterate 6 refine af ?_
 refine Kg 16 15 1 rfl (fun h=>(aa.fieldAddr rfl rfl ai rfl)) ?_
 refine Kh 17 15 16 rfl rfl rfl rfl (fun h=>(aa.load rfl rfl ai rfl)) ?_
 refine Kh 18 15 17 rfl rfl rfl rfl (fun h=>(Kp (je _ _ _ _))) ?_
 refine Kc (aa.gy rfl rfl rfl ?_) ?_
 ·exact fO
 refine af ?_
 refine Kg 21 20 1 rfl (fun h=>(aa.fieldAddr rfl rfl ai rfl)) ?_
 refine Kh 22 20 21 rfl rfl rfl rfl (fun h=>(aa.load rfl rfl ai rfl)) ?_
 refine Kg 23 20 3 rfl (fun h=>(aa.move rfl rfl)) ?_
 refine aq.g 24 20 rfl rfl rfl rfl rfl rfl rfl [(22,_),(23,_)] (fun h=>And.intro (.inr ⟨_,rfl,h⟩) (And.intro (.inr ⟨_,rfl,h⟩) (trivial))) (fun h=>(Kp (pY p.dies _ nA ?_ ?_))) ?_
 ·exact hx
 ·exact fun x _=>⟨131,[.agg x.cells],rfl,ai,GK x⟩
 refine Kh 25 20 24 rfl rfl rfl rfl (fun h=>(aa.fI rfl rfl)) ?_
 refine Kc (aa.gy rfl rfl rfl ?_) ?_
 ·exact fO
 exact Bg
theorem tL(l:List b7)(hx:l.length<=bK):Pure Tryz.prog 59 [dn l] (.bool (jN l)):=by
 refine Kf (N:=13) Tryz.func59 ?_
 iterate 14 refine af ?_
 refine Kg 8 7 0 rfl (fun h=>(aa.move rfl rfl)) ?_
 refine Kg 9 7 3 rfl (fun h=>(aa.move rfl rfl)) ?_
 refine aq.g 10 7 rfl rfl rfl rfl rfl rfl rfl [(8,_),(9,_)] (fun h=>And.intro (.inr ⟨_,rfl,h⟩) (And.intro (.inr ⟨_,rfl,h⟩) (trivial))) (fun h=>(Kp (pz l _ pH ?_ ?_))) ?_
 ·exact hx
 ·exact fun x _=>⟨134,[.agg x.cells],rfl,ai,G9 x⟩
 refine Kh 11 7 10 rfl rfl rfl rfl (fun h=>(aa.fI rfl rfl)) ?_
 refine Kc (aa.gy rfl rfl rfl ?_) ?_
 ·exact fO
 exact Bg
theorem tj(p:bX)(hx:p.dies.length<=bK):Pure Tryz.prog 32 [ew p] (.bool (dY p)):=by
 have hx2:=hx
 unfold bK at hx2
 refine Kf (N:=43) Tryz.func32 ?_
 iterate 11 refine af ?_
 refine aC.kZ [1,29,30,31,32,33,34,35,36,37,38,39,40,41,42] (fun g=>[(3,.p (.int .i64 ((g:Nat):Int)))]) (fun g=>g<=p.dies.length∧∀ j (hj:j<g) (h:g<=p.dies.length),nA (p.dies[j]'(by omega))=false) (fun g=>p.dies.length - g) 0 ⟨Zn _,fun j hj=>absurd hj (by omega)⟩ (Sub.cons rfl (Sub.nil)) (fun i hg=> ?_)
 obtain⟨pQ,jM⟩:=hg
 iterate 9 refine af ?_
 refine Ki (fun hc0=> ?_) fun hc0=> ?_
 ·have hk0:i<p.dies.length:=by have h:(i:Int)<(p.dies.length:Int):=Ze hc0;omega
  iterate 8 refine af ?_
  refine Kc (aa.aB (g:=gt cJ.d p.dies) (av _) rfl rfl rfl ai LV rfl (fun _=>rfl) (by decide) hk0) ?_
  refine af ?_
  refine Kc (Kl (.p (.int .i64 (gt cJ.d p.dies i).wide))) ?_
  refine Kc (Kp (qe _ _ _)) ?_
  iterate 2 refine af ?_
  refine Kg 20 19 1 rfl (fun h=>(aa.fieldAddr rfl rfl ai rfl)) ?_
  refine Kh 21 19 20 rfl rfl rfl rfl (fun h=>(aa.load rfl rfl ai rfl)) ?_
  refine Kg 22 19 3 rfl (fun h=>(aa.move rfl rfl)) ?_
  refine aq.g 23 19 rfl rfl rfl rfl rfl rfl rfl [(21,_),(22,_)] (fun h=>And.intro (.inr ⟨_,rfl,h⟩) (And.intro (.inr ⟨_,rfl,h⟩) (trivial))) (fun h=>(aa.aB (g:=gt cJ.d p.dies) (av _) rfl rfl rfl ai LV rfl (fun _=>rfl) (by decide) hk0)) ?_
  refine Kh 24 19 23 rfl rfl rfl rfl (fun h=>(aa.fieldAddr rfl rfl ai rfl)) ?_
  refine Kh 25 19 24 rfl rfl rfl rfl (fun h=>(Kl (.p (.agg [.int .i64 (gt cJ.d p.dies i).lo,.int .i64 (gt cJ.d p.dies i).hi])))) ?_
  refine Kh 26 19 25 rfl rfl rfl rfl (fun h=>(Kp (jn _ _ _ _))) ?_
  refine Kh 27 19 26 rfl rfl rfl rfl (fun h=>(aa.fI rfl rfl)) ?_
  refine Kc (aa.lE rfl rfl rfl ?_) ?_
  ·exact fO
  refine af ?_
  refine Ki (fun bw=> ?_) fun bw=> ?_
  ·have XL:p.dies.any nA=true:=Ck.vI hk0 (by rw[av cJ.d i hk0];exact bw)
   iterate 5 refine af ?_
   refine Fin.cY rfl rfl ?_
   unfold dY
   rw[XL]
   simp
  ·have XL:nA p.dies[i]=false:=by rw[av cJ.d i hk0];exact bw
   exact Yg
 ·have hi2:i=p.dies.length:=by have h:¬ ((i:Int)<(p.dies.length:Int)):=Zf hc0;omega
  have hno:p.dies.any nA=false:=Ck.any_none (fun j hj=>jM j (by omega) pQ)
  refine aC.exit ?_
  iterate 5 refine af ?_
  refine Kc (Kp (qe _ _ _)) ?_
  refine af ?_
  refine Kg 34 33 1 rfl (fun h=>(aa.fieldAddr rfl rfl ai rfl)) ?_
  refine Kh 35 33 34 rfl rfl rfl rfl (fun h=>(aa.load rfl rfl ai rfl)) ?_
  refine Kh 36 33 35 rfl rfl rfl rfl (fun h=>(Kp (jn _ _ _ _))) ?_
  refine Kc (aa.gy rfl rfl rfl ?_) ?_
  ·exact fO
  refine af ?_
  refine Kg 39 38 1 rfl (fun h=>(aa.fieldAddr rfl rfl ai rfl)) ?_
  refine Kh 40 38 39 rfl rfl rfl rfl (fun h=>(aa.load rfl rfl ai rfl)) ?_
  refine Kh 41 38 40 rfl rfl rfl rfl (fun h=>(Kp (qe _ _ _))) ?_
  refine Kc (aa.gy rfl rfl rfl ?_) ?_
  ·exact fO
  iterate 3 refine af ?_
  refine Fin.cY rfl rfl ?_
  unfold dY
  rw[hno]
  cases gO _ _ _ <;> cases gO _ _ _ <;> cases NH _ _ _ _ <;> rfl
theorem HN(l:List b7)(hx:l.length<=bK):Pure Tryz.prog 33 [dn l] (.bool (jN l)):=by
 have hx2:=hx
 unfold bK at hx2
 refine Kf (N:=29) Tryz.func33 ?_
 iterate 10 refine af ?_
 refine aC.kZ [0,26,27,28] (fun g=>[(3,.p (.int .i64 ((g:Nat):Int)))]) (fun g=>g<=l.length∧∀ j (hj:j<g) (h:g<=l.length),pH (l[j]'(by omega))=false) (fun g=>l.length - g) 0 ⟨Zn _,fun j hj=>absurd hj (by omega)⟩ (Sub.cons rfl (Sub.nil)) (fun i hg=> ?_)
 obtain⟨pQ,jM⟩:=hg
 iterate 8 refine af ?_
 refine Ki (fun hc0=> ?_) fun hc0=> ?_
 ·have hk0:i<l.length:=by have h:(i:Int)<(l.length:Int):=Ze hc0;omega
  iterate 7 refine af ?_
  refine Kc (aa.aB (g:=gt b7.d l) (av _) rfl rfl rfl ai xg rfl (fun _=>rfl) (by decide) hk0) ?_
  refine af ?_
  refine Kc (Kl (.p (.int .i64 (gt b7.d l i).len))) ?_
  refine Kc (Kp (qe _ _ _)) ?_
  iterate 2 refine af ?_
  refine Kg 18 17 0 rfl (fun h=>(aa.move rfl rfl)) ?_
  refine Kg 19 17 3 rfl (fun h=>(aa.move rfl rfl)) ?_
  refine aq.g 20 17 rfl rfl rfl rfl rfl rfl rfl [(18,_),(19,_)] (fun h=>And.intro (.inr ⟨_,rfl,h⟩) (And.intro (.inr ⟨_,rfl,h⟩) (trivial))) (fun h=>(aa.aB (g:=gt b7.d l) (av _) rfl rfl rfl ai xg rfl (fun _=>rfl) (by decide) hk0)) ?_
  refine Kh 21 17 20 rfl rfl rfl rfl (fun h=>(aa.fieldAddr rfl rfl ai rfl)) ?_
  refine Kh 22 17 21 rfl rfl rfl rfl (fun h=>(Kl (.p (.agg [.int .i64 (gt b7.d l i).lo,.int .i64 (gt b7.d l i).hi])))) ?_
  refine Kh 23 17 22 rfl rfl rfl rfl (fun h=>(Kp (jn _ _ _ _))) ?_
  refine Kh 24 17 23 rfl rfl rfl rfl (fun h=>(aa.fI rfl rfl)) ?_
  refine Kc (aa.lE rfl rfl rfl ?_) ?_
  ·exact fO
  refine af ?_
  refine Ki (fun bw=> ?_) fun bw=> ?_
  ·have XL:l.any pH=true:=Ck.vI hk0 (by rw[av b7.d i hk0];exact bw)
   iterate 5 refine af ?_
   refine Fin.cY rfl rfl ?_
   unfold jN
   rw[XL]
   simp
  ·have XL:pH l[i]=false:=by rw[av b7.d i hk0];exact bw
   exact Yg
 ·have hi2:i=l.length:=by have h:¬ ((i:Int)<(l.length:Int)):=Zf hc0;omega
  have hno:l.any pH=false:=Ck.any_none (fun j hj=>jM j (by omega) pQ)
  refine aC.exit ?_
  iterate 8 refine af ?_
  refine Fin.cY rfl rfl ?_
  unfold jN
  rw[hno]
  simp
theorem BT(p:bX)(d:cJ)(u:Int)(hs:0<=p.uJ∧p.uJ<=p.uL∧p.uL<=300)(hd:nA d=false)(hu:0<=u∧u<=9000):Pure Tryz.prog 142 [.int .i64 u,.ip (OQ p d) 0] (.int .i64 (thin p d u)):=by
 obtain⟨hw,h1,h2,h3⟩:=jh hd
 obtain⟨b1,b2,b3,b4⟩:=lg (a:=d.wide) (b:=d.lo) (u:=u) (s:=p.uL) hw (by omega) hu (by omega)
 refine Kf (N:=19) Tryz.func142 ?_
 iterate 14 refine af ?_
 exact Q7
theorem A9(p:bX)(d:cJ)(u:Int)(hs:0<=p.uJ∧p.uJ<=p.uL∧p.uL<=300)(hd:nA d=false)(hu:0<=u∧u<=9000):Pure Tryz.prog 143 [.int .i64 u,.ip (OQ p d) 0] (.int .i64 (iA p d u)):=by
 obtain⟨hw,h1,h2,h3⟩:=jh hd
 obtain⟨b1,b2,b3,b4⟩:=lg (a:=d.wide) (b:=d.hi) (u:=u) (s:=p.uJ) hw (by omega) hu (by omega)
 refine Kf (N:=19) Tryz.func143 ?_
 iterate 14 refine af ?_
 exact Q7
theorem EV(p:bX)(d:cJ):Pure Tryz.prog 68 [.agg (OQ p d)] (.agg [.func (.func 142) [] [.ip (OQ p d) 0],.func (.func 143) [] [.ip (OQ p d) 0]]):=by
 refine Kf (N:=6) Tryz.func68 ?_
 iterate 7 refine af ?_
 refine Kc (aa.makeFunc rfl rfl rfl) ?_
 refine Kc (aa.makeFunc rfl rfl rfl) ?_
 iterate 4 refine af ?_
 exact Rc
theorem Nz(p:bX)(j:Nat)(hj:j<p.dies.length):Pure Tryz.prog 61 [ew p,.int .i64 (j:Int)] (.agg (OQ p (gt cJ.d p.dies j))):=by
 refine Kf (N:=13) Tryz.func61 ?_
 iterate 6 refine af ?_
 refine aC.az 8 mixed (by kernel_rfl) (by decide) ?_
 iterate 3 refine af ?_
 refine Kq (aa.aB (g:=gt cJ.d p.dies) (av _) rfl rfl rfl ai LV rfl (fun _=>rfl) (by decide) hj) ?_
 refine Kq (Kl (.p (.agg (gt cJ.d p.dies j).cells))) ?_
 iterate 2 refine af ?_
 refine Kq (aa.build rfl ai rfl rfl) ?_
 refine ay.nil ?_
 refine Kz (aa.store (H':=[.cells ((OQ p (gt cJ.d p.dies j)).map .p) 132]) rfl rfl rfl rfl rfl ai rfl rfl) ?_
 iterate 2 refine af ?_
 exact Rc
theorem sZ(p:bX)(j:Int)(hj:j.toNat<p.dies.length)(h0:0<=j):Pure Tryz.prog 61 [ew p,.int .i64 j] (.agg (OQ p (gt cJ.d p.dies j.toNat))):=by
 have h:=Nz p j.toNat hj
 rwa [V0 h0] at h
theorem Eo(p:bX)(d:cJ)(a b:Int)(w:b7)(hs:0<=p.uJ∧p.uJ<=p.uL∧p.uL<=300)(hd:nA d=false)(ha:0<=a∧a<=9000)(hb:0<=b∧b<=9000)(hw:pH w=false):Pure Tryz.prog 62 [.agg (OQ p d),.int .i64 a,.int .i64 b,.agg [.int .i64 w.lo,.int .i64 w.hi]] (.bool (decide (1000*w.lo<=thin p d a)&&decide (iA p d b<=1000*w.hi))):=by
 obtain⟨_,k1,k2,k3⟩:=jU hw
 refine Kf (N:=30) Tryz.func62 ?_
 iterate 9 refine af ?_
 refine Kc (Kp (EV p d)) ?_
 iterate 4 refine af ?_
 refine aC.az 19 mixed (by kernel_rfl) (by decide) ?_
 refine Kq (aa.oy rfl rfl rfl Fw Ew (by omega) (by omega) rfl) ?_
 iterate 2 refine af ?_
 refine Kq (aa.fT (BT p d a hs hd ha) rfl rfl rfl rfl (ai)) ?_
 iterate 2 refine af ?_
 refine Kq (aa.mul rfl rfl rfl (aA ?_)) ?_
 ·omega
 refine Kq (aa.geq rfl rfl rfl) ?_
 refine af ?_
 refine ay.guard 21 20 rfl rfl rfl rfl rfl rfl rfl [(9,_)] (fun h=>And.intro (.inl rfl) (trivial)) (fun h=>(aa.oy rfl rfl rfl Fw Ew (by omega) (by omega) rfl)) ?_
 refine ay.guard 22 20 rfl rfl rfl rfl rfl rfl rfl [(21,_)] (fun h=>And.intro (.inr ⟨_,rfl,h⟩) (trivial)) (fun h=>(aa.load rfl rfl ai rfl)) ?_
 refine ay.guard 23 20 rfl rfl rfl rfl rfl rfl rfl [(2,_)] (fun h=>And.intro (.inl rfl) (trivial)) (fun h=>(aa.move rfl rfl)) ?_
 refine ay.guard 24 20 rfl rfl rfl rfl rfl rfl rfl [(22,_),(23,_)] (fun h=>And.intro (.inr ⟨_,rfl,h⟩) (And.intro (.inr ⟨_,rfl,h⟩) (trivial))) (fun h=>(aa.fT (A9 p d b hs hd hb) rfl rfl rfl rfl (ai))) ?_
 refine ay.guard 25 20 rfl rfl rfl rfl rfl rfl rfl [(7,_)] (fun h=>And.intro (.inl rfl) (trivial)) (fun h=>(aa.fieldAddr rfl rfl ai rfl)) ?_
 refine ay.guard 26 20 rfl rfl rfl rfl rfl rfl rfl [(25,_)] (fun h=>And.intro (.inr ⟨_,rfl,h⟩) (trivial)) (fun h=>(aa.load rfl rfl ai rfl)) ?_
 refine ay.guard 27 20 rfl rfl rfl rfl rfl rfl rfl [(26,_)] (fun h=>And.intro (.inr ⟨_,rfl,h⟩) (trivial)) (fun h=>(aa.mul rfl rfl rfl (aA ?_))) ?_
 ·omega
 refine ay.guard 28 20 rfl rfl rfl rfl rfl rfl rfl [(24,_),(27,_)] (fun h=>And.intro (.inr ⟨_,rfl,h⟩) (And.intro (.inr ⟨_,rfl,h⟩) (trivial))) (fun h=>(aa.leq rfl rfl rfl)) ?_
 exact Td
theorem Qj(p:bX)(j u:Int)(hp:p.dies.length<=bK):Pure Tryz.prog 28 [ew p,.int .i64 j,.int .i64 u] (.tuple [.agg [.int .i64 (dh p j u).1.1,.int .i64 (dh p j u).1.2],.int .i64 (dh p j u).2]):=by
 have D4:=hp
 unfold bK at D4
 refine Kf (N:=45) Tryz.func28 ?_
 iterate 11 refine af ?_
 refine Kc (Kp (pR p hp)) ?_
 iterate 3 refine af ?_
 refine Ki (fun hc0=> ?_) fun hc0=> ?_
 ·exact Tp
 ·have hv:dY p=true:=by simpa using hc0
  obtain⟨⟨n1,n4⟩,_,hsh,CO⟩:=fy hv
  iterate 6 refine af ?_
  refine Kc (aa.ec rfl rfl rfl (aA ?_)) ?_
  ·omega
  refine Kc (Kp (cW _ _ _)) ?_
  iterate 2 refine af ?_
  refine Kg 23 22 2 rfl (fun h=>(aa.move rfl rfl)) ?_
  refine Kh 24 22 23 rfl rfl rfl rfl (fun h=>(Kp (cW _ _ _))) ?_
  refine Kh 25 22 24 rfl rfl rfl rfl (fun h=>(aa.fI rfl rfl)) ?_
  refine Kc (aa.lE rfl rfl rfl ?_) ?_
  ·exact fO
  iterate 2 refine af ?_
  refine Ki (fun bw=> ?_) fun bw=> ?_
  ·exact SS
  ·have hj:gO j 0 ((p.dies.length:Int) - 1)=true∧gO u 0 8000=true:=by simpa using bw
   obtain⟨j0,j1⟩:=eX hj.1
   obtain⟨u0,u1⟩:=eX hj.2
   have hjl:j.toNat<p.dies.length:=by omega
   obtain⟨q,hq⟩:∃ q:Nat,j=(q:Int):=⟨_,(V0 j0).symm⟩
   have He:=CO _ (aV cJ.d hjl)
   obtain⟨w1,w2,w3,w4⟩:=jh He
   obtain⟨_,_,e1,e2⟩:=lg (a:=(gt cJ.d p.dies j.toNat).wide) (b:=(gt cJ.d p.dies j.toNat).lo) (u:=u) (s:=p.uL) w1 (by omega) (by omega) (by omega)
   obtain⟨_,_,e3,e4⟩:=lg (a:=(gt cJ.d p.dies j.toNat).wide) (b:=(gt cJ.d p.dies j.toNat).hi) (u:=u) (s:=p.uJ) w1 (by omega) (by omega) (by omega)
   have e1:0<=thin p (gt cJ.d p.dies j.toNat) u:=e1
   have e2:thin p (gt cJ.d p.dies j.toNat) u<=1820000000:=e2
   have e3:0<=iA p (gt cJ.d p.dies j.toNat) u:=e3
   have e4:iA p (gt cJ.d p.dies j.toNat) u<=1820000000:=e4
   skip
   iterate 5 refine af ?_
   refine Kc (Kp (sZ p j hjl j0)) ?_
   refine Kc (Kp (EV p (gt cJ.d p.dies j.toNat))) ?_
   iterate 4 refine af ?_
   refine aC.az 13 mixed (by kernel_rfl) (by decide) ?_
   refine Kq (aa.oy rfl rfl rfl Fw Ew (by omega) (by omega) rfl) ?_
   iterate 2 refine af ?_
   refine Kq (aa.fT (BT p (gt cJ.d p.dies j.toNat) u hsh He (by omega)) rfl rfl rfl rfl (ai)) ?_
   refine Kq (aa.quo (m:=(thin p (gt cJ.d p.dies j.toNat) u / 1000)) rfl rfl rfl (by decide) ((aA (by rw[SB (by omega)];omega)).trans (SB (by omega)))) ?_
   refine Kq (aa.oy rfl rfl rfl Fw Ew (by omega) (by omega) rfl) ?_
   iterate 2 refine af ?_
   refine Kq (aa.fT (A9 p (gt cJ.d p.dies j.toNat) u hsh He (by omega)) rfl rfl rfl rfl (ai)) ?_
   refine Kq (aa.add rfl rfl rfl (aA ?_)) ?_
   ·omega
   refine Kq (aa.ec (m:=(iA p (gt cJ.d p.dies j.toNat) u+999)) rfl rfl rfl ((aA ?_).trans ?_)) ?_
   ·omega
   ·omega
   refine Kq (aa.quo (m:=((iA p (gt cJ.d p.dies j.toNat) u+999) / 1000)) rfl rfl rfl (by decide) ((aA (by rw[SB (by omega)];omega)).trans (SB (by omega)))) ?_
   refine Kq (aa.build rfl ai rfl rfl) ?_
   refine ay.nil ?_
   iterate 4 refine af ?_
   refine Fin.bq (xs:=[.agg [.int .i64 (thin p (gt cJ.d p.dies j.toNat) u / 1000),.int .i64 ((iA p (gt cJ.d p.dies j.toNat) u+999) / 1000)],.int .i64 0]) rfl (⟨_,_,rfl,⟨_,_,_,rfl,ai,rfl⟩,⟨_,_,rfl,rfl,rfl⟩⟩) rfl ?_
   rw[uN hv (by assumption)]
theorem tv(p:bX)(l:List b7)(plan:List Int)(hp:p.dies.length<=bK)(hl:l.length<=bK)(hn:plan.length<=bK):Pure Tryz.prog 21 [ew p,dn l,aQ plan] (.tuple [Q6 (gf p l plan).1,.int .i64 (gf p l plan).2.1,.int .i64 (gf p l plan).2.2]):=by
 have D4:=hp
 have ug:=hl
 have hn2:=hn
 unfold bK at D4 ug hn2
 refine Kf (N:=93) Tryz.func21 ?_
 iterate 12 refine af ?_
 refine Kc (Kp (pR p hp)) ?_
 iterate 3 refine af ?_
 refine Ki (fun hc0=> ?_) fun hc0=> ?_
 ·exact SA
 ·have hv:dY p=true:=by simpa using hc0
  obtain⟨⟨n1,n4⟩,_,hsh,CO⟩:=fy hv
  iterate 3 refine af ?_
  refine Kc (Kp (tL l hl)) ?_
  iterate 3 refine af ?_
  refine Ki (fun bw=> ?_) fun bw=> ?_
  ·exact RC
  ·have hd:jN l=true:=by simpa using bw
   obtain⟨hl8,NU⟩:=iz hd
   iterate 6 refine af ?_
   refine Kc (aa.makeSlice (n:=p.dies.length) (c:=p.dies.length) rfl rfl rfl ai ai (by decide) (Zg _) (by show 8*p.dies.length<=281474976710656;omega)) ?_
   iterate 4 refine af ?_
   rw[Ae]
   refine aC.norm [0] [(1,_),(2,_),(3,_),(6,.row 0 p.dies.length)] [.row (((List.replicate p.dies.length 0).flatMap bG).map .p) 3] rfl KS (by show[ak.row (bE _ (List.map V.p _)) _]=_;rw[aP]) ?_
   iterate 6 refine af ?_
   refine aC.dw [1,2,3,24,25,83,84,85,86,87,88,89,90,91,92] (fun g=>[(26,.p (.int .i64 ((g.1:Nat):Int))),(6,.row 0 p.dies.length)]) (fun g=>[.row ((g.2.flatMap bG).map .p) 3]) (fun g=>g.1<=l.length∧xJ p g.2 (1000*(g.1:Int))∧gB p plan 0 (List.replicate p.dies.length 0) l=gB p plan g.1 g.2 (l.drop g.1)) (fun g=>l.length - g.1) (0,List.replicate p.dies.length 0) ⟨Zn _,JC p,rfl⟩ (To.sub (Sub.tO (Sub.cons rfl (Sub.cons rfl (Sub.nil))))) (fun g hg=> ?_)
   obtain⟨i,u⟩:=g
   obtain⟨pQ,jM,Ct⟩:=hg
   dsimp only at pQ jM Ct ⊢
   have hul:=jM.1
   iterate 5 refine af ?_
   refine Ki (fun eG=> ?_) fun eG=> ?_
   ·have hk0:i<l.length:=by have h:(i:Int)<(l.length:Int):=Ze eG;omega
    have hW:=jU (NU _ (aV b7.d hk0))
    iterate 6 refine af ?_
    refine Kc (aa.aB (g:=gt b7.d l) (av _) rfl rfl rfl ai xg rfl (fun _=>rfl) (by decide) hk0) ?_
    refine Kc (Kl (.p (.agg (gt b7.d l i).cells))) ?_
    iterate 2 refine af ?_
    refine Kz (aa.store (H':=[.row ((u.flatMap bG).map .p) 3,.cells ((gt b7.d l i).cells.map .p) 81]) rfl rfl rfl rfl rfl ai rfl rfl) ?_
    iterate 11 refine af ?_
    refine Ki (fun gQ=> ?_) fun gQ=> ?_
    ·exact RQ
    ·have hpl:¬ (plan.length:Int)<=(i:Int):=Zf gQ
     have Hv:i<plan.length:=by omega
     refine af ?_
     refine aC.az 11 mixed (by kernel_rfl) (by decide) ?_
     iterate 2 refine af ?_
     refine Kq (aa.aB (g:=gt 0 plan) (av _) rfl rfl rfl ai bB rfl (fun _=>rfl) (by decide) Hv) ?_
     refine Kq (Kl (.p (.int .i64 (gt 0 plan i)))) ?_
     iterate 2 refine af ?_
     refine Kq (aa.bJ rfl rfl ai rfl) ?_
     refine Kq (aa.ec rfl rfl rfl (aA ?_)) ?_
     ·omega
     refine Kq (Kp (cW _ _ _)) ?_
     refine Kq (aa.fI rfl rfl) ?_
     refine af ?_
     refine ay.nil ?_
     refine af ?_
     refine Ki (fun o3=> ?_) fun o3=> ?_
     ·exact Tn
     ·have hin:gO (gt 0 plan i) 0 ((p.dies.length:Int) - 1)=true:=by simpa using o3
      obtain⟨NR,hq1⟩:=eX hin
      have hq:(gt 0 plan i).toNat<p.dies.length:=by omega
      have xl:(gt 0 plan i).toNat<u.length:=by omega
      have hud:=jM.2 _ xl
      have He:=CO _ (aV cJ.d hq)
      iterate 6 refine af ?_
      refine Kc (aa.aB (g:=gt 0 plan) (av _) rfl rfl rfl ai bB rfl (fun _=>rfl) (by decide) Hv) ?_
      refine Kc (Kl (.p (.int .i64 (gt 0 plan i)))) ?_
      refine Kc (aa.iF rfl rfl rfl ai bB NR (by omega)) ?_
      iterate 4 refine af ?_
      refine aC.az 19 mixed (by kernel_rfl) (by decide) ?_
      iterate 3 refine af ?_
      refine Kq (aa.aB (g:=gt 0 plan) (av _) rfl rfl rfl ai bB rfl (fun _=>rfl) (by decide) Hv) ?_
      refine Kq (Kl (.p (.int .i64 (gt 0 plan i)))) ?_
      refine Kq (Kp (sZ p (gt 0 plan i) hq NR)) ?_
      refine af ?_
      refine Kq (aa.nilCheck rfl rfl) ?_
      refine Kq (aa.iN (f:=bG) (c:=1) (k:=(gt 0 plan i).toNat) (j:=0) (xs:=u) rfl rfl ai rfl rfl (by omega) (fun _=>rfl) xl (by decide) (show _=PV.int .i64 (gt 0 u (gt 0 plan i).toNat) from by rw[av 0 _ xl];rfl)) ?_
      refine af ?_
      refine Kq (aa.nilCheck rfl rfl) ?_
      refine Kq (aa.iN (f:=bG) (c:=1) (k:=(gt 0 plan i).toNat) (j:=0) (xs:=u) rfl rfl ai rfl rfl (by omega) (fun _=>rfl) xl (by decide) (show _=PV.int .i64 (gt 0 u (gt 0 plan i).toNat) from by rw[av 0 _ xl];rfl)) ?_
      iterate 2 refine af ?_
      refine Kq (aa.add (m:=(gt 0 u (gt 0 plan i).toNat+(gt b7.d l i).len)) rfl rfl rfl ((aA ?_).trans ?_)) ?_
      ·omega
      ·rfl
      iterate 2 refine af ?_
      refine Kq (Kp (Eo p (gt cJ.d p.dies (gt 0 plan i).toNat) (gt 0 u (gt 0 plan i).toNat) ((gt 0 u (gt 0 plan i).toNat)+(gt b7.d l i).len) (gt b7.d l i) hsh He (by omega) (by omega) (NU _ (aV b7.d hk0)))) ?_
      refine Kq (aa.fI rfl rfl) ?_
      refine ay.nil ?_
      refine af ?_
      refine Ki (fun tN=> ?_) fun tN=> ?_
      ·exact S9
      ·exact aaY
   ·exact TR
theorem AJ(p:bX)(j:Int)(u:Int)(hj:j.toNat<p.dies.length)(h0:0<=j)(hs:0<=p.uJ∧p.uJ<=p.uL∧p.uL<=300)(hd:nA (gt cJ.d p.dies j.toNat)=false)(hu:0<=u∧u<=9000):Pure Tryz.prog 171 [ew p,.int .i64 j,.int .i64 u] (.int .i64 (thin p (gt cJ.d p.dies j.toNat) u)):=by
 obtain⟨hw,h1,h2,h3⟩:=jh hd
 obtain⟨b1,b2,b3,b4⟩:=lg (a:=(gt cJ.d p.dies j.toNat).wide) (b:=(gt cJ.d p.dies j.toNat).lo) (u:=u) (s:=p.uL) hw (by omega) hu (by omega)
 refine Kf (N:=26) Tryz.func171 ?_
 exact WE
theorem yP(p:bX)(j:Int)(u:Int)(hj:j.toNat<p.dies.length)(h0:0<=j)(hs:0<=p.uJ∧p.uJ<=p.uL∧p.uL<=300)(hd:nA (gt cJ.d p.dies j.toNat)=false)(hu:0<=u∧u<=9000):Pure Tryz.prog 172 [ew p,.int .i64 j,.int .i64 u] (.int .i64 (iA p (gt cJ.d p.dies j.toNat) u)):=by
 obtain⟨hw,h1,h2,h3⟩:=jh hd
 obtain⟨b1,b2,b3,b4⟩:=lg (a:=(gt cJ.d p.dies j.toNat).wide) (b:=(gt cJ.d p.dies j.toNat).hi) (u:=u) (s:=p.uJ) hw (by omega) hu (by omega)
 refine Kf (N:=26) Tryz.func172 ?_
 exact WE
theorem IF(p:bX)(j:Int)(u:Int)(w:b7)(hj:j.toNat<p.dies.length)(h0:0<=j)(hs:0<=p.uJ∧p.uJ<=p.uL∧p.uL<=300)(hd:nA (gt cJ.d p.dies j.toNat)=false)(hu:0<=u∧u<=8000)(hw:pH w=false):Pure Tryz.prog 162 [ew p,.int .i64 j,.int .i64 u,.agg w.cells] (.bool (tX p (gt cJ.d p.dies j.toNat) u w)):=by
 obtain⟨k0,k1,k2,k3⟩:=jU hw
 refine Kf (N:=32) Tryz.func162 ?_
 iterate 7 refine af ?_
 refine aC.az 24 mixed (by kernel_rfl) (by decide) ?_
 iterate 3 refine af ?_
 refine Kq (Kp (AJ p j u hj h0 hs hd (by omega))) ?_
 iterate 3 refine af ?_
 refine Kq (aa.mul rfl rfl rfl (aA ?_)) ?_
 ·omega
 refine Kq (aa.geq rfl rfl rfl) ?_
 refine af ?_
 refine ay.guard 19 18 rfl rfl rfl rfl rfl rfl rfl [(4,_)] (fun h=>And.intro (.inl rfl) (trivial)) (fun h=>(aa.load rfl rfl ai rfl)) ?_
 refine ay.guard 20 18 rfl rfl rfl rfl rfl rfl rfl [(1,_)] (fun h=>And.intro (.inl rfl) (trivial)) (fun h=>(aa.move rfl rfl)) ?_
 refine ay.guard 21 18 rfl rfl rfl rfl rfl rfl rfl [(2,_)] (fun h=>And.intro (.inl rfl) (trivial)) (fun h=>(aa.move rfl rfl)) ?_
 refine ay.guard 22 18 rfl rfl rfl rfl rfl rfl rfl [(7,_)] (fun h=>And.intro (.inl rfl) (trivial)) (fun h=>(aa.fieldAddr rfl rfl ai rfl)) ?_
 refine ay.guard 23 18 rfl rfl rfl rfl rfl rfl rfl [(22,_)] (fun h=>And.intro (.inr ⟨_,rfl,h⟩) (trivial)) (fun h=>(aa.load rfl rfl ai rfl)) ?_
 refine ay.guard 24 18 rfl rfl rfl rfl rfl rfl rfl [(21,_),(23,_)] (fun h=>And.intro (.inr ⟨_,rfl,h⟩) (And.intro (.inr ⟨_,rfl,h⟩) (trivial))) (fun h=>(aa.add rfl rfl rfl (aA ?_))) ?_
 ·omega
 refine ay.guard 25 18 rfl rfl rfl rfl rfl rfl rfl [(19,_),(20,_),(24,_)] (fun h=>And.intro (.inr ⟨_,rfl,h⟩) (And.intro (.inr ⟨_,rfl,h⟩) (And.intro (.inr ⟨_,rfl,h⟩) (trivial)))) (fun h=>(Kp (yP p j (u+w.len) hj h0 hs hd (by omega)))) ?_
 refine ay.guard 26 18 rfl rfl rfl rfl rfl rfl rfl [(7,_)] (fun h=>And.intro (.inl rfl) (trivial)) (fun h=>(aa.fieldAddr rfl rfl ai rfl)) ?_
 refine ay.guard 27 18 rfl rfl rfl rfl rfl rfl rfl [(26,_)] (fun h=>And.intro (.inr ⟨_,rfl,h⟩) (trivial)) (fun h=>(aa.fieldAddr rfl rfl ai rfl)) ?_
 refine ay.guard 28 18 rfl rfl rfl rfl rfl rfl rfl [(27,_)] (fun h=>And.intro (.inr ⟨_,rfl,h⟩) (trivial)) (fun h=>(aa.load rfl rfl ai rfl)) ?_
 refine ay.guard 29 18 rfl rfl rfl rfl rfl rfl rfl [(28,_)] (fun h=>And.intro (.inr ⟨_,rfl,h⟩) (trivial)) (fun h=>(aa.mul rfl rfl rfl (aA ?_))) ?_
 ·omega
 refine ay.guard 30 18 rfl rfl rfl rfl rfl rfl rfl [(25,_),(29,_)] (fun h=>And.intro (.inr ⟨_,rfl,h⟩) (And.intro (.inr ⟨_,rfl,h⟩) (trivial))) (fun h=>(aa.leq rfl rfl rfl)) ?_
 exact Td
theorem A2(p:bX)(j u:Int)(hp:p.dies.length<=bK):Pure Tryz.prog 130 [ew p,.int .i64 j,.int .i64 u] (.tuple [.agg [.int .i64 (dh p j u).1.1,.int .i64 (dh p j u).1.2],.int .i64 (dh p j u).2]):=by
 have D4:=hp
 unfold bK at D4
 refine Kf (N:=37) Tryz.func130 ?_
 iterate 10 refine af ?_
 refine Kc (Kp (tj p hp)) ?_
 iterate 2 refine af ?_
 refine Ki (fun hc0=> ?_) fun hc0=> ?_
 ·exact Tp
 ·have hv:dY p=true:=by simpa using hc0
  obtain⟨⟨n1,n4⟩,_,hsh,CO⟩:=fy hv
  iterate 8 refine af ?_
  refine Kc (aa.ec rfl rfl rfl (aA ?_)) ?_
  ·omega
  refine Kc (Kp (qe _ _ _)) ?_
  iterate 2 refine af ?_
  refine Kg 20 19 2 rfl (fun h=>(aa.move rfl rfl)) ?_
  refine Kh 21 19 20 rfl rfl rfl rfl (fun h=>(Kp (qe _ _ _))) ?_
  refine Kh 22 19 21 rfl rfl rfl rfl (fun h=>(aa.fI rfl rfl)) ?_
  refine Kc (aa.lE rfl rfl rfl ?_) ?_
  ·exact fO
  refine af ?_
  refine Ki (fun bw=> ?_) fun bw=> ?_
  ·exact SS
  ·have hj:gO j 0 ((p.dies.length:Int) - 1)=true∧gO u 0 8000=true:=by simpa using bw
   obtain⟨j0,j1⟩:=eX hj.1
   obtain⟨u0,u1⟩:=eX hj.2
   have hjl:j.toNat<p.dies.length:=by omega
   obtain⟨q,hq⟩:∃ q:Nat,j=(q:Int):=⟨_,(V0 j0).symm⟩
   have He:=CO _ (aV cJ.d hjl)
   obtain⟨w1,w2,w3,w4⟩:=jh He
   obtain⟨_,_,e1,e2⟩:=lg (a:=(gt cJ.d p.dies j.toNat).wide) (b:=(gt cJ.d p.dies j.toNat).lo) (u:=u) (s:=p.uL) w1 (by omega) (by omega) (by omega)
   obtain⟨_,_,e3,e4⟩:=lg (a:=(gt cJ.d p.dies j.toNat).wide) (b:=(gt cJ.d p.dies j.toNat).hi) (u:=u) (s:=p.uJ) w1 (by omega) (by omega) (by omega)
   have e1:0<=thin p (gt cJ.d p.dies j.toNat) u:=e1
   have e2:thin p (gt cJ.d p.dies j.toNat) u<=1820000000:=e2
   have e3:0<=iA p (gt cJ.d p.dies j.toNat) u:=e3
   have e4:iA p (gt cJ.d p.dies j.toNat) u<=1820000000:=e4
   skip
   iterate 2 refine af ?_
   refine aC.az 12 mixed (by kernel_rfl) (by decide) ?_
   iterate 3 refine af ?_
   refine Kq (Kp (AJ p j u hjl j0 hsh He (by omega))) ?_
   refine Kq (aa.quo (m:=(thin p (gt cJ.d p.dies j.toNat) u / 1000)) rfl rfl rfl (by decide) ((aA (by rw[SB (by omega)];omega)).trans (SB (by omega)))) ?_
   iterate 3 refine af ?_
   refine Kq (Kp (yP p j u hjl j0 hsh He (by omega))) ?_
   refine Kq (aa.add (m:=(iA p (gt cJ.d p.dies j.toNat) u+999)) rfl rfl rfl ((aA ?_).trans ?_)) ?_
   ·omega
   ·rfl
   refine Kq (aa.quo (m:=((iA p (gt cJ.d p.dies j.toNat) u+999) / 1000)) rfl rfl rfl (by decide) ((aA (by rw[SB (by omega)];omega)).trans (SB (by omega)))) ?_
   refine Kq (aa.build rfl ai rfl rfl) ?_
   refine ay.nil ?_
   iterate 4 refine af ?_
   refine Fin.bq (xs:=[.agg [.int .i64 (thin p (gt cJ.d p.dies j.toNat) u / 1000),.int .i64 ((iA p (gt cJ.d p.dies j.toNat) u+999) / 1000)],.int .i64 0]) rfl (⟨_,_,rfl,⟨_,_,_,rfl,ai,rfl⟩,⟨_,_,rfl,rfl,rfl⟩⟩) rfl ?_
   rw[uN hv (by assumption)]
theorem DC(p:bX)(l:List b7)(plan:List Int)(hp:p.dies.length<=bK)(hl:l.length<=bK)(hn:plan.length<=bK):Pure Tryz.prog 120 [ew p,dn l,aQ plan] (.tuple [Q6 (gf p l plan).1,.int .i64 (gf p l plan).2.1,.int .i64 (gf p l plan).2.2]):=by
 have D4:=hp
 have ug:=hl
 have hn2:=hn
 unfold bK at D4 ug hn2
 refine Kf (N:=91) Tryz.func120 ?_
 iterate 11 refine af ?_
 refine Kc (Kp (tj p hp)) ?_
 iterate 2 refine af ?_
 refine Ki (fun hc0=> ?_) fun hc0=> ?_
 ·exact SA
 ·have hv:dY p=true:=by simpa using hc0
  obtain⟨⟨n1,n4⟩,_,hsh,CO⟩:=fy hv
  iterate 5 refine af ?_
  refine Kc (Kp (HN l hl)) ?_
  iterate 2 refine af ?_
  refine Ki (fun bw=> ?_) fun bw=> ?_
  ·exact RC
  ·have hd:jN l=true:=by simpa using bw
   obtain⟨hl8,NU⟩:=iz hd
   iterate 6 refine af ?_
   refine Kc (aa.makeSlice (n:=p.dies.length) (c:=p.dies.length) rfl rfl rfl ai ai (by decide) (Zg _) (by show 8*p.dies.length<=281474976710656;omega)) ?_
   iterate 4 refine af ?_
   rw[Ae]
   refine aC.norm [0] [(1,_),(2,_),(3,_),(9,.row 0 p.dies.length)] [.row (((List.replicate p.dies.length 0).flatMap bG).map .p) 3] rfl KS (by show[ak.row (bE _ (List.map V.p _)) _]=_;rw[aP]) ?_
   iterate 4 refine af ?_
   refine aC.dw [1,2,3,9,81,82,83,84,85,86,87,88,89,90] (fun g=>[(10,.p (.int .i64 ((g.1:Nat):Int)))]) (fun g=>[.row ((g.2.flatMap bG).map .p) 3]) (fun g=>g.1<=l.length∧xJ p g.2 (1000*(g.1:Int))∧gB p plan 0 (List.replicate p.dies.length 0) l=gB p plan g.1 g.2 (l.drop g.1)) (fun g=>l.length - g.1) (0,List.replicate p.dies.length 0) ⟨Zn _,JC p,rfl⟩ (To.sub (Sub.tO (Sub.cons rfl (Sub.nil)))) (fun g hg=> ?_)
   obtain⟨i,u⟩:=g
   obtain⟨pQ,jM,Ct⟩:=hg
   dsimp only at pQ jM Ct ⊢
   have hul:=jM.1
   iterate 8 refine af ?_
   refine Ki (fun eG=> ?_) fun eG=> ?_
   ·have hk0:i<l.length:=by have h:(i:Int)<(l.length:Int):=Ze eG;omega
    have hW:=jU (NU _ (aV b7.d hk0))
    iterate 11 refine af ?_
    refine Ki (fun gQ=> ?_) fun gQ=> ?_
    ·exact RQ
    ·have hpl:¬ (plan.length:Int)<=(i:Int):=Zf gQ
     have Hv:i<plan.length:=by omega
     iterate 3 refine af ?_
     refine aC.az 10 mixed (by kernel_rfl) (by decide) ?_
     iterate 2 refine af ?_
     refine Kq (aa.aB (g:=gt 0 plan) (av _) rfl rfl rfl ai bB rfl (fun _=>rfl) (by decide) Hv) ?_
     refine Kq (Kl (.p (.int .i64 (gt 0 plan i)))) ?_
     iterate 2 refine af ?_
     refine Kq (aa.bJ rfl rfl ai rfl) ?_
     refine Kq (aa.ec rfl rfl rfl (aA ?_)) ?_
     ·omega
     refine Kq (Kp (qe _ _ _)) ?_
     refine Kq (aa.fI rfl rfl) ?_
     refine ay.nil ?_
     refine af ?_
     refine Ki (fun o3=> ?_) fun o3=> ?_
     ·exact Tn
     ·have hin:gO (gt 0 plan i) 0 ((p.dies.length:Int) - 1)=true:=by simpa using o3
      obtain⟨NR,hq1⟩:=eX hin
      have hq:(gt 0 plan i).toNat<p.dies.length:=by omega
      have xl:(gt 0 plan i).toNat<u.length:=by omega
      have hud:=jM.2 _ xl
      have He:=CO _ (aV cJ.d hq)
      iterate 3 refine af ?_
      refine aC.az 18 mixed (by kernel_rfl) (by decide) ?_
      iterate 3 refine af ?_
      refine Kq (aa.aB (g:=gt 0 plan) (av _) rfl rfl rfl ai bB rfl (fun _=>rfl) (by decide) Hv) ?_
      refine Kq (Kl (.p (.int .i64 (gt 0 plan i)))) ?_
      iterate 3 refine af ?_
      refine Kq (aa.aB (g:=gt 0 plan) (av _) rfl rfl rfl ai bB rfl (fun _=>rfl) (by decide) Hv) ?_
      refine Kq (Kl (.p (.int .i64 (gt 0 plan i)))) ?_
      refine Kq (aa.iF rfl rfl rfl ai bB NR (by omega)) ?_
      refine Kq (aa.iN (f:=bG) (c:=1) (k:=(gt 0 plan i).toNat) (j:=0) (xs:=u) rfl rfl ai rfl rfl (by omega) (fun _=>rfl) xl (by decide) (show _=PV.int .i64 (gt 0 u (gt 0 plan i).toNat) from by rw[av 0 _ xl];rfl)) ?_
      iterate 2 refine af ?_
      refine Kq (aa.aB (g:=gt b7.d l) (av _) rfl rfl rfl ai xg rfl (fun _=>rfl) (by decide) hk0) ?_
      refine Kq (Kl (.p (.agg (gt b7.d l i).cells))) ?_
      refine Kq (Kp (IF p (gt 0 plan i) (gt 0 u (gt 0 plan i).toNat) (gt b7.d l i) hq NR hsh He (by omega) (NU _ (aV b7.d hk0)))) ?_
      refine Kq (aa.fI rfl rfl) ?_
      refine ay.nil ?_
      refine af ?_
      refine Ki (fun tN=> ?_) fun tN=> ?_
      ·exact S9
      ·have Jb:tX p (gt cJ.d p.dies (gt 0 plan i).toNat) (gt 0 u (gt 0 plan i).toNat) (gt b7.d l i)=true:=by first | simpa only[Vn] using tN | (unfold tX;simpa only[Vn] using tN)
       refine af ?_
       refine aC.az 19 mixed (by kernel_rfl) (by decide) ?_
       iterate 3 refine af ?_
       refine Kq (aa.aB (g:=gt 0 plan) (av _) rfl rfl rfl ai bB rfl (fun _=>rfl) (by decide) Hv) ?_
       refine Kq (Kl (.p (.int .i64 (gt 0 plan i)))) ?_
       iterate 3 refine af ?_
       refine Kq (aa.aB (g:=gt 0 plan) (av _) rfl rfl rfl ai bB rfl (fun _=>rfl) (by decide) Hv) ?_
       refine Kq (Kl (.p (.int .i64 (gt 0 plan i)))) ?_
       refine Kq (aa.iF rfl rfl rfl ai bB NR (by omega)) ?_
       refine Kq (aa.iN (f:=bG) (c:=1) (k:=(gt 0 plan i).toNat) (j:=0) (xs:=u) rfl rfl ai rfl rfl (by omega) (fun _=>rfl) xl (by decide) (show _=PV.int .i64 (gt 0 u (gt 0 plan i).toNat) from by rw[av 0 _ xl];rfl)) ?_
       iterate 2 refine af ?_
       refine Kq (aa.aB (g:=gt b7.d l) (av _) rfl rfl rfl ai xg rfl (fun _=>rfl) (by decide) hk0) ?_
       refine af ?_
       refine Kq (Kl (.p (.int .i64 (gt b7.d l i).len))) ?_
       refine Kq (aa.add (m:=((gt 0 u (gt 0 plan i).toNat)+(gt b7.d l i).len)) rfl rfl rfl ((aA ?_).trans ?_)) ?_
       ·omega
       ·rfl
       refine Kq (aa.iF rfl rfl rfl ai bB NR (by omega)) ?_
       refine ay.nil ?_
       refine Kz (aa.BX (f:=bG) (c:=1) (k:=(gt 0 plan i).toNat) (j:=0) (xs:=u) (z:=((gt 0 u (gt 0 plan i).toNat)+(gt b7.d l i).len)) (ws:=[.int .i64 ((gt 0 u (gt 0 plan i).toNat)+(gt b7.d l i).len)]) rfl rfl rfl rfl rfl ai rfl rfl rfl (by omega) (fun _=>rfl) xl (by show 0+1<=1;decide) rfl) ?_
       iterate 3 refine af ?_
       refine Kc (aa.add rfl rfl rfl (aA ?_)) ?_
       ·omega
       iterate 2 refine af ?_
       refine⟨(i+1,u.set (gt 0 plan i).toNat (gt 0 u (gt 0 plan i).toNat+(gt b7.d l i).len)),?_,?_,?_⟩
       ·exact⟨hk0,BZ jM hq hW.1,by rw[Ct,A5 hk0 hpl hin Jb]⟩
       ·dsimp only;omega
       refine To.done [0] rfl KS ?_
       show[ak.row (bE _ (List.map V.p _)) _]=[ak.row _ _]
       rw[aP]
   ·exact TR
end Go.Proofs.YtchiinjiflgepaaGreatDoor.Di
end
