/-
 Chapter 4: dies, draws and plans as plain data; what is valid; how wide leads are; how a plan is followed.
 Chapter 4: the steps by which a plan is followed.
 Chapter 4: what is valid.
 Chapter 4: how wide leads are; how a plan is followed.
 The reference of chapter 4.
-/
import Derived.Test.YtibffijhebobmaaGreatDoorFaSE
import Derived.Test.YtibffijhebobmaaGreatDoorPmS
import Derived.Test.YtibffijhebobmaaGreatDoorMzSF
import Derived.Test.YtibffijhebobmaaGreatDoorMzSC
import Derived.Test.YtibffijhebobmaaGreatDoorMzSZ
theorem De{A:Prop}(h:A:=by
 iterate 9 refine af ?_
 refine Kc (Kp (cP _ _ _)) ?_
 iterate 2 refine af ?_
 refine Kg 8 7 1 rfl (fun h=>(aa.fieldAddr rfl rfl an rfl)) ?_
 refine Kh 9 7 8 rfl rfl rfl rfl (fun h=>(aa.load rfl rfl an rfl)) ?_
 refine Kh 10 7 9 rfl rfl rfl rfl (fun h=>(Kp (iE _ _ _ _))) ?_
 refine Kh 11 7 10 rfl rfl rfl rfl (fun h=>(aa.gW rfl rfl)) ?_
 refine Kc (aa.kA rfl rfl rfl ?_) ?_
 ·exact ax
 exact lp):A:=h
theorem Ep{A:Prop}(h:A:=by
 iterate 14 refine af ?_
 refine Kc (aa.mul rfl rfl rfl (aI ?_)) ?_
 ·omega
 refine Kc (aa.add rfl rfl rfl (aI ?_)) ?_
 ·omega
 iterate 3 refine af ?_
 refine Kc (aa.fN rfl rfl rfl (aI ?_)) ?_
 ·omega
 refine Kc (aa.mul rfl rfl rfl (aI ?_)) ?_
 ·omega
 exact lp):A:=h
theorem qZ{A:Prop}(h:A:=by
 refine Kc (aa.ec rfl rfl rfl ?_) ?_
 ·exact ax
 exact lp):A:=h
theorem DT{A:Prop}(h:A:=by
 refine af ?_
 refine Kc (aa.DC (hf _ (Cg _)) rfl rfl rfl) ?_
 refine af ?_
 refine Ki (fun cK=> ?_) fun cK=> ?_
 ·exact OS
 ·exact Bk):A:=h
theorem Cu{A:Prop}(h:A:=by
 refine aF.exit ?_
 iterate 5 refine af ?_
 refine Fin.gL rfl rfl ?_
 rw[Ck.kN p xs (fun j hj=>nk j (by simp at hc0;omega) zE)]):A:=h
theorem OS{A:Prop}(h:A:=by
 iterate 6 refine af ?_
 refine Fin.gL rfl rfl ?_
 rw[Ck.qT p xs i (by simp at hc0;omega) (fun j hj=>nk j hj zE) cK]):A:=h
set_option linter.unusedSimpArgs false
set_option linter.unusedVariables false
section
namespace Go.Proofs.YtibffijhebobmaaGreatDoor.Di
open Go.AF
def cN:Nat:=9223372036854775807
def gt{α:Type}(d:α)(l:List α)(k:Nat):α:=l.getD k d
theorem aE{α:Type}(d:α){l:List α}:∀ k (h:k<l.length),l[k]=gt d l k:=fun k h=>by
 unfold gt
 exact wW
theorem bN{α:Type}(d:α){l:List α}{k:Nat}(h:k<l.length):gt d l k∈l:=by rw[<- aE d k h];exact Cg _
structure eg where
 wide:Int
 lo:Int
 hi:Int
 deriving DecidableEq
def eg.cells(d:eg):List PV:=[.int .i64 d.wide,.int .i64 d.lo,.int .i64 d.hi]
def eg.d:eg:=⟨0,0,0⟩
def C8(l:List eg):PV:= .is (l.flatMap eg.cells) l.length
structure bJ where
 dies:List eg
 Fa:Int
 F3:Int
 change:Int
 deriving DecidableEq
def bJ.cells(p:bJ):List PV:=[C8 p.dies,.int .i64 p.Fa,.int .i64 p.F3,.int .i64 p.change]
def cI(p:bJ):PV:= .agg p.cells
structure cO where
 len:Int
 lo:Int
 hi:Int
 deriving DecidableEq
def cO.cells(d:cO):List PV:=[.int .i64 d.len,.int .i64 d.lo,.int .i64 d.hi]
def cO.d:cO:=⟨0,0,0⟩
def eY(l:List cO):PV:= .is (l.flatMap cO.cells) l.length
def bZ(n:Int):List PV:=[.int .i64 n]
def bh(l:List Int):PV:= .is (l.flatMap bZ) l.length
def jg(n lo hi:Int):Bool:=decide (lo<=n)&&decide (n<=hi)
def Sy(a b lo hi:Int):Bool:=decide (lo<=a)&&decide (a<=b)&&decide (b<=hi)
def PU(d:eg):Bool:=jg d.wide 1 20000&&Sy d.lo d.hi 0 200
def xg(d:eg):Bool:= !jg d.wide 1 20000|| !Sy d.lo d.hi 0 200
def eF(p:bJ):Bool:=jg p.dies.length 1 4&&jg p.change 0 10000&&Sy p.Fa p.F3 0 300&& !p.dies.any xg
def Qd(d:cO):Bool:=jg d.len 1 1000&&Sy d.lo d.hi 0 20000
def xX(d:cO):Bool:= !jg d.len 1 1000|| !Sy d.lo d.hi 0 20000
def mD(l:List cO):Bool:=decide ((l.length:Int)<=8)&& !l.any xX
theorem LY(d:eg):xg d= !PU d:=by unfold xg PU;rw[Bool.not_and]
theorem NB(d:cO):xX d= !Qd d:=by unfold xX Qd;rw[Bool.not_and]
theorem fP{n lo hi:Int}(h:jg n lo hi=true):lo<=n∧n<=hi:=by
 unfold jg at h;simpa using h
theorem wo{a b lo hi:Int}(h:Sy a b lo hi=true):lo<=a∧a<=b∧b<=hi:=by
 unfold Sy at h;simp only[Zm,Zn] at h;exact⟨h.1.1,h.1.2,h.2⟩
theorem oe{d:eg}(h:xg d=false):(1<=d.wide∧d.wide<=20000)∧0<=d.lo∧d.lo<=d.hi∧d.hi<=200:=by
 rw[LY] at h
 have h:PU d=true:=by simpa using h
 unfold PU at h
 rw[Zm] at h
 exact⟨fP h.1,wo h.2⟩
theorem ov{d:cO}(h:xX d=false):(1<=d.len∧d.len<=1000)∧0<=d.lo∧d.lo<=d.hi∧d.hi<=20000:=by
 rw[NB] at h
 have h:Qd d=true:=by simpa using h
 unfold Qd at h
 rw[Zm] at h
 exact⟨fP h.1,wo h.2⟩
theorem iD{p:bJ}(h:eF p=true):(1<=p.dies.length∧p.dies.length<=4)∧(0<=p.change∧p.change<=10000)∧(0<=p.Fa∧p.Fa<=p.F3∧p.F3<=300)∧∀ d∈p.dies,xg d=false:=by
 unfold eF at h
 simp only[Zm] at h
 obtain⟨⟨⟨h1,h2⟩,h3⟩,h4⟩:=h
 have h1:=fP h1
 refine⟨⟨by omega,by omega⟩,fP h2,wo h3,fun d hd=> ?_⟩
 have h4:p.dies.any xg=false:=by simpa using h4
 have:=Ru.1 h4 d hd
 simpa using this
theorem jE{l:List cO}(h:mD l=true):l.length<=8∧∀ d∈l,xX d=false:=by
 unfold mD at h
 simp only[Zm,Zn] at h
 obtain⟨h1,h2⟩:=h
 refine⟨by omega,fun d hd=> ?_⟩
 have h4:l.any xX=false:=by simpa using h2
 have:=Ru.1 h4 d hd
 simpa using this
def thin(p:bJ)(d:eg)(u:Int):Int:=(d.wide+d.lo*u)*(1000 - p.F3)
def jX(p:bJ)(d:eg)(u:Int):Int:=(d.wide+d.hi*u)*(1000 - p.Fa)
def Av(p:bJ)(d:eg)(u:Int)(w:cO):Bool:=decide (1000*w.lo<=thin p d u)&&decide (jX p d (u+w.len)<=1000*w.hi)
theorem tn{a b u s:Int}(ha:1<=a∧a<=20000)(hb:0<=b∧b<=200)(hu:0<=u∧u<=9000)(hs:0<=s∧s<=300):0<=b*u∧b*u<=1800000∧0<=(a+b*u)*(1000 - s)∧(a+b*u)*(1000 - s)<=1820000000:=by
 have h1:b*u<=200*9000:=Int.mul_le_mul hb.2 hu.2 hu.1 (by omega)
 have h2:0<=b*u:=Int.mul_nonneg hb.1 hu.1
 refine⟨h2,h1,Int.mul_nonneg (by omega) (by omega),?_⟩
 have:(a+b*u)*(1000 - s)<=(20000+200*9000)*1000:=Int.mul_le_mul (by omega) (by omega) (by omega) (by omega)
 omega
def dY(p:bJ)(die used:Int):(Int×Int)×Int:=
 if eF p=false then((0,0),1) else if jg die 0 ((p.dies.length:Int) - 1)=false∨jg used 0 8000=false then((0,0),2) else
  ((thin p (gt eg.d p.dies die.toNat) used / 1000,(jX p (gt eg.d p.dies die.toNat) used+999) / 1000),0)
def fW(p:bJ)(plan:List Int):Nat->List Int->List cO->Option (List Int)×Int×Int
 | i,u,[]=>if (i:Int)<(plan.length:Int) then(none,i,2) else(some u,i,0)
 | i,u,w::l=>if (plan.length:Int)<=(i:Int) then(none,i,4) else if jg (gt 0 plan i) 0 ((p.dies.length:Int) - 1)=false then(none,i,2) else
   if Av p (gt eg.d p.dies (gt 0 plan i).toNat) (gt 0 u (gt 0 plan i).toNat) w=false then(none,i,11) else fW p plan (i+1) (u.set (gt 0 plan i).toNat (gt 0 u (gt 0 plan i).toNat+w.len)) l
def gN(p:bJ)(l:List cO)(plan:List Int):Option (List Int)×Int×Int:=
 if eF p=false then(none,0,1) else if mD l=false then(none,0,2) else fW p plan 0 (List.replicate p.dies.length 0) l
def Yg:Option (List Int)->PV
 | none=> .nilSlice
 | some u=>bh u
def Pc(p:bJ)(d:eg):List PV:=[.int .i64 d.wide,.int .i64 d.lo,.int .i64 d.hi,.int .i64 p.Fa,.int .i64 p.F3]
def Bx(p:bJ)(u:List Int)(B:Int):Prop:=u.length=p.dies.length∧∀ k,k<u.length->0<=gt 0 u k∧gt 0 u k<=B
theorem Fe{u:List Int}{k j:Nat}{x:Int}(hk:k<u.length):gt 0 (u.set k x) j=if j=k then x else gt 0 u j:=by
 unfold gt
 rw[Ze,Ze,Zt]
 by_cases h:k=j
 ·subst h;simp[hk]
 ·rw[if_neg h,if_neg (fun e=>h e.symm)]
theorem S6(p:bJ):Bx p (List.replicate p.dies.length 0) (1000*((0:Nat):Int)):=by
 refine⟨ZbH,fun k hk=> ?_⟩
 unfold gt
 rw[Ze,List.getElem?_replicate]
 split <;> simp
theorem HT(n:Nat):(List.replicate n [PV.int .i64 0]).flatten=(List.replicate n (0:Int)).flatMap bZ:=by
 induction n with
 | zero=>rfl
 | succ n ih=>rw[Wj,Wj,SQ,ZI,ih];rfl
theorem M9{p:bJ}{u:List Int}{i q:Nat}{x:Int}(h:Bx p u (1000*(i:Int)))(hq:q<p.dies.length)(hx:1<=x∧x<=1000):Bx p (u.set q (gt 0 u q+x)) (1000*((i+1:Nat):Int)):=by
 obtain⟨h1,h2⟩:=h
 refine⟨by rw[yX];exact h1,fun k hk=> ?_⟩
 rw[yX] at hk
 rw[Fe (by omega)]
 have h3:=h2 q (by omega)
 have h4:=h2 k hk
 split
 ·omega
 ·omega
theorem oC(l:List cO)(i:Nat)(h:i<l.length):l.drop i=gt cO.d l i::l.drop (i+1):=by
 rw[U3 h,aE cO.d i h]
section
variable {p:bJ} {l:List cO} {plan u:List Int} {i:Nat}
theorem SM(hk:i<l.length)(hpl:(plan.length:Int)<=(i:Int)):fW p plan i u (l.drop i)=(none,(i:Int),4):=by
 rw[oC l i hk,fW,if_pos hpl]
theorem Sg(hk:i<l.length)(hpl:¬ (plan.length:Int)<=(i:Int))(hin:jg (gt 0 plan i) 0 ((p.dies.length:Int) - 1)=false):fW p plan i u (l.drop i)=(none,(i:Int),2):=by
 rw[oC l i hk,fW,if_neg hpl,if_pos hin]
theorem MA(hk:i<l.length)(hpl:¬ (plan.length:Int)<=(i:Int))(hin:jg (gt 0 plan i) 0 ((p.dies.length:Int) - 1)=true)(QG:Av p (gt eg.d p.dies (gt 0 plan i).toNat) (gt 0 u (gt 0 plan i).toNat) (gt cO.d l i)=false):fW p plan i u (l.drop i)=(none,(i:Int),11):=by
 rw[oC l i hk,fW,if_neg hpl,if_neg (by rw[hin];decide),if_pos QG]
theorem Nz(hk:i<l.length)(hpl:¬ (plan.length:Int)<=(i:Int))(hin:jg (gt 0 plan i) 0 ((p.dies.length:Int) - 1)=true)(QG:Av p (gt eg.d p.dies (gt 0 plan i).toNat) (gt 0 u (gt 0 plan i).toNat) (gt cO.d l i)=true):fW p plan i u (l.drop i)=fW p plan (i+1) (u.set (gt 0 plan i).toNat (gt 0 u (gt 0 plan i).toNat+(gt cO.d l i).len)) (l.drop (i+1)):=by
 rw[oC l i hk,fW,if_neg hpl,if_neg (by rw[hin];decide),if_neg (by rw[QG];decide)]
theorem Ex(h:(l.length:Int)<(plan.length:Int)):fW p plan l.length u (l.drop l.length)=(none,(l.length:Int),2):=by
 rw[List.drop_length,fW,if_pos h]
theorem LK(h:¬ (l.length:Int)<(plan.length:Int)):fW p plan l.length u (l.drop l.length)=(some u,(l.length:Int),0):=by
 rw[List.drop_length,fW,if_neg h]
theorem FY(h:eF p=false):gN p l plan=(none,0,1):=by unfold gN;rw[if_pos h]
theorem ON(h:eF p=true)(h2:mD l=false):gN p l plan=(none,0,2):=by unfold gN;rw[if_neg (by rw[h];decide),if_pos h2]
theorem gM(h:eF p=true)(h2:mD l=true):gN p l plan=fW p plan 0 (List.replicate p.dies.length 0) l:=by unfold gN;rw[if_neg (by rw[h];decide),if_neg (by rw[h2];decide)]
theorem Pq{a b:Int}(h:eF p=false):dY p a b=((0,0),1):=by unfold dY;rw[if_pos h]
theorem Qf{a b:Int}(h:eF p=true)(h2:(!jg a 0 ((p.dies.length:Int) - 1)|| !jg b 0 8000)=true):dY p a b=((0,0),2):=by
 unfold dY
 rw[if_neg (by rw[h];decide),if_pos (by simpa using h2)]
theorem D8{a b:Int}(h:eF p=true)(h2:(!jg a 0 ((p.dies.length:Int) - 1)|| !jg b 0 8000)=false):dY p a b=((thin p (gt eg.d p.dies a.toNat) b / 1000,(jX p (gt eg.d p.dies a.toNat) b+999) / 1000),0):=by
 unfold dY
 rw[if_neg (by rw[h];decide),if_neg (by simpa using h2)]
end
set_option maxRecDepth 100000
set_option maxHeartbeats 4000000
theorem cP(n lo hi:Int):Pure Tryz.prog 73 [.int .i64 n,.int .i64 lo,.int .i64 hi] (.bool (jg n lo hi)):=by
 refine Kf (N:=15) Tryz.func73 ?_
 iterate 10 refine af ?_
 refine Kg 11 10 0 rfl (fun h=>(aa.move rfl rfl)) ?_
 refine Kg 12 10 2 rfl (fun h=>(aa.move rfl rfl)) ?_
 refine aj.g 13 10 rfl rfl rfl rfl rfl rfl rfl [(11,_),(12,_)] (fun h=>And.intro (.inr ⟨_,rfl,h⟩) (And.intro (.inr ⟨_,rfl,h⟩) (trivial))) (fun h=>(aa.leq rfl rfl rfl)) ?_
 exact qZ
theorem iE(a b lo hi:Int):Pure Tryz.prog 124 [.agg [.int .i64 a,.int .i64 b],.int .i64 lo,.int .i64 hi] (.bool (Sy a b lo hi)):=by
 refine Kf (N:=24) Tryz.func124 ?_
 iterate 12 refine af ?_
 refine Kg 12 11 3 rfl (fun h=>(aa.fieldAddr rfl rfl an rfl)) ?_
 refine Kh 13 11 12 rfl rfl rfl rfl (fun h=>(aa.load rfl rfl an rfl)) ?_
 refine Kg 14 11 3 rfl (fun h=>(aa.fieldAddr rfl rfl an rfl)) ?_
 refine Kh 15 11 14 rfl rfl rfl rfl (fun h=>(aa.load rfl rfl an rfl)) ?_
 refine aj.g 16 11 rfl rfl rfl rfl rfl rfl rfl [(13,_),(15,_)] (fun h=>And.intro (.inr ⟨_,rfl,h⟩) (And.intro (.inr ⟨_,rfl,h⟩) (trivial))) (fun h=>(aa.leq rfl rfl rfl)) ?_
 refine Kc (aa.ec rfl rfl rfl ?_) ?_
 ·exact ax
 refine af ?_
 refine Kg 19 18 3 rfl (fun h=>(aa.fieldAddr rfl rfl an rfl)) ?_
 refine Kh 20 18 19 rfl rfl rfl rfl (fun h=>(aa.load rfl rfl an rfl)) ?_
 refine Kg 21 18 2 rfl (fun h=>(aa.move rfl rfl)) ?_
 refine aj.g 22 18 rfl rfl rfl rfl rfl rfl rfl [(20,_),(21,_)] (fun h=>And.intro (.inr ⟨_,rfl,h⟩) (And.intro (.inr ⟨_,rfl,h⟩) (trivial))) (fun h=>(aa.leq rfl rfl rfl)) ?_
 exact qZ
theorem J3(d:eg):Pure Tryz.prog 123 [.agg d.cells] (.bool (xg d)):=by
 refine Kf (N:=13) Tryz.func123 ?_
 exact De
theorem JC(d:cO):Pure Tryz.prog 126 [.agg d.cells] (.bool (xX d)):=by
 refine Kf (N:=13) Tryz.func126 ?_
 exact De
theorem tS(xs:List eg)(f:PV)(p:eg->Bool)(hx:xs.length<=cN)(hf:∀ x∈xs,jG Tryz.prog f [.agg x.cells] (.bool (p x))):Pure Tryz.prog 171 [.is (xs.flatMap eg.cells) xs.length,f] (.int .i64 (Ck.iL p xs)):=by
 unfold cN at hx
 refine Kf (N:=19) Tryz.func171 ?_
 iterate 12 refine af ?_
 refine aF.yW [4,5,8,9,10,11,12,13,14,15,16,17,18] (fun g=>[(8,.p (.int .i64 ((g:Nat):Int)))]) (fun g=>g<=xs.length∧∀ j (hj:j<g) (h:g<=xs.length),p (xs[j]'(by omega))=false) (fun g=>xs.length - g) 0 ⟨Zp _,fun j hj=>absurd hj (by omega)⟩ (Sub.cons rfl (Sub.nil)) (fun i hg=> ?_)
 obtain⟨zE,nk⟩:=hg
 iterate 5 refine af ?_
 refine Ki (fun hc0=> ?_) fun hc0=> ?_
 ·iterate 13 refine af ?_
  refine Kc (aa.j7 rfl rfl rfl an X4 rfl (fun _=>rfl) (by decide) ?_) ?_
  ·simp at hc0;omega
  exact DT
 ·exact Cu
theorem sn(xs:List cO)(f:PV)(p:cO->Bool)(hx:xs.length<=cN)(hf:∀ x∈xs,jG Tryz.prog f [.agg x.cells] (.bool (p x))):Pure Tryz.prog 172 [.is (xs.flatMap cO.cells) xs.length,f] (.int .i64 (Ck.iL p xs)):=by
 unfold cN at hx
 refine Kf (N:=19) Tryz.func172 ?_
 iterate 12 refine af ?_
 refine aF.yW [4,5,8,9,10,11,12,13,14,15,16,17,18] (fun g=>[(8,.p (.int .i64 ((g:Nat):Int)))]) (fun g=>g<=xs.length∧∀ j (hj:j<g) (h:g<=xs.length),p (xs[j]'(by omega))=false) (fun g=>xs.length - g) 0 ⟨Zp _,fun j hj=>absurd hj (by omega)⟩ (Sub.cons rfl (Sub.nil)) (fun i hg=> ?_)
 obtain⟨zE,nk⟩:=hg
 iterate 5 refine af ?_
 refine Ki (fun hc0=> ?_) fun hc0=> ?_
 ·iterate 13 refine af ?_
  refine Kc (aa.j7 rfl rfl rfl an Fy rfl (fun _=>rfl) (by decide) ?_) ?_
  ·simp at hc0;omega
  exact DT
 ·exact Cu
theorem pL(xs:List eg)(f:PV)(p:eg->Bool)(hx:xs.length<=cN)(hf:∀ x∈xs,jG Tryz.prog f [.agg x.cells] (.bool (p x))):Pure Tryz.prog 125 [.is (xs.flatMap eg.cells) xs.length,f] (.bool (xs.any p)):=by
 refine Kf (N:=9) Tryz.func125 ?_
 iterate 8 refine af ?_
 refine Kc (Kp (tS _ _ p ?_ ?_)) ?_
 ·exact hx
 ·exact hf
 iterate 4 refine af ?_
 refine Fin.gL rfl rfl ?_
 rw[Ck.lf]
theorem oR(xs:List cO)(f:PV)(p:cO->Bool)(hx:xs.length<=cN)(hf:∀ x∈xs,jG Tryz.prog f [.agg x.cells] (.bool (p x))):Pure Tryz.prog 127 [.is (xs.flatMap cO.cells) xs.length,f] (.bool (xs.any p)):=by
 refine Kf (N:=9) Tryz.func127 ?_
 iterate 8 refine af ?_
 refine Kc (Kp (sn _ _ p ?_ ?_)) ?_
 ·exact hx
 ·exact hf
 iterate 4 refine af ?_
 refine Fin.gL rfl rfl ?_
 rw[Ck.lf]
theorem pM(p:bJ)(hx:p.dies.length<=cN):Pure Tryz.prog 65 [cI p] (.bool (eF p)):=by
 refine Kf (N:=27) Tryz.func65 ?_
 iterate 14 refine af ?_
 refine Kc (Kp (cP _ _ _)) ?_
 refine af ?_
 refine Kg 10 9 1 rfl (fun h=>(aa.fieldAddr rfl rfl an rfl)) ?_
 refine Kh 11 9 10 rfl rfl rfl rfl (fun h=>(aa.load rfl rfl an rfl)) ?_
 refine Kh 12 9 11 rfl rfl rfl rfl (fun h=>(Kp (cP _ _ _))) ?_
 refine Kc (aa.ec rfl rfl rfl ?_) ?_
 ·exact ax
 iterate 6 refine af ?_
 refine Kg 16 15 1 rfl (fun h=>(aa.fieldAddr rfl rfl an rfl)) ?_
 refine Kh 17 15 16 rfl rfl rfl rfl (fun h=>(aa.load rfl rfl an rfl)) ?_
 refine Kh 18 15 17 rfl rfl rfl rfl (fun h=>(Kp (iE _ _ _ _))) ?_
 refine Kc (aa.ec rfl rfl rfl ?_) ?_
 ·exact ax
 refine af ?_
 refine Kg 21 20 1 rfl (fun h=>(aa.fieldAddr rfl rfl an rfl)) ?_
 refine Kh 22 20 21 rfl rfl rfl rfl (fun h=>(aa.load rfl rfl an rfl)) ?_
 refine Kg 23 20 3 rfl (fun h=>(aa.move rfl rfl)) ?_
 refine aj.g 24 20 rfl rfl rfl rfl rfl rfl rfl [(22,_),(23,_)] (fun h=>And.intro (.inr ⟨_,rfl,h⟩) (And.intro (.inr ⟨_,rfl,h⟩) (trivial))) (fun h=>(Kp (pL p.dies _ xg ?_ ?_))) ?_
 ·exact hx
 ·exact fun x _=>⟨123,[.agg x.cells],rfl,an,J3 x⟩
 refine Kh 25 20 24 rfl rfl rfl rfl (fun h=>(aa.gW rfl rfl)) ?_
 exact qZ
theorem tK(l:List cO)(hx:l.length<=cN):Pure Tryz.prog 66 [eY l] (.bool (mD l)):=by
 refine Kf (N:=13) Tryz.func66 ?_
 iterate 14 refine af ?_
 refine Kg 8 7 0 rfl (fun h=>(aa.move rfl rfl)) ?_
 refine Kg 9 7 3 rfl (fun h=>(aa.move rfl rfl)) ?_
 refine aj.g 10 7 rfl rfl rfl rfl rfl rfl rfl [(8,_),(9,_)] (fun h=>And.intro (.inr ⟨_,rfl,h⟩) (And.intro (.inr ⟨_,rfl,h⟩) (trivial))) (fun h=>(Kp (oR l _ xX ?_ ?_))) ?_
 ·exact hx
 ·exact fun x _=>⟨126,[.agg x.cells],rfl,an,JC x⟩
 refine Kh 11 7 10 rfl rfl rfl rfl (fun h=>(aa.gW rfl rfl)) ?_
 exact qZ
theorem Co(p:bJ)(d:eg)(u:Int)(hs:0<=p.Fa∧p.Fa<=p.F3∧p.F3<=300)(hd:xg d=false)(hu:0<=u∧u<=9000):Pure Tryz.prog 128 [.int .i64 u,.ip (Pc p d) 0] (.int .i64 (thin p d u)):=by
 obtain⟨hw,h1,h2,h3⟩:=oe hd
 obtain⟨b1,b2,b3,b4⟩:=tn (a:=d.wide) (b:=d.lo) (u:=u) (s:=p.F3) hw (by omega) hu (by omega)
 refine Kf (N:=19) Tryz.func128 ?_
 exact Ep
theorem Eo(p:bJ)(d:eg)(u:Int)(hs:0<=p.Fa∧p.Fa<=p.F3∧p.F3<=300)(hd:xg d=false)(hu:0<=u∧u<=9000):Pure Tryz.prog 129 [.int .i64 u,.ip (Pc p d) 0] (.int .i64 (jX p d u)):=by
 obtain⟨hw,h1,h2,h3⟩:=oe hd
 obtain⟨b1,b2,b3,b4⟩:=tn (a:=d.wide) (b:=d.hi) (u:=u) (s:=p.Fa) hw (by omega) hu (by omega)
 refine Kf (N:=19) Tryz.func129 ?_
 exact Ep
theorem G6(p:bJ)(d:eg):Pure Tryz.prog 74 [.agg (Pc p d)] (.agg [.func (.func 128) [] [.ip (Pc p d) 0],.func (.func 129) [] [.ip (Pc p d) 0]]):=by
 refine Kf (N:=6) Tryz.func74 ?_
 iterate 7 refine af ?_
 refine Kc (aa.makeFunc rfl rfl rfl) ?_
 refine Kc (aa.makeFunc rfl rfl rfl) ?_
 iterate 4 refine af ?_
 exact wT
theorem MO(p:bJ)(j:Nat)(hj:j<p.dies.length):Pure Tryz.prog 68 [cI p,.int .i64 (j:Int)] (.agg (Pc p (gt eg.d p.dies j))):=by
 refine Kf (N:=13) Tryz.func68 ?_
 iterate 6 refine af ?_
 refine aF.aB 8 mixed (by kernel_rfl) (by decide) ?_
 iterate 3 refine af ?_
 refine Kq (aa.aP (g:=gt eg.d p.dies) (aE _) rfl rfl rfl an X4 rfl (fun _=>rfl) (by decide) hj) ?_
 refine Kq (Kl (.p (.agg (gt eg.d p.dies j).cells))) ?_
 iterate 2 refine af ?_
 refine Kq (aa.build rfl an rfl rfl) ?_
 refine av.nil ?_
 refine Kz (aa.store (H':=[.cells ((Pc p (gt eg.d p.dies j)).map .p) 137]) rfl rfl rfl rfl rfl an rfl rfl) ?_
 iterate 2 refine af ?_
 exact wT
theorem rX(p:bJ)(j:Int)(hj:j.toNat<p.dies.length)(h0:0<=j):Pure Tryz.prog 68 [cI p,.int .i64 j] (.agg (Pc p (gt eg.d p.dies j.toNat))):=by
 have h:=MO p j.toNat hj
 rwa [Int.toNat_of_nonneg h0] at h
theorem Ig(p:bJ)(d:eg)(a b:Int)(w:cO)(hs:0<=p.Fa∧p.Fa<=p.F3∧p.F3<=300)(hd:xg d=false)(ha:0<=a∧a<=9000)(hb:0<=b∧b<=9000)(hw:xX w=false):Pure Tryz.prog 69 [.agg (Pc p d),.int .i64 a,.int .i64 b,.agg [.int .i64 w.lo,.int .i64 w.hi]] (.bool (decide (1000*w.lo<=thin p d a)&&decide (jX p d b<=1000*w.hi))):=by
 obtain⟨_,k1,k2,k3⟩:=ov hw
 refine Kf (N:=30) Tryz.func69 ?_
 iterate 9 refine af ?_
 refine Kc (Kp (G6 p d)) ?_
 iterate 4 refine af ?_
 refine aF.aB 19 mixed (by kernel_rfl) (by decide) ?_
 refine Kq (aa.mN rfl rfl rfl HE G9 (by omega) (by omega) rfl) ?_
 iterate 2 refine af ?_
 refine Kq (aa.dH (Co p d a hs hd ha) rfl rfl rfl rfl (an)) ?_
 iterate 2 refine af ?_
 refine Kq (aa.mul rfl rfl rfl (aI ?_)) ?_
 ·omega
 refine Kq (aa.geq rfl rfl rfl) ?_
 refine af ?_
 refine av.guard 21 20 rfl rfl rfl rfl rfl rfl rfl [(9,_)] (fun h=>And.intro (.inl rfl) (trivial)) (fun h=>(aa.mN rfl rfl rfl HE G9 (by omega) (by omega) rfl)) ?_
 refine av.guard 22 20 rfl rfl rfl rfl rfl rfl rfl [(21,_)] (fun h=>And.intro (.inr ⟨_,rfl,h⟩) (trivial)) (fun h=>(aa.load rfl rfl an rfl)) ?_
 refine av.guard 23 20 rfl rfl rfl rfl rfl rfl rfl [(2,_)] (fun h=>And.intro (.inl rfl) (trivial)) (fun h=>(aa.move rfl rfl)) ?_
 refine av.guard 24 20 rfl rfl rfl rfl rfl rfl rfl [(22,_),(23,_)] (fun h=>And.intro (.inr ⟨_,rfl,h⟩) (And.intro (.inr ⟨_,rfl,h⟩) (trivial))) (fun h=>(aa.dH (Eo p d b hs hd hb) rfl rfl rfl rfl (an))) ?_
 refine av.guard 25 20 rfl rfl rfl rfl rfl rfl rfl [(7,_)] (fun h=>And.intro (.inl rfl) (trivial)) (fun h=>(aa.fieldAddr rfl rfl an rfl)) ?_
 refine av.guard 26 20 rfl rfl rfl rfl rfl rfl rfl [(25,_)] (fun h=>And.intro (.inr ⟨_,rfl,h⟩) (trivial)) (fun h=>(aa.load rfl rfl an rfl)) ?_
 refine av.guard 27 20 rfl rfl rfl rfl rfl rfl rfl [(26,_)] (fun h=>And.intro (.inr ⟨_,rfl,h⟩) (trivial)) (fun h=>(aa.mul rfl rfl rfl (aI ?_))) ?_
 ·omega
 refine av.guard 28 20 rfl rfl rfl rfl rfl rfl rfl [(24,_),(27,_)] (fun h=>And.intro (.inr ⟨_,rfl,h⟩) (And.intro (.inr ⟨_,rfl,h⟩) (trivial))) (fun h=>(aa.leq rfl rfl rfl)) ?_
 refine Kq (aa.ec rfl rfl rfl ?_) ?_
 ·exact ax
 refine af ?_
 refine av.nil ?_
 iterate 2 refine af ?_
 exact kU
theorem Hh(p:bJ)(j u:Int)(hp:p.dies.length<=cN):Pure Tryz.prog 31 [cI p,.int .i64 j,.int .i64 u] (.tuple [.agg [.int .i64 (dY p j u).1.1,.int .i64 (dY p j u).1.2],.int .i64 (dY p j u).2]):=by
 have Ss:=hp
 unfold cN at Ss
 refine Kf (N:=45) Tryz.func31 ?_
 iterate 11 refine af ?_
 refine Kc (Kp (pM p hp)) ?_
 iterate 3 refine af ?_
 refine Ki (fun hc0=> ?_) fun hc0=> ?_
 ·have hv:eF p=false:=by simpa using hc0
  iterate 7 refine af ?_
  refine Fin.dI (xs:=[.agg [.int .i64 0,.int .i64 0],.int .i64 1]) rfl (⟨_,_,rfl,⟨_,_,_,rfl,an,rfl⟩,⟨_,_,rfl,rfl,rfl⟩⟩) rfl ?_
  rw[Pq hv]
 ·have hv:eF p=true:=by simpa using hc0
  obtain⟨⟨n1,n4⟩,_,hsh,Ri⟩:=iD hv
  iterate 6 refine af ?_
  refine Kc (aa.fN rfl rfl rfl (aI ?_)) ?_
  ·omega
  refine Kc (Kp (cP _ _ _)) ?_
  iterate 2 refine af ?_
  refine Kg 23 22 2 rfl (fun h=>(aa.move rfl rfl)) ?_
  refine Kh 24 22 23 rfl rfl rfl rfl (fun h=>(Kp (cP _ _ _))) ?_
  refine Kh 25 22 24 rfl rfl rfl rfl (fun h=>(aa.gW rfl rfl)) ?_
  refine Kc (aa.kA rfl rfl rfl ?_) ?_
  ·exact ax
  iterate 2 refine af ?_
  refine Ki (fun cK=> ?_) fun cK=> ?_
  ·iterate 7 refine af ?_
   refine Fin.dI (xs:=[.agg [.int .i64 0,.int .i64 0],.int .i64 2]) rfl (⟨_,_,rfl,⟨_,_,_,rfl,an,rfl⟩,⟨_,_,rfl,rfl,rfl⟩⟩) rfl ?_
   rw[Qf hv (by assumption)]
  ·have hj:jg j 0 ((p.dies.length:Int) - 1)=true∧jg u 0 8000=true:=by simpa using cK
   obtain⟨j0,j1⟩:=fP hj.1
   obtain⟨u0,u1⟩:=fP hj.2
   have hjl:j.toNat<p.dies.length:=by omega
   obtain⟨q,hq⟩:∃ q:Nat,j=(q:Int):=⟨_,(Int.toNat_of_nonneg j0).symm⟩
   have TN:=Ri _ (bN eg.d hjl)
   obtain⟨w1,w2,w3,w4⟩:=oe TN
   obtain⟨_,_,e1,e2⟩:=tn (a:=(gt eg.d p.dies j.toNat).wide) (b:=(gt eg.d p.dies j.toNat).lo) (u:=u) (s:=p.F3) w1 (by omega) (by omega) (by omega)
   obtain⟨_,_,e3,e4⟩:=tn (a:=(gt eg.d p.dies j.toNat).wide) (b:=(gt eg.d p.dies j.toNat).hi) (u:=u) (s:=p.Fa) w1 (by omega) (by omega) (by omega)
   have e1:0<=thin p (gt eg.d p.dies j.toNat) u:=e1
   have e2:thin p (gt eg.d p.dies j.toNat) u<=1820000000:=e2
   have e3:0<=jX p (gt eg.d p.dies j.toNat) u:=e3
   have e4:jX p (gt eg.d p.dies j.toNat) u<=1820000000:=e4
   skip
   iterate 5 refine af ?_
   refine Kc (Kp (rX p j hjl j0)) ?_
   refine Kc (Kp (G6 p (gt eg.d p.dies j.toNat))) ?_
   iterate 4 refine af ?_
   refine aF.aB 13 mixed (by kernel_rfl) (by decide) ?_
   refine Kq (aa.mN rfl rfl rfl HE G9 (by omega) (by omega) rfl) ?_
   iterate 2 refine af ?_
   refine Kq (aa.dH (Co p (gt eg.d p.dies j.toNat) u hsh TN (by omega)) rfl rfl rfl rfl (an)) ?_
   refine Kq (aa.quo (m:=(thin p (gt eg.d p.dies j.toNat) u / 1000)) rfl rfl rfl (by decide) ((aI (by rw[Zbt (by omega)];omega)).trans (Zbt (by omega)))) ?_
   refine Kq (aa.mN rfl rfl rfl HE G9 (by omega) (by omega) rfl) ?_
   iterate 2 refine af ?_
   refine Kq (aa.dH (Eo p (gt eg.d p.dies j.toNat) u hsh TN (by omega)) rfl rfl rfl rfl (an)) ?_
   refine Kq (aa.add rfl rfl rfl (aI ?_)) ?_
   ·omega
   refine Kq (aa.fN (m:=(jX p (gt eg.d p.dies j.toNat) u+999)) rfl rfl rfl ((aI ?_).trans ?_)) ?_
   ·omega
   ·omega
   refine Kq (aa.quo (m:=((jX p (gt eg.d p.dies j.toNat) u+999) / 1000)) rfl rfl rfl (by decide) ((aI (by rw[Zbt (by omega)];omega)).trans (Zbt (by omega)))) ?_
   refine Kq (aa.build rfl an rfl rfl) ?_
   refine av.nil ?_
   iterate 4 refine af ?_
   refine Fin.dI (xs:=[.agg [.int .i64 (thin p (gt eg.d p.dies j.toNat) u / 1000),.int .i64 ((jX p (gt eg.d p.dies j.toNat) u+999) / 1000)],.int .i64 0]) rfl (⟨_,_,rfl,⟨_,_,_,rfl,an,rfl⟩,⟨_,_,rfl,rfl,rfl⟩⟩) rfl ?_
   rw[D8 hv (by assumption)]
theorem sH(p:bJ)(l:List cO)(plan:List Int)(hp:p.dies.length<=cN)(hl:l.length<=cN)(hn:plan.length<=cN):Pure Tryz.prog 29 [cI p,eY l,bh plan] (.tuple [Yg (gN p l plan).1,.int .i64 (gN p l plan).2.1,.int .i64 (gN p l plan).2.2]):=by
 have Ss:=hp
 have vP:=hl
 have hn2:=hn
 unfold cN at Ss vP hn2
 refine Kf (N:=93) Tryz.func29 ?_
 iterate 12 refine af ?_
 refine Kc (Kp (pM p hp)) ?_
 iterate 3 refine af ?_
 refine Ki (fun hc0=> ?_) fun hc0=> ?_
 ·have hv:eF p=false:=by simpa using hc0
  iterate 7 refine af ?_
  refine Fin.dI (xs:=[.nilSlice,.int .i64 0,.int .i64 1]) rfl ⟨_,_,rfl,rfl,⟨_,_,rfl,rfl,⟨_,_,rfl,rfl,rfl⟩⟩⟩ rfl ?_
  rw[FY hv]
  rfl
 ·have hv:eF p=true:=by simpa using hc0
  obtain⟨⟨n1,n4⟩,_,hsh,Ri⟩:=iD hv
  iterate 3 refine af ?_
  refine Kc (Kp (tK l hl)) ?_
  iterate 3 refine af ?_
  refine Ki (fun cK=> ?_) fun cK=> ?_
  ·have hd:mD l=false:=by simpa using cK
   iterate 7 refine af ?_
   refine Fin.dI (xs:=[.nilSlice,.int .i64 0,.int .i64 2]) rfl ⟨_,_,rfl,rfl,⟨_,_,rfl,rfl,⟨_,_,rfl,rfl,rfl⟩⟩⟩ rfl ?_
   rw[ON hv hd]
   rfl
  ·have hd:mD l=true:=by simpa using cK
   obtain⟨hl8,Ux⟩:=jE hd
   iterate 6 refine af ?_
   refine Kc (aa.makeSlice (n:=p.dies.length) (c:=p.dies.length) rfl rfl rfl an an (by decide) (Zf _) (by show 8*p.dies.length<=281474976710656;omega)) ?_
   iterate 4 refine af ?_
   rw[HT]
   refine aF.norm [0] [(1,_),(2,_),(3,_),(6,.row 0 p.dies.length)] [.row (((List.replicate p.dies.length 0).flatMap bZ).map .p) 3] rfl KS (by show[ai.row (bw _ (List.map V.p _)) _]=_;rw[aX]) ?_
   iterate 6 refine af ?_
   refine aF.eU [1,2,3,24,25,83,84,85,86,87,88,89,90,91,92] (fun g=>[(26,.p (.int .i64 ((g.1:Nat):Int))),(6,.row 0 p.dies.length)]) (fun g=>[.row ((g.2.flatMap bZ).map .p) 3]) (fun g=>g.1<=l.length∧Bx p g.2 (1000*(g.1:Int))∧fW p plan 0 (List.replicate p.dies.length 0) l=fW p plan g.1 g.2 (l.drop g.1)) (fun g=>l.length - g.1) (0,List.replicate p.dies.length 0) ⟨Zp _,S6 p,rfl⟩ (To.sub (Sub.zY (Sub.cons rfl (Sub.cons rfl (Sub.nil))))) (fun g hg=> ?_)
   obtain⟨i,u⟩:=g
   obtain⟨zE,nk,Gr⟩:=hg
   dsimp only at zE nk Gr ⊢
   have hul:=nk.1
   iterate 5 refine af ?_
   refine Ki (fun jb=> ?_) fun jb=> ?_
   ·have hk0:i<l.length:=by have h:(i:Int)<(l.length:Int):=Zg jb;omega
    have hW:=ov (Ux _ (bN cO.d hk0))
    iterate 6 refine af ?_
    refine Kc (aa.aP (g:=gt cO.d l) (aE _) rfl rfl rfl an Fy rfl (fun _=>rfl) (by decide) hk0) ?_
    refine Kc (Kl (.p (.agg (gt cO.d l i).cells))) ?_
    iterate 2 refine af ?_
    refine Kz (aa.store (H':=[.row ((u.flatMap bZ).map .p) 3,.cells ((gt cO.d l i).cells.map .p) 74]) rfl rfl rfl rfl rfl an rfl rfl) ?_
    iterate 11 refine af ?_
    refine Ki (fun mc=> ?_) fun mc=> ?_
    ·have hpl:(plan.length:Int)<=(i:Int):=Zg mc
     iterate 8 refine af ?_
     refine Fin.dI (xs:=[.nilSlice,.int .i64 (i:Int),.int .i64 4]) rfl ⟨_,_,rfl,rfl,⟨_,_,rfl,rfl,⟨_,_,rfl,rfl,rfl⟩⟩⟩ rfl ?_
     rw[gM hv hd,Gr,SM hk0 hpl]
     rfl
    ·have hpl:¬ (plan.length:Int)<=(i:Int):=Zk mc
     have VY:i<plan.length:=by omega
     refine af ?_
     refine aF.aB 11 mixed (by kernel_rfl) (by decide) ?_
     iterate 2 refine af ?_
     refine Kq (aa.aP (g:=gt 0 plan) (aE _) rfl rfl rfl an dF rfl (fun _=>rfl) (by decide) VY) ?_
     refine Kq (Kl (.p (.int .i64 (gt 0 plan i)))) ?_
     iterate 2 refine af ?_
     refine Kq (aa.bD rfl rfl an rfl) ?_
     refine Kq (aa.fN rfl rfl rfl (aI ?_)) ?_
     ·omega
     refine Kq (Kp (cP _ _ _)) ?_
     refine Kq (aa.gW rfl rfl) ?_
     refine af ?_
     refine av.nil ?_
     refine af ?_
     refine Ki (fun tY=> ?_) fun tY=> ?_
     ·have hin:jg (gt 0 plan i) 0 ((p.dies.length:Int) - 1)=false:=by simpa using tY
      iterate 8 refine af ?_
      refine Fin.dI (xs:=[.nilSlice,.int .i64 (i:Int),.int .i64 2]) rfl ⟨_,_,rfl,rfl,⟨_,_,rfl,rfl,⟨_,_,rfl,rfl,rfl⟩⟩⟩ rfl ?_
      rw[gM hv hd,Gr,Sg hk0 hpl hin]
      rfl
     ·have hin:jg (gt 0 plan i) 0 ((p.dies.length:Int) - 1)=true:=by simpa using tY
      obtain⟨Xs,hq1⟩:=fP hin
      have hq:(gt 0 plan i).toNat<p.dies.length:=by omega
      have HM:(gt 0 plan i).toNat<u.length:=by omega
      have hud:=nk.2 _ HM
      have TN:=Ri _ (bN eg.d hq)
      iterate 6 refine af ?_
      refine Kc (aa.aP (g:=gt 0 plan) (aE _) rfl rfl rfl an dF rfl (fun _=>rfl) (by decide) VY) ?_
      refine Kc (Kl (.p (.int .i64 (gt 0 plan i)))) ?_
      refine Kc (aa.kX rfl rfl rfl an dF Xs (by omega)) ?_
      iterate 4 refine af ?_
      refine aF.aB 19 mixed (by kernel_rfl) (by decide) ?_
      iterate 3 refine af ?_
      refine Kq (aa.aP (g:=gt 0 plan) (aE _) rfl rfl rfl an dF rfl (fun _=>rfl) (by decide) VY) ?_
      refine Kq (Kl (.p (.int .i64 (gt 0 plan i)))) ?_
      refine Kq (Kp (rX p (gt 0 plan i) hq Xs)) ?_
      refine af ?_
      refine Kq (aa.nilCheck rfl rfl) ?_
      refine Kq (aa.kT (f:=bZ) (c:=1) (k:=(gt 0 plan i).toNat) (j:=0) (xs:=u) rfl rfl an rfl rfl (by omega) (fun _=>rfl) HM (by decide) (show _=PV.int .i64 (gt 0 u (gt 0 plan i).toNat) from by rw[aE 0 _ HM];rfl)) ?_
      refine af ?_
      refine Kq (aa.nilCheck rfl rfl) ?_
      refine Kq (aa.kT (f:=bZ) (c:=1) (k:=(gt 0 plan i).toNat) (j:=0) (xs:=u) rfl rfl an rfl rfl (by omega) (fun _=>rfl) HM (by decide) (show _=PV.int .i64 (gt 0 u (gt 0 plan i).toNat) from by rw[aE 0 _ HM];rfl)) ?_
      iterate 2 refine af ?_
      refine Kq (aa.add (m:=(gt 0 u (gt 0 plan i).toNat+(gt cO.d l i).len)) rfl rfl rfl ((aI ?_).trans ?_)) ?_
      ·omega
      ·rfl
      iterate 2 refine af ?_
      refine Kq (Kp (Ig p (gt eg.d p.dies (gt 0 plan i).toNat) (gt 0 u (gt 0 plan i).toNat) ((gt 0 u (gt 0 plan i).toNat)+(gt cO.d l i).len) (gt cO.d l i) hsh TN (by omega) (by omega) (Ux _ (bN cO.d hk0)))) ?_
      refine Kq (aa.gW rfl rfl) ?_
      refine av.nil ?_
      refine af ?_
      refine Ki (fun uk=> ?_) fun uk=> ?_
      ·have QG:Av p (gt eg.d p.dies (gt 0 plan i).toNat) (gt 0 u (gt 0 plan i).toNat) (gt cO.d l i)=false:=by first | simpa only[Ku] using uk | (unfold Av;simpa only[Ku] using uk)
       iterate 8 refine af ?_
       refine Fin.dI (xs:=[.nilSlice,.int .i64 (i:Int),.int .i64 11]) rfl ⟨_,_,rfl,rfl,⟨_,_,rfl,rfl,⟨_,_,rfl,rfl,rfl⟩⟩⟩ rfl ?_
       rw[gM hv hd,Gr,MA hk0 hpl hin QG]
       rfl
      ·exact DL
   ·have hi2:i=l.length:=by have h:¬ ((i:Int)<(l.length:Int)):=Zk jb;omega
    subst hi2
    refine aF.exit ?_
    iterate 9 refine af ?_
    refine Ki (fun xQ=> ?_) fun xQ=> ?_
    ·have hlt:(l.length:Int)<(plan.length:Int):=Zg xQ
     iterate 9 refine af ?_
     refine Fin.dI (xs:=[.nilSlice,.int .i64 (l.length:Int),.int .i64 2]) rfl ⟨_,_,rfl,rfl,⟨_,_,rfl,rfl,⟨_,_,rfl,rfl,rfl⟩⟩⟩ rfl ?_
     rw[gM hv hd,Gr,Ex hlt]
     rfl
    ·have hlt:¬ (l.length:Int)<(plan.length:Int):=Zk xQ
     refine aF.freeze 0 rfl (lB _) ?_
     iterate 11 refine af ?_
     skip
     refine Fin.dI (xs:=[(.is (u.flatMap bZ) p.dies.length),.int .i64 (l.length:Int),.int .i64 0]) rfl ⟨_,_,rfl,rfl,⟨_,_,rfl,rfl,⟨_,_,rfl,rfl,rfl⟩⟩⟩ rfl ?_
     rw[gM hv hd,Gr,LK hlt]
     show[PV.is _ _,_,_]=[PV.is _ _,_,_]
     rw[hul]
end Go.Proofs.YtibffijhebobmaaGreatDoor.Di
end
