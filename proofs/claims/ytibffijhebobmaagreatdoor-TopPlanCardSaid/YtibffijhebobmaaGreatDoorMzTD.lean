/-
 Chapter 4: dies, draws and plans as plain data; what is valid; how wide leads are; how a plan is followed.
 Chapter 4: the steps by which a plan is followed.
 Chapter 4: what is valid.
 Chapter 4: how wide leads are; how a plan is followed.
 The reference of chapter 4.
-/
import Derived.Test.YtibffijhebobmaaGreatDoorFaTE
import Derived.Test.YtibffijhebobmaaGreatDoorPmT
import Derived.Test.YtibffijhebobmaaGreatDoorMzTF
import Derived.Test.YtibffijhebobmaaGreatDoorMzTC
import Derived.Test.YtibffijhebobmaaGreatDoorMzTZ
theorem Cy{A:Prop}(h:A:=by
 iterate 12 refine af ?_
 refine Kg 12 11 3 rfl (fun h=>(aa.fieldAddr rfl rfl an rfl)) ?_
 refine Kh 13 11 12 rfl rfl rfl rfl (fun h=>(aa.load rfl rfl an rfl)) ?_
 refine Kg 14 11 3 rfl (fun h=>(aa.fieldAddr rfl rfl an rfl)) ?_
 refine Kh 15 11 14 rfl rfl rfl rfl (fun h=>(aa.load rfl rfl an rfl)) ?_
 refine aj.g 16 11 rfl rfl rfl rfl rfl rfl rfl [(13,_),(15,_)] (fun h=>And.intro (.inr ⟨_,rfl,h⟩) (And.intro (.inr ⟨_,rfl,h⟩) (trivial))) (fun h=>(aa.leq rfl rfl rfl)) ?_
 refine Kc (aa.fH rfl rfl rfl ?_) ?_
 ·exact az
 refine af ?_
 refine Kg 19 18 3 rfl (fun h=>(aa.fieldAddr rfl rfl an rfl)) ?_
 refine Kh 20 18 19 rfl rfl rfl rfl (fun h=>(aa.load rfl rfl an rfl)) ?_
 refine Kg 21 18 2 rfl (fun h=>(aa.move rfl rfl)) ?_
 refine aj.g 22 18 rfl rfl rfl rfl rfl rfl rfl [(20,_),(21,_)] (fun h=>And.intro (.inr ⟨_,rfl,h⟩) (And.intro (.inr ⟨_,rfl,h⟩) (trivial))) (fun h=>(aa.leq rfl rfl rfl)) ?_
 refine Kc (aa.fH rfl rfl rfl ?_) ?_
 ·exact az
 exact gS):A:=h
theorem Ct{A:Prop}(h:A:=by
 iterate 9 refine af ?_
 refine Kc (Kp (cP _ _ _)) ?_
 iterate 2 refine af ?_
 refine Kg 8 7 1 rfl (fun h=>(aa.fieldAddr rfl rfl an rfl)) ?_
 refine Kh 9 7 8 rfl rfl rfl rfl (fun h=>(aa.load rfl rfl an rfl)) ?_
 refine Kh 10 7 9 rfl rfl rfl rfl (fun h=>(Kp (iA _ _ _ _))) ?_
 refine Kh 11 7 10 rfl rfl rfl rfl (fun h=>(aa.gr rfl rfl)) ?_
 refine Kc (aa.mG rfl rfl rfl ?_) ?_
 ·exact az
 exact gS):A:=h
theorem C9{A:Prop}(h:A:=by
 iterate 10 refine af ?_
 refine Kg 11 10 0 rfl (fun h=>(aa.move rfl rfl)) ?_
 refine Kg 12 10 2 rfl (fun h=>(aa.move rfl rfl)) ?_
 refine aj.g 13 10 rfl rfl rfl rfl rfl rfl rfl [(11,_),(12,_)] (fun h=>And.intro (.inr ⟨_,rfl,h⟩) (And.intro (.inr ⟨_,rfl,h⟩) (trivial))) (fun h=>(aa.leq rfl rfl rfl)) ?_
 refine Kc (aa.fH rfl rfl rfl ?_) ?_
 ·exact az
 exact gS):A:=h
theorem B0{A:Prop}(h:A:=by
 iterate 14 refine af ?_
 refine Kc (aa.mul rfl rfl rfl (aK ?_)) ?_
 ·omega
 refine Kc (aa.add rfl rfl rfl (aK ?_)) ?_
 ·omega
 iterate 3 refine af ?_
 refine Kc (aa.iI rfl rfl rfl (aK ?_)) ?_
 ·omega
 refine Kc (aa.mul rfl rfl rfl (aK ?_)) ?_
 ·omega
 exact gS):A:=h
theorem Cf{A:Prop}(h:A:=by
 refine af ?_
 refine Kc (aa.C0 (hf _ (zL _)) rfl rfl rfl) ?_
 refine af ?_
 refine Ki (fun cR=> ?_) fun cR=> ?_
 ·exact Ms
 ·exact D3):A:=h
theorem B7{A:Prop}(h:A:=by
 iterate 3 refine af ?_
 refine Kc (aa.add rfl rfl rfl (aK ?_)) ?_
 ·omega
 iterate 2 refine af ?_
 refine⟨i+1,?_,?_,?_⟩
 ·refine⟨hk0,fun j hj h=> ?_⟩
  rcases Md.1 hj with h1 | rfl
  ·exact mF j h1 vt
  ·exact Wf
 ·omega
 exact To.done [] rfl KS rfl):A:=h
theorem CX{A:Prop}(h:A:=by
 refine aF.exit ?_
 iterate 5 refine af ?_
 refine Fin.fQ rfl rfl ?_
 rw[Ck.kP p xs (fun j hj=>mF j (by simp at hc0;omega) vt)]):A:=h
theorem Ms{A:Prop}(h:A:=by
 iterate 6 refine af ?_
 refine Fin.fQ rfl rfl ?_
 rw[Ck.qI p xs i (by simp at hc0;omega) (fun j hj=>mF j hj vt) cR]):A:=h
set_option linter.unusedSimpArgs false
set_option linter.unusedVariables false
section
namespace Go.Proofs.YtibffijhebobmaaGreatDoor.Di
open Go.AF
def b6:Nat:=9223372036854775807
def gt{α:Type}(d:α)(l:List α)(k:Nat):α:=l.getD k d
theorem aC{α:Type}(d:α){l:List α}:∀ k (h:k<l.length),l[k]=gt d l k:=fun k h=>by
 unfold gt
 exact xu
theorem bC{α:Type}(d:α){l:List α}{k:Nat}(h:k<l.length):gt d l k∈l:=by rw[<- aC d k h];exact zL _
structure dw where
 wide:Int
 lo:Int
 hi:Int
 deriving DecidableEq
def dw.cells(d:dw):List PV:=[.int .i64 d.wide,.int .i64 d.lo,.int .i64 d.hi]
def dw.d:dw:=⟨0,0,0⟩
def oZ(l:List dw):PV:= .is (l.flatMap dw.cells) l.length
structure bn where
 dies:List dw
 Fw:Int
 GK:Int
 change:Int
 deriving DecidableEq
def bn.cells(p:bn):List PV:=[oZ p.dies,.int .i64 p.Fw,.int .i64 p.GK,.int .i64 p.change]
def dO(p:bn):PV:= .agg p.cells
structure aH where
 len:Int
 lo:Int
 hi:Int
 deriving DecidableEq
def aH.cells(d:aH):List PV:=[.int .i64 d.len,.int .i64 d.lo,.int .i64 d.hi]
def aH.d:aH:=⟨0,0,0⟩
def cv(l:List aH):PV:= .is (l.flatMap aH.cells) l.length
def bY(n:Int):List PV:=[.int .i64 n]
def bw(l:List Int):PV:= .is (l.flatMap bY) l.length
def iq(n lo hi:Int):Bool:=decide (lo<=n)&&decide (n<=hi)
def OO(a b lo hi:Int):Bool:=decide (lo<=a)&&decide (a<=b)&&decide (b<=hi)
def Q0(d:dw):Bool:=iq d.wide 1 20000&&OO d.lo d.hi 0 200
def pO(d:dw):Bool:= !iq d.wide 1 20000|| !OO d.lo d.hi 0 200
def cL(p:bn):Bool:=iq p.dies.length 1 4&&iq p.change 0 10000&&OO p.Fw p.GK 0 300&& !p.dies.any pO
def RJ(d:aH):Bool:=iq d.len 1 1000&&OO d.lo d.hi 0 20000
def qY(d:aH):Bool:= !iq d.len 1 1000|| !OO d.lo d.hi 0 20000
def cG(l:List aH):Bool:=decide ((l.length:Int)<=8)&& !l.any qY
theorem Om(d:dw):pO d= !Q0 d:=by unfold pO Q0;rw[Bool.not_and]
theorem Lz(d:aH):qY d= !RJ d:=by unfold qY RJ;rw[Bool.not_and]
theorem fq{n lo hi:Int}(h:iq n lo hi=true):lo<=n∧n<=hi:=by
 unfold iq at h;simpa using h
theorem we{a b lo hi:Int}(h:OO a b lo hi=true):lo<=a∧a<=b∧b<=hi:=by
 unfold OO at h;simp only[Zn,Zq] at h;exact⟨h.1.1,h.1.2,h.2⟩
theorem oL{d:dw}(h:pO d=false):(1<=d.wide∧d.wide<=20000)∧0<=d.lo∧d.lo<=d.hi∧d.hi<=200:=by
 rw[Om] at h
 have h:Q0 d=true:=by simpa using h
 unfold Q0 at h
 rw[Zn] at h
 exact⟨fq h.1,we h.2⟩
theorem jh{d:aH}(h:qY d=false):(1<=d.len∧d.len<=1000)∧0<=d.lo∧d.lo<=d.hi∧d.hi<=20000:=by
 rw[Lz] at h
 have h:RJ d=true:=by simpa using h
 unfold RJ at h
 rw[Zn] at h
 exact⟨fq h.1,we h.2⟩
theorem c9{p:bn}(h:cL p=true):(1<=p.dies.length∧p.dies.length<=4)∧(0<=p.change∧p.change<=10000)∧(0<=p.Fw∧p.Fw<=p.GK∧p.GK<=300)∧∀ d∈p.dies,pO d=false:=by
 unfold cL at h
 simp only[Zn] at h
 obtain⟨⟨⟨h1,h2⟩,h3⟩,h4⟩:=h
 have h1:=fq h1
 refine⟨⟨by omega,by omega⟩,fq h2,we h3,fun d hd=> ?_⟩
 have h4:p.dies.any pO=false:=by simpa using h4
 have:=OM.1 h4 d hd
 simpa using this
theorem dh{l:List aH}(h:cG l=true):l.length<=8∧∀ d∈l,qY d=false:=by
 unfold cG at h
 simp only[Zn,Zq] at h
 obtain⟨h1,h2⟩:=h
 refine⟨by omega,fun d hd=> ?_⟩
 have h4:l.any qY=false:=by simpa using h2
 have:=OM.1 h4 d hd
 simpa using this
def thin(p:bn)(d:dw)(u:Int):Int:=(d.wide+d.lo*u)*(1000 - p.GK)
def jX(p:bn)(d:dw)(u:Int):Int:=(d.wide+d.hi*u)*(1000 - p.Fw)
def nX(p:bn)(d:dw)(u:Int)(w:aH):Bool:=decide (1000*w.lo<=thin p d u)&&decide (jX p d (u+w.len)<=1000*w.hi)
theorem sN{a b u s:Int}(ha:1<=a∧a<=20000)(hb:0<=b∧b<=200)(hu:0<=u∧u<=9000)(hs:0<=s∧s<=300):0<=b*u∧b*u<=1800000∧0<=(a+b*u)*(1000 - s)∧(a+b*u)*(1000 - s)<=1820000000:=by
 have h1:b*u<=200*9000:=Int.mul_le_mul hb.2 hu.2 hu.1 (by omega)
 have h2:0<=b*u:=Int.mul_nonneg hb.1 hu.1
 refine⟨h2,h1,Int.mul_nonneg (by omega) (by omega),?_⟩
 have:(a+b*u)*(1000 - s)<=(20000+200*9000)*1000:=Int.mul_le_mul (by omega) (by omega) (by omega) (by omega)
 omega
def bW(p:bn)(die used:Int):(Int×Int)×Int:=
 if cL p=false then((0,0),1) else if iq die 0 ((p.dies.length:Int) - 1)=false∨iq used 0 8000=false then((0,0),2) else
  ((thin p (gt dw.d p.dies die.toNat) used / 1000,(jX p (gt dw.d p.dies die.toNat) used+999) / 1000),0)
def eX(p:bn)(plan:List Int):Nat->List Int->List aH->Option (List Int)×Int×Int
 | i,u,[]=>if (i:Int)<(plan.length:Int) then(none,i,2) else(some u,i,0)
 | i,u,w::l=>if (plan.length:Int)<=(i:Int) then(none,i,4) else if iq (gt 0 plan i) 0 ((p.dies.length:Int) - 1)=false then(none,i,2) else
   if nX p (gt dw.d p.dies (gt 0 plan i).toNat) (gt 0 u (gt 0 plan i).toNat) w=false then(none,i,11) else eX p plan (i+1) (u.set (gt 0 plan i).toNat (gt 0 u (gt 0 plan i).toNat+w.len)) l
def eC(p:bn)(l:List aH)(plan:List Int):Option (List Int)×Int×Int:=
 if cL p=false then(none,0,1) else if cG l=false then(none,0,2) else eX p plan 0 (List.replicate p.dies.length 0) l
def XD:Option (List Int)->PV
 | none=> .nilSlice
 | some u=>bw u
def Pk(p:bn)(d:dw):List PV:=[.int .i64 d.wide,.int .i64 d.lo,.int .i64 d.hi,.int .i64 p.Fw,.int .i64 p.GK]
def Br(p:bn)(u:List Int)(B:Int):Prop:=u.length=p.dies.length∧∀ k,k<u.length->0<=gt 0 u k∧gt 0 u k<=B
theorem Gv{u:List Int}{k j:Nat}{x:Int}(hk:k<u.length):gt 0 (u.set k x) j=if j=k then x else gt 0 u j:=by
 unfold gt
 rw[Ze,Ze,Zv]
 by_cases h:k=j
 ·subst h;simp[hk]
 ·rw[if_neg h,if_neg (fun e=>h e.symm)]
theorem RN(p:bn):Br p (List.replicate p.dies.length 0) (1000*((0:Nat):Int)):=by
 refine⟨Z0,fun k hk=> ?_⟩
 unfold gt
 rw[Ze,List.getElem?_replicate]
 split <;> simp
theorem HT(n:Nat):(List.replicate n [PV.int .i64 0]).flatten=(List.replicate n (0:Int)).flatMap bY:=by
 induction n with
 | zero=>rfl
 | succ n ih=>rw[Wp,Wp,O1,ZH,ih];rfl
theorem M8{p:bn}{u:List Int}{i q:Nat}{x:Int}(h:Br p u (1000*(i:Int)))(hq:q<p.dies.length)(hx:1<=x∧x<=1000):Br p (u.set q (gt 0 u q+x)) (1000*((i+1:Nat):Int)):=by
 obtain⟨h1,h2⟩:=h
 refine⟨by rw[ZZ];exact h1,fun k hk=> ?_⟩
 rw[ZZ] at hk
 rw[Gv (by omega)]
 have h3:=h2 q (by omega)
 have h4:=h2 k hk
 split
 ·omega
 ·omega
theorem oF(l:List aH)(i:Nat)(h:i<l.length):l.drop i=gt aH.d l i::l.drop (i+1):=by
 rw[Uu h,aC aH.d i h]
section
variable {p:bn} {l:List aH} {plan u:List Int} {i:Nat}
theorem Sx(hk:i<l.length)(hpl:(plan.length:Int)<=(i:Int)):eX p plan i u (l.drop i)=(none,(i:Int),4):=by
 rw[oF l i hk,eX,if_pos hpl]
theorem Su(hk:i<l.length)(hpl:¬ (plan.length:Int)<=(i:Int))(hin:iq (gt 0 plan i) 0 ((p.dies.length:Int) - 1)=false):eX p plan i u (l.drop i)=(none,(i:Int),2):=by
 rw[oF l i hk,eX,if_neg hpl,if_pos hin]
theorem OE(hk:i<l.length)(hpl:¬ (plan.length:Int)<=(i:Int))(hin:iq (gt 0 plan i) 0 ((p.dies.length:Int) - 1)=true)(Q3:nX p (gt dw.d p.dies (gt 0 plan i).toNat) (gt 0 u (gt 0 plan i).toNat) (gt aH.d l i)=false):eX p plan i u (l.drop i)=(none,(i:Int),11):=by
 rw[oF l i hk,eX,if_neg hpl,if_neg (by rw[hin];decide),if_pos Q3]
theorem Mk(hk:i<l.length)(hpl:¬ (plan.length:Int)<=(i:Int))(hin:iq (gt 0 plan i) 0 ((p.dies.length:Int) - 1)=true)(Q3:nX p (gt dw.d p.dies (gt 0 plan i).toNat) (gt 0 u (gt 0 plan i).toNat) (gt aH.d l i)=true):eX p plan i u (l.drop i)=eX p plan (i+1) (u.set (gt 0 plan i).toNat (gt 0 u (gt 0 plan i).toNat+(gt aH.d l i).len)) (l.drop (i+1)):=by
 rw[oF l i hk,eX,if_neg hpl,if_neg (by rw[hin];decide),if_neg (by rw[Q3];decide)]
theorem Bd(h:(l.length:Int)<(plan.length:Int)):eX p plan l.length u (l.drop l.length)=(none,(l.length:Int),2):=by
 rw[List.drop_length,eX,if_pos h]
theorem Mv(h:¬ (l.length:Int)<(plan.length:Int)):eX p plan l.length u (l.drop l.length)=(some u,(l.length:Int),0):=by
 rw[List.drop_length,eX,if_neg h]
theorem FB(h:cL p=false):eC p l plan=(none,0,1):=by unfold eC;rw[if_pos h]
theorem Of(h:cL p=true)(h2:cG l=false):eC p l plan=(none,0,2):=by unfold eC;rw[if_neg (by rw[h];decide),if_pos h2]
theorem gG(h:cL p=true)(h2:cG l=true):eC p l plan=eX p plan 0 (List.replicate p.dies.length 0) l:=by unfold eC;rw[if_neg (by rw[h];decide),if_neg (by rw[h2];decide)]
theorem QL{a b:Int}(h:cL p=false):bW p a b=((0,0),1):=by unfold bW;rw[if_pos h]
theorem Rz{a b:Int}(h:cL p=true)(h2:(!iq a 0 ((p.dies.length:Int) - 1)|| !iq b 0 8000)=true):bW p a b=((0,0),2):=by
 unfold bW
 rw[if_neg (by rw[h];decide),if_pos (by simpa using h2)]
theorem DF{a b:Int}(h:cL p=true)(h2:(!iq a 0 ((p.dies.length:Int) - 1)|| !iq b 0 8000)=false):bW p a b=((thin p (gt dw.d p.dies a.toNat) b / 1000,(jX p (gt dw.d p.dies a.toNat) b+999) / 1000),0):=by
 unfold bW
 rw[if_neg (by rw[h];decide),if_neg (by simpa using h2)]
end
set_option maxRecDepth 100000
set_option maxHeartbeats 4000000
theorem cP(n lo hi:Int):Pure Tryz.prog 73 [.int .i64 n,.int .i64 lo,.int .i64 hi] (.bool (iq n lo hi)):=by
 refine Kf (N:=15) Tryz.func73 ?_
 exact C9
theorem iA(a b lo hi:Int):Pure Tryz.prog 124 [.agg [.int .i64 a,.int .i64 b],.int .i64 lo,.int .i64 hi] (.bool (OO a b lo hi)):=by
 refine Kf (N:=24) Tryz.func124 ?_
 exact Cy
theorem Ax(n lo hi:Int):Pure Tryz.prog 63 [.int .i64 n,.int .i64 lo,.int .i64 hi] (.bool (iq n lo hi)):=by
 refine Kf (N:=15) Tryz.func63 ?_
 exact C9
theorem qO(a b lo hi:Int):Pure Tryz.prog 64 [.agg [.int .i64 a,.int .i64 b],.int .i64 lo,.int .i64 hi] (.bool (OO a b lo hi)):=by
 refine Kf (N:=24) Tryz.func64 ?_
 exact Cy
theorem JB(d:dw):Pure Tryz.prog 123 [.agg d.cells] (.bool (pO d)):=by
 refine Kf (N:=13) Tryz.func123 ?_
 exact Ct
theorem Ji(d:aH):Pure Tryz.prog 126 [.agg d.cells] (.bool (qY d)):=by
 refine Kf (N:=13) Tryz.func126 ?_
 exact Ct
theorem uh(xs:List dw)(f:PV)(p:dw->Bool)(hx:xs.length<=b6)(hf:∀ x∈xs,jN Tryz.prog f [.agg x.cells] (.bool (p x))):Pure Tryz.prog 171 [.is (xs.flatMap dw.cells) xs.length,f] (.int .i64 (Ck.iN p xs)):=by
 unfold b6 at hx
 refine Kf (N:=19) Tryz.func171 ?_
 iterate 12 refine af ?_
 refine aF.zg [4,5,8,9,10,11,12,13,14,15,16,17,18] (fun g=>[(8,.p (.int .i64 ((g:Nat):Int)))]) (fun g=>g<=xs.length∧∀ j (hj:j<g) (h:g<=xs.length),p (xs[j]'(by omega))=false) (fun g=>xs.length - g) 0 ⟨Zs _,fun j hj=>absurd hj (by omega)⟩ (Sub.cons rfl (Sub.nil)) (fun i hg=> ?_)
 obtain⟨vt,mF⟩:=hg
 iterate 5 refine af ?_
 refine Ki (fun hc0=> ?_) fun hc0=> ?_
 ·iterate 13 refine af ?_
  refine Kc (aa.j6 rfl rfl rfl an Rj rfl (fun _=>rfl) (by decide) ?_) ?_
  ·simp at hc0;omega
  exact Cf
 ·exact CX
theorem tq(xs:List aH)(f:PV)(p:aH->Bool)(hx:xs.length<=b6)(hf:∀ x∈xs,jN Tryz.prog f [.agg x.cells] (.bool (p x))):Pure Tryz.prog 172 [.is (xs.flatMap aH.cells) xs.length,f] (.int .i64 (Ck.iN p xs)):=by
 unfold b6 at hx
 refine Kf (N:=19) Tryz.func172 ?_
 iterate 12 refine af ?_
 refine aF.zg [4,5,8,9,10,11,12,13,14,15,16,17,18] (fun g=>[(8,.p (.int .i64 ((g:Nat):Int)))]) (fun g=>g<=xs.length∧∀ j (hj:j<g) (h:g<=xs.length),p (xs[j]'(by omega))=false) (fun g=>xs.length - g) 0 ⟨Zs _,fun j hj=>absurd hj (by omega)⟩ (Sub.cons rfl (Sub.nil)) (fun i hg=> ?_)
 obtain⟨vt,mF⟩:=hg
 iterate 5 refine af ?_
 refine Ki (fun hc0=> ?_) fun hc0=> ?_
 ·iterate 13 refine af ?_
  refine Kc (aa.j6 rfl rfl rfl an oQ rfl (fun _=>rfl) (by decide) ?_) ?_
  ·simp at hc0;omega
  exact Cf
 ·exact CX
theorem pS(xs:List dw)(f:PV)(p:dw->Bool)(hx:xs.length<=b6)(hf:∀ x∈xs,jN Tryz.prog f [.agg x.cells] (.bool (p x))):Pure Tryz.prog 125 [.is (xs.flatMap dw.cells) xs.length,f] (.bool (xs.any p)):=by
 refine Kf (N:=9) Tryz.func125 ?_
 iterate 8 refine af ?_
 refine Kc (Kp (uh _ _ p ?_ ?_)) ?_
 ·exact hx
 ·exact hf
 iterate 4 refine af ?_
 refine Fin.fQ rfl rfl ?_
 rw[Ck.kT]
theorem oY(xs:List aH)(f:PV)(p:aH->Bool)(hx:xs.length<=b6)(hf:∀ x∈xs,jN Tryz.prog f [.agg x.cells] (.bool (p x))):Pure Tryz.prog 127 [.is (xs.flatMap aH.cells) xs.length,f] (.bool (xs.any p)):=by
 refine Kf (N:=9) Tryz.func127 ?_
 iterate 8 refine af ?_
 refine Kc (Kp (tq _ _ p ?_ ?_)) ?_
 ·exact hx
 ·exact hf
 iterate 4 refine af ?_
 refine Fin.fQ rfl rfl ?_
 rw[Ck.kT]
theorem mj(p:bn)(hx:p.dies.length<=b6):Pure Tryz.prog 65 [dO p] (.bool (cL p)):=by
 refine Kf (N:=27) Tryz.func65 ?_
 iterate 14 refine af ?_
 refine Kc (Kp (cP _ _ _)) ?_
 refine af ?_
 refine Kg 10 9 1 rfl (fun h=>(aa.fieldAddr rfl rfl an rfl)) ?_
 refine Kh 11 9 10 rfl rfl rfl rfl (fun h=>(aa.load rfl rfl an rfl)) ?_
 refine Kh 12 9 11 rfl rfl rfl rfl (fun h=>(Kp (cP _ _ _))) ?_
 refine Kc (aa.fH rfl rfl rfl ?_) ?_
 ·exact az
 iterate 6 refine af ?_
 refine Kg 16 15 1 rfl (fun h=>(aa.fieldAddr rfl rfl an rfl)) ?_
 refine Kh 17 15 16 rfl rfl rfl rfl (fun h=>(aa.load rfl rfl an rfl)) ?_
 refine Kh 18 15 17 rfl rfl rfl rfl (fun h=>(Kp (iA _ _ _ _))) ?_
 refine Kc (aa.fH rfl rfl rfl ?_) ?_
 ·exact az
 refine af ?_
 refine Kg 21 20 1 rfl (fun h=>(aa.fieldAddr rfl rfl an rfl)) ?_
 refine Kh 22 20 21 rfl rfl rfl rfl (fun h=>(aa.load rfl rfl an rfl)) ?_
 refine Kg 23 20 3 rfl (fun h=>(aa.move rfl rfl)) ?_
 refine aj.g 24 20 rfl rfl rfl rfl rfl rfl rfl [(22,_),(23,_)] (fun h=>And.intro (.inr ⟨_,rfl,h⟩) (And.intro (.inr ⟨_,rfl,h⟩) (trivial))) (fun h=>(Kp (pS p.dies _ pO ?_ ?_))) ?_
 ·exact hx
 ·exact fun x _=>⟨123,[.agg x.cells],rfl,an,JB x⟩
 refine Kh 25 20 24 rfl rfl rfl rfl (fun h=>(aa.gr rfl rfl)) ?_
 refine Kc (aa.fH rfl rfl rfl ?_) ?_
 ·exact az
 exact gS
theorem nQ(l:List aH)(hx:l.length<=b6):Pure Tryz.prog 66 [cv l] (.bool (cG l)):=by
 refine Kf (N:=13) Tryz.func66 ?_
 iterate 14 refine af ?_
 refine Kg 8 7 0 rfl (fun h=>(aa.move rfl rfl)) ?_
 refine Kg 9 7 3 rfl (fun h=>(aa.move rfl rfl)) ?_
 refine aj.g 10 7 rfl rfl rfl rfl rfl rfl rfl [(8,_),(9,_)] (fun h=>And.intro (.inr ⟨_,rfl,h⟩) (And.intro (.inr ⟨_,rfl,h⟩) (trivial))) (fun h=>(Kp (oY l _ qY ?_ ?_))) ?_
 ·exact hx
 ·exact fun x _=>⟨126,[.agg x.cells],rfl,an,Ji x⟩
 refine Kh 11 7 10 rfl rfl rfl rfl (fun h=>(aa.gr rfl rfl)) ?_
 refine Kc (aa.fH rfl rfl rfl ?_) ?_
 ·exact az
 exact gS
theorem sS(p:bn)(hx:p.dies.length<=b6):Pure Tryz.prog 25 [dO p] (.bool (cL p)):=by
 have hx2:=hx
 unfold b6 at hx2
 refine Kf (N:=43) Tryz.func25 ?_
 iterate 11 refine af ?_
 refine aF.FY [1,29,30,31,32,33,34,35,36,37,38,39,40,41,42] (fun g=>[(3,.p (.int .i64 ((g:Nat):Int)))]) (fun g=>g<=p.dies.length∧∀ j (hj:j<g) (h:g<=p.dies.length),pO (p.dies[j]'(by omega))=false) (fun g=>p.dies.length - g) 0 ⟨Zs _,fun j hj=>absurd hj (by omega)⟩ (Sub.cons rfl (Sub.nil)) (fun i hg=> ?_)
 obtain⟨vt,mF⟩:=hg
 iterate 9 refine af ?_
 refine Ki (fun hc0=> ?_) fun hc0=> ?_
 ·have hk0:i<p.dies.length:=by have h:(i:Int)<(p.dies.length:Int):=Zk hc0;omega
  iterate 8 refine af ?_
  refine Kc (aa.aN (g:=gt dw.d p.dies) (aC _) rfl rfl rfl an Rj rfl (fun _=>rfl) (by decide) hk0) ?_
  refine af ?_
  refine Kc (Kl (.p (.int .i64 (gt dw.d p.dies i).wide))) ?_
  refine Kc (Kp (Ax _ _ _)) ?_
  iterate 2 refine af ?_
  refine Kg 20 19 1 rfl (fun h=>(aa.fieldAddr rfl rfl an rfl)) ?_
  refine Kh 21 19 20 rfl rfl rfl rfl (fun h=>(aa.load rfl rfl an rfl)) ?_
  refine Kg 22 19 3 rfl (fun h=>(aa.move rfl rfl)) ?_
  refine aj.g 23 19 rfl rfl rfl rfl rfl rfl rfl [(21,_),(22,_)] (fun h=>And.intro (.inr ⟨_,rfl,h⟩) (And.intro (.inr ⟨_,rfl,h⟩) (trivial))) (fun h=>(aa.aN (g:=gt dw.d p.dies) (aC _) rfl rfl rfl an Rj rfl (fun _=>rfl) (by decide) hk0)) ?_
  refine Kh 24 19 23 rfl rfl rfl rfl (fun h=>(aa.fieldAddr rfl rfl an rfl)) ?_
  refine Kh 25 19 24 rfl rfl rfl rfl (fun h=>(Kl (.p (.agg [.int .i64 (gt dw.d p.dies i).lo,.int .i64 (gt dw.d p.dies i).hi])))) ?_
  refine Kh 26 19 25 rfl rfl rfl rfl (fun h=>(Kp (qO _ _ _ _))) ?_
  refine Kh 27 19 26 rfl rfl rfl rfl (fun h=>(aa.gr rfl rfl)) ?_
  refine Kc (aa.mG rfl rfl rfl ?_) ?_
  ·exact az
  refine af ?_
  refine Ki (fun cR=> ?_) fun cR=> ?_
  ·have Wf:p.dies.any pO=true:=Ck.GG hk0 (by rw[aC dw.d i hk0];exact cR)
   iterate 5 refine af ?_
   refine Fin.fQ rfl rfl ?_
   unfold cL
   rw[Wf]
   simp
  ·have Wf:pO p.dies[i]=false:=by rw[aC dw.d i hk0];exact cR
   exact B7
 ·have hi2:i=p.dies.length:=by have h:¬ ((i:Int)<(p.dies.length:Int)):=Zl hc0;omega
  have hno:p.dies.any pO=false:=Ck.any_none (fun j hj=>mF j (by omega) vt)
  refine aF.exit ?_
  iterate 5 refine af ?_
  refine Kc (Kp (Ax _ _ _)) ?_
  refine af ?_
  refine Kg 34 33 1 rfl (fun h=>(aa.fieldAddr rfl rfl an rfl)) ?_
  refine Kh 35 33 34 rfl rfl rfl rfl (fun h=>(aa.load rfl rfl an rfl)) ?_
  refine Kh 36 33 35 rfl rfl rfl rfl (fun h=>(Kp (qO _ _ _ _))) ?_
  refine Kc (aa.fH rfl rfl rfl ?_) ?_
  ·exact az
  refine af ?_
  refine Kg 39 38 1 rfl (fun h=>(aa.fieldAddr rfl rfl an rfl)) ?_
  refine Kh 40 38 39 rfl rfl rfl rfl (fun h=>(aa.load rfl rfl an rfl)) ?_
  refine Kh 41 38 40 rfl rfl rfl rfl (fun h=>(Kp (Ax _ _ _))) ?_
  refine Kc (aa.fH rfl rfl rfl ?_) ?_
  ·exact az
  iterate 3 refine af ?_
  refine Fin.fQ rfl rfl ?_
  unfold cL
  rw[hno]
  cases iq _ _ _ <;> cases iq _ _ _ <;> cases OO _ _ _ _ <;> rfl
theorem tu(l:List aH)(hx:l.length<=b6):Pure Tryz.prog 26 [cv l] (.bool (cG l)):=by
 have hx2:=hx
 unfold b6 at hx2
 refine Kf (N:=29) Tryz.func26 ?_
 iterate 10 refine af ?_
 refine aF.FY [0,26,27,28] (fun g=>[(3,.p (.int .i64 ((g:Nat):Int)))]) (fun g=>g<=l.length∧∀ j (hj:j<g) (h:g<=l.length),qY (l[j]'(by omega))=false) (fun g=>l.length - g) 0 ⟨Zs _,fun j hj=>absurd hj (by omega)⟩ (Sub.cons rfl (Sub.nil)) (fun i hg=> ?_)
 obtain⟨vt,mF⟩:=hg
 iterate 8 refine af ?_
 refine Ki (fun hc0=> ?_) fun hc0=> ?_
 ·have hk0:i<l.length:=by have h:(i:Int)<(l.length:Int):=Zk hc0;omega
  iterate 7 refine af ?_
  refine Kc (aa.aN (g:=gt aH.d l) (aC _) rfl rfl rfl an oQ rfl (fun _=>rfl) (by decide) hk0) ?_
  refine af ?_
  refine Kc (Kl (.p (.int .i64 (gt aH.d l i).len))) ?_
  refine Kc (Kp (Ax _ _ _)) ?_
  iterate 2 refine af ?_
  refine Kg 18 17 0 rfl (fun h=>(aa.move rfl rfl)) ?_
  refine Kg 19 17 3 rfl (fun h=>(aa.move rfl rfl)) ?_
  refine aj.g 20 17 rfl rfl rfl rfl rfl rfl rfl [(18,_),(19,_)] (fun h=>And.intro (.inr ⟨_,rfl,h⟩) (And.intro (.inr ⟨_,rfl,h⟩) (trivial))) (fun h=>(aa.aN (g:=gt aH.d l) (aC _) rfl rfl rfl an oQ rfl (fun _=>rfl) (by decide) hk0)) ?_
  refine Kh 21 17 20 rfl rfl rfl rfl (fun h=>(aa.fieldAddr rfl rfl an rfl)) ?_
  refine Kh 22 17 21 rfl rfl rfl rfl (fun h=>(Kl (.p (.agg [.int .i64 (gt aH.d l i).lo,.int .i64 (gt aH.d l i).hi])))) ?_
  refine Kh 23 17 22 rfl rfl rfl rfl (fun h=>(Kp (qO _ _ _ _))) ?_
  refine Kh 24 17 23 rfl rfl rfl rfl (fun h=>(aa.gr rfl rfl)) ?_
  refine Kc (aa.mG rfl rfl rfl ?_) ?_
  ·exact az
  refine af ?_
  refine Ki (fun cR=> ?_) fun cR=> ?_
  ·have Wf:l.any qY=true:=Ck.GG hk0 (by rw[aC aH.d i hk0];exact cR)
   iterate 5 refine af ?_
   refine Fin.fQ rfl rfl ?_
   unfold cG
   rw[Wf]
   simp
  ·have Wf:qY l[i]=false:=by rw[aC aH.d i hk0];exact cR
   exact B7
 ·have hi2:i=l.length:=by have h:¬ ((i:Int)<(l.length:Int)):=Zl hc0;omega
  have hno:l.any qY=false:=Ck.any_none (fun j hj=>mF j (by omega) vt)
  refine aF.exit ?_
  iterate 8 refine af ?_
  refine Fin.fQ rfl rfl ?_
  unfold cG
  rw[hno]
  simp
theorem DM(p:bn)(d:dw)(u:Int)(hs:0<=p.Fw∧p.Fw<=p.GK∧p.GK<=300)(hd:pO d=false)(hu:0<=u∧u<=9000):Pure Tryz.prog 128 [.int .i64 u,.ip (Pk p d) 0] (.int .i64 (thin p d u)):=by
 obtain⟨hw,h1,h2,h3⟩:=oL hd
 obtain⟨b1,b2,b3,b4⟩:=sN (a:=d.wide) (b:=d.lo) (u:=u) (s:=p.GK) hw (by omega) hu (by omega)
 refine Kf (N:=19) Tryz.func128 ?_
 exact B0
theorem E0(p:bn)(d:dw)(u:Int)(hs:0<=p.Fw∧p.Fw<=p.GK∧p.GK<=300)(hd:pO d=false)(hu:0<=u∧u<=9000):Pure Tryz.prog 129 [.int .i64 u,.ip (Pk p d) 0] (.int .i64 (jX p d u)):=by
 obtain⟨hw,h1,h2,h3⟩:=oL hd
 obtain⟨b1,b2,b3,b4⟩:=sN (a:=d.wide) (b:=d.hi) (u:=u) (s:=p.Fw) hw (by omega) hu (by omega)
 refine Kf (N:=19) Tryz.func129 ?_
 exact B0
theorem Ie(p:bn)(d:dw):Pure Tryz.prog 74 [.agg (Pk p d)] (.agg [.func (.func 128) [] [.ip (Pk p d) 0],.func (.func 129) [] [.ip (Pk p d) 0]]):=by
 refine Kf (N:=6) Tryz.func74 ?_
 iterate 7 refine af ?_
 refine Kc (aa.makeFunc rfl rfl rfl) ?_
 refine Kc (aa.makeFunc rfl rfl rfl) ?_
 iterate 4 refine af ?_
 exact uW
theorem DZ(p:bn)(j:Nat)(hj:j<p.dies.length):Pure Tryz.prog 68 [dO p,.int .i64 (j:Int)] (.agg (Pk p (gt dw.d p.dies j))):=by
 refine Kf (N:=13) Tryz.func68 ?_
 iterate 6 refine af ?_
 refine aF.aD 8 mixed (by kernel_rfl) (by decide) ?_
 iterate 3 refine af ?_
 refine Kq (aa.aN (g:=gt dw.d p.dies) (aC _) rfl rfl rfl an Rj rfl (fun _=>rfl) (by decide) hj) ?_
 refine Kq (Kl (.p (.agg (gt dw.d p.dies j).cells))) ?_
 iterate 2 refine af ?_
 refine Kq (aa.build rfl an rfl rfl) ?_
 refine aA.nil ?_
 refine Kz (aa.store (H':=[.cells ((Pk p (gt dw.d p.dies j)).map .p) 137]) rfl rfl rfl rfl rfl an rfl rfl) ?_
 iterate 2 refine af ?_
 exact uW
theorem sI(p:bn)(j:Int)(hj:j.toNat<p.dies.length)(h0:0<=j):Pure Tryz.prog 68 [dO p,.int .i64 j] (.agg (Pk p (gt dw.d p.dies j.toNat))):=by
 have h:=DZ p j.toNat hj
 rwa [V7 h0] at h
theorem AT(p:bn)(d:dw)(a b:Int)(w:aH)(hs:0<=p.Fw∧p.Fw<=p.GK∧p.GK<=300)(hd:pO d=false)(ha:0<=a∧a<=9000)(hb:0<=b∧b<=9000)(hw:qY w=false):Pure Tryz.prog 69 [.agg (Pk p d),.int .i64 a,.int .i64 b,.agg [.int .i64 w.lo,.int .i64 w.hi]] (.bool (decide (1000*w.lo<=thin p d a)&&decide (jX p d b<=1000*w.hi))):=by
 obtain⟨_,k1,k2,k3⟩:=jh hw
 refine Kf (N:=30) Tryz.func69 ?_
 iterate 9 refine af ?_
 refine Kc (Kp (Ie p d)) ?_
 iterate 4 refine af ?_
 refine aF.aD 19 mixed (by kernel_rfl) (by decide) ?_
 refine Kq (aa.kR rfl rfl rfl HF HY (by omega) (by omega) rfl) ?_
 iterate 2 refine af ?_
 refine Kq (aa.eY (DM p d a hs hd ha) rfl rfl rfl rfl (an)) ?_
 iterate 2 refine af ?_
 refine Kq (aa.mul rfl rfl rfl (aK ?_)) ?_
 ·omega
 refine Kq (aa.geq rfl rfl rfl) ?_
 refine af ?_
 refine aA.guard 21 20 rfl rfl rfl rfl rfl rfl rfl [(9,_)] (fun h=>And.intro (.inl rfl) (trivial)) (fun h=>(aa.kR rfl rfl rfl HF HY (by omega) (by omega) rfl)) ?_
 refine aA.guard 22 20 rfl rfl rfl rfl rfl rfl rfl [(21,_)] (fun h=>And.intro (.inr ⟨_,rfl,h⟩) (trivial)) (fun h=>(aa.load rfl rfl an rfl)) ?_
 refine aA.guard 23 20 rfl rfl rfl rfl rfl rfl rfl [(2,_)] (fun h=>And.intro (.inl rfl) (trivial)) (fun h=>(aa.move rfl rfl)) ?_
 refine aA.guard 24 20 rfl rfl rfl rfl rfl rfl rfl [(22,_),(23,_)] (fun h=>And.intro (.inr ⟨_,rfl,h⟩) (And.intro (.inr ⟨_,rfl,h⟩) (trivial))) (fun h=>(aa.eY (E0 p d b hs hd hb) rfl rfl rfl rfl (an))) ?_
 refine aA.guard 25 20 rfl rfl rfl rfl rfl rfl rfl [(7,_)] (fun h=>And.intro (.inl rfl) (trivial)) (fun h=>(aa.fieldAddr rfl rfl an rfl)) ?_
 refine aA.guard 26 20 rfl rfl rfl rfl rfl rfl rfl [(25,_)] (fun h=>And.intro (.inr ⟨_,rfl,h⟩) (trivial)) (fun h=>(aa.load rfl rfl an rfl)) ?_
 refine aA.guard 27 20 rfl rfl rfl rfl rfl rfl rfl [(26,_)] (fun h=>And.intro (.inr ⟨_,rfl,h⟩) (trivial)) (fun h=>(aa.mul rfl rfl rfl (aK ?_))) ?_
 ·omega
 refine aA.guard 28 20 rfl rfl rfl rfl rfl rfl rfl [(24,_),(27,_)] (fun h=>And.intro (.inr ⟨_,rfl,h⟩) (And.intro (.inr ⟨_,rfl,h⟩) (trivial))) (fun h=>(aa.leq rfl rfl rfl)) ?_
 refine Kq (aa.fH rfl rfl rfl ?_) ?_
 ·exact az
 refine af ?_
 refine aA.nil ?_
 iterate 2 refine af ?_
 exact Fin.fQ rfl rfl rfl
theorem uG(p:bn)(j u:Int)(hp:p.dies.length<=b6):Pure Tryz.prog 31 [dO p,.int .i64 j,.int .i64 u] (.tuple [.agg [.int .i64 (bW p j u).1.1,.int .i64 (bW p j u).1.2],.int .i64 (bW p j u).2]):=by
 have Sa:=hp
 unfold b6 at Sa
 refine Kf (N:=45) Tryz.func31 ?_
 iterate 11 refine af ?_
 refine Kc (Kp (mj p hp)) ?_
 iterate 3 refine af ?_
 refine Ki (fun hc0=> ?_) fun hc0=> ?_
 ·have hv:cL p=false:=by simpa using hc0
  iterate 7 refine af ?_
  refine Fin.ep (xs:=[.agg [.int .i64 0,.int .i64 0],.int .i64 1]) rfl (⟨_,_,rfl,⟨_,_,_,rfl,an,rfl⟩,⟨_,_,rfl,rfl,rfl⟩⟩) rfl ?_
  rw[QL hv]
 ·have hv:cL p=true:=by simpa using hc0
  obtain⟨⟨n1,n4⟩,_,hsh,Pz⟩:=c9 hv
  iterate 6 refine af ?_
  refine Kc (aa.iI rfl rfl rfl (aK ?_)) ?_
  ·omega
  refine Kc (Kp (cP _ _ _)) ?_
  iterate 2 refine af ?_
  refine Kg 23 22 2 rfl (fun h=>(aa.move rfl rfl)) ?_
  refine Kh 24 22 23 rfl rfl rfl rfl (fun h=>(Kp (cP _ _ _))) ?_
  refine Kh 25 22 24 rfl rfl rfl rfl (fun h=>(aa.gr rfl rfl)) ?_
  refine Kc (aa.mG rfl rfl rfl ?_) ?_
  ·exact az
  iterate 2 refine af ?_
  refine Ki (fun cR=> ?_) fun cR=> ?_
  ·iterate 7 refine af ?_
   refine Fin.ep (xs:=[.agg [.int .i64 0,.int .i64 0],.int .i64 2]) rfl (⟨_,_,rfl,⟨_,_,_,rfl,an,rfl⟩,⟨_,_,rfl,rfl,rfl⟩⟩) rfl ?_
   rw[Rz hv (by assumption)]
  ·have hj:iq j 0 ((p.dies.length:Int) - 1)=true∧iq u 0 8000=true:=by simpa using cR
   obtain⟨j0,j1⟩:=fq hj.1
   obtain⟨u0,u1⟩:=fq hj.2
   have hjl:j.toNat<p.dies.length:=by omega
   obtain⟨q,hq⟩:∃ q:Nat,j=(q:Int):=⟨_,(V7 j0).symm⟩
   have S7:=Pz _ (bC dw.d hjl)
   obtain⟨w1,w2,w3,w4⟩:=oL S7
   obtain⟨_,_,e1,e2⟩:=sN (a:=(gt dw.d p.dies j.toNat).wide) (b:=(gt dw.d p.dies j.toNat).lo) (u:=u) (s:=p.GK) w1 (by omega) (by omega) (by omega)
   obtain⟨_,_,e3,e4⟩:=sN (a:=(gt dw.d p.dies j.toNat).wide) (b:=(gt dw.d p.dies j.toNat).hi) (u:=u) (s:=p.Fw) w1 (by omega) (by omega) (by omega)
   have e1:0<=thin p (gt dw.d p.dies j.toNat) u:=e1
   have e2:thin p (gt dw.d p.dies j.toNat) u<=1820000000:=e2
   have e3:0<=jX p (gt dw.d p.dies j.toNat) u:=e3
   have e4:jX p (gt dw.d p.dies j.toNat) u<=1820000000:=e4
   skip
   iterate 5 refine af ?_
   refine Kc (Kp (sI p j hjl j0)) ?_
   refine Kc (Kp (Ie p (gt dw.d p.dies j.toNat))) ?_
   iterate 4 refine af ?_
   refine aF.aD 13 mixed (by kernel_rfl) (by decide) ?_
   refine Kq (aa.kR rfl rfl rfl HF HY (by omega) (by omega) rfl) ?_
   iterate 2 refine af ?_
   refine Kq (aa.eY (DM p (gt dw.d p.dies j.toNat) u hsh S7 (by omega)) rfl rfl rfl rfl (an)) ?_
   refine Kq (aa.quo (m:=(thin p (gt dw.d p.dies j.toNat) u / 1000)) rfl rfl rfl (by decide) ((aK (by rw[Zbw (by omega)];omega)).trans (Zbw (by omega)))) ?_
   refine Kq (aa.kR rfl rfl rfl HF HY (by omega) (by omega) rfl) ?_
   iterate 2 refine af ?_
   refine Kq (aa.eY (E0 p (gt dw.d p.dies j.toNat) u hsh S7 (by omega)) rfl rfl rfl rfl (an)) ?_
   refine Kq (aa.add rfl rfl rfl (aK ?_)) ?_
   ·omega
   refine Kq (aa.iI (m:=(jX p (gt dw.d p.dies j.toNat) u+999)) rfl rfl rfl ((aK ?_).trans ?_)) ?_
   ·omega
   ·omega
   refine Kq (aa.quo (m:=((jX p (gt dw.d p.dies j.toNat) u+999) / 1000)) rfl rfl rfl (by decide) ((aK (by rw[Zbw (by omega)];omega)).trans (Zbw (by omega)))) ?_
   refine Kq (aa.build rfl an rfl rfl) ?_
   refine aA.nil ?_
   iterate 4 refine af ?_
   refine Fin.ep (xs:=[.agg [.int .i64 (thin p (gt dw.d p.dies j.toNat) u / 1000),.int .i64 ((jX p (gt dw.d p.dies j.toNat) u+999) / 1000)],.int .i64 0]) rfl (⟨_,_,rfl,⟨_,_,_,rfl,an,rfl⟩,⟨_,_,rfl,rfl,rfl⟩⟩) rfl ?_
   rw[DF hv (by assumption)]
theorem oq(p:bn)(l:List aH)(plan:List Int)(hp:p.dies.length<=b6)(hl:l.length<=b6)(hn:plan.length<=b6):Pure Tryz.prog 29 [dO p,cv l,bw plan] (.tuple [XD (eC p l plan).1,.int .i64 (eC p l plan).2.1,.int .i64 (eC p l plan).2.2]):=by
 have Sa:=hp
 have xG:=hl
 have hn2:=hn
 unfold b6 at Sa xG hn2
 refine Kf (N:=93) Tryz.func29 ?_
 iterate 12 refine af ?_
 refine Kc (Kp (mj p hp)) ?_
 iterate 3 refine af ?_
 refine Ki (fun hc0=> ?_) fun hc0=> ?_
 ·have hv:cL p=false:=by simpa using hc0
  iterate 7 refine af ?_
  refine Fin.ep (xs:=[.nilSlice,.int .i64 0,.int .i64 1]) rfl ⟨_,_,rfl,rfl,⟨_,_,rfl,rfl,⟨_,_,rfl,rfl,rfl⟩⟩⟩ rfl ?_
  rw[FB hv]
  rfl
 ·have hv:cL p=true:=by simpa using hc0
  obtain⟨⟨n1,n4⟩,_,hsh,Pz⟩:=c9 hv
  iterate 3 refine af ?_
  refine Kc (Kp (nQ l hl)) ?_
  iterate 3 refine af ?_
  refine Ki (fun cR=> ?_) fun cR=> ?_
  ·have hd:cG l=false:=by simpa using cR
   iterate 7 refine af ?_
   refine Fin.ep (xs:=[.nilSlice,.int .i64 0,.int .i64 2]) rfl ⟨_,_,rfl,rfl,⟨_,_,rfl,rfl,⟨_,_,rfl,rfl,rfl⟩⟩⟩ rfl ?_
   rw[Of hv hd]
   rfl
  ·have hd:cG l=true:=by simpa using cR
   obtain⟨hl8,O4⟩:=dh hd
   iterate 6 refine af ?_
   refine Kc (aa.makeSlice (n:=p.dies.length) (c:=p.dies.length) rfl rfl rfl an an (by decide) (Zf _) (by show 8*p.dies.length<=281474976710656;omega)) ?_
   iterate 4 refine af ?_
   rw[HT]
   refine aF.norm [0] [(1,_),(2,_),(3,_),(6,.row 0 p.dies.length)] [.row (((List.replicate p.dies.length 0).flatMap bY).map .p) 3] rfl KS (by show[ah.row (bA _ (List.map V.p _)) _]=_;rw[aP]) ?_
   iterate 6 refine af ?_
   refine aF.fE [1,2,3,24,25,83,84,85,86,87,88,89,90,91,92] (fun g=>[(26,.p (.int .i64 ((g.1:Nat):Int))),(6,.row 0 p.dies.length)]) (fun g=>[.row ((g.2.flatMap bY).map .p) 3]) (fun g=>g.1<=l.length∧Br p g.2 (1000*(g.1:Int))∧eX p plan 0 (List.replicate p.dies.length 0) l=eX p plan g.1 g.2 (l.drop g.1)) (fun g=>l.length - g.1) (0,List.replicate p.dies.length 0) ⟨Zs _,RN p,rfl⟩ (To.sub (Sub.Jw (Sub.cons rfl (Sub.cons rfl (Sub.nil))))) (fun g hg=> ?_)
   obtain⟨i,u⟩:=g
   obtain⟨vt,mF,G5⟩:=hg
   dsimp only at vt mF G5 ⊢
   have Xi:=mF.1
   iterate 5 refine af ?_
   refine Ki (fun jR=> ?_) fun jR=> ?_
   ·have hk0:i<l.length:=by have h:(i:Int)<(l.length:Int):=Zk jR;omega
    have hW:=jh (O4 _ (bC aH.d hk0))
    iterate 6 refine af ?_
    refine Kc (aa.aN (g:=gt aH.d l) (aC _) rfl rfl rfl an oQ rfl (fun _=>rfl) (by decide) hk0) ?_
    refine Kc (Kl (.p (.agg (gt aH.d l i).cells))) ?_
    iterate 2 refine af ?_
    refine Kz (aa.store (H':=[.row ((u.flatMap bY).map .p) 3,.cells ((gt aH.d l i).cells.map .p) 74]) rfl rfl rfl rfl rfl an rfl rfl) ?_
    iterate 11 refine af ?_
    refine Ki (fun pG=> ?_) fun pG=> ?_
    ·have hpl:(plan.length:Int)<=(i:Int):=Zk pG
     iterate 8 refine af ?_
     refine Fin.ep (xs:=[.nilSlice,.int .i64 (i:Int),.int .i64 4]) rfl ⟨_,_,rfl,rfl,⟨_,_,rfl,rfl,⟨_,_,rfl,rfl,rfl⟩⟩⟩ rfl ?_
     rw[gG hv hd,G5,Sx hk0 hpl]
     rfl
    ·have hpl:¬ (plan.length:Int)<=(i:Int):=Zl pG
     have Ui:i<plan.length:=by omega
     refine af ?_
     refine aF.aD 11 mixed (by kernel_rfl) (by decide) ?_
     iterate 2 refine af ?_
     refine Kq (aa.aN (g:=gt 0 plan) (aC _) rfl rfl rfl an dH rfl (fun _=>rfl) (by decide) Ui) ?_
     refine Kq (Kl (.p (.int .i64 (gt 0 plan i)))) ?_
     iterate 2 refine af ?_
     refine Kq (aa.bq rfl rfl an rfl) ?_
     refine Kq (aa.iI rfl rfl rfl (aK ?_)) ?_
     ·omega
     refine Kq (Kp (cP _ _ _)) ?_
     refine Kq (aa.gr rfl rfl) ?_
     refine af ?_
     refine aA.nil ?_
     refine af ?_
     refine Ki (fun xM=> ?_) fun xM=> ?_
     ·have hin:iq (gt 0 plan i) 0 ((p.dies.length:Int) - 1)=false:=by simpa using xM
      iterate 8 refine af ?_
      refine Fin.ep (xs:=[.nilSlice,.int .i64 (i:Int),.int .i64 2]) rfl ⟨_,_,rfl,rfl,⟨_,_,rfl,rfl,⟨_,_,rfl,rfl,rfl⟩⟩⟩ rfl ?_
      rw[gG hv hd,G5,Su hk0 hpl hin]
      rfl
     ·have hin:iq (gt 0 plan i) 0 ((p.dies.length:Int) - 1)=true:=by simpa using xM
      obtain⟨XK,hq1⟩:=fq hin
      have hq:(gt 0 plan i).toNat<p.dies.length:=by omega
      have GZ:(gt 0 plan i).toNat<u.length:=by omega
      have hud:=mF.2 _ GZ
      have S7:=Pz _ (bC dw.d hq)
      iterate 6 refine af ?_
      refine Kc (aa.aN (g:=gt 0 plan) (aC _) rfl rfl rfl an dH rfl (fun _=>rfl) (by decide) Ui) ?_
      refine Kc (Kl (.p (.int .i64 (gt 0 plan i)))) ?_
      refine Kc (aa.lC rfl rfl rfl an dH XK (by omega)) ?_
      iterate 4 refine af ?_
      refine aF.aD 19 mixed (by kernel_rfl) (by decide) ?_
      iterate 3 refine af ?_
      refine Kq (aa.aN (g:=gt 0 plan) (aC _) rfl rfl rfl an dH rfl (fun _=>rfl) (by decide) Ui) ?_
      refine Kq (Kl (.p (.int .i64 (gt 0 plan i)))) ?_
      refine Kq (Kp (sI p (gt 0 plan i) hq XK)) ?_
      refine af ?_
      refine Kq (aa.nilCheck rfl rfl) ?_
      refine Kq (aa.kY (f:=bY) (c:=1) (k:=(gt 0 plan i).toNat) (j:=0) (xs:=u) rfl rfl an rfl rfl (by omega) (fun _=>rfl) GZ (by decide) (show _=PV.int .i64 (gt 0 u (gt 0 plan i).toNat) from by rw[aC 0 _ GZ];rfl)) ?_
      refine af ?_
      refine Kq (aa.nilCheck rfl rfl) ?_
      refine Kq (aa.kY (f:=bY) (c:=1) (k:=(gt 0 plan i).toNat) (j:=0) (xs:=u) rfl rfl an rfl rfl (by omega) (fun _=>rfl) GZ (by decide) (show _=PV.int .i64 (gt 0 u (gt 0 plan i).toNat) from by rw[aC 0 _ GZ];rfl)) ?_
      iterate 2 refine af ?_
      refine Kq (aa.add (m:=(gt 0 u (gt 0 plan i).toNat+(gt aH.d l i).len)) rfl rfl rfl ((aK ?_).trans ?_)) ?_
      ·omega
      ·rfl
      iterate 2 refine af ?_
      refine Kq (Kp (AT p (gt dw.d p.dies (gt 0 plan i).toNat) (gt 0 u (gt 0 plan i).toNat) ((gt 0 u (gt 0 plan i).toNat)+(gt aH.d l i).len) (gt aH.d l i) hsh S7 (by omega) (by omega) (O4 _ (bC aH.d hk0)))) ?_
      refine Kq (aa.gr rfl rfl) ?_
      refine aA.nil ?_
      refine af ?_
      refine Ki (fun Aq=> ?_) fun Aq=> ?_
      ·have Q3:nX p (gt dw.d p.dies (gt 0 plan i).toNat) (gt 0 u (gt 0 plan i).toNat) (gt aH.d l i)=false:=by first | simpa only[F5] using Aq | (unfold nX;simpa only[F5] using Aq)
       iterate 8 refine af ?_
       refine Fin.ep (xs:=[.nilSlice,.int .i64 (i:Int),.int .i64 11]) rfl ⟨_,_,rfl,rfl,⟨_,_,rfl,rfl,⟨_,_,rfl,rfl,rfl⟩⟩⟩ rfl ?_
       rw[gG hv hd,G5,OE hk0 hpl hin Q3]
       rfl
      ·exact BT
   ·have hi2:i=l.length:=by have h:¬ ((i:Int)<(l.length:Int)):=Zl jR;omega
    subst hi2
    refine aF.exit ?_
    iterate 9 refine af ?_
    refine Ki (fun zp=> ?_) fun zp=> ?_
    ·have hlt:(l.length:Int)<(plan.length:Int):=Zk zp
     iterate 9 refine af ?_
     refine Fin.ep (xs:=[.nilSlice,.int .i64 (l.length:Int),.int .i64 2]) rfl ⟨_,_,rfl,rfl,⟨_,_,rfl,rfl,⟨_,_,rfl,rfl,rfl⟩⟩⟩ rfl ?_
     rw[gG hv hd,G5,Bd hlt]
     rfl
    ·have hlt:¬ (l.length:Int)<(plan.length:Int):=Zl zp
     refine aF.freeze 0 rfl (iE _) ?_
     iterate 11 refine af ?_
     skip
     refine Fin.ep (xs:=[(.is (u.flatMap bY) p.dies.length),.int .i64 (l.length:Int),.int .i64 0]) rfl ⟨_,_,rfl,rfl,⟨_,_,rfl,rfl,⟨_,_,rfl,rfl,rfl⟩⟩⟩ rfl ?_
     rw[gG hv hd,G5,Mv hlt]
     show[PV.is _ _,_,_]=[PV.is _ _,_,_]
     rw[Xi]
end Go.Proofs.YtibffijhebobmaaGreatDoor.Di
end
