/-
 Chapter 4: dies, draws and plans as plain data; what is valid; how wide leads are; how a plan is followed.
 Chapter 4: the steps by which a plan is followed.
 Chapter 4: what is valid.
 Chapter 4: how wide leads are; how a plan is followed.
 The reference of chapter 4.
-/
import Derived.Test.YtibffijhebobmaaGreatDoorFaUE
import Derived.Test.YtibffijhebobmaaGreatDoorPmU
import Derived.Test.YtibffijhebobmaaGreatDoorMzUF
import Derived.Test.YtibffijhebobmaaGreatDoorMzUC
import Derived.Test.YtibffijhebobmaaGreatDoorMzUZ
theorem EM{A:Prop}(h:A:=by
 iterate 12 refine af ?_
 refine Kg 12 11 3 rfl (fun h=>(aa.fieldAddr rfl rfl an rfl)) ?_
 refine Kh 13 11 12 rfl rfl rfl rfl (fun h=>(aa.load rfl rfl an rfl)) ?_
 refine Kg 14 11 3 rfl (fun h=>(aa.fieldAddr rfl rfl an rfl)) ?_
 refine Kh 15 11 14 rfl rfl rfl rfl (fun h=>(aa.load rfl rfl an rfl)) ?_
 refine aj.g 16 11 rfl rfl rfl rfl rfl rfl rfl [(13,_),(15,_)] (fun h=>And.intro (.inr ⟨_,rfl,h⟩) (And.intro (.inr ⟨_,rfl,h⟩) (trivial))) (fun h=>(aa.leq rfl rfl rfl)) ?_
 refine Kc (aa.gG rfl rfl rfl ?_) ?_
 ·exact aC
 refine af ?_
 refine Kg 19 18 3 rfl (fun h=>(aa.fieldAddr rfl rfl an rfl)) ?_
 refine Kh 20 18 19 rfl rfl rfl rfl (fun h=>(aa.load rfl rfl an rfl)) ?_
 refine Kg 21 18 2 rfl (fun h=>(aa.move rfl rfl)) ?_
 refine aj.g 22 18 rfl rfl rfl rfl rfl rfl rfl [(20,_),(21,_)] (fun h=>And.intro (.inr ⟨_,rfl,h⟩) (And.intro (.inr ⟨_,rfl,h⟩) (trivial))) (fun h=>(aa.leq rfl rfl rfl)) ?_
 refine Kc (aa.gG rfl rfl rfl ?_) ?_
 ·exact aC
 exact jx):A:=h
theorem B7{A:Prop}(h:A:=by
 iterate 9 refine af ?_
 refine Kc (Kp (cv _ _ _)) ?_
 iterate 2 refine af ?_
 refine Kg 8 7 1 rfl (fun h=>(aa.fieldAddr rfl rfl an rfl)) ?_
 refine Kh 9 7 8 rfl rfl rfl rfl (fun h=>(aa.load rfl rfl an rfl)) ?_
 refine Kh 10 7 9 rfl rfl rfl rfl (fun h=>(Kp (gE _ _ _ _))) ?_
 refine Kh 11 7 10 rfl rfl rfl rfl (fun h=>(aa.gH rfl rfl)) ?_
 refine Kc (aa.pG rfl rfl rfl ?_) ?_
 ·exact aC
 exact jx):A:=h
theorem AB{A:Prop}(h:A:=by
 iterate 14 refine af ?_
 refine Kc (aa.mul rfl rfl rfl (aG ?_)) ?_
 ·omega
 refine Kc (aa.add rfl rfl rfl (aG ?_)) ?_
 ·omega
 iterate 3 refine af ?_
 refine Kc (aa.fE rfl rfl rfl (aG ?_)) ?_
 ·omega
 refine Kc (aa.mul rfl rfl rfl (aG ?_)) ?_
 ·omega
 exact jx):A:=h
theorem ug{A:Prop}(h:A:=by
 refine Kc (aa.gG rfl rfl rfl ?_) ?_
 ·exact aC
 exact jx):A:=h
theorem CA{A:Prop}(h:A:=by
 refine af ?_
 refine Kc (aa.vZ (hf _ (ZZ _)) rfl rfl rfl) ?_
 refine af ?_
 refine Ki (fun c8=> ?_) fun c8=> ?_
 ·exact LP
 ·exact BK):A:=h
theorem DW{A:Prop}(h:A:=by
 refine aI.exit ?_
 iterate 5 refine af ?_
 refine Fin.gW rfl rfl ?_
 rw[Ck.ku p xs (fun j hj=>mV j (by simp at hc0;omega) xp)]):A:=h
theorem LP{A:Prop}(h:A:=by
 iterate 6 refine af ?_
 refine Fin.gW rfl rfl ?_
 rw[Ck.qu p xs i (by simp at hc0;omega) (fun j hj=>mV j hj xp) c8]):A:=h
set_option linter.unusedSimpArgs false
set_option linter.unusedVariables false
section
namespace Go.Proofs.YtibffijhebobmaaGreatDoor.Di
open Go.AF
def cj:Nat:=9223372036854775807
def gt{α:Type}(d:α)(l:List α)(k:Nat):α:=l.getD k d
theorem aL{α:Type}(d:α){l:List α}:∀ k (h:k<l.length),l[k]=gt d l k:=fun k h=>by
 unfold gt
 exact vE
theorem bH{α:Type}(d:α){l:List α}{k:Nat}(h:k<l.length):gt d l k∈l:=by rw[<- aL d k h];exact ZZ _
structure eB where
 wide:Int
 lo:Int
 hi:Int
 deriving DecidableEq
def eB.cells(d:eB):List PV:=[.int .i64 d.wide,.int .i64 d.lo,.int .i64 d.hi]
def eB.d:eB:=⟨0,0,0⟩
def GM(l:List eB):PV:= .is (l.flatMap eB.cells) l.length
structure bO where
 dies:List eB
 FE:Int
 F9:Int
 change:Int
 deriving DecidableEq
def bO.cells(p:bO):List PV:=[GM p.dies,.int .i64 p.FE,.int .i64 p.F9,.int .i64 p.change]
def ic(p:bO):PV:= .agg p.cells
structure cU where
 len:Int
 lo:Int
 hi:Int
 deriving DecidableEq
def cU.cells(d:cU):List PV:=[.int .i64 d.len,.int .i64 d.lo,.int .i64 d.hi]
def cU.d:cU:=⟨0,0,0⟩
def mg(l:List cU):PV:= .is (l.flatMap cU.cells) l.length
def cK(n:Int):List PV:=[.int .i64 n]
def cg(l:List Int):PV:= .is (l.flatMap cK) l.length
def iR(n lo hi:Int):Bool:=decide (lo<=n)&&decide (n<=hi)
def Q3(a b lo hi:Int):Bool:=decide (lo<=a)&&decide (a<=b)&&decide (b<=hi)
def O6(d:eB):Bool:=iR d.wide 1 20000&&Q3 d.lo d.hi 0 200
def ud(d:eB):Bool:= !iR d.wide 1 20000|| !Q3 d.lo d.hi 0 200
def fQ(p:bO):Bool:=iR p.dies.length 1 4&&iR p.change 0 10000&&Q3 p.FE p.F9 0 300&& !p.dies.any ud
def Qs(d:cU):Bool:=iR d.len 1 1000&&Q3 d.lo d.hi 0 20000
def xC(d:cU):Bool:= !iR d.len 1 1000|| !Q3 d.lo d.hi 0 20000
def mh(l:List cU):Bool:=decide ((l.length:Int)<=8)&& !l.any xC
theorem KG(d:eB):ud d= !O6 d:=by unfold ud O6;rw[Bool.not_and]
theorem KO(d:cU):xC d= !Qs d:=by unfold xC Qs;rw[Bool.not_and]
theorem fz{n lo hi:Int}(h:iR n lo hi=true):lo<=n∧n<=hi:=by
 unfold iR at h;simpa using h
theorem wg{a b lo hi:Int}(h:Q3 a b lo hi=true):lo<=a∧a<=b∧b<=hi:=by
 unfold Q3 at h;simp only[Zk,Zj] at h;exact⟨h.1.1,h.1.2,h.2⟩
theorem oq{d:eB}(h:ud d=false):(1<=d.wide∧d.wide<=20000)∧0<=d.lo∧d.lo<=d.hi∧d.hi<=200:=by
 rw[KG] at h
 have h:O6 d=true:=by simpa using h
 unfold O6 at h
 rw[Zk] at h
 exact⟨fz h.1,wg h.2⟩
theorem oh{d:cU}(h:xC d=false):(1<=d.len∧d.len<=1000)∧0<=d.lo∧d.lo<=d.hi∧d.hi<=20000:=by
 rw[KO] at h
 have h:Qs d=true:=by simpa using h
 unfold Qs at h
 rw[Zk] at h
 exact⟨fz h.1,wg h.2⟩
theorem hO{p:bO}(h:fQ p=true):(1<=p.dies.length∧p.dies.length<=4)∧(0<=p.change∧p.change<=10000)∧(0<=p.FE∧p.FE<=p.F9∧p.F9<=300)∧∀ d∈p.dies,ud d=false:=by
 unfold fQ at h
 simp only[Zk] at h
 obtain⟨⟨⟨h1,h2⟩,h3⟩,h4⟩:=h
 have h1:=fz h1
 refine⟨⟨by omega,by omega⟩,fz h2,wg h3,fun d hd=> ?_⟩
 have h4:p.dies.any ud=false:=by simpa using h4
 have:=Qe.1 h4 d hd
 exact dx
theorem jq{l:List cU}(h:mh l=true):l.length<=8∧∀ d∈l,xC d=false:=by
 unfold mh at h
 simp only[Zk,Zj] at h
 obtain⟨h1,h2⟩:=h
 refine⟨by omega,fun d hd=> ?_⟩
 have h4:l.any xC=false:=by simpa using h2
 have:=Qe.1 h4 d hd
 exact dx
def thin(p:bO)(d:eB)(u:Int):Int:=(d.wide+d.lo*u)*(1000 - p.F9)
def jS(p:bO)(d:eB)(u:Int):Int:=(d.wide+d.hi*u)*(1000 - p.FE)
def zC(p:bO)(d:eB)(u:Int)(w:cU):Bool:=decide (1000*w.lo<=thin p d u)&&decide (jS p d (u+w.len)<=1000*w.hi)
theorem rX{a b u s:Int}(ha:1<=a∧a<=20000)(hb:0<=b∧b<=200)(hu:0<=u∧u<=9000)(hs:0<=s∧s<=300):0<=b*u∧b*u<=1800000∧0<=(a+b*u)*(1000 - s)∧(a+b*u)*(1000 - s)<=1820000000:=by
 have h1:b*u<=200*9000:=Int.mul_le_mul hb.2 hu.2 hu.1 (by omega)
 have h2:0<=b*u:=Int.mul_nonneg hb.1 hu.1
 refine⟨h2,h1,Int.mul_nonneg (by omega) (by omega),?_⟩
 have:(a+b*u)*(1000 - s)<=(20000+200*9000)*1000:=Int.mul_le_mul (by omega) (by omega) (by omega) (by omega)
 omega
def dW(p:bO)(die used:Int):(Int×Int)×Int:=
 if fQ p=false then((0,0),1) else if iR die 0 ((p.dies.length:Int) - 1)=false∨iR used 0 8000=false then((0,0),2) else
  ((thin p (gt eB.d p.dies die.toNat) used / 1000,(jS p (gt eB.d p.dies die.toNat) used+999) / 1000),0)
def fH(p:bO)(plan:List Int):Nat->List Int->List cU->Option (List Int)×Int×Int
 | i,u,[]=>if (i:Int)<(plan.length:Int) then(none,i,2) else(some u,i,0)
 | i,u,w::l=>if (plan.length:Int)<=(i:Int) then(none,i,4) else if iR (gt 0 plan i) 0 ((p.dies.length:Int) - 1)=false then(none,i,2) else
   if zC p (gt eB.d p.dies (gt 0 plan i).toNat) (gt 0 u (gt 0 plan i).toNat) w=false then(none,i,11) else fH p plan (i+1) (u.set (gt 0 plan i).toNat (gt 0 u (gt 0 plan i).toNat+w.len)) l
def fO(p:bO)(l:List cU)(plan:List Int):Option (List Int)×Int×Int:=
 if fQ p=false then(none,0,1) else if mh l=false then(none,0,2) else fH p plan 0 (List.replicate p.dies.length 0) l
def Xv:Option (List Int)->PV
 | none=> .nilSlice
 | some u=>cg u
def QZ(p:bO)(d:eB):List PV:=[.int .i64 d.wide,.int .i64 d.lo,.int .i64 d.hi,.int .i64 p.FE,.int .i64 p.F9]
def AM(p:bO)(u:List Int)(B:Int):Prop:=u.length=p.dies.length∧∀ k,k<u.length->0<=gt 0 u k∧gt 0 u k<=B
theorem E5{u:List Int}{k j:Nat}{x:Int}(hk:k<u.length):gt 0 (u.set k x) j=if j=k then x else gt 0 u j:=by
 unfold gt
 rw[Zf,Zf,Zu]
 by_cases h:k=j
 ·subst h;simp[hk]
 ·rw[if_neg h,if_neg (fun e=>h e.symm)]
theorem Ri(p:bO):AM p (List.replicate p.dies.length 0) (1000*((0:Nat):Int)):=by
 refine⟨UX,fun k hk=> ?_⟩
 unfold gt
 rw[Zf,List.getElem?_replicate]
 split <;> simp
theorem Ic(n:Nat):(List.replicate n [PV.int .i64 0]).flatten=(List.replicate n (0:Int)).flatMap cK:=by
 induction n with
 | zero=>rfl
 | succ n ih=>rw[Vl,Vl,R1,ZL,ih];rfl
theorem L8{p:bO}{u:List Int}{i q:Nat}{x:Int}(h:AM p u (1000*(i:Int)))(hq:q<p.dies.length)(hx:1<=x∧x<=1000):AM p (u.set q (gt 0 u q+x)) (1000*((i+1:Nat):Int)):=by
 obtain⟨h1,h2⟩:=h
 refine⟨by rw[yd];exact h1,fun k hk=> ?_⟩
 rw[yd] at hk
 rw[E5 (by omega)]
 have h3:=h2 q (by omega)
 have h4:=h2 k hk
 split
 ·omega
 ·omega
theorem nZ(l:List cU)(i:Nat)(h:i<l.length):l.drop i=gt cU.d l i::l.drop (i+1):=by
 rw[XN h,aL cU.d i h]
section
variable {p:bO} {l:List cU} {plan u:List Int} {i:Nat}
theorem RT(hk:i<l.length)(hpl:(plan.length:Int)<=(i:Int)):fH p plan i u (l.drop i)=(none,(i:Int),4):=by
 rw[nZ l i hk,fH,if_pos hpl]
theorem RH(hk:i<l.length)(hpl:¬ (plan.length:Int)<=(i:Int))(hin:iR (gt 0 plan i) 0 ((p.dies.length:Int) - 1)=false):fH p plan i u (l.drop i)=(none,(i:Int),2):=by
 rw[nZ l i hk,fH,if_neg hpl,if_pos hin]
theorem Lv(hk:i<l.length)(hpl:¬ (plan.length:Int)<=(i:Int))(hin:iR (gt 0 plan i) 0 ((p.dies.length:Int) - 1)=true)(Q5:zC p (gt eB.d p.dies (gt 0 plan i).toNat) (gt 0 u (gt 0 plan i).toNat) (gt cU.d l i)=false):fH p plan i u (l.drop i)=(none,(i:Int),11):=by
 rw[nZ l i hk,fH,if_neg hpl,if_neg (by rw[hin];decide),if_pos Q5]
theorem LY(hk:i<l.length)(hpl:¬ (plan.length:Int)<=(i:Int))(hin:iR (gt 0 plan i) 0 ((p.dies.length:Int) - 1)=true)(Q5:zC p (gt eB.d p.dies (gt 0 plan i).toNat) (gt 0 u (gt 0 plan i).toNat) (gt cU.d l i)=true):fH p plan i u (l.drop i)=fH p plan (i+1) (u.set (gt 0 plan i).toNat (gt 0 u (gt 0 plan i).toNat+(gt cU.d l i).len)) (l.drop (i+1)):=by
 rw[nZ l i hk,fH,if_neg hpl,if_neg (by rw[hin];decide),if_neg (by rw[Q5];decide)]
theorem B8(h:(l.length:Int)<(plan.length:Int)):fH p plan l.length u (l.drop l.length)=(none,(l.length:Int),2):=by
 rw[List.drop_length,fH,if_pos h]
theorem Nz(h:¬ (l.length:Int)<(plan.length:Int)):fH p plan l.length u (l.drop l.length)=(some u,(l.length:Int),0):=by
 rw[List.drop_length,fH,if_neg h]
theorem FG(h:fQ p=false):fO p l plan=(none,0,1):=by unfold fO;rw[if_pos h]
theorem KI(h:fQ p=true)(h2:mh l=false):fO p l plan=(none,0,2):=by unfold fO;rw[if_neg (by rw[h];decide),if_pos h2]
theorem gw(h:fQ p=true)(h2:mh l=true):fO p l plan=fH p plan 0 (List.replicate p.dies.length 0) l:=by unfold fO;rw[if_neg (by rw[h];decide),if_neg (by rw[h2];decide)]
theorem P0{a b:Int}(h:fQ p=false):dW p a b=((0,0),1):=by unfold dW;rw[if_pos h]
theorem Ql{a b:Int}(h:fQ p=true)(h2:(!iR a 0 ((p.dies.length:Int) - 1)|| !iR b 0 8000)=true):dW p a b=((0,0),2):=by
 unfold dW
 rw[if_neg (by rw[h];decide),if_pos (by simpa using h2)]
theorem DH{a b:Int}(h:fQ p=true)(h2:(!iR a 0 ((p.dies.length:Int) - 1)|| !iR b 0 8000)=false):dW p a b=((thin p (gt eB.d p.dies a.toNat) b / 1000,(jS p (gt eB.d p.dies a.toNat) b+999) / 1000),0):=by
 unfold dW
 rw[if_neg (by rw[h];decide),if_neg (by simpa using h2)]
end
set_option maxRecDepth 100000
set_option maxHeartbeats 4000000
theorem cv(n lo hi:Int):Pure Tryz.prog 73 [.int .i64 n,.int .i64 lo,.int .i64 hi] (.bool (iR n lo hi)):=by
 refine Kf (N:=15) Tryz.func73 ?_
 iterate 10 refine af ?_
 refine Kg 11 10 0 rfl (fun h=>(aa.move rfl rfl)) ?_
 refine Kg 12 10 2 rfl (fun h=>(aa.move rfl rfl)) ?_
 refine aj.g 13 10 rfl rfl rfl rfl rfl rfl rfl [(11,_),(12,_)] (fun h=>And.intro (.inr ⟨_,rfl,h⟩) (And.intro (.inr ⟨_,rfl,h⟩) (trivial))) (fun h=>(aa.leq rfl rfl rfl)) ?_
 exact ug
theorem gE(a b lo hi:Int):Pure Tryz.prog 124 [.agg [.int .i64 a,.int .i64 b],.int .i64 lo,.int .i64 hi] (.bool (Q3 a b lo hi)):=by
 refine Kf (N:=24) Tryz.func124 ?_
 exact EM
theorem qm(a b lo hi:Int):Pure Tryz.prog 64 [.agg [.int .i64 a,.int .i64 b],.int .i64 lo,.int .i64 hi] (.bool (Q3 a b lo hi)):=by
 refine Kf (N:=24) Tryz.func64 ?_
 exact EM
theorem IB(d:eB):Pure Tryz.prog 123 [.agg d.cells] (.bool (ud d)):=by
 refine Kf (N:=13) Tryz.func123 ?_
 exact B7
theorem IT(d:cU):Pure Tryz.prog 126 [.agg d.cells] (.bool (xC d)):=by
 refine Kf (N:=13) Tryz.func126 ?_
 exact B7
theorem tw(xs:List eB)(f:PV)(p:eB->Bool)(hx:xs.length<=cj)(hf:∀ x∈xs,gK Tryz.prog f [.agg x.cells] (.bool (p x))):Pure Tryz.prog 171 [.is (xs.flatMap eB.cells) xs.length,f] (.int .i64 (Ck.iG p xs)):=by
 unfold cj at hx
 refine Kf (N:=19) Tryz.func171 ?_
 iterate 12 refine af ?_
 refine aI.vP [4,5,8,9,10,11,12,13,14,15,16,17,18] (fun g=>[(8,.p (.int .i64 ((g:Nat):Int)))]) (fun g=>g<=xs.length∧∀ j (hj:j<g) (h:g<=xs.length),p (xs[j]'(by omega))=false) (fun g=>xs.length - g) 0 ⟨Zv _,fun j hj=>absurd hj (by omega)⟩ (Sub.cons rfl (Sub.nil)) (fun i hg=> ?_)
 obtain⟨xp,mV⟩:=hg
 iterate 5 refine af ?_
 refine Ki (fun hc0=> ?_) fun hc0=> ?_
 ·iterate 13 refine af ?_
  refine Kc (aa.gQ rfl rfl rfl an V4 rfl (fun _=>rfl) (by decide) ?_) ?_
  ·simp at hc0;omega
  exact CA
 ·exact DW
theorem sQ(xs:List cU)(f:PV)(p:cU->Bool)(hx:xs.length<=cj)(hf:∀ x∈xs,gK Tryz.prog f [.agg x.cells] (.bool (p x))):Pure Tryz.prog 172 [.is (xs.flatMap cU.cells) xs.length,f] (.int .i64 (Ck.iG p xs)):=by
 unfold cj at hx
 refine Kf (N:=19) Tryz.func172 ?_
 iterate 12 refine af ?_
 refine aI.vP [4,5,8,9,10,11,12,13,14,15,16,17,18] (fun g=>[(8,.p (.int .i64 ((g:Nat):Int)))]) (fun g=>g<=xs.length∧∀ j (hj:j<g) (h:g<=xs.length),p (xs[j]'(by omega))=false) (fun g=>xs.length - g) 0 ⟨Zv _,fun j hj=>absurd hj (by omega)⟩ (Sub.cons rfl (Sub.nil)) (fun i hg=> ?_)
 obtain⟨xp,mV⟩:=hg
 iterate 5 refine af ?_
 refine Ki (fun hc0=> ?_) fun hc0=> ?_
 ·iterate 13 refine af ?_
  refine Kc (aa.gQ rfl rfl rfl an Tf rfl (fun _=>rfl) (by decide) ?_) ?_
  ·simp at hc0;omega
  exact CA
 ·exact DW
theorem oT(xs:List eB)(f:PV)(p:eB->Bool)(hx:xs.length<=cj)(hf:∀ x∈xs,gK Tryz.prog f [.agg x.cells] (.bool (p x))):Pure Tryz.prog 125 [.is (xs.flatMap eB.cells) xs.length,f] (.bool (xs.any p)):=by
 refine Kf (N:=9) Tryz.func125 ?_
 iterate 8 refine af ?_
 refine Kc (Kp (tw _ _ p ?_ ?_)) ?_
 ·exact hx
 ·exact hf
 iterate 4 refine af ?_
 refine Fin.gW rfl rfl ?_
 rw[Ck.kZ]
theorem oD(xs:List cU)(f:PV)(p:cU->Bool)(hx:xs.length<=cj)(hf:∀ x∈xs,gK Tryz.prog f [.agg x.cells] (.bool (p x))):Pure Tryz.prog 127 [.is (xs.flatMap cU.cells) xs.length,f] (.bool (xs.any p)):=by
 refine Kf (N:=9) Tryz.func127 ?_
 iterate 8 refine af ?_
 refine Kc (Kp (sQ _ _ p ?_ ?_)) ?_
 ·exact hx
 ·exact hf
 iterate 4 refine af ?_
 refine Fin.gW rfl rfl ?_
 rw[Ck.kZ]
theorem pg(p:bO)(hx:p.dies.length<=cj):Pure Tryz.prog 65 [ic p] (.bool (fQ p)):=by
 refine Kf (N:=27) Tryz.func65 ?_
 iterate 14 refine af ?_
 refine Kc (Kp (cv _ _ _)) ?_
 refine af ?_
 refine Kg 10 9 1 rfl (fun h=>(aa.fieldAddr rfl rfl an rfl)) ?_
 refine Kh 11 9 10 rfl rfl rfl rfl (fun h=>(aa.load rfl rfl an rfl)) ?_
 refine Kh 12 9 11 rfl rfl rfl rfl (fun h=>(Kp (cv _ _ _))) ?_
 refine Kc (aa.gG rfl rfl rfl ?_) ?_
 ·exact aC
 iterate 6 refine af ?_
 refine Kg 16 15 1 rfl (fun h=>(aa.fieldAddr rfl rfl an rfl)) ?_
 refine Kh 17 15 16 rfl rfl rfl rfl (fun h=>(aa.load rfl rfl an rfl)) ?_
 refine Kh 18 15 17 rfl rfl rfl rfl (fun h=>(Kp (gE _ _ _ _))) ?_
 refine Kc (aa.gG rfl rfl rfl ?_) ?_
 ·exact aC
 refine af ?_
 refine Kg 21 20 1 rfl (fun h=>(aa.fieldAddr rfl rfl an rfl)) ?_
 refine Kh 22 20 21 rfl rfl rfl rfl (fun h=>(aa.load rfl rfl an rfl)) ?_
 refine Kg 23 20 3 rfl (fun h=>(aa.move rfl rfl)) ?_
 refine aj.g 24 20 rfl rfl rfl rfl rfl rfl rfl [(22,_),(23,_)] (fun h=>And.intro (.inr ⟨_,rfl,h⟩) (And.intro (.inr ⟨_,rfl,h⟩) (trivial))) (fun h=>(Kp (oT p.dies _ ud ?_ ?_))) ?_
 ·exact hx
 ·exact fun x _=>⟨123,[.agg x.cells],rfl,an,IB x⟩
 refine Kh 25 20 24 rfl rfl rfl rfl (fun h=>(aa.gH rfl rfl)) ?_
 exact ug
theorem tc(l:List cU)(hx:l.length<=cj):Pure Tryz.prog 66 [mg l] (.bool (mh l)):=by
 refine Kf (N:=13) Tryz.func66 ?_
 iterate 14 refine af ?_
 refine Kg 8 7 0 rfl (fun h=>(aa.move rfl rfl)) ?_
 refine Kg 9 7 3 rfl (fun h=>(aa.move rfl rfl)) ?_
 refine aj.g 10 7 rfl rfl rfl rfl rfl rfl rfl [(8,_),(9,_)] (fun h=>And.intro (.inr ⟨_,rfl,h⟩) (And.intro (.inr ⟨_,rfl,h⟩) (trivial))) (fun h=>(Kp (oD l _ xC ?_ ?_))) ?_
 ·exact hx
 ·exact fun x _=>⟨126,[.agg x.cells],rfl,an,IT x⟩
 refine Kh 11 7 10 rfl rfl rfl rfl (fun h=>(aa.gH rfl rfl)) ?_
 exact ug
theorem EG(p:bO)(d:eB)(u:Int)(hs:0<=p.FE∧p.FE<=p.F9∧p.F9<=300)(hd:ud d=false)(hu:0<=u∧u<=9000):Pure Tryz.prog 128 [.int .i64 u,.ip (QZ p d) 0] (.int .i64 (thin p d u)):=by
 obtain⟨hw,h1,h2,h3⟩:=oq hd
 obtain⟨b1,b2,b3,b4⟩:=rX (a:=d.wide) (b:=d.lo) (u:=u) (s:=p.F9) hw (by omega) hu (by omega)
 refine Kf (N:=19) Tryz.func128 ?_
 exact AB
theorem BI(p:bO)(d:eB)(u:Int)(hs:0<=p.FE∧p.FE<=p.F9∧p.F9<=300)(hd:ud d=false)(hu:0<=u∧u<=9000):Pure Tryz.prog 129 [.int .i64 u,.ip (QZ p d) 0] (.int .i64 (jS p d u)):=by
 obtain⟨hw,h1,h2,h3⟩:=oq hd
 obtain⟨b1,b2,b3,b4⟩:=rX (a:=d.wide) (b:=d.hi) (u:=u) (s:=p.FE) hw (by omega) hu (by omega)
 refine Kf (N:=19) Tryz.func129 ?_
 exact AB
theorem GG(p:bO)(d:eB):Pure Tryz.prog 74 [.agg (QZ p d)] (.agg [.func (.func 128) [] [.ip (QZ p d) 0],.func (.func 129) [] [.ip (QZ p d) 0]]):=by
 refine Kf (N:=6) Tryz.func74 ?_
 iterate 7 refine af ?_
 refine Kc (aa.makeFunc rfl rfl rfl) ?_
 refine Kc (aa.makeFunc rfl rfl rfl) ?_
 iterate 4 refine af ?_
 exact uo
theorem KT(p:bO)(j:Nat)(hj:j<p.dies.length):Pure Tryz.prog 68 [ic p,.int .i64 (j:Int)] (.agg (QZ p (gt eB.d p.dies j))):=by
 refine Kf (N:=13) Tryz.func68 ?_
 iterate 6 refine af ?_
 refine aI.aB 8 mixed (by kernel_rfl) (by decide) ?_
 iterate 3 refine af ?_
 refine Kq (aa.bg (g:=gt eB.d p.dies) (aL _) rfl rfl rfl an V4 rfl (fun _=>rfl) (by decide) hj) ?_
 refine Kq (Kl (.p (.agg (gt eB.d p.dies j).cells))) ?_
 iterate 2 refine af ?_
 refine Kq (aa.build rfl an rfl rfl) ?_
 refine aE.nil ?_
 refine Kz (aa.store (H':=[.cells ((QZ p (gt eB.d p.dies j)).map .p) 137]) rfl rfl rfl rfl rfl an rfl rfl) ?_
 iterate 2 refine af ?_
 exact uo
theorem sF(p:bO)(j:Int)(hj:j.toNat<p.dies.length)(h0:0<=j):Pure Tryz.prog 68 [ic p,.int .i64 j] (.agg (QZ p (gt eB.d p.dies j.toNat))):=by
 have h:=KT p j.toNat hj
 rwa [U9 h0] at h
theorem GO(p:bO)(d:eB)(a b:Int)(w:cU)(hs:0<=p.FE∧p.FE<=p.F9∧p.F9<=300)(hd:ud d=false)(ha:0<=a∧a<=9000)(hb:0<=b∧b<=9000)(hw:xC w=false):Pure Tryz.prog 69 [.agg (QZ p d),.int .i64 a,.int .i64 b,.agg [.int .i64 w.lo,.int .i64 w.hi]] (.bool (decide (1000*w.lo<=thin p d a)&&decide (jS p d b<=1000*w.hi))):=by
 obtain⟨_,k1,k2,k3⟩:=oh hw
 refine Kf (N:=30) Tryz.func69 ?_
 iterate 9 refine af ?_
 refine Kc (Kp (GG p d)) ?_
 iterate 4 refine af ?_
 refine aI.aB 19 mixed (by kernel_rfl) (by decide) ?_
 refine Kq (aa.nw rfl rfl rfl GY HM (by omega) (by omega) rfl) ?_
 iterate 2 refine af ?_
 refine Kq (aa.e8 (EG p d a hs hd ha) rfl rfl rfl rfl (an)) ?_
 iterate 2 refine af ?_
 refine Kq (aa.mul rfl rfl rfl (aG ?_)) ?_
 ·omega
 refine Kq (aa.geq rfl rfl rfl) ?_
 refine af ?_
 refine aE.guard 21 20 rfl rfl rfl rfl rfl rfl rfl [(9,_)] (fun h=>And.intro (.inl rfl) (trivial)) (fun h=>(aa.nw rfl rfl rfl GY HM (by omega) (by omega) rfl)) ?_
 refine aE.guard 22 20 rfl rfl rfl rfl rfl rfl rfl [(21,_)] (fun h=>And.intro (.inr ⟨_,rfl,h⟩) (trivial)) (fun h=>(aa.load rfl rfl an rfl)) ?_
 refine aE.guard 23 20 rfl rfl rfl rfl rfl rfl rfl [(2,_)] (fun h=>And.intro (.inl rfl) (trivial)) (fun h=>(aa.move rfl rfl)) ?_
 refine aE.guard 24 20 rfl rfl rfl rfl rfl rfl rfl [(22,_),(23,_)] (fun h=>And.intro (.inr ⟨_,rfl,h⟩) (And.intro (.inr ⟨_,rfl,h⟩) (trivial))) (fun h=>(aa.e8 (BI p d b hs hd hb) rfl rfl rfl rfl (an))) ?_
 refine aE.guard 25 20 rfl rfl rfl rfl rfl rfl rfl [(7,_)] (fun h=>And.intro (.inl rfl) (trivial)) (fun h=>(aa.fieldAddr rfl rfl an rfl)) ?_
 refine aE.guard 26 20 rfl rfl rfl rfl rfl rfl rfl [(25,_)] (fun h=>And.intro (.inr ⟨_,rfl,h⟩) (trivial)) (fun h=>(aa.load rfl rfl an rfl)) ?_
 refine aE.guard 27 20 rfl rfl rfl rfl rfl rfl rfl [(26,_)] (fun h=>And.intro (.inr ⟨_,rfl,h⟩) (trivial)) (fun h=>(aa.mul rfl rfl rfl (aG ?_))) ?_
 ·omega
 refine aE.guard 28 20 rfl rfl rfl rfl rfl rfl rfl [(24,_),(27,_)] (fun h=>And.intro (.inr ⟨_,rfl,h⟩) (And.intro (.inr ⟨_,rfl,h⟩) (trivial))) (fun h=>(aa.leq rfl rfl rfl)) ?_
 refine Kq (aa.gG rfl rfl rfl ?_) ?_
 ·exact aC
 refine af ?_
 refine aE.nil ?_
 iterate 2 refine af ?_
 exact Fin.gW rfl rfl rfl
theorem Hy(p:bO)(j u:Int)(hp:p.dies.length<=cj):Pure Tryz.prog 31 [ic p,.int .i64 j,.int .i64 u] (.tuple [.agg [.int .i64 (dW p j u).1.1,.int .i64 (dW p j u).1.2],.int .i64 (dW p j u).2]):=by
 have Ry:=hp
 unfold cj at Ry
 refine Kf (N:=45) Tryz.func31 ?_
 iterate 11 refine af ?_
 refine Kc (Kp (pg p hp)) ?_
 iterate 3 refine af ?_
 refine Ki (fun hc0=> ?_) fun hc0=> ?_
 ·have hv:fQ p=false:=by simpa using hc0
  iterate 7 refine af ?_
  refine Fin.dD (xs:=[.agg [.int .i64 0,.int .i64 0],.int .i64 1]) rfl (⟨_,_,rfl,⟨_,_,_,rfl,an,rfl⟩,⟨_,_,rfl,rfl,rfl⟩⟩) rfl ?_
  rw[P0 hv]
 ·have hv:fQ p=true:=by simpa using hc0
  obtain⟨⟨n1,n4⟩,_,hsh,Ra⟩:=hO hv
  iterate 6 refine af ?_
  refine Kc (aa.fE rfl rfl rfl (aG ?_)) ?_
  ·omega
  refine Kc (Kp (cv _ _ _)) ?_
  iterate 2 refine af ?_
  refine Kg 23 22 2 rfl (fun h=>(aa.move rfl rfl)) ?_
  refine Kh 24 22 23 rfl rfl rfl rfl (fun h=>(Kp (cv _ _ _))) ?_
  refine Kh 25 22 24 rfl rfl rfl rfl (fun h=>(aa.gH rfl rfl)) ?_
  refine Kc (aa.pG rfl rfl rfl ?_) ?_
  ·exact aC
  iterate 2 refine af ?_
  refine Ki (fun c8=> ?_) fun c8=> ?_
  ·iterate 7 refine af ?_
   refine Fin.dD (xs:=[.agg [.int .i64 0,.int .i64 0],.int .i64 2]) rfl (⟨_,_,rfl,⟨_,_,_,rfl,an,rfl⟩,⟨_,_,rfl,rfl,rfl⟩⟩) rfl ?_
   rw[Ql hv (by assumption)]
  ·have hj:iR j 0 ((p.dies.length:Int) - 1)=true∧iR u 0 8000=true:=by simpa using c8
   obtain⟨j0,j1⟩:=fz hj.1
   obtain⟨u0,u1⟩:=fz hj.2
   have hjl:j.toNat<p.dies.length:=by omega
   obtain⟨q,hq⟩:∃ q:Nat,j=(q:Int):=⟨_,(U9 j0).symm⟩
   have SA:=Ra _ (bH eB.d hjl)
   obtain⟨w1,w2,w3,w4⟩:=oq SA
   obtain⟨_,_,e1,e2⟩:=rX (a:=(gt eB.d p.dies j.toNat).wide) (b:=(gt eB.d p.dies j.toNat).lo) (u:=u) (s:=p.F9) w1 (by omega) (by omega) (by omega)
   obtain⟨_,_,e3,e4⟩:=rX (a:=(gt eB.d p.dies j.toNat).wide) (b:=(gt eB.d p.dies j.toNat).hi) (u:=u) (s:=p.FE) w1 (by omega) (by omega) (by omega)
   have e1:0<=thin p (gt eB.d p.dies j.toNat) u:=e1
   have e2:thin p (gt eB.d p.dies j.toNat) u<=1820000000:=e2
   have e3:0<=jS p (gt eB.d p.dies j.toNat) u:=e3
   have e4:jS p (gt eB.d p.dies j.toNat) u<=1820000000:=e4
   skip
   iterate 5 refine af ?_
   refine Kc (Kp (sF p j hjl j0)) ?_
   refine Kc (Kp (GG p (gt eB.d p.dies j.toNat))) ?_
   iterate 4 refine af ?_
   refine aI.aB 13 mixed (by kernel_rfl) (by decide) ?_
   refine Kq (aa.nw rfl rfl rfl GY HM (by omega) (by omega) rfl) ?_
   iterate 2 refine af ?_
   refine Kq (aa.e8 (EG p (gt eB.d p.dies j.toNat) u hsh SA (by omega)) rfl rfl rfl rfl (an)) ?_
   refine Kq (aa.quo (m:=(thin p (gt eB.d p.dies j.toNat) u / 1000)) rfl rfl rfl (by decide) ((aG (by rw[Yp (by omega)];omega)).trans (Yp (by omega)))) ?_
   refine Kq (aa.nw rfl rfl rfl GY HM (by omega) (by omega) rfl) ?_
   iterate 2 refine af ?_
   refine Kq (aa.e8 (BI p (gt eB.d p.dies j.toNat) u hsh SA (by omega)) rfl rfl rfl rfl (an)) ?_
   refine Kq (aa.add rfl rfl rfl (aG ?_)) ?_
   ·omega
   refine Kq (aa.fE (m:=(jS p (gt eB.d p.dies j.toNat) u+999)) rfl rfl rfl ((aG ?_).trans ?_)) ?_
   ·omega
   ·omega
   refine Kq (aa.quo (m:=((jS p (gt eB.d p.dies j.toNat) u+999) / 1000)) rfl rfl rfl (by decide) ((aG (by rw[Yp (by omega)];omega)).trans (Yp (by omega)))) ?_
   refine Kq (aa.build rfl an rfl rfl) ?_
   refine aE.nil ?_
   iterate 4 refine af ?_
   refine Fin.dD (xs:=[.agg [.int .i64 (thin p (gt eB.d p.dies j.toNat) u / 1000),.int .i64 ((jS p (gt eB.d p.dies j.toNat) u+999) / 1000)],.int .i64 0]) rfl (⟨_,_,rfl,⟨_,_,_,rfl,an,rfl⟩,⟨_,_,rfl,rfl,rfl⟩⟩) rfl ?_
   rw[DH hv (by assumption)]
theorem sr(p:bO)(l:List cU)(plan:List Int)(hp:p.dies.length<=cj)(hl:l.length<=cj)(hn:plan.length<=cj):Pure Tryz.prog 29 [ic p,mg l,cg plan] (.tuple [Xv (fO p l plan).1,.int .i64 (fO p l plan).2.1,.int .i64 (fO p l plan).2.2]):=by
 have Ry:=hp
 have ur:=hl
 have hn2:=hn
 unfold cj at Ry ur hn2
 refine Kf (N:=93) Tryz.func29 ?_
 iterate 12 refine af ?_
 refine Kc (Kp (pg p hp)) ?_
 iterate 3 refine af ?_
 refine Ki (fun hc0=> ?_) fun hc0=> ?_
 ·have hv:fQ p=false:=by simpa using hc0
  iterate 7 refine af ?_
  refine Fin.dD (xs:=[.nilSlice,.int .i64 0,.int .i64 1]) rfl ⟨_,_,rfl,rfl,⟨_,_,rfl,rfl,⟨_,_,rfl,rfl,rfl⟩⟩⟩ rfl ?_
  rw[FG hv]
  rfl
 ·have hv:fQ p=true:=by simpa using hc0
  obtain⟨⟨n1,n4⟩,_,hsh,Ra⟩:=hO hv
  iterate 3 refine af ?_
  refine Kc (Kp (tc l hl)) ?_
  iterate 3 refine af ?_
  refine Ki (fun c8=> ?_) fun c8=> ?_
  ·have hd:mh l=false:=by simpa using c8
   iterate 7 refine af ?_
   refine Fin.dD (xs:=[.nilSlice,.int .i64 0,.int .i64 2]) rfl ⟨_,_,rfl,rfl,⟨_,_,rfl,rfl,⟨_,_,rfl,rfl,rfl⟩⟩⟩ rfl ?_
   rw[KI hv hd]
   rfl
  ·have hd:mh l=true:=by simpa using c8
   obtain⟨hl8,SL⟩:=jq hd
   iterate 6 refine af ?_
   refine Kc (aa.makeSlice (n:=p.dies.length) (c:=p.dies.length) rfl rfl rfl an an (by decide) (Ze _) (by show 8*p.dies.length<=281474976710656;omega)) ?_
   iterate 4 refine af ?_
   rw[Ic]
   refine aI.norm [0] [(1,_),(2,_),(3,_),(6,.row 0 p.dies.length)] [.row (((List.replicate p.dies.length 0).flatMap cK).map .p) 3] rfl KS (by show[ai.row (bq _ (List.map V.p _)) _]=_;rw[aX]) ?_
   iterate 6 refine af ?_
   refine aI.iK [1,2,3,24,25,83,84,85,86,87,88,89,90,91,92] (fun g=>[(26,.p (.int .i64 ((g.1:Nat):Int))),(6,.row 0 p.dies.length)]) (fun g=>[.row ((g.2.flatMap cK).map .p) 3]) (fun g=>g.1<=l.length∧AM p g.2 (1000*(g.1:Int))∧fH p plan 0 (List.replicate p.dies.length 0) l=fH p plan g.1 g.2 (l.drop g.1)) (fun g=>l.length - g.1) (0,List.replicate p.dies.length 0) ⟨Zv _,Ri p,rfl⟩ (To.sub (Sub.Mc (Sub.cons rfl (Sub.cons rfl (Sub.nil))))) (fun g hg=> ?_)
   obtain⟨i,u⟩:=g
   obtain⟨xp,mV,GV⟩:=hg
   dsimp only at xp mV GV ⊢
   have hul:=mV.1
   iterate 5 refine af ?_
   refine Ki (fun mu=> ?_) fun mu=> ?_
   ·have hk0:i<l.length:=by have h:(i:Int)<(l.length:Int):=Zm mu;omega
    have hW:=oh (SL _ (bH cU.d hk0))
    iterate 6 refine af ?_
    refine Kc (aa.bg (g:=gt cU.d l) (aL _) rfl rfl rfl an Tf rfl (fun _=>rfl) (by decide) hk0) ?_
    refine Kc (Kl (.p (.agg (gt cU.d l i).cells))) ?_
    iterate 2 refine af ?_
    refine Kz (aa.store (H':=[.row ((u.flatMap cK).map .p) 3,.cells ((gt cU.d l i).cells.map .p) 74]) rfl rfl rfl rfl rfl an rfl rfl) ?_
    iterate 11 refine af ?_
    refine Ki (fun rP=> ?_) fun rP=> ?_
    ·have hpl:(plan.length:Int)<=(i:Int):=Zm rP
     iterate 8 refine af ?_
     refine Fin.dD (xs:=[.nilSlice,.int .i64 (i:Int),.int .i64 4]) rfl ⟨_,_,rfl,rfl,⟨_,_,rfl,rfl,⟨_,_,rfl,rfl,rfl⟩⟩⟩ rfl ?_
     rw[gw hv hd,GV,RT hk0 hpl]
     rfl
    ·have hpl:¬ (plan.length:Int)<=(i:Int):=Zs rP
     have Uc:i<plan.length:=by omega
     refine af ?_
     refine aI.aB 11 mixed (by kernel_rfl) (by decide) ?_
     iterate 2 refine af ?_
     refine Kq (aa.bg (g:=gt 0 plan) (aL _) rfl rfl rfl an dX rfl (fun _=>rfl) (by decide) Uc) ?_
     refine Kq (Kl (.p (.int .i64 (gt 0 plan i)))) ?_
     iterate 2 refine af ?_
     refine Kq (aa.cD rfl rfl an rfl) ?_
     refine Kq (aa.fE rfl rfl rfl (aG ?_)) ?_
     ·omega
     refine Kq (Kp (cv _ _ _)) ?_
     refine Kq (aa.gH rfl rfl) ?_
     refine af ?_
     refine aE.nil ?_
     refine af ?_
     refine Ki (fun Hp=> ?_) fun Hp=> ?_
     ·have hin:iR (gt 0 plan i) 0 ((p.dies.length:Int) - 1)=false:=by simpa using Hp
      iterate 8 refine af ?_
      refine Fin.dD (xs:=[.nilSlice,.int .i64 (i:Int),.int .i64 2]) rfl ⟨_,_,rfl,rfl,⟨_,_,rfl,rfl,⟨_,_,rfl,rfl,rfl⟩⟩⟩ rfl ?_
      rw[gw hv hd,GV,RH hk0 hpl hin]
      rfl
     ·have hin:iR (gt 0 plan i) 0 ((p.dies.length:Int) - 1)=true:=by simpa using Hp
      obtain⟨Xw,hq1⟩:=fz hin
      have hq:(gt 0 plan i).toNat<p.dies.length:=by omega
      have H7:(gt 0 plan i).toNat<u.length:=by omega
      have hud:=mV.2 _ H7
      have SA:=Ra _ (bH eB.d hq)
      iterate 6 refine af ?_
      refine Kc (aa.bg (g:=gt 0 plan) (aL _) rfl rfl rfl an dX rfl (fun _=>rfl) (by decide) Uc) ?_
      refine Kc (Kl (.p (.int .i64 (gt 0 plan i)))) ?_
      refine Kc (aa.kA rfl rfl rfl an dX Xw (by omega)) ?_
      iterate 4 refine af ?_
      refine aI.aB 19 mixed (by kernel_rfl) (by decide) ?_
      iterate 3 refine af ?_
      refine Kq (aa.bg (g:=gt 0 plan) (aL _) rfl rfl rfl an dX rfl (fun _=>rfl) (by decide) Uc) ?_
      refine Kq (Kl (.p (.int .i64 (gt 0 plan i)))) ?_
      refine Kq (Kp (sF p (gt 0 plan i) hq Xw)) ?_
      refine af ?_
      refine Kq (aa.nilCheck rfl rfl) ?_
      refine Kq (aa.kF (f:=cK) (c:=1) (k:=(gt 0 plan i).toNat) (j:=0) (xs:=u) rfl rfl an rfl rfl (by omega) (fun _=>rfl) H7 (by decide) (show _=PV.int .i64 (gt 0 u (gt 0 plan i).toNat) from by rw[aL 0 _ H7];rfl)) ?_
      refine af ?_
      refine Kq (aa.nilCheck rfl rfl) ?_
      refine Kq (aa.kF (f:=cK) (c:=1) (k:=(gt 0 plan i).toNat) (j:=0) (xs:=u) rfl rfl an rfl rfl (by omega) (fun _=>rfl) H7 (by decide) (show _=PV.int .i64 (gt 0 u (gt 0 plan i).toNat) from by rw[aL 0 _ H7];rfl)) ?_
      iterate 2 refine af ?_
      refine Kq (aa.add (m:=(gt 0 u (gt 0 plan i).toNat+(gt cU.d l i).len)) rfl rfl rfl ((aG ?_).trans ?_)) ?_
      ·omega
      ·rfl
      iterate 2 refine af ?_
      refine Kq (Kp (GO p (gt eB.d p.dies (gt 0 plan i).toNat) (gt 0 u (gt 0 plan i).toNat) ((gt 0 u (gt 0 plan i).toNat)+(gt cU.d l i).len) (gt cU.d l i) hsh SA (by omega) (by omega) (SL _ (bH cU.d hk0)))) ?_
      refine Kq (aa.gH rfl rfl) ?_
      refine aE.nil ?_
      refine af ?_
      refine Ki (fun Kj=> ?_) fun Kj=> ?_
      ·have Q5:zC p (gt eB.d p.dies (gt 0 plan i).toNat) (gt 0 u (gt 0 plan i).toNat) (gt cU.d l i)=false:=by first | simpa only[Gc] using Kj | (unfold zC;simpa only[Gc] using Kj)
       iterate 8 refine af ?_
       refine Fin.dD (xs:=[.nilSlice,.int .i64 (i:Int),.int .i64 11]) rfl ⟨_,_,rfl,rfl,⟨_,_,rfl,rfl,⟨_,_,rfl,rfl,rfl⟩⟩⟩ rfl ?_
       rw[gw hv hd,GV,Lv hk0 hpl hin Q5]
       rfl
      ·exact CX
   ·have hi2:i=l.length:=by have h:¬ ((i:Int)<(l.length:Int)):=Zs mu;omega
    subst hi2
    refine aI.exit ?_
    iterate 9 refine af ?_
    refine Ki (fun M9=> ?_) fun M9=> ?_
    ·have hlt:(l.length:Int)<(plan.length:Int):=Zm M9
     iterate 9 refine af ?_
     refine Fin.dD (xs:=[.nilSlice,.int .i64 (l.length:Int),.int .i64 2]) rfl ⟨_,_,rfl,rfl,⟨_,_,rfl,rfl,⟨_,_,rfl,rfl,rfl⟩⟩⟩ rfl ?_
     rw[gw hv hd,GV,B8 hlt]
     rfl
    ·have hlt:¬ (l.length:Int)<(plan.length:Int):=Zs M9
     refine aI.freeze 0 rfl (ko _) ?_
     iterate 11 refine af ?_
     skip
     refine Fin.dD (xs:=[(.is (u.flatMap cK) p.dies.length),.int .i64 (l.length:Int),.int .i64 0]) rfl ⟨_,_,rfl,rfl,⟨_,_,rfl,rfl,⟨_,_,rfl,rfl,rfl⟩⟩⟩ rfl ?_
     rw[gw hv hd,GV,Nz hlt]
     show[PV.is _ _,_,_]=[PV.is _ _,_,_]
     rw[hul]
end Go.Proofs.YtibffijhebobmaaGreatDoor.Di
end
