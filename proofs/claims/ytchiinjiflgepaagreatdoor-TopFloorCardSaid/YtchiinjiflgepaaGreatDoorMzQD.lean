/-
 Chapter 4: dies, draws and plans as plain data; what is valid; how wide leads are; how a plan is followed.
 Chapter 4: the steps by which a plan is followed.
 Chapter 4: what is valid.
 Chapter 4: how wide leads are; how a plan is followed.
 The reference of chapter 4.
-/
import Derived.Test.YtchiinjiflgepaaGreatDoorFaQE
import Derived.Test.YtchiinjiflgepaaGreatDoorPmQ
import Derived.Test.YtchiinjiflgepaaGreatDoorMzQF
import Derived.Test.YtchiinjiflgepaaGreatDoorMzQC
import Derived.Test.YtchiinjiflgepaaGreatDoorMzQZ
theorem Xe{A:Prop}(h:A:=by
 iterate 9 refine af ?_
 refine Kc (Kp (cM _ _ _)) ?_
 iterate 2 refine af ?_
 refine Kg 8 7 1 rfl (fun h=>(aa.fieldAddr rfl rfl an rfl)) ?_
 refine Kh 9 7 8 rfl rfl rfl rfl (fun h=>(aa.load rfl rfl an rfl)) ?_
 refine Kh 10 7 9 rfl rfl rfl rfl (fun h=>(Kp (gZ _ _ _ _))) ?_
 refine Kh 11 7 10 rfl rfl rfl rfl (fun h=>(aa.iZ rfl rfl)) ?_
 refine Kc (aa.me rfl rfl rfl ?_) ?_
 ·exact eM
 exact Dt):A:=h
theorem PO{A:Prop}(h:A:=by
 iterate 14 refine af ?_
 refine Kc (aa.mul rfl rfl rfl (aH ?_)) ?_
 ·omega
 refine Kc (aa.add rfl rfl rfl (aH ?_)) ?_
 ·omega
 iterate 3 refine af ?_
 refine Kc (aa.iC rfl rfl rfl (aH ?_)) ?_
 ·omega
 refine Kc (aa.mul rfl rfl rfl (aH ?_)) ?_
 ·omega
 exact Dt):A:=h
theorem Jj{A:Prop}(h:A:=by
 refine Kc (aa.dM rfl rfl rfl ?_) ?_
 ·exact eM
 exact Dt):A:=h
theorem Wv{A:Prop}(h:A:=by
 refine af ?_
 refine Kc (aa.Ak (hf _ (A4 _)) rfl rfl rfl) ?_
 refine af ?_
 refine Ki (fun cF=> ?_) fun cF=> ?_
 ·exact abi
 ·exact XO):A:=h
theorem TB{A:Prop}(h:A:=by
 refine aB.exit ?_
 iterate 5 refine af ?_
 refine Fin.gw rfl rfl ?_
 rw[Ck.ki p xs (fun j hj=>ou j (by simp at hc0;omega) zF)]):A:=h
theorem abi{A:Prop}(h:A:=by
 iterate 6 refine af ?_
 refine Fin.gw rfl rfl ?_
 rw[Ck.o3 p xs i (by simp at hc0;omega) (fun j hj=>ou j hj zF) cF]):A:=h
set_option linter.unusedSimpArgs false
set_option linter.unusedVariables false
section
namespace Go.Proofs.YtchiinjiflgepaaGreatDoor.Di
open Go.AF
def cJ:Nat:=9223372036854775807
def gt{α:Type}(d:α)(l:List α)(k:Nat):α:=l.getD k d
theorem aC{α:Type}(d:α){l:List α}:∀ k (h:k<l.length),l[k]=gt d l k:=fun k h=>by
 unfold gt
 exact Kb
theorem bq{α:Type}(d:α){l:List α}{k:Nat}(h:k<l.length):gt d l k∈l:=by rw[<- aC d k h];exact A4 _
structure dY where
 wide:Int
 lo:Int
 hi:Int
 deriving DecidableEq
def dY.cells(d:dY):List PV:=[.int .i64 d.wide,.int .i64 d.lo,.int .i64 d.hi]
def dY.d:dY:=⟨0,0,0⟩
def oB(l:List dY):PV:= .is (l.flatMap dY.cells) l.length
structure bB where
 dies:List dY
 CV:Int
 CH:Int
 change:Int
 deriving DecidableEq
def bB.cells(p:bB):List PV:=[oB p.dies,.int .i64 p.CV,.int .i64 p.CH,.int .i64 p.change]
def bO(p:bB):PV:= .agg p.cells
structure cO where
 len:Int
 lo:Int
 hi:Int
 deriving DecidableEq
def cO.cells(d:cO):List PV:=[.int .i64 d.len,.int .i64 d.lo,.int .i64 d.hi]
def cO.d:cO:=⟨0,0,0⟩
def fJ(l:List cO):PV:= .is (l.flatMap cO.cells) l.length
def cE(n:Int):List PV:=[.int .i64 n]
def bI(l:List Int):PV:= .is (l.flatMap cE) l.length
def iL(n lo hi:Int):Bool:=decide (lo<=n)&&decide (n<=hi)
def OG(a b lo hi:Int):Bool:=decide (lo<=a)&&decide (a<=b)&&decide (b<=hi)
def Mi(d:dY):Bool:=iL d.wide 1 20000&&OG d.lo d.hi 0 200
def u7(d:dY):Bool:= !iL d.wide 1 20000|| !OG d.lo d.hi 0 200
def dH(p:bB):Bool:=iL p.dies.length 1 4&&iL p.change 0 10000&&OG p.CV p.CH 0 300&& !p.dies.any u7
def Mp(d:cO):Bool:=iL d.len 1 1000&&OG d.lo d.hi 0 20000
def wH(d:cO):Bool:= !iL d.len 1 1000|| !OG d.lo d.hi 0 20000
def kg(l:List cO):Bool:=decide ((l.length:Int)<=8)&& !l.any wH
theorem GX(d:dY):u7 d= !Mi d:=by unfold u7 Mi;rw[Bool.not_and]
theorem Jf(d:cO):wH d= !Mp d:=by unfold wH Mp;rw[Bool.not_and]
theorem fH{n lo hi:Int}(h:iL n lo hi=true):lo<=n∧n<=hi:=by
 unfold iL at h;simpa using h
theorem tS{a b lo hi:Int}(h:OG a b lo hi=true):lo<=a∧a<=b∧b<=hi:=by
 unfold OG at h;simp only[Zo,Zs] at h;exact⟨h.1.1,h.1.2,h.2⟩
theorem nT{d:dY}(h:u7 d=false):(1<=d.wide∧d.wide<=20000)∧0<=d.lo∧d.lo<=d.hi∧d.hi<=200:=by
 rw[GX] at h
 have h:Mi d=true:=by simpa using h
 unfold Mi at h
 rw[Zo] at h
 exact⟨fH h.1,tS h.2⟩
theorem nA{d:cO}(h:wH d=false):(1<=d.len∧d.len<=1000)∧0<=d.lo∧d.lo<=d.hi∧d.hi<=20000:=by
 rw[Jf] at h
 have h:Mp d=true:=by simpa using h
 unfold Mp at h
 rw[Zo] at h
 exact⟨fH h.1,tS h.2⟩
theorem gY{p:bB}(h:dH p=true):(1<=p.dies.length∧p.dies.length<=4)∧(0<=p.change∧p.change<=10000)∧(0<=p.CV∧p.CV<=p.CH∧p.CH<=300)∧∀ d∈p.dies,u7 d=false:=by
 unfold dH at h
 simp only[Zo] at h
 obtain⟨⟨⟨h1,h2⟩,h3⟩,h4⟩:=h
 have h1:=fH h1
 refine⟨⟨by omega,by omega⟩,fH h2,tS h3,fun d hd=> ?_⟩
 have h4:p.dies.any u7=false:=by simpa using h4
 have:=LV.1 h4 d hd
 simpa using this
theorem jy{l:List cO}(h:kg l=true):l.length<=8∧∀ d∈l,wH d=false:=by
 unfold kg at h
 simp only[Zo,Zs] at h
 obtain⟨h1,h2⟩:=h
 refine⟨by omega,fun d hd=> ?_⟩
 have h4:l.any wH=false:=by simpa using h2
 have:=LV.1 h4 d hd
 simpa using this
def thin(p:bB)(d:dY)(u:Int):Int:=(d.wide+d.lo*u)*(1000 - p.CH)
def jN(p:bB)(d:dY)(u:Int):Int:=(d.wide+d.hi*u)*(1000 - p.CV)
def zb(p:bB)(d:dY)(u:Int)(w:cO):Bool:=decide (1000*w.lo<=thin p d u)&&decide (jN p d (u+w.len)<=1000*w.hi)
theorem rK{a b u s:Int}(ha:1<=a∧a<=20000)(hb:0<=b∧b<=200)(hu:0<=u∧u<=9000)(hs:0<=s∧s<=300):0<=b*u∧b*u<=1800000∧0<=(a+b*u)*(1000 - s)∧(a+b*u)*(1000 - s)<=1820000000:=by
 have h1:b*u<=200*9000:=Int.mul_le_mul hb.2 hu.2 hu.1 (by omega)
 have h2:0<=b*u:=Int.mul_nonneg hb.1 hu.1
 refine⟨h2,h1,Int.mul_nonneg (by omega) (by omega),?_⟩
 have:(a+b*u)*(1000 - s)<=(20000+200*9000)*1000:=Int.mul_le_mul (by omega) (by omega) (by omega) (by omega)
 omega
def bT(p:bB)(die used:Int):(Int×Int)×Int:=
 if dH p=false then((0,0),1) else if iL die 0 ((p.dies.length:Int) - 1)=false∨iL used 0 8000=false then((0,0),2) else
  ((thin p (gt dY.d p.dies die.toNat) used / 1000,(jN p (gt dY.d p.dies die.toNat) used+999) / 1000),0)
def fM(p:bB)(plan:List Int):Nat->List Int->List cO->Option (List Int)×Int×Int
 | i,u,[]=>if (i:Int)<(plan.length:Int) then(none,i,2) else(some u,i,0)
 | i,u,w::l=>if (plan.length:Int)<=(i:Int) then(none,i,4) else if iL (gt 0 plan i) 0 ((p.dies.length:Int) - 1)=false then(none,i,2) else
   if zb p (gt dY.d p.dies (gt 0 plan i).toNat) (gt 0 u (gt 0 plan i).toNat) w=false then(none,i,11) else fM p plan (i+1) (u.set (gt 0 plan i).toNat (gt 0 u (gt 0 plan i).toNat+w.len)) l
def fR(p:bB)(l:List cO)(plan:List Int):Option (List Int)×Int×Int:=
 if dH p=false then(none,0,1) else if kg l=false then(none,0,2) else fM p plan 0 (List.replicate p.dies.length 0) l
def Wp:Option (List Int)->PV
 | none=> .nilSlice
 | some u=>bI u
def NK(p:bB)(d:dY):List PV:=[.int .i64 d.wide,.int .i64 d.lo,.int .i64 d.hi,.int .i64 p.CV,.int .i64 p.CH]
def As(p:bB)(u:List Int)(B:Int):Prop:=u.length=p.dies.length∧∀ k,k<u.length->0<=gt 0 u k∧gt 0 u k<=B
theorem Cf{u:List Int}{k j:Nat}{x:Int}(hk:k<u.length):gt 0 (u.set k x) j=if j=k then x else gt 0 u j:=by
 unfold gt
 rw[Ze,Ze,Zv]
 by_cases h:k=j
 ·subst h;simp[hk]
 ·rw[if_neg h,if_neg (fun e=>h e.symm)]
theorem Qj(p:bB):As p (List.replicate p.dies.length 0) (1000*((0:Nat):Int)):=by
 refine⟨YA,fun k hk=> ?_⟩
 unfold gt
 rw[Ze,List.getElem?_replicate]
 split <;> simp
theorem DK(n:Nat):(List.replicate n [PV.int .i64 0]).flatten=(List.replicate n (0:Int)).flatMap cE:=by
 induction n with
 | zero=>rfl
 | succ n ih=>rw[UF,UF,P7,ZJ,ih];rfl
theorem Jg{p:bB}{u:List Int}{i q:Nat}{x:Int}(h:As p u (1000*(i:Int)))(hq:q<p.dies.length)(hx:1<=x∧x<=1000):As p (u.set q (gt 0 u q+x)) (1000*((i+1:Nat):Int)):=by
 obtain⟨h1,h2⟩:=h
 refine⟨by rw[wS];exact h1,fun k hk=> ?_⟩
 rw[wS] at hk
 rw[Cf (by omega)]
 have h3:=h2 q (by omega)
 have h4:=h2 k hk
 split
 ·omega
 ·omega
theorem nN(l:List cO)(i:Nat)(h:i<l.length):l.drop i=gt cO.d l i::l.drop (i+1):=by
 rw[XQ h,aC cO.d i h]
section
variable {p:bB} {l:List cO} {plan u:List Int} {i:Nat}
theorem O1(hk:i<l.length)(hpl:(plan.length:Int)<=(i:Int)):fM p plan i u (l.drop i)=(none,(i:Int),4):=by
 rw[nN l i hk,fM,if_pos hpl]
theorem QO(hk:i<l.length)(hpl:¬ (plan.length:Int)<=(i:Int))(hin:iL (gt 0 plan i) 0 ((p.dies.length:Int) - 1)=false):fM p plan i u (l.drop i)=(none,(i:Int),2):=by
 rw[nN l i hk,fM,if_neg hpl,if_pos hin]
theorem Js(hk:i<l.length)(hpl:¬ (plan.length:Int)<=(i:Int))(hin:iL (gt 0 plan i) 0 ((p.dies.length:Int) - 1)=true)(M8:zb p (gt dY.d p.dies (gt 0 plan i).toNat) (gt 0 u (gt 0 plan i).toNat) (gt cO.d l i)=false):fM p plan i u (l.drop i)=(none,(i:Int),11):=by
 rw[nN l i hk,fM,if_neg hpl,if_neg (by rw[hin];decide),if_pos M8]
theorem Ie(hk:i<l.length)(hpl:¬ (plan.length:Int)<=(i:Int))(hin:iL (gt 0 plan i) 0 ((p.dies.length:Int) - 1)=true)(M8:zb p (gt dY.d p.dies (gt 0 plan i).toNat) (gt 0 u (gt 0 plan i).toNat) (gt cO.d l i)=true):fM p plan i u (l.drop i)=fM p plan (i+1) (u.set (gt 0 plan i).toNat (gt 0 u (gt 0 plan i).toNat+(gt cO.d l i).len)) (l.drop (i+1)):=by
 rw[nN l i hk,fM,if_neg hpl,if_neg (by rw[hin];decide),if_neg (by rw[M8];decide)]
theorem BB(h:(l.length:Int)<(plan.length:Int)):fM p plan l.length u (l.drop l.length)=(none,(l.length:Int),2):=by
 rw[List.drop_length,fM,if_pos h]
theorem Jv(h:¬ (l.length:Int)<(plan.length:Int)):fM p plan l.length u (l.drop l.length)=(some u,(l.length:Int),0):=by
 rw[List.drop_length,fM,if_neg h]
theorem CF(h:dH p=false):fR p l plan=(none,0,1):=by unfold fR;rw[if_pos h]
theorem GO(h:dH p=true)(h2:kg l=false):fR p l plan=(none,0,2):=by unfold fR;rw[if_neg (by rw[h];decide),if_pos h2]
theorem gB(h:dH p=true)(h2:kg l=true):fR p l plan=fM p plan 0 (List.replicate p.dies.length 0) l:=by unfold fR;rw[if_neg (by rw[h];decide),if_neg (by rw[h2];decide)]
theorem NH{a b:Int}(h:dH p=false):bT p a b=((0,0),1):=by unfold bT;rw[if_pos h]
theorem OD{a b:Int}(h:dH p=true)(h2:(!iL a 0 ((p.dies.length:Int) - 1)|| !iL b 0 8000)=true):bT p a b=((0,0),2):=by
 unfold bT
 rw[if_neg (by rw[h];decide),if_pos (by simpa using h2)]
theorem A8{a b:Int}(h:dH p=true)(h2:(!iL a 0 ((p.dies.length:Int) - 1)|| !iL b 0 8000)=false):bT p a b=((thin p (gt dY.d p.dies a.toNat) b / 1000,(jN p (gt dY.d p.dies a.toNat) b+999) / 1000),0):=by
 unfold bT
 rw[if_neg (by rw[h];decide),if_neg (by simpa using h2)]
end
set_option maxRecDepth 100000
set_option maxHeartbeats 4000000
theorem cM(n lo hi:Int):Pure Tryz.prog 60 [.int .i64 n,.int .i64 lo,.int .i64 hi] (.bool (iL n lo hi)):=by
 refine Kf (N:=15) Tryz.func60 ?_
 iterate 10 refine af ?_
 refine Kg 11 10 0 rfl (fun h=>(aa.move rfl rfl)) ?_
 refine Kg 12 10 2 rfl (fun h=>(aa.move rfl rfl)) ?_
 refine aj.g 13 10 rfl rfl rfl rfl rfl rfl rfl [(11,_),(12,_)] (fun h=>And.intro (.inr ⟨_,rfl,h⟩) (And.intro (.inr ⟨_,rfl,h⟩) (trivial))) (fun h=>(aa.leq rfl rfl rfl)) ?_
 exact Jj
theorem gZ(a b lo hi:Int):Pure Tryz.prog 132 [.agg [.int .i64 a,.int .i64 b],.int .i64 lo,.int .i64 hi] (.bool (OG a b lo hi)):=by
 refine Kf (N:=24) Tryz.func132 ?_
 iterate 12 refine af ?_
 refine Kg 12 11 3 rfl (fun h=>(aa.fieldAddr rfl rfl an rfl)) ?_
 refine Kh 13 11 12 rfl rfl rfl rfl (fun h=>(aa.load rfl rfl an rfl)) ?_
 refine Kg 14 11 3 rfl (fun h=>(aa.fieldAddr rfl rfl an rfl)) ?_
 refine Kh 15 11 14 rfl rfl rfl rfl (fun h=>(aa.load rfl rfl an rfl)) ?_
 refine aj.g 16 11 rfl rfl rfl rfl rfl rfl rfl [(13,_),(15,_)] (fun h=>And.intro (.inr ⟨_,rfl,h⟩) (And.intro (.inr ⟨_,rfl,h⟩) (trivial))) (fun h=>(aa.leq rfl rfl rfl)) ?_
 refine Kc (aa.dM rfl rfl rfl ?_) ?_
 ·exact eM
 refine af ?_
 refine Kg 19 18 3 rfl (fun h=>(aa.fieldAddr rfl rfl an rfl)) ?_
 refine Kh 20 18 19 rfl rfl rfl rfl (fun h=>(aa.load rfl rfl an rfl)) ?_
 refine Kg 21 18 2 rfl (fun h=>(aa.move rfl rfl)) ?_
 refine aj.g 22 18 rfl rfl rfl rfl rfl rfl rfl [(20,_),(21,_)] (fun h=>And.intro (.inr ⟨_,rfl,h⟩) (And.intro (.inr ⟨_,rfl,h⟩) (trivial))) (fun h=>(aa.leq rfl rfl rfl)) ?_
 exact Jj
theorem F7(d:dY):Pure Tryz.prog 131 [.agg d.cells] (.bool (u7 d)):=by
 refine Kf (N:=13) Tryz.func131 ?_
 exact Xe
theorem Gc(d:cO):Pure Tryz.prog 134 [.agg d.cells] (.bool (wH d)):=by
 refine Kf (N:=13) Tryz.func134 ?_
 exact Xe
theorem sO(xs:List dY)(f:PV)(p:dY->Bool)(hx:xs.length<=cJ)(hf:∀ x∈xs,ju Tryz.prog f [.agg x.cells] (.bool (p x))):Pure Tryz.prog 173 [.is (xs.flatMap dY.cells) xs.length,f] (.int .i64 (Ck.iI p xs)):=by
 unfold cJ at hx
 refine Kf (N:=19) Tryz.func173 ?_
 iterate 12 refine af ?_
 refine aB.xS [4,5,8,9,10,11,12,13,14,15,16,17,18] (fun g=>[(8,.p (.int .i64 ((g:Nat):Int)))]) (fun g=>g<=xs.length∧∀ j (hj:j<g) (h:g<=xs.length),p (xs[j]'(by omega))=false) (fun g=>xs.length - g) 0 ⟨Zl _,fun j hj=>absurd hj (by omega)⟩ (Sub.cons rfl (Sub.nil)) (fun i hg=> ?_)
 obtain⟨zF,ou⟩:=hg
 iterate 5 refine af ?_
 refine Ki (fun hc0=> ?_) fun hc0=> ?_
 ·iterate 13 refine af ?_
  refine Kc (aa.jK rfl rfl rfl an VX rfl (fun _=>rfl) (by decide) ?_) ?_
  ·simp at hc0;omega
  exact Wv
 ·exact TB
theorem qY(xs:List cO)(f:PV)(p:cO->Bool)(hx:xs.length<=cJ)(hf:∀ x∈xs,ju Tryz.prog f [.agg x.cells] (.bool (p x))):Pure Tryz.prog 174 [.is (xs.flatMap cO.cells) xs.length,f] (.int .i64 (Ck.iI p xs)):=by
 unfold cJ at hx
 refine Kf (N:=19) Tryz.func174 ?_
 iterate 12 refine af ?_
 refine aB.xS [4,5,8,9,10,11,12,13,14,15,16,17,18] (fun g=>[(8,.p (.int .i64 ((g:Nat):Int)))]) (fun g=>g<=xs.length∧∀ j (hj:j<g) (h:g<=xs.length),p (xs[j]'(by omega))=false) (fun g=>xs.length - g) 0 ⟨Zl _,fun j hj=>absurd hj (by omega)⟩ (Sub.cons rfl (Sub.nil)) (fun i hg=> ?_)
 obtain⟨zF,ou⟩:=hg
 iterate 5 refine af ?_
 refine Ki (fun hc0=> ?_) fun hc0=> ?_
 ·iterate 13 refine af ?_
  refine Kc (aa.jK rfl rfl rfl an Iv rfl (fun _=>rfl) (by decide) ?_) ?_
  ·simp at hc0;omega
  exact Wv
 ·exact TB
theorem oJ(xs:List dY)(f:PV)(p:dY->Bool)(hx:xs.length<=cJ)(hf:∀ x∈xs,ju Tryz.prog f [.agg x.cells] (.bool (p x))):Pure Tryz.prog 133 [.is (xs.flatMap dY.cells) xs.length,f] (.bool (xs.any p)):=by
 refine Kf (N:=9) Tryz.func133 ?_
 iterate 8 refine af ?_
 refine Kc (Kp (sO _ _ p ?_ ?_)) ?_
 ·exact hx
 ·exact hf
 iterate 4 refine af ?_
 refine Fin.gw rfl rfl ?_
 rw[Ck.kA]
theorem oe(xs:List cO)(f:PV)(p:cO->Bool)(hx:xs.length<=cJ)(hf:∀ x∈xs,ju Tryz.prog f [.agg x.cells] (.bool (p x))):Pure Tryz.prog 135 [.is (xs.flatMap cO.cells) xs.length,f] (.bool (xs.any p)):=by
 refine Kf (N:=9) Tryz.func135 ?_
 iterate 8 refine af ?_
 refine Kc (Kp (qY _ _ p ?_ ?_)) ?_
 ·exact hx
 ·exact hf
 iterate 4 refine af ?_
 refine Fin.gw rfl rfl ?_
 rw[Ck.kA]
theorem oT(p:bB)(hx:p.dies.length<=cJ):Pure Tryz.prog 58 [bO p] (.bool (dH p)):=by
 refine Kf (N:=27) Tryz.func58 ?_
 iterate 14 refine af ?_
 refine Kc (Kp (cM _ _ _)) ?_
 refine af ?_
 refine Kg 10 9 1 rfl (fun h=>(aa.fieldAddr rfl rfl an rfl)) ?_
 refine Kh 11 9 10 rfl rfl rfl rfl (fun h=>(aa.load rfl rfl an rfl)) ?_
 refine Kh 12 9 11 rfl rfl rfl rfl (fun h=>(Kp (cM _ _ _))) ?_
 refine Kc (aa.dM rfl rfl rfl ?_) ?_
 ·exact eM
 iterate 6 refine af ?_
 refine Kg 16 15 1 rfl (fun h=>(aa.fieldAddr rfl rfl an rfl)) ?_
 refine Kh 17 15 16 rfl rfl rfl rfl (fun h=>(aa.load rfl rfl an rfl)) ?_
 refine Kh 18 15 17 rfl rfl rfl rfl (fun h=>(Kp (gZ _ _ _ _))) ?_
 refine Kc (aa.dM rfl rfl rfl ?_) ?_
 ·exact eM
 refine af ?_
 refine Kg 21 20 1 rfl (fun h=>(aa.fieldAddr rfl rfl an rfl)) ?_
 refine Kh 22 20 21 rfl rfl rfl rfl (fun h=>(aa.load rfl rfl an rfl)) ?_
 refine Kg 23 20 3 rfl (fun h=>(aa.move rfl rfl)) ?_
 refine aj.g 24 20 rfl rfl rfl rfl rfl rfl rfl [(22,_),(23,_)] (fun h=>And.intro (.inr ⟨_,rfl,h⟩) (And.intro (.inr ⟨_,rfl,h⟩) (trivial))) (fun h=>(Kp (oJ p.dies _ u7 ?_ ?_))) ?_
 ·exact hx
 ·exact fun x _=>⟨131,[.agg x.cells],rfl,an,F7 x⟩
 refine Kh 25 20 24 rfl rfl rfl rfl (fun h=>(aa.iZ rfl rfl)) ?_
 exact Jj
theorem sr(l:List cO)(hx:l.length<=cJ):Pure Tryz.prog 59 [fJ l] (.bool (kg l)):=by
 refine Kf (N:=13) Tryz.func59 ?_
 iterate 14 refine af ?_
 refine Kg 8 7 0 rfl (fun h=>(aa.move rfl rfl)) ?_
 refine Kg 9 7 3 rfl (fun h=>(aa.move rfl rfl)) ?_
 refine aj.g 10 7 rfl rfl rfl rfl rfl rfl rfl [(8,_),(9,_)] (fun h=>And.intro (.inr ⟨_,rfl,h⟩) (And.intro (.inr ⟨_,rfl,h⟩) (trivial))) (fun h=>(Kp (oe l _ wH ?_ ?_))) ?_
 ·exact hx
 ·exact fun x _=>⟨134,[.agg x.cells],rfl,an,Gc x⟩
 refine Kh 11 7 10 rfl rfl rfl rfl (fun h=>(aa.iZ rfl rfl)) ?_
 exact Jj
theorem Bi(p:bB)(d:dY)(u:Int)(hs:0<=p.CV∧p.CV<=p.CH∧p.CH<=300)(hd:u7 d=false)(hu:0<=u∧u<=9000):Pure Tryz.prog 142 [.int .i64 u,.ip (NK p d) 0] (.int .i64 (thin p d u)):=by
 obtain⟨hw,h1,h2,h3⟩:=nT hd
 obtain⟨b1,b2,b3,b4⟩:=rK (a:=d.wide) (b:=d.lo) (u:=u) (s:=p.CH) hw (by omega) hu (by omega)
 refine Kf (N:=19) Tryz.func142 ?_
 exact PO
theorem zK(p:bB)(d:dY)(u:Int)(hs:0<=p.CV∧p.CV<=p.CH∧p.CH<=300)(hd:u7 d=false)(hu:0<=u∧u<=9000):Pure Tryz.prog 143 [.int .i64 u,.ip (NK p d) 0] (.int .i64 (jN p d u)):=by
 obtain⟨hw,h1,h2,h3⟩:=nT hd
 obtain⟨b1,b2,b3,b4⟩:=rK (a:=d.wide) (b:=d.hi) (u:=u) (s:=p.CV) hw (by omega) hu (by omega)
 refine Kf (N:=19) Tryz.func143 ?_
 exact PO
theorem EB(p:bB)(d:dY):Pure Tryz.prog 68 [.agg (NK p d)] (.agg [.func (.func 142) [] [.ip (NK p d) 0],.func (.func 143) [] [.ip (NK p d) 0]]):=by
 refine Kf (N:=6) Tryz.func68 ?_
 iterate 7 refine af ?_
 refine Kc (aa.makeFunc rfl rfl rfl) ?_
 refine Kc (aa.makeFunc rfl rfl rfl) ?_
 iterate 4 refine af ?_
 exact OI
theorem Je(p:bB)(j:Nat)(hj:j<p.dies.length):Pure Tryz.prog 61 [bO p,.int .i64 (j:Int)] (.agg (NK p (gt dY.d p.dies j))):=by
 refine Kf (N:=13) Tryz.func61 ?_
 iterate 6 refine af ?_
 refine aB.az 8 mixed (by kernel_rfl) (by decide) ?_
 iterate 3 refine af ?_
 refine Kq (aa.aJ (g:=gt dY.d p.dies) (aC _) rfl rfl rfl an VX rfl (fun _=>rfl) (by decide) hj) ?_
 refine Kq (Kl (.p (.agg (gt dY.d p.dies j).cells))) ?_
 iterate 2 refine af ?_
 refine Kq (aa.build rfl an rfl rfl) ?_
 refine ay.nil ?_
 refine Kz (aa.store (H':=[.cells ((NK p (gt dY.d p.dies j)).map .p) 132]) rfl rfl rfl rfl rfl an rfl rfl) ?_
 iterate 2 refine af ?_
 exact OI
theorem rF(p:bB)(j:Int)(hj:j.toNat<p.dies.length)(h0:0<=j):Pure Tryz.prog 61 [bO p,.int .i64 j] (.agg (NK p (gt dY.d p.dies j.toNat))):=by
 have h:=Je p j.toNat hj
 rwa [Wl h0] at h
theorem Ed(p:bB)(d:dY)(a b:Int)(w:cO)(hs:0<=p.CV∧p.CV<=p.CH∧p.CH<=300)(hd:u7 d=false)(ha:0<=a∧a<=9000)(hb:0<=b∧b<=9000)(hw:wH w=false):Pure Tryz.prog 62 [.agg (NK p d),.int .i64 a,.int .i64 b,.agg [.int .i64 w.lo,.int .i64 w.hi]] (.bool (decide (1000*w.lo<=thin p d a)&&decide (jN p d b<=1000*w.hi))):=by
 obtain⟨_,k1,k2,k3⟩:=nA hw
 refine Kf (N:=30) Tryz.func62 ?_
 iterate 9 refine af ?_
 refine Kc (Kp (EB p d)) ?_
 iterate 4 refine af ?_
 refine aB.az 19 mixed (by kernel_rfl) (by decide) ?_
 refine Kq (aa.mD rfl rfl rfl Dv En (by omega) (by omega) rfl) ?_
 iterate 2 refine af ?_
 refine Kq (aa.fe (Bi p d a hs hd ha) rfl rfl rfl rfl (an)) ?_
 iterate 2 refine af ?_
 refine Kq (aa.mul rfl rfl rfl (aH ?_)) ?_
 ·omega
 refine Kq (aa.geq rfl rfl rfl) ?_
 refine af ?_
 refine ay.guard 21 20 rfl rfl rfl rfl rfl rfl rfl [(9,_)] (fun h=>And.intro (.inl rfl) (trivial)) (fun h=>(aa.mD rfl rfl rfl Dv En (by omega) (by omega) rfl)) ?_
 refine ay.guard 22 20 rfl rfl rfl rfl rfl rfl rfl [(21,_)] (fun h=>And.intro (.inr ⟨_,rfl,h⟩) (trivial)) (fun h=>(aa.load rfl rfl an rfl)) ?_
 refine ay.guard 23 20 rfl rfl rfl rfl rfl rfl rfl [(2,_)] (fun h=>And.intro (.inl rfl) (trivial)) (fun h=>(aa.move rfl rfl)) ?_
 refine ay.guard 24 20 rfl rfl rfl rfl rfl rfl rfl [(22,_),(23,_)] (fun h=>And.intro (.inr ⟨_,rfl,h⟩) (And.intro (.inr ⟨_,rfl,h⟩) (trivial))) (fun h=>(aa.fe (zK p d b hs hd hb) rfl rfl rfl rfl (an))) ?_
 refine ay.guard 25 20 rfl rfl rfl rfl rfl rfl rfl [(7,_)] (fun h=>And.intro (.inl rfl) (trivial)) (fun h=>(aa.fieldAddr rfl rfl an rfl)) ?_
 refine ay.guard 26 20 rfl rfl rfl rfl rfl rfl rfl [(25,_)] (fun h=>And.intro (.inr ⟨_,rfl,h⟩) (trivial)) (fun h=>(aa.load rfl rfl an rfl)) ?_
 refine ay.guard 27 20 rfl rfl rfl rfl rfl rfl rfl [(26,_)] (fun h=>And.intro (.inr ⟨_,rfl,h⟩) (trivial)) (fun h=>(aa.mul rfl rfl rfl (aH ?_))) ?_
 ·omega
 refine ay.guard 28 20 rfl rfl rfl rfl rfl rfl rfl [(24,_),(27,_)] (fun h=>And.intro (.inr ⟨_,rfl,h⟩) (And.intro (.inr ⟨_,rfl,h⟩) (trivial))) (fun h=>(aa.leq rfl rfl rfl)) ?_
 refine Kq (aa.dM rfl rfl rfl ?_) ?_
 ·exact eM
 refine af ?_
 refine ay.nil ?_
 iterate 2 refine af ?_
 exact Df
theorem tn(p:bB)(j u:Int)(hp:p.dies.length<=cJ):Pure Tryz.prog 28 [bO p,.int .i64 j,.int .i64 u] (.tuple [.agg [.int .i64 (bT p j u).1.1,.int .i64 (bT p j u).1.2],.int .i64 (bT p j u).2]):=by
 have O4:=hp
 unfold cJ at O4
 refine Kf (N:=45) Tryz.func28 ?_
 iterate 11 refine af ?_
 refine Kc (Kp (oT p hp)) ?_
 iterate 3 refine af ?_
 refine Ki (fun hc0=> ?_) fun hc0=> ?_
 ·have hv:dH p=false:=by simpa using hc0
  iterate 7 refine af ?_
  refine Fin.dW (xs:=[.agg [.int .i64 0,.int .i64 0],.int .i64 1]) rfl (⟨_,_,rfl,⟨_,_,_,rfl,an,rfl⟩,⟨_,_,rfl,rfl,rfl⟩⟩) rfl ?_
  rw[NH hv]
 ·have hv:dH p=true:=by simpa using hc0
  obtain⟨⟨n1,n4⟩,_,hsh,MM⟩:=gY hv
  iterate 6 refine af ?_
  refine Kc (aa.iC rfl rfl rfl (aH ?_)) ?_
  ·omega
  refine Kc (Kp (cM _ _ _)) ?_
  iterate 2 refine af ?_
  refine Kg 23 22 2 rfl (fun h=>(aa.move rfl rfl)) ?_
  refine Kh 24 22 23 rfl rfl rfl rfl (fun h=>(Kp (cM _ _ _))) ?_
  refine Kh 25 22 24 rfl rfl rfl rfl (fun h=>(aa.iZ rfl rfl)) ?_
  refine Kc (aa.me rfl rfl rfl ?_) ?_
  ·exact eM
  iterate 2 refine af ?_
  refine Ki (fun cF=> ?_) fun cF=> ?_
  ·iterate 7 refine af ?_
   refine Fin.dW (xs:=[.agg [.int .i64 0,.int .i64 0],.int .i64 2]) rfl (⟨_,_,rfl,⟨_,_,_,rfl,an,rfl⟩,⟨_,_,rfl,rfl,rfl⟩⟩) rfl ?_
   rw[OD hv (by assumption)]
  ·have hj:iL j 0 ((p.dies.length:Int) - 1)=true∧iL u 0 8000=true:=by simpa using cF
   obtain⟨j0,j1⟩:=fH hj.1
   obtain⟨u0,u1⟩:=fH hj.2
   have hjl:j.toNat<p.dies.length:=by omega
   obtain⟨q,hq⟩:∃ q:Nat,j=(q:Int):=⟨_,(Wl j0).symm⟩
   have RZ:=MM _ (bq dY.d hjl)
   obtain⟨w1,w2,w3,w4⟩:=nT RZ
   obtain⟨_,_,e1,e2⟩:=rK (a:=(gt dY.d p.dies j.toNat).wide) (b:=(gt dY.d p.dies j.toNat).lo) (u:=u) (s:=p.CH) w1 (by omega) (by omega) (by omega)
   obtain⟨_,_,e3,e4⟩:=rK (a:=(gt dY.d p.dies j.toNat).wide) (b:=(gt dY.d p.dies j.toNat).hi) (u:=u) (s:=p.CV) w1 (by omega) (by omega) (by omega)
   have e1:0<=thin p (gt dY.d p.dies j.toNat) u:=e1
   have e2:thin p (gt dY.d p.dies j.toNat) u<=1820000000:=e2
   have e3:0<=jN p (gt dY.d p.dies j.toNat) u:=e3
   have e4:jN p (gt dY.d p.dies j.toNat) u<=1820000000:=e4
   skip
   iterate 5 refine af ?_
   refine Kc (Kp (rF p j hjl j0)) ?_
   refine Kc (Kp (EB p (gt dY.d p.dies j.toNat))) ?_
   iterate 4 refine af ?_
   refine aB.az 13 mixed (by kernel_rfl) (by decide) ?_
   refine Kq (aa.mD rfl rfl rfl Dv En (by omega) (by omega) rfl) ?_
   iterate 2 refine af ?_
   refine Kq (aa.fe (Bi p (gt dY.d p.dies j.toNat) u hsh RZ (by omega)) rfl rfl rfl rfl (an)) ?_
   refine Kq (aa.quo (m:=(thin p (gt dY.d p.dies j.toNat) u / 1000)) rfl rfl rfl (by decide) ((aH (by rw[YQ (by omega)];omega)).trans (YQ (by omega)))) ?_
   refine Kq (aa.mD rfl rfl rfl Dv En (by omega) (by omega) rfl) ?_
   iterate 2 refine af ?_
   refine Kq (aa.fe (zK p (gt dY.d p.dies j.toNat) u hsh RZ (by omega)) rfl rfl rfl rfl (an)) ?_
   refine Kq (aa.add rfl rfl rfl (aH ?_)) ?_
   ·omega
   refine Kq (aa.iC (m:=(jN p (gt dY.d p.dies j.toNat) u+999)) rfl rfl rfl ((aH ?_).trans ?_)) ?_
   ·omega
   ·omega
   refine Kq (aa.quo (m:=((jN p (gt dY.d p.dies j.toNat) u+999) / 1000)) rfl rfl rfl (by decide) ((aH (by rw[YQ (by omega)];omega)).trans (YQ (by omega)))) ?_
   refine Kq (aa.build rfl an rfl rfl) ?_
   refine ay.nil ?_
   iterate 4 refine af ?_
   refine Fin.dW (xs:=[.agg [.int .i64 (thin p (gt dY.d p.dies j.toNat) u / 1000),.int .i64 ((jN p (gt dY.d p.dies j.toNat) u+999) / 1000)],.int .i64 0]) rfl (⟨_,_,rfl,⟨_,_,_,rfl,an,rfl⟩,⟨_,_,rfl,rfl,rfl⟩⟩) rfl ?_
   rw[A8 hv (by assumption)]
theorem kT(p:bB)(l:List cO)(plan:List Int)(hp:p.dies.length<=cJ)(hl:l.length<=cJ)(hn:plan.length<=cJ):Pure Tryz.prog 21 [bO p,fJ l,bI plan] (.tuple [Wp (fR p l plan).1,.int .i64 (fR p l plan).2.1,.int .i64 (fR p l plan).2.2]):=by
 have O4:=hp
 have rG:=hl
 have hn2:=hn
 unfold cJ at O4 rG hn2
 refine Kf (N:=93) Tryz.func21 ?_
 iterate 12 refine af ?_
 refine Kc (Kp (oT p hp)) ?_
 iterate 3 refine af ?_
 refine Ki (fun hc0=> ?_) fun hc0=> ?_
 ·have hv:dH p=false:=by simpa using hc0
  iterate 7 refine af ?_
  refine Fin.dW (xs:=[.nilSlice,.int .i64 0,.int .i64 1]) rfl ⟨_,_,rfl,rfl,⟨_,_,rfl,rfl,⟨_,_,rfl,rfl,rfl⟩⟩⟩ rfl ?_
  rw[CF hv]
  rfl
 ·have hv:dH p=true:=by simpa using hc0
  obtain⟨⟨n1,n4⟩,_,hsh,MM⟩:=gY hv
  iterate 3 refine af ?_
  refine Kc (Kp (sr l hl)) ?_
  iterate 3 refine af ?_
  refine Ki (fun cF=> ?_) fun cF=> ?_
  ·have hd:kg l=false:=by simpa using cF
   iterate 7 refine af ?_
   refine Fin.dW (xs:=[.nilSlice,.int .i64 0,.int .i64 2]) rfl ⟨_,_,rfl,rfl,⟨_,_,rfl,rfl,⟨_,_,rfl,rfl,rfl⟩⟩⟩ rfl ?_
   rw[GO hv hd]
   rfl
  ·have hd:kg l=true:=by simpa using cF
   obtain⟨hl8,St⟩:=jy hd
   iterate 6 refine af ?_
   refine Kc (aa.makeSlice (n:=p.dies.length) (c:=p.dies.length) rfl rfl rfl an an (by decide) (Zg _) (by show 8*p.dies.length<=281474976710656;omega)) ?_
   iterate 4 refine af ?_
   rw[DK]
   refine aB.norm [0] [(1,_),(2,_),(3,_),(6,.row 0 p.dies.length)] [.row (((List.replicate p.dies.length 0).flatMap cE).map .p) 3] rfl KS (by show[ai.row (bn _ (List.map V.p _)) _]=_;rw[aY]) ?_
   iterate 6 refine af ?_
   refine aB.cR [1,2,3,24,25,83,84,85,86,87,88,89,90,91,92] (fun g=>[(26,.p (.int .i64 ((g.1:Nat):Int))),(6,.row 0 p.dies.length)]) (fun g=>[.row ((g.2.flatMap cE).map .p) 3]) (fun g=>g.1<=l.length∧As p g.2 (1000*(g.1:Int))∧fM p plan 0 (List.replicate p.dies.length 0) l=fM p plan g.1 g.2 (l.drop g.1)) (fun g=>l.length - g.1) (0,List.replicate p.dies.length 0) ⟨Zl _,Qj p,rfl⟩ (To.sub (Sub.xx (Sub.cons rfl (Sub.cons rfl (Sub.nil))))) (fun g hg=> ?_)
   obtain⟨i,u⟩:=g
   obtain⟨zF,ou,DL⟩:=hg
   dsimp only at zF ou DL ⊢
   have YS:=ou.1
   iterate 5 refine af ?_
   refine Ki (fun gW=> ?_) fun gW=> ?_
   ·have hk0:i<l.length:=by have h:(i:Int)<(l.length:Int):=Zf gW;omega
    have hW:=nA (St _ (bq cO.d hk0))
    iterate 6 refine af ?_
    refine Kc (aa.aJ (g:=gt cO.d l) (aC _) rfl rfl rfl an Iv rfl (fun _=>rfl) (by decide) hk0) ?_
    refine Kc (Kl (.p (.agg (gt cO.d l i).cells))) ?_
    iterate 2 refine af ?_
    refine Kz (aa.store (H':=[.row ((u.flatMap cE).map .p) 3,.cells ((gt cO.d l i).cells.map .p) 81]) rfl rfl rfl rfl rfl an rfl rfl) ?_
    iterate 11 refine af ?_
    refine Ki (fun mc=> ?_) fun mc=> ?_
    ·have hpl:(plan.length:Int)<=(i:Int):=Zf mc
     iterate 8 refine af ?_
     refine Fin.dW (xs:=[.nilSlice,.int .i64 (i:Int),.int .i64 4]) rfl ⟨_,_,rfl,rfl,⟨_,_,rfl,rfl,⟨_,_,rfl,rfl,rfl⟩⟩⟩ rfl ?_
     rw[gB hv hd,DL,O1 hk0 hpl]
     rfl
    ·have hpl:¬ (plan.length:Int)<=(i:Int):=Zh mc
     have TX:i<plan.length:=by omega
     refine af ?_
     refine aB.az 11 mixed (by kernel_rfl) (by decide) ?_
     iterate 2 refine af ?_
     refine Kq (aa.aJ (g:=gt 0 plan) (aC _) rfl rfl rfl an dA rfl (fun _=>rfl) (by decide) TX) ?_
     refine Kq (Kl (.p (.int .i64 (gt 0 plan i)))) ?_
     iterate 2 refine af ?_
     refine Kq (aa.aQ rfl rfl an rfl) ?_
     refine Kq (aa.iC rfl rfl rfl (aH ?_)) ?_
     ·omega
     refine Kq (Kp (cM _ _ _)) ?_
     refine Kq (aa.iZ rfl rfl) ?_
     refine af ?_
     refine ay.nil ?_
     refine af ?_
     refine Ki (fun zI=> ?_) fun zI=> ?_
     ·have hin:iL (gt 0 plan i) 0 ((p.dies.length:Int) - 1)=false:=by simpa using zI
      iterate 8 refine af ?_
      refine Fin.dW (xs:=[.nilSlice,.int .i64 (i:Int),.int .i64 2]) rfl ⟨_,_,rfl,rfl,⟨_,_,rfl,rfl,⟨_,_,rfl,rfl,rfl⟩⟩⟩ rfl ?_
      rw[gB hv hd,DL,QO hk0 hpl hin]
      rfl
     ·have hin:iL (gt 0 plan i) 0 ((p.dies.length:Int) - 1)=true:=by simpa using zI
      obtain⟨Va,hq1⟩:=fH hin
      have hq:(gt 0 plan i).toNat<p.dies.length:=by omega
      have C4:(gt 0 plan i).toNat<u.length:=by omega
      have hud:=ou.2 _ C4
      have RZ:=MM _ (bq dY.d hq)
      iterate 6 refine af ?_
      refine Kc (aa.aJ (g:=gt 0 plan) (aC _) rfl rfl rfl an dA rfl (fun _=>rfl) (by decide) TX) ?_
      refine Kc (Kl (.p (.int .i64 (gt 0 plan i)))) ?_
      refine Kc (aa.ko rfl rfl rfl an dA Va (by omega)) ?_
      iterate 4 refine af ?_
      refine aB.az 19 mixed (by kernel_rfl) (by decide) ?_
      iterate 3 refine af ?_
      refine Kq (aa.aJ (g:=gt 0 plan) (aC _) rfl rfl rfl an dA rfl (fun _=>rfl) (by decide) TX) ?_
      refine Kq (Kl (.p (.int .i64 (gt 0 plan i)))) ?_
      refine Kq (Kp (rF p (gt 0 plan i) hq Va)) ?_
      refine af ?_
      refine Kq (aa.nilCheck rfl rfl) ?_
      refine Kq (aa.kR (f:=cE) (c:=1) (k:=(gt 0 plan i).toNat) (j:=0) (xs:=u) rfl rfl an rfl rfl (by omega) (fun _=>rfl) C4 (by decide) (show _=PV.int .i64 (gt 0 u (gt 0 plan i).toNat) from by rw[aC 0 _ C4];rfl)) ?_
      refine af ?_
      refine Kq (aa.nilCheck rfl rfl) ?_
      refine Kq (aa.kR (f:=cE) (c:=1) (k:=(gt 0 plan i).toNat) (j:=0) (xs:=u) rfl rfl an rfl rfl (by omega) (fun _=>rfl) C4 (by decide) (show _=PV.int .i64 (gt 0 u (gt 0 plan i).toNat) from by rw[aC 0 _ C4];rfl)) ?_
      iterate 2 refine af ?_
      refine Kq (aa.add (m:=(gt 0 u (gt 0 plan i).toNat+(gt cO.d l i).len)) rfl rfl rfl ((aH ?_).trans ?_)) ?_
      ·omega
      ·rfl
      iterate 2 refine af ?_
      refine Kq (Kp (Ed p (gt dY.d p.dies (gt 0 plan i).toNat) (gt 0 u (gt 0 plan i).toNat) ((gt 0 u (gt 0 plan i).toNat)+(gt cO.d l i).len) (gt cO.d l i) hsh RZ (by omega) (by omega) (St _ (bq cO.d hk0)))) ?_
      refine Kq (aa.iZ rfl rfl) ?_
      refine ay.nil ?_
      refine af ?_
      refine Ki (fun xg=> ?_) fun xg=> ?_
      ·have M8:zb p (gt dY.d p.dies (gt 0 plan i).toNat) (gt 0 u (gt 0 plan i).toNat) (gt cO.d l i)=false:=by first | simpa only[D0] using xg | (unfold zb;simpa only[D0] using xg)
       iterate 8 refine af ?_
       refine Fin.dW (xs:=[.nilSlice,.int .i64 (i:Int),.int .i64 11]) rfl ⟨_,_,rfl,rfl,⟨_,_,rfl,rfl,⟨_,_,rfl,rfl,rfl⟩⟩⟩ rfl ?_
       rw[gB hv hd,DL,Js hk0 hpl hin M8]
       rfl
      ·exact TD
   ·have hi2:i=l.length:=by have h:¬ ((i:Int)<(l.length:Int)):=Zh gW;omega
    subst hi2
    refine aB.exit ?_
    iterate 9 refine af ?_
    refine Ki (fun wO=> ?_) fun wO=> ?_
    ·have hlt:(l.length:Int)<(plan.length:Int):=Zf wO
     iterate 9 refine af ?_
     refine Fin.dW (xs:=[.nilSlice,.int .i64 (l.length:Int),.int .i64 2]) rfl ⟨_,_,rfl,rfl,⟨_,_,rfl,rfl,⟨_,_,rfl,rfl,rfl⟩⟩⟩ rfl ?_
     rw[gB hv hd,DL,BB hlt]
     rfl
    ·have hlt:¬ (l.length:Int)<(plan.length:Int):=Zh wO
     refine aB.freeze 0 rfl (ke _) ?_
     iterate 11 refine af ?_
     skip
     refine Fin.dW (xs:=[(.is (u.flatMap cE) p.dies.length),.int .i64 (l.length:Int),.int .i64 0]) rfl ⟨_,_,rfl,rfl,⟨_,_,rfl,rfl,⟨_,_,rfl,rfl,rfl⟩⟩⟩ rfl ?_
     rw[gB hv hd,DL,Jv hlt]
     show[PV.is _ _,_,_]=[PV.is _ _,_,_]
     rw[YS]
end Go.Proofs.YtchiinjiflgepaaGreatDoor.Di
end
