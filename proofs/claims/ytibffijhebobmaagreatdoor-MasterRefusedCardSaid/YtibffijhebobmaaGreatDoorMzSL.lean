/-
 The law MasterBack.
 The law MasterRefused.
-/
import Derived.Test.YtibffijhebobmaaGreatDoorMzSF
import Derived.Test.YtibffijhebobmaaGreatDoorMzSK
import Derived.Test.YtibffijhebobmaaGreatDoorMzSJ
import Derived.Test.YtibffijhebobmaaGreatDoorMzSM
import Derived.Test.YtibffijhebobmaaGreatDoorFaSF
import Derived.Test.YtibffijhebobmaaGreatDoorMzSZ
theorem En{A:Prop}(h:A:=by
 refine Kc (aa.kA rfl rfl rfl ?_) ?_
 ·exact ax
 refine af ?_
 refine Ki (fun hc0=> ?_) fun hc0=> ?_
 ·exact mU
 ·iterate 3 refine af ?_
  refine Kc (Kl (.p (Di.cI p))) ?_
  refine af ?_
  refine Kc (Kp (LI p ws (by omega) h3)) ?_
  iterate 6 refine af ?_
  refine Kc (aa.Nh rfl rfl rfl an) ?_
  refine af ?_
  refine aF.yx rfl ?_
  iterate 2 refine af ?_
  refine Kc (Kp (gE)) ?_
  exact lp):A:=h
theorem Eg{A:Prop}(h:A:=by
 refine Kc (aa.kA rfl rfl rfl ?_) ?_
 ·exact ax
 refine af ?_
 refine Ki (fun hc0=> ?_) fun hc0=> ?_
 ·iterate 2 refine af ?_
  refine Kc (Kp (gE)) ?_
  exact lp
 ·exact mU):A:=h
theorem Cx{A:Prop}(h:A:=by
 unfold O1 wP uZ tB
 revert h
 cases decide (s=[98,97,99,107]) <;> cases decide (s=[107,101,101,112]) <;> cases decide (s=[109,97,114,107]) <;> decide):A:=h
theorem mU{A:Prop}(h:A:=by
 exfalso
 rw[h1] at hc0
 cases hc0):A:=h
set_option linter.unusedSimpArgs false
set_option linter.unusedVariables false
section
set_option maxRecDepth 100000
set_option maxHeartbeats 4000000
namespace Go.Proofs.YtibffijhebobmaaGreatDoor
open Go.AF
theorem T7{s:Bs}(h:((!decide (s=[98,97,99,107])&& !decide (s=[107,101,101,112]))&& !decide (s=[109,97,114,107]))=true):O1 s=false:=by
 exact Cx
theorem Rc{s:Bs}(h:((!decide (s=[98,97,99,107])&& !decide (s=[107,101,101,112]))&& !decide (s=[109,97,114,107]))=false):O1 s=true:=by
 exact Cx
theorem Mu{a b:Bool}(h:(a||b)=false):a=false∧b=false:=by cases a <;> cases b <;> first | exact⟨rfl,rfl⟩ | cases h
theorem JJ(p:Di.bJ)(ws ms:List Bs)(nA:ws.length<=9223372036854775807)(hml:ms.length<=9223372036854775807)(hpl:p.dies.length<=9223372036854775807)(h1:(e9 p ws||e9 p ms)=true):Pure Tryz.prog 3 [Di.cI p,cz ws,cz ms] (.bool true):=by
 refine Kf (N:=159) Tryz.func3 ?_
 iterate 8 refine af ?_
 refine Kc (Kl (.p (Di.cI p))) ?_
 refine af ?_
 refine Kc (Kp (fK p ws nA hpl)) ?_
 refine af ?_
 refine Kg 19 18 3 rfl (fun h=>(Kl (.p (Di.cI p)))) ?_
 refine Kg 20 18 2 rfl (fun h=>(aa.move rfl rfl)) ?_
 refine aj.g 21 18 rfl rfl rfl rfl rfl rfl rfl [(19,_),(20,_)] (fun h=>And.intro (.inr ⟨_,rfl,h⟩) (And.intro (.inr ⟨_,rfl,h⟩) (trivial))) (fun h=>(Kp (fK p ms hml hpl))) ?_
 exact Eg
theorem Pg(p:Di.bJ)(ws ms:List Bs)(nA:ws.length<=9223372036854775807)(hml:ms.length<=9223372036854775807)(hpl:p.dies.length<=9223372036854775807)(h1:(e9 p ws||e9 p ms)=false)(h3:Di.eF p=false):Pure Tryz.prog 3 [Di.cI p,cz ws,cz ms] (.bool true):=by
 obtain⟨O7,RD,Pe⟩:=oq (Mu h1).1
 refine Kf (N:=159) Tryz.func3 ?_
 iterate 8 refine af ?_
 refine Kc (Kl (.p (Di.cI p))) ?_
 refine af ?_
 refine Kc (Kp (fK p ws nA hpl)) ?_
 refine af ?_
 refine Kg 19 18 3 rfl (fun h=>(Kl (.p (Di.cI p)))) ?_
 refine Kg 20 18 2 rfl (fun h=>(aa.move rfl rfl)) ?_
 refine aj.g 21 18 rfl rfl rfl rfl rfl rfl rfl [(19,_),(20,_)] (fun h=>And.intro (.inr ⟨_,rfl,h⟩) (And.intro (.inr ⟨_,rfl,h⟩) (trivial))) (fun h=>(Kp (fK p ms hml hpl))) ?_
 exact En
theorem IF(p:Di.bJ)(ws ms:List Bs)(nA:ws.length<=9223372036854775807)(hml:ms.length<=9223372036854775807)(hpl:p.dies.length<=9223372036854775807)(h1:(e9 p ws||e9 p ms)=false)(h3:Di.eF p=true)(h8:8<=(gh (newF p) ws ws.length).marks.length):Pure Tryz.prog 3 [Di.cI p,cz ws,cz ms] (.bool true):=by
 obtain⟨O7,RD,Pe⟩:=oq (Mu h1).1
 have hW:=vE h3
 refine Kf (N:=159) Tryz.func3 ?_
 iterate 8 refine af ?_
 refine Kc (Kl (.p (Di.cI p))) ?_
 refine af ?_
 refine Kc (Kp (fK p ws nA hpl)) ?_
 refine af ?_
 refine Kg 19 18 3 rfl (fun h=>(Kl (.p (Di.cI p)))) ?_
 refine Kg 20 18 2 rfl (fun h=>(aa.move rfl rfl)) ?_
 refine aj.g 21 18 rfl rfl rfl rfl rfl rfl rfl [(19,_),(20,_)] (fun h=>And.intro (.inr ⟨_,rfl,h⟩) (And.intro (.inr ⟨_,rfl,h⟩) (trivial))) (fun h=>(Kp (fK p ms hml hpl))) ?_
 refine Kc (aa.kA rfl rfl rfl ?_) ?_
 ·exact ax
 refine af ?_
 refine Ki (fun hc0=> ?_) fun hc0=> ?_
 ·exact mU
 ·iterate 3 refine af ?_
  refine Kc (Kl (.p (Di.cI p))) ?_
  refine af ?_
  refine aj.tN 26 (uR p ws nA (by omega) h3) rfl rfl rfl rfl rfl rfl rfl an (fun v H2 iz=> ?_)
  obtain⟨rfl,z,hz,rfl⟩:=iz
  have hF:=fU (L:=ws) hW ws.length
  generalize (gh (newF p) ws ws.length)=F at hz hF h8 ⊢
  have hm:=hF.mm
  have fb:=hF.b
  obtain⟨fu,Xa⟩:=fb.ER
  have f1:=fy Xa
  have f2:=Rx.cG fb.cd
  have f3:=fb.sk
  have f4:=fb.dr
  iterate 6 refine af ?_
  refine Kc (aa.si rfl rfl rfl an) ?_
  refine af ?_
  refine aF.nJ rfl ?_
  iterate 4 refine af ?_
  refine Kc (jN hF (en [] F z hz) rfl rfl rfl rfl an) ?_
  refine af ?_
  refine FM 33 F z hF hz rfl rfl rfl rfl rfl rfl rfl an (T2:=[(33,.p (.int .i64 (F.marks.length:Int))),(31,.p (.agg (cH F.b))),(2,.p (cz ms)),(7,.ptr 0 0)]) KS rfl (fun z1 hz1=> ?_)
  refine af ?_
  refine Kz (aa.store (H':=(bH 0 F z1++[.cells ((cH F.b).map .p) 37])) rfl rfl rfl rfl rfl an rfl (pJ (by rfl))) ?_
  iterate 4 refine af ?_
  refine aF.to (To.pN (s:=8) (h:=bH 0 F z1) (T2:=[(9,.p (.int .i64 (F.marks.length:Int))),(2,.p (cz ms)),(7,.ptr 0 0)]) (u5 hm) (Zp _) rfl rfl (by rw[fj hm];exact⟨rfl,trivial,rfl,trivial,rfl,(by show 0<47;decide),trivial⟩)) ?_
  refine aF.aB 13 mixed (by kernel_rfl) (by decide) ?_
  refine af ?_
  refine Kq (aa.lss rfl rfl rfl) ?_
  refine af ?_
  refine av.guard 37 36 rfl rfl rfl rfl rfl rfl rfl [(9,_)] (fun h=>And.intro (.inl rfl) (trivial)) (fun h=>(aa.move rfl rfl)) ?_
  refine av.guard 38 36 rfl rfl rfl rfl rfl rfl rfl [(37,_)] (fun h=>And.intro (.inr ⟨_,rfl,h⟩) (trivial)) (fun h=>(aa.gtr rfl rfl rfl)) ?_
  refine Kq (aa.kA rfl rfl rfl ?_) ?_
  ·exact ax
  refine af ?_
  refine av.guard 41 40 rfl rfl rfl rfl rfl rfl rfl [(7,_)] (fun h=>And.intro (.inl rfl) (trivial)) (fun h=>(aa.move rfl rfl)) ?_
  refine av.guard 42 40 rfl rfl rfl rfl rfl rfl rfl [(41,_)] (fun h=>And.intro (.inr ⟨_,rfl,h⟩) (trivial)) (fun h=>(jN hF (en [] F z1 hz1) rfl rfl rfl rfl an)) ?_
  refine av.guard 43 40 rfl rfl rfl rfl rfl rfl rfl [(8,_)] (fun h=>And.intro (.inl rfl) (trivial)) (fun h=>(Kl (.p (.agg (cH F.b))))) ?_
  refine av.guard 44 40 rfl rfl rfl rfl rfl rfl rfl [(42,_),(43,_)] (fun h=>And.intro (.inr ⟨_,rfl,h⟩) (And.intro (.inr ⟨_,rfl,h⟩) (trivial))) (fun h=>(Kp (ia F.b (by omega) (by omega) (by omega) (by omega)))) ?_
  refine av.guard 45 40 rfl rfl rfl rfl rfl rfl rfl [(44,_)] (fun h=>And.intro (.inr ⟨_,rfl,h⟩) (trivial)) (fun h=>(aa.gW rfl rfl)) ?_
  refine Kq (aa.kA rfl rfl rfl ?_) ?_
  ·exact ax
  refine av.nil ?_
  refine af ?_
  refine Ki (fun jb=> ?_) fun jb=> ?_
  ·exfalso
   simp at jb
   omega
  ·iterate 4 refine af ?_
   refine AN 49 F z1 [109,97,114,107] hF hz1 (th h8) rfl rfl rfl rfl rfl rfl an (T2:=[(7,.ptr 0 0),(8,.p (.ip (cH F.b) 0)),(9,.p (.int .i64 (F.marks.length:Int)))]) KS rfl (fun z2 xP=> ?_)
   iterate 12 refine af ?_
   refine Ki (fun mc=> ?_) fun mc=> ?_
   ·refine af ?_
    refine aF.aB 16 mixed (by kernel_rfl) (by decide) ?_
    refine af ?_
    refine Kq (aa.dJ [] [] rfl rfl rfl) ?_
    refine af ?_
    refine av.guard 57 56 rfl rfl rfl rfl rfl rfl rfl [(11,_)] (fun h=>And.intro (.inl rfl) (trivial)) (fun h=>(aa.move rfl rfl)) ?_
    refine av.guard 58 56 rfl rfl rfl rfl rfl rfl rfl [(57,_)] (fun h=>And.intro (.inr ⟨_,rfl,h⟩) (trivial)) (fun h=>(aa.eql rfl rfl rfl)) ?_
    refine Kq (aa.ec rfl rfl rfl ?_) ?_
    ·exact ax
    refine af ?_
    refine av.guard 61 60 rfl rfl rfl rfl rfl rfl rfl [(7,_)] (fun h=>And.intro (.inl rfl) (trivial)) (fun h=>(aa.move rfl rfl)) ?_
    refine av.guard 62 60 rfl rfl rfl rfl rfl rfl rfl [(61,_)] (fun h=>And.intro (.inr ⟨_,rfl,h⟩) (trivial)) (fun h=>(jN hF (en [] F z2 xP) rfl rfl rfl rfl an)) ?_
    refine av.guard 63 60 rfl rfl rfl rfl rfl rfl rfl [(8,_)] (fun h=>And.intro (.inl rfl) (trivial)) (fun h=>(Kl (.p (.agg (cH F.b))))) ?_
    refine av.guard 64 60 rfl rfl rfl rfl rfl rfl rfl [(62,_),(63,_)] (fun h=>And.intro (.inr ⟨_,rfl,h⟩) (And.intro (.inr ⟨_,rfl,h⟩) (trivial))) (fun h=>(Kp (ia F.b (by omega) (by omega) (by omega) (by omega)))) ?_
    refine Kq (aa.ec rfl rfl rfl ?_) ?_
    ·exact ax
    refine af ?_
    refine av.guard 67 66 rfl rfl rfl rfl rfl rfl rfl [] (fun h=>trivial) (fun h=>(Kp (gE))) ?_
    refine Kq (aa.ec rfl rfl rfl ?_) ?_
    ·exact ax
    refine af ?_
    refine av.nil ?_
    iterate 2 refine af ?_
    refine Fin.gL rfl rfl ?_
    simp
   ·exfalso
    have h:=Zk mc
    omega
theorem QV(p:Di.bJ)(ws ms:List Bs)(nA:ws.length<=9223372036854775807)(hml:ms.length<=9223372036854775807)(hpl:p.dies.length<=9223372036854775807)(h1:(e9 p ws||e9 p ms)=false)(h3:Di.eF p=true)(h8:(gh (newF p) ws ws.length).marks.length<8):Pure Tryz.prog 3 [Di.cI p,cz ws,cz ms] (.bool true):=by
 obtain⟨O7,RD,Pe⟩:=oq (Mu h1).1
 have hW:=vE h3
 refine Kf (N:=159) Tryz.func3 ?_
 iterate 8 refine af ?_
 refine Kc (Kl (.p (Di.cI p))) ?_
 refine af ?_
 refine Kc (Kp (fK p ws nA hpl)) ?_
 refine af ?_
 refine Kg 19 18 3 rfl (fun h=>(Kl (.p (Di.cI p)))) ?_
 refine Kg 20 18 2 rfl (fun h=>(aa.move rfl rfl)) ?_
 refine aj.g 21 18 rfl rfl rfl rfl rfl rfl rfl [(19,_),(20,_)] (fun h=>And.intro (.inr ⟨_,rfl,h⟩) (And.intro (.inr ⟨_,rfl,h⟩) (trivial))) (fun h=>(Kp (fK p ms hml hpl))) ?_
 refine Kc (aa.kA rfl rfl rfl ?_) ?_
 ·exact ax
 refine af ?_
 refine Ki (fun hc0=> ?_) fun hc0=> ?_
 ·exact mU
 ·iterate 3 refine af ?_
  refine Kc (Kl (.p (Di.cI p))) ?_
  refine af ?_
  refine aj.tN 26 (uR p ws nA (by omega) h3) rfl rfl rfl rfl rfl rfl rfl an (fun v H2 iz=> ?_)
  obtain⟨rfl,z,hz,rfl⟩:=iz
  have hF:=fU (L:=ws) hW ws.length
  generalize (gh (newF p) ws ws.length)=F at hz hF h8 ⊢
  have hm:=hF.mm
  have fb:=hF.b
  obtain⟨fu,Xa⟩:=fb.ER
  have f1:=fy Xa
  have f2:=Rx.cG fb.cd
  have f3:=fb.sk
  have f4:=fb.dr
  iterate 6 refine af ?_
  refine Kc (aa.si rfl rfl rfl an) ?_
  refine af ?_
  refine aF.nJ rfl ?_
  iterate 4 refine af ?_
  refine Kc (jN hF (en [] F z hz) rfl rfl rfl rfl an) ?_
  refine af ?_
  refine FM 33 F z hF hz rfl rfl rfl rfl rfl rfl rfl an (T2:=[(33,.p (.int .i64 (F.marks.length:Int))),(31,.p (.agg (cH F.b))),(2,.p (cz ms)),(7,.ptr 0 0)]) KS rfl (fun z1 hz1=> ?_)
  refine af ?_
  refine Kz (aa.store (H':=(bH 0 F z1++[.cells ((cH F.b).map .p) 37])) rfl rfl rfl rfl rfl an rfl (pJ (by rfl))) ?_
  iterate 4 refine af ?_
  refine aF.to (To.pN (s:=8) (h:=bH 0 F z1) (T2:=[(9,.p (.int .i64 (F.marks.length:Int))),(2,.p (cz ms)),(7,.ptr 0 0)]) (u5 hm) (Zp _) rfl rfl (by rw[fj hm];exact⟨rfl,trivial,rfl,trivial,rfl,(by show 0<47;decide),trivial⟩)) ?_
  refine aF.aB 13 mixed (by kernel_rfl) (by decide) ?_
  refine af ?_
  refine Kq (aa.lss rfl rfl rfl) ?_
  refine af ?_
  refine av.guard 37 36 rfl rfl rfl rfl rfl rfl rfl [(9,_)] (fun h=>And.intro (.inl rfl) (trivial)) (fun h=>(aa.move rfl rfl)) ?_
  refine av.guard 38 36 rfl rfl rfl rfl rfl rfl rfl [(37,_)] (fun h=>And.intro (.inr ⟨_,rfl,h⟩) (trivial)) (fun h=>(aa.gtr rfl rfl rfl)) ?_
  refine Kq (aa.kA rfl rfl rfl ?_) ?_
  ·exact ax
  refine af ?_
  refine av.guard 41 40 rfl rfl rfl rfl rfl rfl rfl [(7,_)] (fun h=>And.intro (.inl rfl) (trivial)) (fun h=>(aa.move rfl rfl)) ?_
  refine av.guard 42 40 rfl rfl rfl rfl rfl rfl rfl [(41,_)] (fun h=>And.intro (.inr ⟨_,rfl,h⟩) (trivial)) (fun h=>(jN hF (en [] F z1 hz1) rfl rfl rfl rfl an)) ?_
  refine av.guard 43 40 rfl rfl rfl rfl rfl rfl rfl [(8,_)] (fun h=>And.intro (.inl rfl) (trivial)) (fun h=>(Kl (.p (.agg (cH F.b))))) ?_
  refine av.guard 44 40 rfl rfl rfl rfl rfl rfl rfl [(42,_),(43,_)] (fun h=>And.intro (.inr ⟨_,rfl,h⟩) (And.intro (.inr ⟨_,rfl,h⟩) (trivial))) (fun h=>(Kp (ia F.b (by omega) (by omega) (by omega) (by omega)))) ?_
  refine av.guard 45 40 rfl rfl rfl rfl rfl rfl rfl [(44,_)] (fun h=>And.intro (.inr ⟨_,rfl,h⟩) (trivial)) (fun h=>(aa.gW rfl rfl)) ?_
  refine Kq (aa.kA rfl rfl rfl ?_) ?_
  ·exact ax
  refine av.nil ?_
  refine af ?_
  refine Ki (fun jb=> ?_) fun jb=> ?_
  ·exfalso
   simp at jb
   omega
  ·iterate 4 refine af ?_
   refine AN 49 F z1 [109,97,114,107] hF hz1 (uq h8) rfl rfl rfl rfl rfl rfl an (T2:=[(7,.ptr 0 0),(8,.p (.ip (cH F.b) 0)),(9,.p (.int .i64 (F.marks.length:Int))),(2,.p (cz ms))]) KS rfl (fun z2 xP=> ?_)
   have hX:=Fs hF h8
   have Te:=GS (n:=F.marks.length+1) (by omega)
   have hb0:=GS (n:=F.marks.length) (by omega)
   iterate 12 refine af ?_
   refine Ki (fun mc=> ?_) fun mc=> ?_
   ·exfalso
    have h:=Zg mc
    omega
   ·iterate 6 refine af ?_
    refine Kc (aa.add (m:=((F.marks.length+1:Nat):Int)) rfl rfl rfl ((aI ?_).trans ?_)) ?_
    ·omega
    ·omega
    refine Kc (Kp (lQ ((F.marks.length+1:Nat):Int) (by omega) (by omega))) ?_
    refine Kc (aa.nB [109,97,114,107,32] (Lib.itoa ((F.marks.length+1:Nat):Int)) rfl rfl rfl (by show 5+_<_;omega)) ?_
    refine Kc (aa.mQ ([109,97,114,107,32]++Lib.itoa ((F.marks.length+1:Nat):Int)) ([109,97,114,107,32]++Lib.itoa ((F.marks.length+1:Nat):Int)) rfl rfl rfl) ?_
    refine af ?_
    refine Kg 76 75 11 rfl (fun h=>(aa.move rfl rfl)) ?_
    refine Kh 77 75 76 rfl rfl rfl rfl (fun h=>(aa.neq rfl rfl rfl)) ?_
    refine Kc (aa.kA rfl rfl rfl ?_) ?_
    ·exact ax
    refine af ?_
    refine Ki (fun tY=> ?_) fun tY=> ?_
    ·exfalso
     simp at tY
    ·iterate 9 refine af ?_
     refine aF.eU [6,7,8,9,14,79,80,99,100,101,102,103,104,105,106,107,108,109,110,111,112,113,114,115,116,117,118,119,120,121,122,123,124,125,126,127,128,129,130,131,132,133,134,135,136,137,138,139,140,141,142,143,144,145,146,147,148,149,150,151,152,153,154,155,156,157,158] (fun g=>[(81,.p (.int .i64 ((g.1:Nat):Int)))]) (fun g=>(bH 0 (nw F.CG ms g.1) g.2)) (fun g=>g.1<=ms.length∧(g.2=true->(nw F.CG ms g.1).marks=[])) (fun g=>ms.length - g.1) (0,z2) ⟨Zp _,xP⟩ (To.sub KS) (fun g hg=> ?_)
     obtain⟨k,z⟩:=g
     obtain⟨tJ,hz⟩:=hg
     dsimp only at tJ hz ⊢
     iterate 5 refine af ?_
     refine Ki (fun uk=> ?_) fun uk=> ?_
     ·have hk0:k<ms.length:=by have h:=Zg uk;omega
      iterate 5 refine af ?_
      refine Kc (aa.aP (g:=Di.gt [] ms) (k:=k) (Di.aE _) rfl rfl rfl an qh rfl (fun _=>rfl) (by decide) hk0) ?_
      refine Kc (Kl (.p (.str (sB (Di.gt [] ms k))))) ?_
      iterate 5 refine af ?_
      refine Kc (aa.mQ (Di.gt [] ms k) [98,97,99,107] rfl rfl rfl) ?_
      refine af ?_
      refine Kg 88 87 13 rfl (fun h=>(aa.move rfl rfl)) ?_
      refine Kh 89 87 88 rfl rfl rfl rfl (fun h=>(aa.mQ (Di.gt [] ms k) [107,101,101,112] rfl rfl rfl)) ?_
      refine Kc (aa.ec rfl rfl rfl ?_) ?_
      ·exact ax
      refine af ?_
      refine Kg 92 91 13 rfl (fun h=>(aa.move rfl rfl)) ?_
      refine Kh 93 91 92 rfl rfl rfl rfl (fun h=>(aa.mQ (Di.gt [] ms k) [109,97,114,107] rfl rfl rfl)) ?_
      refine Kc (aa.ec rfl rfl rfl ?_) ?_
      ·exact ax
      refine af ?_
      refine Ki (fun xQ=> ?_) fun xQ=> ?_
      ·have hmk:=T7 xQ
       iterate 3 refine af ?_
       refine HF 97 [] (nw F.CG ms k) z (Di.gt [] ms k) (uv hX k) hz (fun i x h=>by simp at h) (Zp _) rfl rfl rfl rfl rfl rfl an (T2:=[(7,.ptr 0 0),(8,.p (.ip (cH F.b) 0)),(9,.p (.int .i64 (F.marks.length:Int))),(79,.p (cz ms)),(80,.p (.int .i64 (ms.length:Int))),(81,.p (.int .i64 (k:Int)))]) KS rfl (fun z3 UQ=> ?_)
       rw[<- Aj hmk] at UQ ⊢
       show aj _ _ _ _ _ _ _ _ (bH 0 (nw F.CG ms (k+1)) z3)
       iterate 2 refine af ?_
       refine Kc (aa.add (m:=((k+1:Nat):Int)) rfl rfl rfl ((aI ?_).trans ?_)) ?_
       ·omega
       ·omega
       iterate 2 refine af ?_
       refine⟨(k+1,z3),?_,?_,?_⟩
       ·exact⟨hk0,UQ⟩
       ·show ms.length - (k+1)<ms.length - k
        omega
       exact To.sub KS
      ·have hmk:=Rc xQ
       iterate 2 refine af ?_
       refine Kc (aa.add (m:=((k+1:Nat):Int)) rfl rfl rfl ((aI ?_).trans ?_)) ?_
       ·omega
       ·omega
       iterate 2 refine af ?_
       refine⟨(k+1,z),?_,?_,?_⟩
       ·exact⟨hk0,by rw[qi hmk];exact hz⟩
       ·show ms.length - (k+1)<ms.length - k
        omega
       dsimp only
       rw[qi hmk]
       exact To.sub KS
     ·have Vn:k=ms.length:=by have h:=Zk uk;omega
      subst Vn
      have hG:=uv (L:=ms) hX ms.length
      obtain⟨R8,hGp⟩:=yY (F:=F.CG) (L:=ms) ms.length
      generalize nw F.CG ms ms.length=G at hz hG R8 hGp ⊢
      have Y0:=hG.mm
      have hGl:G.marks.length=F.marks.length+1:=by rw[R8];show(F.marks++[F.b]).length=_;rw[Zc];rfl
      have gb:=hG.b
      obtain⟨gu,ghu⟩:=gb.ER
      have g1:=fy ghu
      have g2:=Rx.cG gb.cd
      have g3:=gb.sk
      have g4:=gb.dr
      refine aF.exit ?_
      iterate 3 refine af ?_
      refine Kc (jN hG (en [] G z hz) rfl rfl rfl rfl an) ?_
      refine af ?_
      refine Kz (aa.store (H':=(bH 0 G z++[.cells ((cH G.b).map .p) 37])) rfl rfl rfl rfl rfl an rfl (pJ (by rfl))) ?_
      iterate 2 refine af ?_
      refine aF.to (To.pN (s:=14) (h:=bH 0 G z) (T2:=[(8,.p (.ip (cH F.b) 0)),(9,.p (.int .i64 (F.marks.length:Int))),(7,.ptr 0 0)]) (u5 Y0) (Zp _) rfl rfl (by rw[fj Y0];exact⟨rfl,trivial,rfl,trivial,rfl,(by show 0<47;decide),trivial⟩)) ?_
      iterate 2 refine af ?_
      refine HF 103 [] G z [109,97,114,107] hG hz (fun i x h=>by simp at h) (Zp _) rfl rfl rfl rfl rfl rfl an (T2:=[(14,.p (.ip (cH G.b) 0)),(7,.ptr 0 0),(8,.p (.ip (cH F.b) 0)),(9,.p (.int .i64 (F.marks.length:Int)))]) KS rfl (fun z3 UQ=> ?_)
      show aj _ _ _ _ _ _ _ _ (bH 0 (aD G [109,97,114,107]).1 z3)
      iterate 6 refine af ?_
      refine aF.join (fun(g:Bool)=>[(7,.ptr 0 0),(8,.p (.ip (cH F.b) 0)),(9,.p (.int .i64 (F.marks.length:Int)))]) (fun(g:Bool)=>(bH 0 G g)) (fun(g:Bool)=>(g=true->G.marks=[])) ?_ (fun z5 hz5=> ?_)
      ·iterate 5 refine af ?_
       refine Ki (fun Rb=> ?_) fun Rb=> ?_
       ·have he:=Zg Rb
        have hG8:G.marks.length<8:=by rcases ZM G.marks.length 8 with h | h;exact h;rw[Ib h] at he;cases he
        rw[uq hG8] at UQ ⊢
        iterate 3 refine af ?_
        refine AN 110 G.CG z3 [107,101,101,112] (Fs hG hG8) UQ (Gp G) rfl rfl rfl rfl rfl rfl an (T2:=[(14,.p (.ip (cH G.b) 0)),(7,.ptr 0 0),(8,.p (.ip (cH F.b) 0)),(9,.p (.int .i64 (F.marks.length:Int)))]) KS rfl (fun z4 hz4=> ?_)
        rw[hGl]
        iterate 7 refine af ?_
        refine aF.aB 17 mixed (by kernel_rfl) (by decide) ?_
        iterate 2 refine af ?_
        refine Kq (aa.add (m:=((F.marks.length+1:Nat):Int)) rfl rfl rfl ((aI ?_).trans ?_)) ?_
        ·omega
        ·omega
        refine Kq (Kp (lQ ((F.marks.length+1:Nat):Int) (by omega) (by omega))) ?_
        refine Kq (aa.nB [107,101,101,112,32] (Lib.itoa ((F.marks.length+1:Nat):Int)) rfl rfl rfl (by show 5+_<_;omega)) ?_
        refine Kq (aa.mQ ([107,101,101,112,32]++Lib.itoa ((F.marks.length+1:Nat):Int)) ([107,101,101,112,32]++Lib.itoa ((F.marks.length+1:Nat):Int)) rfl rfl rfl) ?_
        refine af ?_
        refine av.guard 120 119 rfl rfl rfl rfl rfl rfl rfl [(11,_)] (fun h=>And.intro (.inl rfl) (trivial)) (fun h=>(aa.move rfl rfl)) ?_
        refine av.guard 121 119 rfl rfl rfl rfl rfl rfl rfl [(120,_)] (fun h=>And.intro (.inr ⟨_,rfl,h⟩) (trivial)) (fun h=>(aa.neq rfl rfl rfl)) ?_
        refine Kq (aa.kA rfl rfl rfl ?_) ?_
        ·exact ax
        refine af ?_
        refine av.guard 124 123 rfl rfl rfl rfl rfl rfl rfl [(7,_)] (fun h=>And.intro (.inl rfl) (trivial)) (fun h=>(aa.move rfl rfl)) ?_
        refine av.guard 125 123 rfl rfl rfl rfl rfl rfl rfl [(124,_)] (fun h=>And.intro (.inr ⟨_,rfl,h⟩) (trivial)) (fun h=>(jN hG (en [] G z4 hz4) rfl rfl rfl rfl an)) ?_
        refine av.guard 126 123 rfl rfl rfl rfl rfl rfl rfl [(14,_)] (fun h=>And.intro (.inl rfl) (trivial)) (fun h=>(Kl (.p (.agg (cH G.b))))) ?_
        refine av.guard 127 123 rfl rfl rfl rfl rfl rfl rfl [(125,_),(126,_)] (fun h=>And.intro (.inr ⟨_,rfl,h⟩) (And.intro (.inr ⟨_,rfl,h⟩) (trivial))) (fun h=>(Kp (ia G.b (by omega) (by omega) (by omega) (by omega)))) ?_
        refine av.guard 128 123 rfl rfl rfl rfl rfl rfl rfl [(127,_)] (fun h=>And.intro (.inr ⟨_,rfl,h⟩) (trivial)) (fun h=>(aa.gW rfl rfl)) ?_
        refine Kq (aa.kA rfl rfl rfl ?_) ?_
        ·exact ax
        refine av.nil ?_
        refine af ?_
        refine Ki (fun Rl=> ?_) fun Rl=> ?_
        ·exfalso
         simp at Rl
        ·refine af ?_
         exact⟨z4,hz4,To.sub KS⟩
       ·have he:=Zk Rb
        have hG8:8<=G.marks.length:=by rcases ZM G.marks.length 8 with h | h;rw[uq h] at he;exact absurd rfl he;exact h
        rw[Ib hG8] at UQ ⊢
        refine af ?_
        exact⟨z3,UQ,To.sub KS⟩
      ·iterate 3 refine af ?_
       refine AN 132 G z5 [98,97,99,107] hG hz5 (PA R8 hGp) rfl rfl rfl rfl rfl rfl an (T2:=[(7,.ptr 0 0),(8,.p (.ip (cH F.b) 0)),(9,.p (.int .i64 (F.marks.length:Int)))]) KS rfl (fun z6 hz6=> ?_)
       iterate 7 refine af ?_
       refine aF.tG 19 (Lr F) mixed (by kernel_rfl) (by decide) ?_
       refine aN.cons 135 rfl rfl rfl (fun H0 h0=>(aa.move rfl rfl)) ?_
       refine aN.cons 136 rfl rfl rfl (fun H0 h0=>(aa.move rfl rfl)) ?_
       refine aN.cons 137 rfl rfl rfl (fun H0 h0=>(Kp (lQ (F.marks.length:Int) (by omega) (by omega)))) ?_
       refine aN.cons 138 rfl rfl rfl (fun H0 h0=>(aa.nB [98,97,99,107,32] (Lib.itoa (F.marks.length:Int)) rfl rfl rfl (by show 5+_<_;omega))) ?_
       refine aN.cons 139 rfl rfl rfl (fun H0 h0=>(aa.dJ ([98,97,99,107,32]++Lib.itoa (F.marks.length:Int)) ([98,97,99,107,32]++Lib.itoa (F.marks.length:Int)) rfl rfl rfl)) ?_
       refine aN.cons 140 rfl rfl rfl (fun H0 h0=>(aa.move rfl rfl)) ?_
       refine aN.guard 141 140 rfl rfl rfl rfl rfl rfl rfl [(11,_)] (fun h=>And.intro (.inl rfl) (trivial)) (fun h=>fun H0 h0=>(aa.move rfl rfl)) ?_
       refine aN.guard 142 140 rfl rfl rfl rfl rfl rfl rfl [(141,_)] (fun h=>And.intro (.inr ⟨_,rfl,h⟩) (trivial)) (fun h=>fun H0 h0=>(aa.eql rfl rfl rfl)) ?_
       refine aN.cons 143 rfl rfl rfl (fun H0 h0=>(aa.ec rfl rfl rfl ?_)) ?_
       ·exact ax
       refine aN.cons 144 rfl rfl rfl (fun H0 h0=>(aa.move rfl rfl)) ?_
       refine aN.guard 145 144 rfl rfl rfl rfl rfl rfl rfl [(7,_)] (fun h=>And.intro (.inl rfl) (trivial)) (fun h=>fun H0 h0=>(aa.move rfl rfl)) ?_
       refine aN.guard 146 144 rfl rfl rfl rfl rfl rfl rfl [(145,_)] (fun h=>And.intro (.inr ⟨_,rfl,h⟩) (trivial)) (fun h=>fun H0 h0=>(by rcases h0 with rfl | ⟨z9,q9,i9,qs9,h9⟩;exact jN hF (en [] F z6 hz6) rfl rfl rfl rfl an;exact jN hF h9 rfl rfl rfl rfl an)) ?_
       refine aN.guard 147 144 rfl rfl rfl rfl rfl rfl rfl [(8,_)] (fun h=>And.intro (.inl rfl) (trivial)) (fun h=>fun H0 h0=>(Kl (.p (.agg (cH F.b))))) ?_
       refine aN.guard 148 144 rfl rfl rfl rfl rfl rfl rfl [(146,_),(147,_)] (fun h=>And.intro (.inr ⟨_,rfl,h⟩) (And.intro (.inr ⟨_,rfl,h⟩) (trivial))) (fun h=>fun H0 h0=>(Kp (ia F.b (by omega) (by omega) (by omega) (by omega)))) ?_
       refine aN.cons 149 rfl rfl rfl (fun H0 h0=>(aa.ec rfl rfl rfl ?_)) ?_
       ·exact ax
       refine aN.cons 150 rfl rfl rfl (fun H0 h0=>(aa.move rfl rfl)) ?_
       refine aN.guard 151 150 rfl rfl rfl rfl rfl rfl rfl [(7,_)] (fun h=>And.intro (.inl rfl) (trivial)) (fun h=>fun H0 h0=>(aa.move rfl rfl)) ?_
       refine aN.QL 152 150 rfl rfl rfl rfl rfl rfl rfl (W0 (by simp)) [(151,_)] (And.intro (.inr ⟨_,rfl,(W0 (by simp))⟩) (trivial)) (NU.dH (ru (en [] F z6 hz6) hF) (fun x H2 h=>h) rfl rfl rfl rfl an) ?_
       refine aN.guard 153 150 rfl rfl rfl rfl rfl rfl rfl [(9,_)] (fun h=>And.intro (.inl rfl) (trivial)) (fun h=>fun H0 h0=>(aa.move rfl rfl)) ?_
       refine aN.nil ?_
       intro H7 h7
       refine aj.g 154 150 rfl rfl rfl rfl rfl rfl rfl [(152,_),(153,_)] (fun h=>And.intro (.inl rfl) (And.intro (.inr ⟨_,rfl,h⟩) (trivial))) (fun h=>(aa.eql rfl rfl rfl)) ?_
       refine Kc (aa.ec rfl rfl rfl ?_) ?_
       ·exact ax
       refine af ?_
       refine aj.g 157 156 rfl rfl rfl rfl rfl rfl rfl [] (fun h=>trivial) (fun h=>(Kp (gE))) ?_
       exact kS
theorem Rd(p:Di.bJ)(ws ms:List Bs)(nA:ws.length<=9223372036854775807)(hml:ms.length<=9223372036854775807)(hpl:p.dies.length<=9223372036854775807):Pure Tryz.prog 3 [Di.cI p,cz ws,cz ms] (.bool true):=by
 cases h1:(e9 p ws||e9 p ms) with
 | true=>exact JJ p ws ms nA hml hpl h1
 | false=>
  cases h3:Di.eF p with
  | false=>exact Pg p ws ms nA hml hpl h1 h3
  | true=>
   rcases ZM (gh (newF p) ws ws.length).marks.length 8 with h8 | h8
   ·exact QV p ws ms nA hml hpl h1 h3 h8
   ·exact IF p ws ms nA hml hpl h1 h3 h8
theorem u6{x0 x1 x2:List PV}(h0:o8 Mg x0)(h1:o8 [.sl [.leaf .string]] x1)(h2:o8 [.sl [.leaf .string]] x2):Pure Tryz.prog 3 [F5 true x0,F5 false x1,F5 false x2] (.bool true):=by
 obtain⟨p,rfl,hp⟩:=NL h0
 obtain⟨ws,rfl,hw⟩:=Aw h1
 obtain⟨ms,rfl,hm⟩:=Aw h2
 exact Rd p ws ms hw hm hp
theorem Yu{F G:bT}{s r:Bs}{e:Int}(hl:aD F s=(G,r,e)):(e=0↔r≠[])∧(e≠0->G=F)∧(mq (bf s) ((bf s).length - 1)=false->e=8∨e=3):=by
 have h1:=VS (F:=F) (s:=s)
 have h2:=BG F s
 rw[hl] at h1
 refine⟨h1,fun he=> ?_,fun hp=> ?_⟩
 ·have:=(h2 (by rw[hl];exact he)).1
  rw[hl] at this
  exact this
 ·have:=PE (F:=F) (VT hp)
  rw[hl] at this
  exact this
theorem XR{e:Int}{r:Bs}{B:Bool}(h1:e=0↔r≠[])(h3:B=false->e=8∨e=3)(h:(!decide (e=0)== !decide (r=[])||decide (e=0)&& !B|| !B&& !decide (e=8)&& !decide (e=3))=true):False:=by
 by_cases e0:e=0
 ·have hr:=h1.1 e0
  have hB:B=true:=by
   cases B with
   | true=>rfl
   | false=>rcases h3 rfl with k | k <;> omega
  subst e0 hB
  simp[hr] at h
 ·have hr:r=[]:=Classical.byContradiction fun k=>e0 (h1.2 k)
  subst hr
  cases B with
  | true=>simp[e0] at h
  | false=>rcases h3 rfl with k | k <;> simp[k] at h
theorem QM{F G:bT}{v:Vb}{n:List Int}{r:Bs}(hd:bp F v n=(G,r,0))(hv:Gi v=true):G=F:=by
 have h:=UD (F:=F) (n:=n) hv
 rw[hd] at h;exact h
def Ww(v:Vb):Bool:=match v with
 | .mark=>true
 | .keep=>true
 | _=>false
def IS(v:Vb):Bool:=match v with
 | .bad=>true
 | .good=>true
 | _=>false
theorem UU{F G:bT}{v:Vb}{n:List Int}{r:Bs}(hd:bp F v n=(G,r,0))(hv:Ww v=true):G.b=F.b:=by
 have h:=Y8 (F:=F) (v:=v) (n:=n) (by cases v <;> first | exact .inl rfl | exact .inr rfl | cases hv)
 rw[hd] at h;exact h
theorem RQ{F G:bT}{v:Vb}{n:List Int}{r:Bs}(hd:bp F v n=(G,r,0))(hv:IS v=true)(hl:n.length=v.many)(hn:∀ x∈n,0<=x∧x<10000000000000)(nK:F.b.ag.length<=24):n.length=1∧G.b.ag=F.b.ag∧∃ k:Nat,Di.gt 0 n 0=(k:Int)∧k<=24∧G.b.bad||| G.b.good=(F.b.bad||| F.b.good)||| 1*2^k:=by
 have Yt:v= .bad∨v= .good:=by cases v <;> first | exact .inl rfl | exact .inr rfl | cases hv
 have h1:n.length=1:=by rw[hl];rcases Yt with rfl | rfl <;> rfl
 have h2:=Qj (F:=F) (n:=n) Yt (by rw[hd])
 have h3:=UL (F:=F) (n:=n) Yt (by rw[hd])
 rw[hd] at h2
 have h4:=hn _ (Di.bN 0 (show 0<n.length by omega))
 have h3:Di.gt 0 n 0<(F.b.ag.length:Int):=h3
 refine⟨h1,h2.1,(Di.gt 0 n 0).toNat,by omega,by omega,?_⟩
 rw[ZL]
 exact h2.2
theorem Rh{F G:bT}{v:Vb}{n:List Int}{r:Bs}(hd:bp F v n=(G,r,0))(hv:Wa v=true):Xn F G v r:=by
 have h:=V7 (F:=F) (n:=n) hv (by rw[hd])
 rw[hd] at h;exact h
theorem Yn{v:Vb}(h1:decide (v.t=[98,108,97,109,101])=false)(h2:decide (v.t=[99,97,108,108])=false)(h3:decide (v.t=[102,114,111,109])=false):decide (v.t=[119,101,97,114])=Gi v:=by
 revert h1 h2 h3;cases v <;> decide
theorem aaC{v:Vb}(h1:decide (v.t=[109,97,114,107])=false):decide (v.t=[107,101,101,112])=Ww v:=by revert h1;cases v <;> decide
theorem YF{v:Vb}(h1:decide (v.t=[98,97,100])=false):decide (v.t=[103,111,111,100])=IS v:=by revert h1;cases v <;> decide
theorem NH{v:Vb}(h:decide (v.t=[98,108,97,109,101])=true∨decide (v.t=[99,97,108,108])=true∨decide (v.t=[102,114,111,109])=true):Gi v=true:=by revert h;cases v <;> decide
theorem abd{v:Vb}(h:decide (v.t=[109,97,114,107])=true):Ww v=true:=by revert h;cases v <;> decide
theorem Xb{v:Vb}(h:decide (v.t=[98,97,100])=true):IS v=true:=by revert h;cases v <;> decide
theorem WJ{v:Vb}(h1:Gi v=false)(h2:Ww v=false)(h3:IS v=false)(h4:decide (v.t=[98,97,99,107])=false):Wa v=true:=by revert h1 h2 h3 h4;cases v <;> decide
theorem L5{v:Vb}:decide (v.t=[115,97,99,107])=decide (v= .kJ):=by cases v <;> decide
theorem OR{v:Vb}:decide (v.t=[108,101,97,100])=decide (v= .lead):=by cases v <;> decide
theorem mo{α:Type}{l m:List α}{x:α}(h:l=m++[x]):l.take m.length=m∧l.length=m.length+1:=by
 subst h
 exact⟨List.take_left,by rw[Zc];rfl⟩
theorem MX{p:Di.bJ}{s:Bs}(h:e9 p [s]=false):s.length<=200:=(oq h).1 s (ZK.2 rfl)
theorem Gl{a b:Bool}(h:(a||b)=false):a=false∧b=false:=by cases a <;> cases b <;> first | exact⟨rfl,rfl⟩ | cases h
theorem LB(p:Di.bJ)(ws:List Bs)(s:Bs)(nA:ws.length<=9223372036854775807)(hpl:p.dies.length<=9223372036854775807)(h1:(e9 p ws||e9 p [s])=true):Pure Tryz.prog 4 [Di.cI p,cz ws,.str (sB s)] (.bool true):=by
 refine Kf (N:=245) Tryz.func4 ?_
 iterate 8 refine af ?_
 refine Kc (Kl (.p (Di.cI p))) ?_
 refine af ?_
 refine Kc (Kp (fK p ws nA hpl)) ?_
 refine af ?_
 refine Kg 21 20 3 rfl (fun h=>(Kl (.p (Di.cI p)))) ?_
 refine Kg 22 20 2 rfl (fun h=>(aa.move rfl rfl)) ?_
 refine Kh 23 20 22 rfl rfl rfl rfl (fun h=>(aa.aR rfl an (by decide) rfl rfl rfl)) ?_
 refine aj.g 24 20 rfl rfl rfl rfl rfl rfl rfl [(21,_),(23,_)] (fun h=>And.intro (.inr ⟨_,rfl,h⟩) (And.intro (.inr ⟨_,rfl,h⟩) (trivial))) (fun h=>(Kp (fK p [s] Kn hpl))) ?_
 exact Eg
theorem VM(p:Di.bJ)(ws:List Bs)(s:Bs)(nA:ws.length<=9223372036854775807)(hpl:p.dies.length<=9223372036854775807)(h1:(e9 p ws||e9 p [s])=false)(h3:Di.eF p=false):Pure Tryz.prog 4 [Di.cI p,cz ws,.str (sB s)] (.bool true):=by
 obtain⟨O7,RD,Pe⟩:=oq (Gl h1).1
 refine Kf (N:=245) Tryz.func4 ?_
 iterate 8 refine af ?_
 refine Kc (Kl (.p (Di.cI p))) ?_
 refine af ?_
 refine Kc (Kp (fK p ws nA hpl)) ?_
 refine af ?_
 refine Kg 21 20 3 rfl (fun h=>(Kl (.p (Di.cI p)))) ?_
 refine Kg 22 20 2 rfl (fun h=>(aa.move rfl rfl)) ?_
 refine Kh 23 20 22 rfl rfl rfl rfl (fun h=>(aa.aR rfl an (by decide) rfl rfl rfl)) ?_
 refine aj.g 24 20 rfl rfl rfl rfl rfl rfl rfl [(21,_),(23,_)] (fun h=>And.intro (.inr ⟨_,rfl,h⟩) (And.intro (.inr ⟨_,rfl,h⟩) (trivial))) (fun h=>(Kp (fK p [s] Kn hpl))) ?_
 exact En
theorem Tg(p:Di.bJ)(ws:List Bs)(s:Bs)(nA:ws.length<=9223372036854775807)(hpl:p.dies.length<=9223372036854775807)(h1:(e9 p ws||e9 p [s])=false)(h3:Di.eF p=true):Pure Tryz.prog 4 [Di.cI p,cz ws,.str (sB s)] (.bool true):=by
 obtain⟨O7,RD,Pe⟩:=oq (Gl h1).1
 have hs2:=MX (Gl h1).2
 have hW:=vE h3
 refine Kf (N:=245) Tryz.func4 ?_
 iterate 8 refine af ?_
 refine Kc (Kl (.p (Di.cI p))) ?_
 refine af ?_
 refine Kc (Kp (fK p ws nA hpl)) ?_
 refine af ?_
 refine Kg 21 20 3 rfl (fun h=>(Kl (.p (Di.cI p)))) ?_
 refine Kg 22 20 2 rfl (fun h=>(aa.move rfl rfl)) ?_
 refine Kh 23 20 22 rfl rfl rfl rfl (fun h=>(aa.aR rfl an (by decide) rfl rfl rfl)) ?_
 refine aj.g 24 20 rfl rfl rfl rfl rfl rfl rfl [(21,_),(23,_)] (fun h=>And.intro (.inr ⟨_,rfl,h⟩) (And.intro (.inr ⟨_,rfl,h⟩) (trivial))) (fun h=>(Kp (fK p [s] Kn hpl))) ?_
 refine Kc (aa.kA rfl rfl rfl ?_) ?_
 ·exact ax
 refine af ?_
 refine Ki (fun hc0=> ?_) fun hc0=> ?_
 ·exact mU
 ·iterate 3 refine af ?_
  refine Kc (Kl (.p (Di.cI p))) ?_
  refine af ?_
  refine aj.tN 29 (uR p ws nA (by omega) h3) rfl rfl rfl rfl rfl rfl rfl an (fun v H2 iz=> ?_)
  obtain⟨rfl,z,hz,rfl⟩:=iz
  have hF:=fU (L:=ws) hW ws.length
  generalize (gh (newF p) ws ws.length)=F at hz hF ⊢
  have hm:=hF.mm
  have fb:=hF.b
  obtain⟨fu,Xa⟩:=fb.ER
  have f1:=fy Xa
  have f2:=Rx.cG fb.cd
  have f3:=fb.sk
  have f4:=fb.dr
  obtain⟨G,r,e,hl⟩:∃ G r e,aD F s=(G,r,e):=⟨_,_,_,rfl⟩
  have hG:kO G:=by have h:=zp (s:=s) hF;rw[hl] at h;exact h
  have R8:=hG.mm
  have gb:=hG.b
  obtain⟨gu,ghu⟩:=gb.ER
  have g1:=fy ghu
  have g2:=Rx.cG gb.cd
  have g3:=gb.sk
  have g4:=gb.dr
  obtain⟨vR,ox,Kk⟩:=Yu hl
  have hrl:r.length<=3000:=by have h:=(zJ (s:=s) hF).1;rw[hl] at h;exact h
  have hB1:F.b.bad<2^24:=ZJ fb.bad (Zu (by decide) f2)
  have hB2:F.b.good<2^24:=ZJ fb.good (Zu (by decide) f2)
  have hB3:G.b.bad<2^24:=ZJ gb.bad (Zu (by decide) g2)
  have hB4:G.b.good<2^24:=ZJ gb.good (Zu (by decide) g2)
  have hB5:=NI hB1 hB2
  have hB6:=NI hB3 hB4
  have nK:(2:Nat)^24=16777216:=by decide
  iterate 6 refine af ?_
  refine Kc (aa.si rfl rfl rfl an) ?_
  refine af ?_
  refine aF.nJ rfl ?_
  iterate 4 refine af ?_
  refine Kc (jN hF (en [] F z hz) rfl rfl rfl rfl an) ?_
  refine af ?_
  refine FM 36 F z hF hz rfl rfl rfl rfl rfl rfl rfl an (T2:=[(36,.p (.int .i64 (F.marks.length:Int))),(34,.p (.agg (cH F.b))),(2,.p (.str (sB s))),(7,.ptr 0 0)]) KS rfl (fun z1 hz1=> ?_)
  refine af ?_
  refine Kz (aa.store (H':=(bH 0 F z1++[.cells ((cH F.b).map .p) 37])) rfl rfl rfl rfl rfl an rfl (pJ (by rfl))) ?_
  iterate 3 refine af ?_
  refine aF.to (To.pN (s:=8) (h:=bH 0 F z1) (T2:=[(9,.p (.int .i64 (F.marks.length:Int))),(2,.p (.str (sB s))),(7,.ptr 0 0)]) (u5 hm) (Zp _) rfl rfl (by rw[fj hm];exact⟨rfl,trivial,rfl,trivial,rfl,(by show 0<47;decide),trivial⟩)) ?_
  iterate 3 refine af ?_
  refine AN 40 F z1 s hF hz1 hl rfl rfl rfl rfl rfl rfl an (T2:=[(7,.ptr 0 0),(8,.p (.ip (cH F.b) 0)),(9,.p (.int .i64 (F.marks.length:Int))),(2,.p (.str (sB s)))]) KS rfl (fun z2 xP=> ?_)
  iterate 9 refine af ?_
  refine Kc (jN hG (en [] G z2 xP) rfl rfl rfl rfl an) ?_
  refine af ?_
  refine Kz (aa.store (H':=(bH 0 G z2++[.cells ((cH G.b).map .p) 37])) rfl rfl rfl rfl rfl an rfl (pJ (by rfl))) ?_
  iterate 2 refine af ?_
  refine aF.to (To.pN (s:=12) (h:=bH 0 G z2) (T2:=[(8,.p (.ip (cH F.b) 0)),(9,.p (.int .i64 (F.marks.length:Int))),(2,.p (.str (sB s))),(10,.p (.str (sB r))),(11,.p (.int .i64 e)),(7,.ptr 0 0)]) (u5 R8) (Zp _) rfl rfl (by rw[fj R8];exact⟨rfl,trivial,rfl,trivial,rfl,trivial,rfl,trivial,rfl,trivial,rfl,(by show 0<47;decide),trivial⟩)) ?_
  iterate 2 refine af ?_
  refine Kc (Kp (JG s (by omega))) ?_
  iterate 4 refine af ?_
  refine Kz (aa.store (H':=(bH 0 G z2++[.cells ((Fp (bf s)).map .p) 47])) rfl rfl rfl rfl rfl an rfl (pJ (by rfl))) ?_
  iterate 4 refine af ?_
  refine aF.to (To.pN (s:=13) (h:=bH 0 G z2) (T2:=[(12,.p (.ip (cH G.b) 0)),(8,.p (.ip (cH F.b) 0)),(9,.p (.int .i64 (F.marks.length:Int))),(10,.p (.str (sB r))),(11,.p (.int .i64 e)),(14,.p (.bool (mq (bf s) ((bf s).length - 1)))),(7,.ptr 0 0)]) (u5 R8) (Zp _) rfl rfl (by rw[fj R8];exact⟨rfl,trivial,rfl,trivial,rfl,trivial,rfl,trivial,rfl,trivial,rfl,trivial,rfl,(by show 0<47;decide),trivial⟩)) ?_
  iterate 4 refine af ?_
  refine Kc (aa.mQ r [] rfl rfl rfl) ?_
  refine Kc (aa.RV rfl rfl rfl un4) ?_
  refine af ?_
  refine Kg 56 55 11 rfl (fun h=>(aa.move rfl rfl)) ?_
  refine Kh 57 55 56 rfl rfl rfl rfl (fun h=>(aa.eql rfl rfl rfl)) ?_
  refine Kh 58 55 57 rfl rfl rfl rfl (fun h=>(aa.move rfl rfl)) ?_
  refine Kg 59 58 14 rfl (fun h=>(aa.move rfl rfl)) ?_
  refine Kh 60 58 59 rfl rfl rfl rfl (fun h=>(aa.gW rfl rfl)) ?_
  refine aj.g 61 55 rfl rfl rfl rfl rfl rfl rfl [(58,_),(60,_)] (fun h=>And.intro (.inr ⟨_,rfl,h⟩) (And.intro (.inl rfl) (trivial))) (fun h=>(aa.ec rfl rfl rfl (fun hq=>by first | (rw[hq];rfl) | simp_all))) ?_
  refine Kc (aa.kA rfl rfl rfl ?_) ?_
  ·exact ax
  refine af ?_
  refine Kg 64 63 14 rfl (fun h=>(aa.move rfl rfl)) ?_
  refine Kh 65 63 64 rfl rfl rfl rfl (fun h=>(aa.gW rfl rfl)) ?_
  refine Kh 66 63 65 rfl rfl rfl rfl (fun h=>(aa.move rfl rfl)) ?_
  refine Kg 67 66 11 rfl (fun h=>(aa.move rfl rfl)) ?_
  refine Kh 68 66 67 rfl rfl rfl rfl (fun h=>(aa.neq rfl rfl rfl)) ?_
  refine aj.g 69 63 rfl rfl rfl rfl rfl rfl rfl [(66,_),(68,_)] (fun h=>And.intro (.inr ⟨_,rfl,h⟩) (And.intro (.inl rfl) (trivial))) (fun h=>(aa.ec rfl rfl rfl (fun hq=>by first | (rw[hq];rfl) | simp_all))) ?_
  refine Kh 70 63 69 rfl rfl rfl rfl (fun h=>(aa.move rfl rfl)) ?_
  refine Kg 71 70 11 rfl (fun h=>(aa.move rfl rfl)) ?_
  refine Kh 72 70 71 rfl rfl rfl rfl (fun h=>(aa.neq rfl rfl rfl)) ?_
  refine aj.g 73 63 rfl rfl rfl rfl rfl rfl rfl [(70,_),(72,_)] (fun h=>And.intro (.inr ⟨_,rfl,h⟩) (And.intro (.inl rfl) (trivial))) (fun h=>(aa.ec rfl rfl rfl (fun hq=>by first | (rw[hq];rfl) | simp_all))) ?_
  refine Kc (aa.kA rfl rfl rfl ?_) ?_
  ·exact ax
  refine af ?_
  refine Ki (fun jb=> ?_) fun jb=> ?_
  ·exfalso
   exact XR vR Kk jb
  ·iterate 7 refine af ?_
   refine Ki (fun mc=> ?_) fun mc=> ?_
   ·have he:e≠0:=by simpa using mc
    have eG:=(ox he).symm
    subst eG
    iterate 2 refine af ?_
    refine Kc (Kl (.p (.agg (cH F.b)))) ?_
    refine Kc (Kl (.p (.agg (cH F.b)))) ?_
    refine Kc (Kp (ia F.b (by omega) (by omega) (by omega) (by omega))) ?_
    refine af ?_
    refine Kg 81 80 7 rfl (fun h=>(aa.move rfl rfl)) ?_
    refine aj.QL 82 80 rfl rfl rfl rfl rfl rfl rfl (by rfl) [(81,_)] (And.intro (.inr ⟨_,rfl,(by rfl)⟩) trivial) (NU.dH (ru (en [] F z2 xP) hF) (fun x H2 h=>h) rfl rfl rfl rfl an) ?_
    intro H7 h7
    refine Kg 83 80 9 rfl (fun h=>(aa.move rfl rfl)) ?_
    refine aj.g 84 80 rfl rfl rfl rfl rfl rfl rfl [(82,_),(83,_)] (fun h=>And.intro (.inl rfl) (And.intro (.inr ⟨_,rfl,h⟩) (trivial))) (fun h=>(aa.eql rfl rfl rfl)) ?_
    refine Kc (aa.ec rfl rfl rfl ?_) ?_
    ·exact ax
    refine af ?_
    refine aj.g 87 86 rfl rfl rfl rfl rfl rfl rfl [] (fun h=>trivial) (fun h=>(Kp (gE))) ?_
    exact kS
   ·have he:e=0:=by simpa using mc
    subst he
    have hpI:mq (bf s) ((bf s).length - 1)=true:=by cases h:mq (bf s) ((bf s).length - 1) with | true=>rfl | false=>(rcases Kk h with h | h <;> cases h)
    obtain⟨v,n,ho,hpar,VO,hnB⟩:=TM hpI
    have hd:bp F v n=(G,r,0):=by rw[<- NK hpar (by rw[hl]),hl]
    have Pj:=ho
    unfold Fp at Pj
    obtain⟨ho3,ho4⟩:=List.cons.inj Pj
    rw[ho3,(List.cons.inj ho4).1]
    iterate 5 refine af ?_
    refine Kc (Kl (.p (.str (sB v.t)))) ?_
    iterate 2 refine af ?_
    refine aF.join (fun(g:Bool)=>[(7,.ptr 0 0),(8,.p (.ip (cH F.b) 0)),(9,.p (.int .i64 (F.marks.length:Int))),(10,.p (.str (sB r))),(12,.p (.ip (cH G.b) 0)),(13,.p (.ip [.str (sB v.t),Di.bh n] 0)),(90,.p (.str (sB v.t))),(91,.p (.bool g))]) (fun(g:Bool)=>(bH 0 G z2)) (fun(g:Bool)=>g=Gi v) ?_ (fun ga hga=> ?_)
    ·iterate 2 refine af ?_
     refine Kc (aa.dJ v.t [98,108,97,109,101] rfl rfl rfl) ?_
     iterate 2 refine af ?_
     refine Ki (fun tY=> ?_) fun tY=> ?_
     ·refine af ?_
      exact⟨_,tY.trans (NH (.inl tY)).symm,To.sub KS⟩
     ·iterate 2 refine af ?_
      refine Kc (aa.dJ v.t [99,97,108,108] rfl rfl rfl) ?_
      iterate 2 refine af ?_
      refine Ki (fun uk=> ?_) fun uk=> ?_
      ·refine af ?_
       exact⟨_,uk.trans (NH (.inr (.inl uk))).symm,To.sub KS⟩
      ·iterate 2 refine af ?_
       refine Kc (aa.dJ v.t [102,114,111,109] rfl rfl rfl) ?_
       iterate 2 refine af ?_
       refine Ki (fun xQ=> ?_) fun xQ=> ?_
       ·refine af ?_
        exact⟨_,xQ.trans (NH (.inr (.inr xQ))).symm,To.sub KS⟩
       ·refine af ?_
        refine Kc (aa.dJ v.t [119,101,97,114] rfl rfl rfl) ?_
        iterate 2 refine af ?_
        exact⟨_,Yn tY uk xQ,To.sub KS⟩
    ·refine Ki (fun Rb=> ?_) fun Rb=> ?_
     ·have eG:=(QM hd (hga.symm.trans Rb)).symm
      subst eG
      iterate 2 refine af ?_
      refine Kc (Kl (.p (.agg (cH F.b)))) ?_
      refine Kc (Kl (.p (.agg (cH F.b)))) ?_
      refine Kc (Kp (ia F.b (by omega) (by omega) (by omega) (by omega))) ?_
      refine af ?_
      refine Kg 100 99 7 rfl (fun h=>(aa.move rfl rfl)) ?_
      refine aj.QL 101 99 rfl rfl rfl rfl rfl rfl rfl (by rfl) [(100,_)] (And.intro (.inr ⟨_,rfl,(by rfl)⟩) trivial) (NU.dH (ru (en [] F z2 xP) hF) (fun x H2 h=>h) rfl rfl rfl rfl an) ?_
      intro H7 h7
      refine Kg 102 99 9 rfl (fun h=>(aa.move rfl rfl)) ?_
      refine aj.g 103 99 rfl rfl rfl rfl rfl rfl rfl [(101,_),(102,_)] (fun h=>And.intro (.inl rfl) (And.intro (.inr ⟨_,rfl,h⟩) (trivial))) (fun h=>(aa.eql rfl rfl rfl)) ?_
      refine Kc (aa.ec rfl rfl rfl ?_) ?_
      ·exact ax
      refine af ?_
      refine aj.g 106 105 rfl rfl rfl rfl rfl rfl rfl [] (fun h=>trivial) (fun h=>(Kp (gE))) ?_
      exact kS
     ·have hv1:Gi v=false:=hga.symm.trans Rb
      refine aF.join (fun(g:Bool)=>[(7,.ptr 0 0),(8,.p (.ip (cH F.b) 0)),(9,.p (.int .i64 (F.marks.length:Int))),(10,.p (.str (sB r))),(12,.p (.ip (cH G.b) 0)),(13,.p (.ip [.str (sB v.t),Di.bh n] 0)),(90,.p (.str (sB v.t))),(108,.p (.bool g))]) (fun(g:Bool)=>(bH 0 G z2)) (fun(g:Bool)=>g=Ww v) ?_ (fun gb hgb=> ?_)
      ·iterate 2 refine af ?_
       refine Kc (aa.dJ v.t [109,97,114,107] rfl rfl rfl) ?_
       iterate 2 refine af ?_
       refine Ki (fun Rl=> ?_) fun Rl=> ?_
       ·refine af ?_
        exact⟨_,Rl.trans (abd Rl).symm,To.sub KS⟩
       ·refine af ?_
        refine Kc (aa.dJ v.t [107,101,101,112] rfl rfl rfl) ?_
        iterate 2 refine af ?_
        exact⟨_,aaC Rl,To.sub KS⟩
      ·refine Ki (fun XB=> ?_) fun XB=> ?_
       ·have eb:=UU hd (hgb.symm.trans XB)
        rw[eb]
        iterate 2 refine af ?_
        refine Kc (Kl (.p (.agg (cH F.b)))) ?_
        refine Kc (Kl (.p (.agg (cH F.b)))) ?_
        refine Kc (Kp (ia F.b (by omega) (by omega) (by omega) (by omega))) ?_
        refine af ?_
        refine aj.g 115 114 rfl rfl rfl rfl rfl rfl rfl [] (fun h=>trivial) (fun h=>(Kp (gE))) ?_
        exact kS
       ·have Yt:Ww v=false:=hgb.symm.trans XB
        refine aF.join (fun(g:Bool)=>[(7,.ptr 0 0),(8,.p (.ip (cH F.b) 0)),(9,.p (.int .i64 (F.marks.length:Int))),(10,.p (.str (sB r))),(12,.p (.ip (cH G.b) 0)),(13,.p (.ip [.str (sB v.t),Di.bh n] 0)),(90,.p (.str (sB v.t))),(117,.p (.bool g))]) (fun(g:Bool)=>(bH 0 G z2)) (fun(g:Bool)=>g=IS v) ?_ (fun gc hgc=> ?_)
        ·iterate 2 refine af ?_
         refine Kc (aa.dJ v.t [98,97,100] rfl rfl rfl) ?_
         iterate 2 refine af ?_
         refine Ki (fun JH=> ?_) fun JH=> ?_
         ·refine af ?_
          exact⟨_,JH.trans (Xb JH).symm,To.sub KS⟩
         ·refine af ?_
          refine Kc (aa.dJ v.t [103,111,111,100] rfl rfl rfl) ?_
          iterate 2 refine af ?_
          exact⟨_,YF JH,To.sub KS⟩
        ·refine Ki (fun Oq=> ?_) fun Oq=> ?_
         ·obtain⟨hn1,XK,k,ek,Li,XA⟩:=RQ hd (hgc.symm.trans Oq) VO hnB f2
          have hpk:2^k<=2^24:=Zu (by decide) Li
          have hB7:(F.b.bad||| F.b.good)||| 1*2^k<2^24:=by rw[<- XA];exact hB6
          refine af ?_
          refine aF.aB 30 mixed (by kernel_rfl) (by decide) ?_
          refine af ?_
          refine Kq (Kl (.p (Rx.fF G.b.ag))) ?_
          refine Kq (aa.bD rfl rfl an rfl) ?_
          refine af ?_
          refine Kq (Kl (.p (Rx.fF F.b.ag))) ?_
          refine Kq (aa.bD rfl rfl an rfl) ?_
          refine Kq (aa.eql rfl rfl rfl) ?_
          refine af ?_
          refine av.guard 128 127 rfl rfl rfl rfl rfl rfl rfl [(12,_)] (fun h=>And.intro (.inl rfl) (trivial)) (fun h=>(aa.fieldAddr rfl rfl an rfl)) ?_
          refine av.guard 129 127 rfl rfl rfl rfl rfl rfl rfl [(128,_)] (fun h=>And.intro (.inr ⟨_,rfl,h⟩) (trivial)) (fun h=>(Kl (.p (.int .i64 (G.b.bad:Int))))) ?_
          refine av.guard 130 127 rfl rfl rfl rfl rfl rfl rfl [(12,_)] (fun h=>And.intro (.inl rfl) (trivial)) (fun h=>(aa.fieldAddr rfl rfl an rfl)) ?_
          refine av.guard 131 127 rfl rfl rfl rfl rfl rfl rfl [(130,_)] (fun h=>And.intro (.inr ⟨_,rfl,h⟩) (trivial)) (fun h=>(Kl (.p (.int .i64 (G.b.good:Int))))) ?_
          refine av.guard 132 127 rfl rfl rfl rfl rfl rfl rfl [(129,_),(131,_)] (fun h=>And.intro (.inr ⟨_,rfl,h⟩) (And.intro (.inr ⟨_,rfl,h⟩) (trivial))) (fun h=>(aa.Qv G.b.bad G.b.good rfl rfl rfl (by show _<=(9223372036854775807:Int);omega) (by show _<=(9223372036854775807:Int);omega) (by show _<=(9223372036854775807:Int);omega))) ?_
          refine av.guard 133 127 rfl rfl rfl rfl rfl rfl rfl [(8,_)] (fun h=>And.intro (.inl rfl) (trivial)) (fun h=>(aa.fieldAddr rfl rfl an rfl)) ?_
          refine av.guard 134 127 rfl rfl rfl rfl rfl rfl rfl [(133,_)] (fun h=>And.intro (.inr ⟨_,rfl,h⟩) (trivial)) (fun h=>(Kl (.p (.int .i64 (F.b.bad:Int))))) ?_
          refine av.guard 135 127 rfl rfl rfl rfl rfl rfl rfl [(8,_)] (fun h=>And.intro (.inl rfl) (trivial)) (fun h=>(aa.fieldAddr rfl rfl an rfl)) ?_
          refine av.guard 136 127 rfl rfl rfl rfl rfl rfl rfl [(135,_)] (fun h=>And.intro (.inr ⟨_,rfl,h⟩) (trivial)) (fun h=>(Kl (.p (.int .i64 (F.b.good:Int))))) ?_
          refine av.guard 137 127 rfl rfl rfl rfl rfl rfl rfl [(134,_),(136,_)] (fun h=>And.intro (.inr ⟨_,rfl,h⟩) (And.intro (.inr ⟨_,rfl,h⟩) (trivial))) (fun h=>(aa.Qv F.b.bad F.b.good rfl rfl rfl (by show _<=(9223372036854775807:Int);omega) (by show _<=(9223372036854775807:Int);omega) (by show _<=(9223372036854775807:Int);omega))) ?_
          refine av.guard 138 127 rfl rfl rfl rfl rfl rfl rfl [(13,_)] (fun h=>And.intro (.inl rfl) (trivial)) (fun h=>(aa.fieldAddr rfl rfl an rfl)) ?_
          refine av.guard 139 127 rfl rfl rfl rfl rfl rfl rfl [(138,_)] (fun h=>And.intro (.inr ⟨_,rfl,h⟩) (trivial)) (fun h=>(Kl (.p (Di.bh n)))) ?_
          refine av.guard 140 127 rfl rfl rfl rfl rfl rfl rfl [(139,_)] (fun h=>And.intro (.inr ⟨_,rfl,h⟩) (trivial)) (fun h=>(aa.aP (g:=Di.gt 0 n) (k:=0) (Di.aE _) rfl rfl rfl an dF rfl (fun _=>rfl) (by decide) (by omega))) ?_
          refine av.guard 141 127 rfl rfl rfl rfl rfl rfl rfl [(140,_)] (fun h=>And.intro (.inr ⟨_,rfl,h⟩) (trivial)) (fun h=>(aa.load (v:= .p (.int .i64 ((k:Nat):Int))) rfl rfl an (by show some (V.p (PV.int .i64 (Di.gt 0 n 0)))=_;rw[ek]))) ?_
          refine av.guard 142 127 rfl rfl rfl rfl rfl rfl rfl [(141,_)] (fun h=>And.intro (.inr ⟨_,rfl,h⟩) (trivial)) (fun h=>(aa.pE 1 k rfl rfl rfl (by show _<=(64:Nat);omega) (by show _<=(9223372036854775807:Int);omega))) ?_
          refine av.guard 143 127 rfl rfl rfl rfl rfl rfl rfl [(137,_),(142,_)] (fun h=>And.intro (.inr ⟨_,rfl,h⟩) (And.intro (.inr ⟨_,rfl,h⟩) (trivial))) (fun h=>(aa.Qv (F.b.bad||| F.b.good) (1*2^k) rfl rfl rfl (by show _<=(9223372036854775807:Int);omega) (by show _<=(9223372036854775807:Int);omega) (by show _<=(9223372036854775807:Int);omega))) ?_
          refine av.guard 144 127 rfl rfl rfl rfl rfl rfl rfl [(132,_),(143,_)] (fun h=>And.intro (.inr ⟨_,rfl,h⟩) (And.intro (.inr ⟨_,rfl,h⟩) (trivial))) (fun h=>(aa.eql rfl rfl rfl)) ?_
          refine Kq (aa.ec rfl rfl rfl ?_) ?_
          ·exact ax
          refine af ?_
          refine av.guard 147 146 rfl rfl rfl rfl rfl rfl rfl [] (fun h=>trivial) (fun h=>(Kp (gE))) ?_
          refine Kq (aa.ec rfl rfl rfl ?_) ?_
          ·exact ax
          refine af ?_
          refine av.nil ?_
          iterate 2 refine af ?_
          refine Fin.gL rfl rfl ?_
          rw[XK,XA]
          simp
         ·have hv3:IS v=false:=hgc.symm.trans Oq
          iterate 2 refine af ?_
          refine Kc (aa.dJ v.t [98,97,99,107] rfl rfl rfl) ?_
          iterate 2 refine af ?_
          refine Ki (fun QE=> ?_) fun QE=> ?_
          ·iterate 2 refine af ?_
           refine Kc (Kp (gE)) ?_
           exact DK
          ·obtain⟨⟨cx,hcx⟩,hbad,hgood,Z9,hdr,ra,rc,hrep⟩:=Rh hd (WJ hv1 Yt hv3 QE)
           have hct:=mo hcx
           have hci:=GS (n:=F.b.ag.length) (by omega)
           have hidx:0<=Lib.index (r++[32]) (([99,97,114,100,32]++Lib.itoa (F.b.ag.length:Int))++[32]):=TF hrep
           iterate 4 refine af ?_
           refine Kc (Kl (.p (Rx.fF F.b.ag))) ?_
           iterate 7 refine af ?_
           refine Kc (Kl (.p (Rx.fF G.b.ag))) ?_
           iterate 2 refine af ?_
           refine Kc (aa.add (m:=((F.b.ag.length+1:Nat):Int)) rfl rfl rfl ((aI ?_).trans ?_)) ?_
           ·omega
           ·omega
           iterate 2 refine af ?_
           refine Kg 162 161 12 rfl (fun h=>(aa.fieldAddr rfl rfl an rfl)) ?_
           refine Kh 163 161 162 rfl rfl rfl rfl (fun h=>(Kl (.p (.int .i64 (G.b.bad:Int))))) ?_
           refine Kg 164 161 8 rfl (fun h=>(aa.fieldAddr rfl rfl an rfl)) ?_
           refine Kh 165 161 164 rfl rfl rfl rfl (fun h=>(Kl (.p (.int .i64 (F.b.bad:Int))))) ?_
           refine aj.g 166 161 rfl rfl rfl rfl rfl rfl rfl [(163,_),(165,_)] (fun h=>And.intro (.inr ⟨_,rfl,h⟩) (And.intro (.inr ⟨_,rfl,h⟩) (trivial))) (fun h=>(aa.neq rfl rfl rfl)) ?_
           refine Kc (aa.kA rfl rfl rfl ?_) ?_
           ·exact ax
           refine af ?_
           refine Kg 169 168 12 rfl (fun h=>(aa.fieldAddr rfl rfl an rfl)) ?_
           refine Kh 170 168 169 rfl rfl rfl rfl (fun h=>(Kl (.p (.int .i64 (G.b.good:Int))))) ?_
           refine Kg 171 168 8 rfl (fun h=>(aa.fieldAddr rfl rfl an rfl)) ?_
           refine Kh 172 168 171 rfl rfl rfl rfl (fun h=>(Kl (.p (.int .i64 (F.b.good:Int))))) ?_
           refine aj.g 173 168 rfl rfl rfl rfl rfl rfl rfl [(170,_),(172,_)] (fun h=>And.intro (.inr ⟨_,rfl,h⟩) (And.intro (.inr ⟨_,rfl,h⟩) (trivial))) (fun h=>(aa.neq rfl rfl rfl)) ?_
           refine Kc (aa.kA rfl rfl rfl ?_) ?_
           ·exact ax
           refine af ?_
           refine Kg 176 175 10 rfl (fun h=>(aa.move rfl rfl)) ?_
           refine Kh 177 175 176 rfl rfl rfl rfl (fun h=>(aa.nB r [32] rfl rfl rfl (by show _+1<_;omega))) ?_
           refine Kg 178 175 15 rfl (fun h=>(aa.move rfl rfl)) ?_
           refine Kh 179 175 178 rfl rfl rfl rfl (fun h=>(Kp (lQ (F.b.ag.length:Int) (by omega) (by omega)))) ?_
           refine Kh 180 175 179 rfl rfl rfl rfl (fun h=>(aa.nB [99,97,114,100,32] (Lib.itoa (F.b.ag.length:Int)) rfl rfl rfl (by show 5+_<_;omega))) ?_
           refine Kh 181 175 180 rfl rfl rfl rfl (fun h=>(aa.nB ([99,97,114,100,32]++Lib.itoa (F.b.ag.length:Int)) [32] rfl rfl rfl (by rw[Zc];show 5+_+1<_;omega))) ?_
           refine aj.g 182 175 rfl rfl rfl rfl rfl rfl rfl [(177,_),(181,_)] (fun h=>And.intro (.inr ⟨_,rfl,h⟩) (And.intro (.inr ⟨_,rfl,h⟩) (trivial))) (fun h=>(Kp (zV (r++[32]) (([99,97,114,100,32]++Lib.itoa (F.b.ag.length:Int))++[32]) (by rw[Zc];show _+1<=_;omega)))) ?_
           refine Kh 183 175 182 rfl rfl rfl rfl (fun h=>(aa.gW rfl rfl)) ?_
           refine Kc (aa.kA rfl rfl rfl ?_) ?_
           ·exact ax
           refine af ?_
           refine Ki (fun TL=> ?_) fun TL=> ?_
           ·exfalso
            rw[hct.2,hbad,hgood,show decide (0<=Lib.index (r++[32]) (([99,97,114,100,32]++Lib.itoa (F.b.ag.length:Int))++[32]))=true from decide_eq_true hidx] at TL
            simp at TL
           ·iterate 3 refine af ?_
            refine Kc (Kl (.p (.agg (cH G.b)))) ?_
            refine af ?_
            refine Kz (aa.store (H':=(bH 0 G z2++[.cells ((cH G.b).map .p) 37])) rfl rfl rfl rfl rfl an rfl (pJ (by rfl))) ?_
            iterate 4 refine af ?_
            refine Kc (Kl (.p (Rx.fF G.b.ag))) ?_
            refine af ?_
            refine Kc (aa.gI (l:=0) (h:=F.b.ag.length) (r:=(F.b.ag.flatMap Rx.bY.cells)) rfl rfl an Gd rfl ⟨_,rfl⟩ (by omega) (by omega) ((JK (f:=Rx.bY.cells) (c:=2) (fun _=>rfl) G.b.ag F.b.ag.length).trans (by rw[hct.1]))) ?_
            refine af ?_
            refine Kz (aa.store (H':=(bH 0 G z2++[.cells [.p (Ck.cM G.b.aq),.p (Rx.fF F.b.ag),.p (Di.eY G.b.au),.p (Di.bh G.b.plan),.p (.int .i64 (G.b.bad:Int)),.p (.int .i64 (G.b.good:Int))] 37])) rfl rfl rfl rfl rfl an rfl (rK Kn rfl)) ?_
            refine af ?_
            refine aF.join (fun(g:Unit)=>[(8,.p (.ip (cH F.b) 0)),(12,.p (.ip (cH G.b) 0)),(13,.p (.ip [.str (sB v.t),Di.bh n] 0)),(16,.ptr (bH 0 G z2).length 0)]) (fun(g:Unit)=>(bH 0 G z2++[.cells [.p (Ck.cM F.b.aq),.p (Rx.fF F.b.ag),.p (Di.eY G.b.au),.p (Di.bh G.b.plan),.p (.int .i64 (G.b.bad:Int)),.p (.int .i64 (G.b.good:Int))] 37])) (fun(g:Unit)=>True) ?_ (fun g hg=> ?_)
            ·iterate 3 refine af ?_
             refine Kc (Kl (.p (.str (sB v.t)))) ?_
             refine Kc (aa.dJ v.t [115,97,99,107] rfl rfl rfl) ?_
             refine af ?_
             refine Kg 195 194 12 rfl (fun h=>(aa.fieldAddr rfl rfl an rfl)) ?_
             refine Kh 196 194 195 rfl rfl rfl rfl (fun h=>(Kl (.p (Ck.cM G.b.aq)))) ?_
             refine Kh 197 194 196 rfl rfl rfl rfl (fun h=>(aa.bD rfl rfl an rfl)) ?_
             refine Kh 198 194 197 rfl rfl rfl rfl (fun h=>(aa.gtr rfl rfl rfl)) ?_
             refine Kc (aa.ec rfl rfl rfl ?_) ?_
             ·exact ax
             refine af ?_
             refine Ki (fun L3=> ?_) fun L3=> ?_
             ·rw[L5,Zm] at L3
              obtain⟨sx,hsx⟩:=Z9.1 (Zg L3.1)
              have hst:=mo hsx
              iterate 2 refine af ?_
              refine Kc (Kl (.p (Ck.cM G.b.aq))) ?_
              refine af ?_
              refine Kc (Kl (.p (Ck.cM G.b.aq))) ?_
              refine af ?_
              refine Kc (aa.fN (m:=((F.b.aq.length:Nat):Int)) rfl rfl rfl ((aI ?_).trans ?_)) ?_
              ·omega
              ·omega
              refine Kc (aa.gI (l:=0) (h:=F.b.aq.length) (r:=(F.b.aq.flatMap Ck.Sk.cells)) rfl rfl an OT rfl ⟨_,rfl⟩ (by omega) (by omega) ((JK (f:=Ck.Sk.cells) (c:=6) (fun _=>rfl) G.b.aq F.b.aq.length).trans (by rw[hst.1]))) ?_
              refine af ?_
              refine Kz (aa.store (H':=(bH 0 G z2++[.cells [.p (Ck.cM F.b.aq),.p (Rx.fF F.b.ag),.p (Di.eY G.b.au),.p (Di.bh G.b.plan),.p (.int .i64 (G.b.bad:Int)),.p (.int .i64 (G.b.good:Int))] 37])) rfl rfl rfl rfl rfl an rfl (rK Kn rfl)) ?_
              refine af ?_
              exact⟨(),trivial,To.sub KS⟩
             ·have tX:G.b.aq=F.b.aq:=Z9.2 fun h=>by obtain⟨sx,hsx⟩:=Z9.1 h;rw[L5,h,hsx] at L3;simp at L3
              refine af ?_
              rw[tX]
              exact⟨(),trivial,To.sub KS⟩
            ·refine aF.join (fun(g:Unit)=>[(8,.p (.ip (cH F.b) 0)),(16,.ptr (bH 0 G z2).length 0)]) (fun(g:Unit)=>(bH 0 G z2++[.cells ((cH F.b).map .p) 37])) (fun(g:Unit)=>True) ?_ (fun g hg=> ?_)
             ·iterate 3 refine af ?_
              refine Kc (Kl (.p (.str (sB v.t)))) ?_
              refine Kc (aa.dJ v.t [108,101,97,100] rfl rfl rfl) ?_
              refine af ?_
              refine Kg 212 211 12 rfl (fun h=>(aa.fieldAddr rfl rfl an rfl)) ?_
              refine Kh 213 211 212 rfl rfl rfl rfl (fun h=>(Kl (.p (Di.eY G.b.au)))) ?_
              refine Kh 214 211 213 rfl rfl rfl rfl (fun h=>(aa.bD rfl rfl an rfl)) ?_
              refine Kh 215 211 214 rfl rfl rfl rfl (fun h=>(aa.gtr rfl rfl rfl)) ?_
              refine Kc (aa.ec rfl rfl rfl ?_) ?_
              ·exact ax
              refine af ?_
              refine Kg 218 217 12 rfl (fun h=>(aa.fieldAddr rfl rfl an rfl)) ?_
              refine Kh 219 217 218 rfl rfl rfl rfl (fun h=>(Kl (.p (Di.bh G.b.plan)))) ?_
              refine Kh 220 217 219 rfl rfl rfl rfl (fun h=>(aa.bD rfl rfl an rfl)) ?_
              refine Kh 221 217 220 rfl rfl rfl rfl (fun h=>(aa.gtr rfl rfl rfl)) ?_
              refine Kc (aa.ec rfl rfl rfl ?_) ?_
              ·exact ax
              refine af ?_
              refine Ki (fun Ml=> ?_) fun Ml=> ?_
              ·rw[OR,Zm,Zm] at Ml
               obtain⟨⟨dx,hdx⟩,px,hpx⟩:=hdr.1 (Zg Ml.1.1)
               have hdt:=mo hdx
               have WK:=mo hpx
               refine aF.iT 16 ((bH 0 G z2++[.cells [.p (Ck.cM F.b.aq),.p (Rx.fF F.b.ag),.p (Di.eY F.b.au),.p (Di.bh G.b.plan),.p (.int .i64 (G.b.bad:Int)),.p (.int .i64 (G.b.good:Int))] 37])) mixed (by kernel_rfl) (by decide) ?_
               refine aA.cons 223 rfl rfl rfl (aa.fieldAddr rfl rfl an rfl) (aa.fieldAddr rfl rfl an rfl) ?_
               refine aA.cons 224 rfl rfl rfl (Kl (.p (Di.eY G.b.au))) (Kl (.p (Di.eY G.b.au))) ?_
               refine aA.cons 225 rfl rfl rfl (aa.fieldAddr rfl rfl an rfl) (aa.fieldAddr rfl rfl an rfl) ?_
               refine aA.cons 226 rfl rfl rfl (Kl (.p (Di.eY G.b.au))) (Kl (.p (Di.eY G.b.au))) ?_
               refine aA.cons 227 rfl rfl rfl (aa.bD rfl rfl an rfl) (aa.bD rfl rfl an rfl) ?_
               refine aA.cons 228 rfl rfl rfl (aa.fN (m:=((F.b.au.length:Nat):Int)) rfl rfl rfl ((aI ?_).trans ?_)) (aa.fN (m:=((F.b.au.length:Nat):Int)) rfl rfl rfl ((aI ?_).trans ?_)) ?_
               ·omega
               ·omega
               ·omega
               ·omega
               refine aA.cons 229 rfl rfl rfl (aa.gI (l:=0) (h:=F.b.au.length) (r:=(F.b.au.flatMap Di.cO.cells)) rfl rfl an Fy rfl ⟨_,rfl⟩ (by omega) (by omega) ((JK (f:=Di.cO.cells) (c:=3) (fun _=>rfl) G.b.au F.b.au.length).trans (by rw[hdt.1]))) (aa.gI (l:=0) (h:=F.b.au.length) (r:=(F.b.au.flatMap Di.cO.cells)) rfl rfl an Fy rfl ⟨_,rfl⟩ (by omega) (by omega) ((JK (f:=Di.cO.cells) (c:=3) (fun _=>rfl) G.b.au F.b.au.length).trans (by rw[hdt.1]))) ?_
               refine aA.cons 230 rfl rfl rfl (aa.fieldAddr rfl rfl an rfl) (aa.fieldAddr rfl rfl an rfl) ?_
               refine aA.cons 231 rfl rfl rfl (Kl (.p (Di.bh G.b.plan))) (Kl (.p (Di.bh G.b.plan))) ?_
               refine aA.cons 232 rfl rfl rfl (aa.fieldAddr rfl rfl an rfl) (aa.fieldAddr rfl rfl an rfl) ?_
               refine aA.cons 233 rfl rfl rfl (Kl (.p (Di.bh G.b.plan))) (Kl (.p (Di.bh G.b.plan))) ?_
               refine aA.cons 234 rfl rfl rfl (aa.bD rfl rfl an rfl) (aa.bD rfl rfl an rfl) ?_
               refine aA.cons 235 rfl rfl rfl (aa.fN (m:=((F.b.plan.length:Nat):Int)) rfl rfl rfl ((aI ?_).trans ?_)) (aa.fN (m:=((F.b.plan.length:Nat):Int)) rfl rfl rfl ((aI ?_).trans ?_)) ?_
               ·omega
               ·omega
               ·omega
               ·omega
               refine aA.cons 236 rfl rfl rfl (aa.gI (l:=0) (h:=F.b.plan.length) (r:=(F.b.plan.flatMap Di.bZ)) rfl rfl an dF rfl ⟨_,rfl⟩ (by omega) (by omega) ((JK (f:=Di.bZ) (c:=1) (fun _=>rfl) G.b.plan F.b.plan.length).trans (by rw[WK.1]))) (aa.gI (l:=0) (h:=F.b.plan.length) (r:=(F.b.plan.flatMap Di.bZ)) rfl rfl an dF rfl ⟨_,rfl⟩ (by omega) (by omega) ((JK (f:=Di.bZ) (c:=1) (fun _=>rfl) G.b.plan F.b.plan.length).trans (by rw[WK.1]))) ?_
               refine aA.cons 237 rfl rfl rfl (aa.fieldAddr rfl rfl an rfl) (aa.fieldAddr rfl rfl an rfl) ?_
               refine aA.put rfl rfl (aa.store (H':=(bH 0 G z2++[.cells [.p (Ck.cM F.b.aq),.p (Rx.fF F.b.ag),.p (Di.eY F.b.au),.p (Di.bh G.b.plan),.p (.int .i64 (G.b.bad:Int)),.p (.int .i64 (G.b.good:Int))] 37])) rfl rfl rfl rfl rfl an rfl (rK Kn rfl)) ?_
               refine aA.nil ?_
               refine af ?_
               refine Kz (aa.store (H':=(bH 0 G z2++[.cells [.p (Ck.cM F.b.aq),.p (Rx.fF F.b.ag),.p (Di.eY F.b.au),.p (Di.bh F.b.plan),.p (.int .i64 (G.b.bad:Int)),.p (.int .i64 (G.b.good:Int))] 37])) rfl rfl rfl rfl rfl an rfl (rK Kn rfl)) ?_
               refine af ?_
               rw[hbad,hgood]
               exact⟨(),trivial,To.sub KS⟩
              ·obtain⟨hdN,hpN⟩:G.b.au=F.b.au∧G.b.plan=F.b.plan:=hdr.2 fun h=>by obtain⟨⟨dx,hdx⟩,px,hpx⟩:=hdr.1 h;rw[OR,h,hdx,hpx] at Ml;simp at Ml
               refine af ?_
               rw[hdN,hpN,hbad,hgood]
               exact⟨(),trivial,To.sub KS⟩
             ·refine af ?_
              refine aF.to (To.pN (s:=16) (h:=bH 0 G z2) (T2:=[(8,.p (.ip (cH F.b) 0))]) (u5 R8) (Zp _) rfl rfl (by exact⟨rfl,trivial,trivial⟩)) ?_
              refine af ?_
              refine Kc (Kl (.p (.agg (cH F.b)))) ?_
              refine Kc (Kl (.p (.agg (cH F.b)))) ?_
              refine Kc (Kp (ia F.b (by omega) (by omega) (by omega) (by omega))) ?_
              refine af ?_
              refine aj.g 243 242 rfl rfl rfl rfl rfl rfl rfl [] (fun h=>trivial) (fun h=>(Kp (gE))) ?_
              exact kS
theorem FL(p:Di.bJ)(ws:List Bs)(s:Bs)(nA:ws.length<=9223372036854775807)(hpl:p.dies.length<=9223372036854775807):Pure Tryz.prog 4 [Di.cI p,cz ws,.str (sB s)] (.bool true):=by
 cases h1:(e9 p ws||e9 p [s]) with
 | true=>exact LB p ws s nA hpl h1
 | false=>
  cases h3:Di.eF p with
  | false=>exact VM p ws s nA hpl h1 h3
  | true=>exact Tg p ws s nA hpl h1 h3
theorem rz{x0 x1 x2:List PV}(h0:o8 Mg x0)(h1:o8 [.sl [.leaf .string]] x1)(h2:o8 [.leaf .string] x2):Pure Tryz.prog 4 [F5 true x0,F5 false x1,F5 false x2] (.bool true):=by
 obtain⟨p,rfl,hp⟩:=NL h0
 obtain⟨ws,rfl,hw⟩:=Aw h1
 obtain⟨s,rfl⟩:=Mn h2
 exact FL p ws s hw hp
end Go.Proofs.YtibffijhebobmaaGreatDoor
end
