/-
 The reference of chapter 15: what a line does (complaints, wear, marks).
 The reference of chapter 15: what a line does (marks).
 The reference of chapter 15: what a line does (sacks, leads).
 The reference of chapter 15: what a line does (leads).
 The reference of chapter 15: a line; a new floor.
 The reference of chapter 15: a script.
 The reference of chapter 15: books are the same.
-/
import Derived.Test.YtchiinjiflgepaaGreatDoorMzQF
import Derived.Test.YtchiinjiflgepaaGreatDoorMzQM
import Derived.Test.YtchiinjiflgepaaGreatDoorMzQP
import Derived.Test.YtchiinjiflgepaaGreatDoorMzQZ
theorem HM{A:Prop}(h:A:=by
 iterate 3 refine af ?_
 refine Kc (aa.add (m:=((i+1:Nat):Int)) rfl rfl rfl ((aH ?_).trans ?_)) ?_
 ·omega
 ·omega
 iterate 2 refine af ?_
 refine⟨i+1,?_,?_,?_⟩
 ·exact hk0
 ·omega
 exact To.sub KS):A:=h
set_option linter.unusedSimpArgs false
set_option linter.unusedVariables false
section
set_option maxRecDepth 100000
set_option maxHeartbeats 4000000
namespace Go.Proofs.YtchiinjiflgepaaGreatDoor
open Go.AF
theorem KT(l:List Int)(hl:l.length<=1000000):Pure Tryz.prog 37 [Di.bI l,Di.bI l] (.bool true):=by
 refine Kf (N:=26) Tryz.func37 ?_
 iterate 13 refine af ?_
 refine Ki (fun hc0=> ?_) fun hc0=> ?_
 ·simp at hc0
 ·iterate 7 refine af ?_
  refine aB.cR [0,1] (fun g=>[(5,.p (.int .i64 ((g:Nat):Int)))]) (fun g=>[]) (fun g=>g<=l.length) (fun g=>l.length - g) 0 (Zl _) (To.sub (Sub.xx (Sub.cons rfl (Sub.nil)))) (fun i hg=> ?_)
  iterate 8 refine af ?_
  refine Ki (fun cF=> ?_) fun cF=> ?_
  ·have hk0:i<l.length:=by have h:(i:Int)<(l.length:Int):=Zf cF;omega
   iterate 4 refine af ?_
   refine aB.az 9 mixed (by kernel_rfl) (by decide) ?_
   iterate 2 refine af ?_
   refine Kq (aa.aJ (g:=Di.gt 0 l) (Di.aC _) rfl rfl rfl an dA rfl (fun _=>rfl) (by decide) hk0) ?_
   refine Kq (Kl (.p (.int .i64 (Di.gt 0 l i)))) ?_
   iterate 2 refine af ?_
   refine Kq (aa.aJ (g:=Di.gt 0 l) (Di.aC _) rfl rfl rfl an dA rfl (fun _=>rfl) (by decide) hk0) ?_
   refine Kq (Kl (.p (.int .i64 (Di.gt 0 l i)))) ?_
   refine Kq (aa.neq rfl rfl rfl) ?_
   refine ay.nil ?_
   refine af ?_
   refine Ki (fun gW=> ?_) fun gW=> ?_
   ·simp at gW
   ·exact HM
  ·have hi2:i=l.length:=by have h:¬ ((i:Int)<(l.length:Int)):=Zh cF;omega
   subst hi2
   refine aB.exit ?_
   iterate 5 refine af ?_
   exact Df
theorem J0(b:bG)(h1:b.au.length<=1000)(h2:b.ag.length<=1000)(h3:b.aq.length<=1000)(h4:b.plan.length<=1000):Pure Tryz.prog 17 [.agg (kn b),.agg (kn b)] (.bool true):=by
 refine Kf (N:=109) Tryz.func17 ?_
 iterate 2 refine af ?_
 refine Kc (aa.iK rfl rfl rfl) ?_
 refine Kc (aa.iK rfl rfl rfl) ?_
 iterate 6 refine af ?_
 refine Kc (Kl (.p (Ck.dS b.au))) ?_
 iterate 2 refine af ?_
 refine Kc (Kl (.p (Ck.dS b.au))) ?_
 iterate 3 refine af ?_
 refine Kg 16 15 2 rfl (fun h=>(aa.fieldAddr rfl rfl an rfl)) ?_
 refine Kh 17 15 16 rfl rfl rfl rfl (fun h=>(Kl (.p (Rx.fO b.ag)))) ?_
 refine Kh 18 15 17 rfl rfl rfl rfl (fun h=>(aa.aQ rfl rfl an rfl)) ?_
 refine Kg 19 15 3 rfl (fun h=>(aa.fieldAddr rfl rfl an rfl)) ?_
 refine Kh 20 15 19 rfl rfl rfl rfl (fun h=>(Kl (.p (Rx.fO b.ag)))) ?_
 refine Kh 21 15 20 rfl rfl rfl rfl (fun h=>(aa.aQ rfl rfl an rfl)) ?_
 refine aj.g 22 15 rfl rfl rfl rfl rfl rfl rfl [(18,_),(21,_)] (fun h=>And.intro (.inr ⟨_,rfl,h⟩) (And.intro (.inr ⟨_,rfl,h⟩) (trivial))) (fun h=>(aa.neq rfl rfl rfl)) ?_
 refine Kc (aa.me rfl rfl rfl ?_) ?_
 ·exact eM
 refine af ?_
 refine Kg 25 24 2 rfl (fun h=>(aa.fieldAddr rfl rfl an rfl)) ?_
 refine Kh 26 24 25 rfl rfl rfl rfl (fun h=>(aa.load rfl rfl an rfl)) ?_
 refine Kh 27 24 26 rfl rfl rfl rfl (fun h=>(aa.aQ rfl rfl an rfl)) ?_
 refine Kg 28 24 3 rfl (fun h=>(aa.fieldAddr rfl rfl an rfl)) ?_
 refine Kh 29 24 28 rfl rfl rfl rfl (fun h=>(aa.load rfl rfl an rfl)) ?_
 refine Kh 30 24 29 rfl rfl rfl rfl (fun h=>(aa.aQ rfl rfl an rfl)) ?_
 refine aj.g 31 24 rfl rfl rfl rfl rfl rfl rfl [(27,_),(30,_)] (fun h=>And.intro (.inr ⟨_,rfl,h⟩) (And.intro (.inr ⟨_,rfl,h⟩) (trivial))) (fun h=>(aa.neq rfl rfl rfl)) ?_
 refine Kc (aa.me rfl rfl rfl ?_) ?_
 ·exact eM
 refine af ?_
 refine Kg 34 33 2 rfl (fun h=>(aa.fieldAddr rfl rfl an rfl)) ?_
 refine Kh 35 33 34 rfl rfl rfl rfl (fun h=>(Kl (.p (Di.bI b.plan)))) ?_
 refine Kg 36 33 3 rfl (fun h=>(aa.fieldAddr rfl rfl an rfl)) ?_
 refine Kh 37 33 36 rfl rfl rfl rfl (fun h=>(Kl (.p (Di.bI b.plan)))) ?_
 refine aj.g 38 33 rfl rfl rfl rfl rfl rfl rfl [(35,_),(37,_)] (fun h=>And.intro (.inr ⟨_,rfl,h⟩) (And.intro (.inr ⟨_,rfl,h⟩) (trivial))) (fun h=>(Kp (KT b.plan (by omega)))) ?_
 refine Kh 39 33 38 rfl rfl rfl rfl (fun h=>(aa.iZ rfl rfl)) ?_
 refine Kc (aa.me rfl rfl rfl ?_) ?_
 ·exact eM
 refine af ?_
 refine Kg 42 41 2 rfl (fun h=>(aa.fieldAddr rfl rfl an rfl)) ?_
 refine Kh 43 41 42 rfl rfl rfl rfl (fun h=>(Kl (.p (.int .i64 (b.bad:Int))))) ?_
 refine Kg 44 41 3 rfl (fun h=>(aa.fieldAddr rfl rfl an rfl)) ?_
 refine Kh 45 41 44 rfl rfl rfl rfl (fun h=>(Kl (.p (.int .i64 (b.bad:Int))))) ?_
 refine aj.g 46 41 rfl rfl rfl rfl rfl rfl rfl [(43,_),(45,_)] (fun h=>And.intro (.inr ⟨_,rfl,h⟩) (And.intro (.inr ⟨_,rfl,h⟩) (trivial))) (fun h=>(aa.neq rfl rfl rfl)) ?_
 refine Kc (aa.me rfl rfl rfl ?_) ?_
 ·exact eM
 refine af ?_
 refine Kg 49 48 2 rfl (fun h=>(aa.fieldAddr rfl rfl an rfl)) ?_
 refine Kh 50 48 49 rfl rfl rfl rfl (fun h=>(Kl (.p (.int .i64 (b.good:Int))))) ?_
 refine Kg 51 48 3 rfl (fun h=>(aa.fieldAddr rfl rfl an rfl)) ?_
 refine Kh 52 48 51 rfl rfl rfl rfl (fun h=>(Kl (.p (.int .i64 (b.good:Int))))) ?_
 refine aj.g 53 48 rfl rfl rfl rfl rfl rfl rfl [(50,_),(52,_)] (fun h=>And.intro (.inr ⟨_,rfl,h⟩) (And.intro (.inr ⟨_,rfl,h⟩) (trivial))) (fun h=>(aa.neq rfl rfl rfl)) ?_
 refine Kc (aa.me rfl rfl rfl ?_) ?_
 ·exact eM
 refine af ?_
 refine Ki (fun hc0=> ?_) fun hc0=> ?_
 ·simp at hc0
 ·iterate 7 refine af ?_
  refine aB.cR [2,3,6,7,73,74,75,76,77,78,79,80,81,82,83,84,85,86,87,88,89,90,91,92,93,94,95,96,97,98,99,100,101,102,103,104,105,106,107,108] (fun g=>[(5,.p (.int .i64 ((g:Nat):Int)))]) (fun g=>[.cells ((kn b).map .p) 41,.cells ((kn b).map .p) 41]) (fun g=>g<=b.au.length) (fun g=>b.au.length - g) 0 (Zl _) (To.sub (Sub.xx (Sub.cons rfl (Sub.nil)))) (fun i hg=> ?_)
  iterate 5 refine af ?_
  refine Kc (Kl (.p (Ck.dS b.au))) ?_
  iterate 3 refine af ?_
  refine Ki (fun cF=> ?_) fun cF=> ?_
  ·have hk0:i<b.au.length:=by have h:(i:Int)<(b.au.length:Int):=Zf cF;omega
   iterate 4 refine af ?_
   refine aB.az 11 mixed (by kernel_rfl) (by decide) ?_
   refine af ?_
   refine Kq (Kl (.p (Ck.dS b.au))) ?_
   refine af ?_
   refine Kq (aa.aJ (g:=(Di.gt (⟨⟨0,0⟩,⟨0,0⟩,⟨0,0⟩⟩:Ck.Sk) b.au)) (Di.aC _) rfl rfl rfl an Ms rfl (fun _=>rfl) (by decide) hk0) ?_
   refine Kq (Kl (.p (.agg (Di.gt (⟨⟨0,0⟩,⟨0,0⟩,⟨0,0⟩⟩:Ck.Sk) b.au i).cells))) ?_
   refine af ?_
   refine Kq (Kl (.p (Ck.dS b.au))) ?_
   refine af ?_
   refine Kq (aa.aJ (g:=(Di.gt (⟨⟨0,0⟩,⟨0,0⟩,⟨0,0⟩⟩:Ck.Sk) b.au)) (Di.aC _) rfl rfl rfl an Ms rfl (fun _=>rfl) (by decide) hk0) ?_
   refine Kq (Kl (.p (.agg (Di.gt (⟨⟨0,0⟩,⟨0,0⟩,⟨0,0⟩⟩:Ck.Sk) b.au i).cells))) ?_
   refine Kq (aa.LF (d:=8) rfl (.inr rfl) rfl rfl (by decide) Xw an rfl Wq rfl) ?_
   refine ay.nil ?_
   refine af ?_
   refine Ki (fun gW=> ?_) fun gW=> ?_
   ·rw[if_neg (by decide)] at gW
    simp at gW
   ·exact HM
  ·have hi2:i=b.au.length:=by have h:¬ ((i:Int)<(b.au.length:Int)):=Zh cF;omega
   subst hi2
   refine aB.exit ?_
   iterate 6 refine af ?_
   refine aB.cR [2,3,7,91,92,93,94,95,96,97,98,99,100,101,102,103,104,105,106,107,108] (fun g=>[(6,.p (.int .i64 ((g:Nat):Int)))]) (fun g=>[.cells ((kn b).map .p) 41,.cells ((kn b).map .p) 41]) (fun g=>g<=b.ag.length) (fun g=>b.ag.length - g) 0 (Zl _) (To.sub (Sub.xx (Sub.cons rfl (Sub.nil)))) (fun i hg=> ?_)
   iterate 5 refine af ?_
   refine Kc (Kl (.p (Rx.fO b.ag))) ?_
   iterate 3 refine af ?_
   refine Ki (fun mc=> ?_) fun mc=> ?_
   ·have hk0:i<b.ag.length:=by have h:(i:Int)<(b.ag.length:Int):=Zf mc;omega
    iterate 4 refine af ?_
    refine aB.az 11 mixed (by kernel_rfl) (by decide) ?_
    refine af ?_
    refine Kq (Kl (.p (Rx.fO b.ag))) ?_
    refine af ?_
    refine Kq (aa.aJ (g:=(Di.gt (⟨0,0⟩:Rx.bM) b.ag)) (Di.aC _) rfl rfl rfl an FO rfl (fun _=>rfl) (by decide) hk0) ?_
    refine Kq (Kl (.p (.agg (Di.gt (⟨0,0⟩:Rx.bM) b.ag i).cells))) ?_
    refine af ?_
    refine Kq (Kl (.p (Rx.fO b.ag))) ?_
    refine af ?_
    refine Kq (aa.aJ (g:=(Di.gt (⟨0,0⟩:Rx.bM) b.ag)) (Di.aC _) rfl rfl rfl an FO rfl (fun _=>rfl) (by decide) hk0) ?_
    refine Kq (Kl (.p (.agg (Di.gt (⟨0,0⟩:Rx.bM) b.ag i).cells))) ?_
    refine Kq (aa.LF (d:=8) rfl (.inr rfl) rfl rfl (by decide) Yr an rfl Yd rfl) ?_
    refine ay.nil ?_
    refine af ?_
    refine Ki (fun zI=> ?_) fun zI=> ?_
    ·rw[if_neg (by decide)] at zI
     simp at zI
    ·exact HM
   ·have hi2:i=b.ag.length:=by have h:¬ ((i:Int)<(b.ag.length:Int)):=Zh mc;omega
    subst hi2
    refine aB.exit ?_
    iterate 6 refine af ?_
    refine aB.cR [2,3] (fun g=>[(7,.p (.int .i64 ((g:Nat):Int)))]) (fun g=>[.cells ((kn b).map .p) 41,.cells ((kn b).map .p) 41]) (fun g=>g<=b.aq.length) (fun g=>b.aq.length - g) 0 (Zl _) (To.sub (Sub.xx (Sub.cons rfl (Sub.nil)))) (fun i hg=> ?_)
    iterate 5 refine af ?_
    refine Kc (Kl (.p (Di.fJ b.aq))) ?_
    iterate 3 refine af ?_
    refine Ki (fun xg=> ?_) fun xg=> ?_
    ·have hk0:i<b.aq.length:=by have h:(i:Int)<(b.aq.length:Int):=Zf xg;omega
     iterate 4 refine af ?_
     refine aB.az 11 mixed (by kernel_rfl) (by decide) ?_
     refine af ?_
     refine Kq (Kl (.p (Di.fJ b.aq))) ?_
     refine af ?_
     refine Kq (aa.aJ (g:=(Di.gt Di.cO.d b.aq)) (Di.aC _) rfl rfl rfl an Iv rfl (fun _=>rfl) (by decide) hk0) ?_
     refine Kq (Kl (.p (.agg (Di.gt Di.cO.d b.aq i).cells))) ?_
     refine af ?_
     refine Kq (Kl (.p (Di.fJ b.aq))) ?_
     refine af ?_
     refine Kq (aa.aJ (g:=(Di.gt Di.cO.d b.aq)) (Di.aC _) rfl rfl rfl an Iv rfl (fun _=>rfl) (by decide) hk0) ?_
     refine Kq (Kl (.p (.agg (Di.gt Di.cO.d b.aq i).cells))) ?_
     refine Kq (aa.LF (d:=8) rfl (.inr rfl) rfl rfl (by decide) aam an rfl aaz rfl) ?_
     refine ay.nil ?_
     refine af ?_
     refine Ki (fun wO=> ?_) fun wO=> ?_
     ·rw[if_neg (by decide)] at wO
      simp at wO
     ·exact HM
    ·have hi2:i=b.aq.length:=by have h:¬ ((i:Int)<(b.aq.length:Int)):=Zh xg;omega
     subst hi2
     refine aB.exit ?_
     iterate 5 refine af ?_
     exact Df
end Go.Proofs.YtchiinjiflgepaaGreatDoor
end
