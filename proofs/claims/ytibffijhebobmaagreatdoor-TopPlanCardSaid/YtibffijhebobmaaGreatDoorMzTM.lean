/-
 The reference of chapter 15: numbers and words.
 The reference of chapter 15: sets, complaints, what a line says.
 The reference of chapter 15: what a line does.
 The reference of chapter 15: books are the same.
-/
import Derived.Test.YtibffijhebobmaaGreatDoorMzTF
import Derived.Test.YtibffijhebobmaaGreatDoorMzTR
import Derived.Test.YtibffijhebobmaaGreatDoorMzTC
import Derived.Test.YtibffijhebobmaaGreatDoorMzTD
import Derived.Test.YtibffijhebobmaaGreatDoorMzTP
set_option linter.unusedSimpArgs false
set_option linter.unusedVariables false
section
set_option maxRecDepth 100000
set_option maxHeartbeats 4000000
namespace Go.Proofs.YtibffijhebobmaaGreatDoor
open Go.AF
theorem Jv{α:Type}(f:α->List PV)(l:List α)(h:∀ x,((f x).map V.p).all ig=true):((l.flatMap f).map V.p).all ig=true:=by
 induction l with
 | nil=>rfl
 | cons x l ih=>rw[ZH,ZA,List.all_append,h x,ih];rfl
theorem EU(l:List Int)(hl:l.length<=1000000):Pure Tryz.prog 30 [Di.bw l,Di.bw l] (.bool true):=by
 refine Kf (N:=26) Tryz.func30 ?_
 iterate 13 refine af ?_
 refine Ki (fun hc0=> ?_) fun hc0=> ?_
 ·simp at hc0
 ·iterate 7 refine af ?_
  refine aF.fE [0,1] (fun g=>[(5,.p (.int .i64 ((g:Nat):Int)))]) (fun g=>[]) (fun g=>g<=l.length) (fun g=>l.length - g) 0 (Zs _) (To.sub (Sub.Jw (Sub.cons rfl (Sub.nil)))) (fun i hg=> ?_)
  iterate 8 refine af ?_
  refine Ki (fun cR=> ?_) fun cR=> ?_
  ·have hk0:i<l.length:=by have h:(i:Int)<(l.length:Int):=Zk cR;omega
   iterate 4 refine af ?_
   refine aF.aD 9 mixed (by kernel_rfl) (by decide) ?_
   iterate 2 refine af ?_
   refine Kq (aa.aN (g:=Di.gt 0 l) (Di.aC _) rfl rfl rfl an dH rfl (fun _=>rfl) (by decide) hk0) ?_
   refine Kq (Kl (.p (.int .i64 (Di.gt 0 l i)))) ?_
   iterate 2 refine af ?_
   refine Kq (aa.aN (g:=Di.gt 0 l) (Di.aC _) rfl rfl rfl an dH rfl (fun _=>rfl) (by decide) hk0) ?_
   refine Kq (Kl (.p (.int .i64 (Di.gt 0 l i)))) ?_
   refine Kq (aa.neq rfl rfl rfl) ?_
   refine aA.nil ?_
   refine af ?_
   refine Ki (fun jR=> ?_) fun jR=> ?_
   ·simp at jR
   ·iterate 3 refine af ?_
    refine Kc (aa.add (m:=((i+1:Nat):Int)) rfl rfl rfl ((aK ?_).trans ?_)) ?_
    ·omega
    ·omega
    iterate 2 refine af ?_
    refine⟨i+1,?_,?_,?_⟩
    ·exact hk0
    ·omega
    exact To.sub KS
  ·have hi2:i=l.length:=by have h:¬ ((i:Int)<(l.length:Int)):=Zl cR;omega
   subst hi2
   refine aF.exit ?_
   iterate 5 refine af ?_
   exact Fin.fQ rfl rfl rfl
end Go.Proofs.YtibffijhebobmaaGreatDoor
end
