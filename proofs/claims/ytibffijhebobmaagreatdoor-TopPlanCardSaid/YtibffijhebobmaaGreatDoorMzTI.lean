/-
 The program of chapter 15: a floor that there is not; the books of a floor.
 Chapter 15, the law: the document's example.
 The law of chapter 15: the example; MasterRuns.
 From what the statements' arguments of chapter 15 may hold to plain data. No condition.
-/
import Derived.Test.YtibffijhebobmaaGreatDoorMzTF
import Derived.Test.YtibffijhebobmaaGreatDoorMzTH
import Derived.Test.YtibffijhebobmaaGreatDoorFaTF
import Derived.Test.YtibffijhebobmaaGreatDoorMzTP
import Derived.Test.YtibffijhebobmaaGreatDoorMzTM
import Derived.Test.YtibffijhebobmaaGreatDoorPmT
import Derived.Test.YtibffijhebobmaaGreatDoorMzTZ
set_option linter.unusedSimpArgs false
set_option linter.unusedVariables false
section
set_option maxRecDepth 100000
set_option maxHeartbeats 4000000
namespace Go.Proofs.YtibffijhebobmaaGreatDoor
open Go.AF
theorem TU:Mg Tryz.prog 83 0=some (true,6,0):=by kernel_rfl
def HV(i1 i2 i3 i4:Nat)(b:bN):List V:=[aZ i1 b.au.length,aZ i2 b.ai.length,aZ i3 b.aq.length,aZ i4 b.plan.length,.p (.int .i64 (b.bad:Int)),.p (.int .i64 (b.good:Int))]
theorem Ph(i1 i2 i3 i4:Nat)(b:bN):(HV i1 i2 i3 i4 b).all ig=true:=by simp only[HV,Qm,List.all_nil,BU,Bool.true_and,Bool.and_true];rfl
theorem SA(i1 i2 i3 i4:Nat)(b:bN):fW (HV i1 i2 i3 i4 b)= .agg (HV i1 i2 i3 i4 b):=by
 unfold fW HV
 rw[zi]
theorem T9{H:List ah}{cs:List PV}{t:List PV}{n:Nat}(hn:cs.length=n):cN H true n (.p (.ip (cs++t) 0))=some (.p (.agg cs)):=by
 subst hn
 show(if 0+cs.length<=(cs++t).length then some (V.p (.agg (((cs++t).drop 0).take cs.length))) else none)=_
 rw[if_pos (by rw[Zb];omega),Wm,List.take_left]
theorem L1(b:bN)(t:List PV)(h1:b.au.length<=1000)(h2:b.ai.length<=1000)(h3:b.aq.length<=1000)(h4:b.plan.length<=1000)(h5:b.bZ.length<=1000):ax Tryz.prog 10 ([.ip (JS b++t) 0].map .p) [] fun v H2=>v= .agg (HV 4 3 5 6 b)∧H2=[.cells (HV 4 3 5 6 b) 37,.dead,.dead,cV b.ai,dn b.au,de b.aq,bz b.plan,bz b.bZ]:=by
 refine ax.start (N:=12) Tryz.func10 rfl rfl Kn ?_
 iterate 8 refine af ?_
 refine Kc (aa.XW rfl rfl rfl an) ?_
 refine af ?_
 refine aF.tP rfl ?_
 iterate 4 refine af ?_
 refine Kc (aa.I9 rfl rfl) ?_
 refine af ?_
 refine Kc (aa.load (v:= .p (.agg (JS b))) rfl rfl an (T9 rfl)) ?_
 refine Kc (uF 3 1 b h1 h2 h3 h4 h5 rfl rfl rfl rfl rfl rfl an) ?_
 refine Kc (aa.field (v:= .agg (HV 4 3 5 6 b)) rfl rfl TU (congrArg some (SA 4 3 5 6 b))) ?_
 refine Kz (aa.store (H':=[.cells (HV 4 3 5 6 b) 37,.dead,.dead,cV b.ai,dn b.au,de b.aq,bz b.plan,bz b.bZ]) rfl rfl rfl rfl (Ph 4 3 5 6 b) an rfl rfl) ?_
 iterate 2 refine af ?_
 exact⟨.inr rfl,_,en.one rfl ⟨_,_,_,rfl,an,(show cN _ _ _ _=_ from congrArg some (SA 4 3 5 6 b))⟩,rfl,rfl⟩
set_option maxRecDepth 1000000
open Go Go.AF
def xP:Di.bn:=⟨[⟨2000,1,2⟩,⟨2200,2,3⟩],90,100,5⟩
end Go.Proofs.YtibffijhebobmaaGreatDoor
end
section
set_option maxRecDepth 100000
set_option maxHeartbeats 4000000
namespace Go.Proofs.YtibffijhebobmaaGreatDoor
open Go.AF
theorem O9(p:Di.bn)(s:Bs)(hp:p.dies.length<=100):Pure Tryz.prog 33 [Di.dO p,.str (sB s)] (.tuple [.str (sB (w9 p s).1),.int .i64 (w9 p s).2]):=by
 by_cases h1:131072<s.length
 ·have e:w9 p s=([],3):=by unfold w9;rw[if_pos h1]
  rw[e];exact JL p s h1
 ·by_cases h2:s≠[]∧s.getLast?≠some 10
  ·have e:w9 p s=([],8):=by unfold w9;rw[if_neg h1,if_pos h2]
   rw[e];exact IQ p s h1 h2.1 h2.2
  ·have V6:s=[]∨s.getLast?=some 10:=by
     by_cases h:s=[]
     ·exact .inl h
     ·exact .inr (Decidable.byContradiction fun h3=>h2 ⟨h,h3⟩)
   cases h3:Di.cL p with
   | false=>
    have e:w9 p s=([],1):=by unfold w9;rw[if_neg h1,if_neg h2,if_pos h3]
    rw[e];exact MS p s hp h1 V6 h3
   | true=>
    have e:w9 p s=(xR (newF p) (eg 10 [] s).dropLast,0):=by unfold w9;rw[if_neg h1,if_neg h2,if_neg (by rw[h3];decide)]
    rw[e];exact Qg p s hp h1 V6 h3
open Go Go.AF
theorem pM{x:PV}(h:Ty (.leaf (.int .i64)) x):∃ n:Int,x= .int .i64 n:=by
 cases h with
 | int _ n _=>exact⟨n,rfl⟩
theorem RY{x:List PV}(h:oM [.leaf (.int .u8)] x):∃ n:Nat,x=[.int .u8 (n:Int)]∧n<=255:=by
 exact E6
theorem UH{el:List PV}(h:oM [.leaf (.int .i64),.leaf (.int .i64),.leaf (.int .i64)] el):∃ d:Di.dw,el=d.cells:=by
 obtain⟨xs,h1,h2⟩:=Hw (n:=3) h
 match xs,h1 with
 | [a,b,c],_=>exact⟨⟨a,b,c⟩,h2⟩
theorem Vx{el:List PV}(h:oM [.leaf (.int .i64),.leaf (.int .i64),.leaf (.int .i64)] el):∃ d:Di.aH,el=d.cells:=by
 obtain⟨xs,h1,h2⟩:=Hw (n:=3) h
 match xs,h1 with
 | [a,b,c],_=>exact⟨⟨a,b,c⟩,h2⟩
theorem Pu{x:List PV}(h:oM [.sl [.leaf (.int .i64),.leaf (.int .i64),.leaf (.int .i64)]] x):∃ l:List Di.aH,x=[Di.cv l]∧l.length<=9223372036854775807:=
 Sw (f:=Di.aH.cells) (fun el=>Vx) h
abbrev SO:List Sh:=[.sl [.leaf (.int .i64),.leaf (.int .i64),.leaf (.int .i64)],.leaf (.int .i64),.leaf (.int .i64),.leaf (.int .i64)]
theorem Un{x:List PV}(h:oM SO x):∃ p:Di.bn,x=p.cells∧p.dies.length<=9223372036854775807:=by
 cases h with | cons _ _ x0 _ a0 h=>
 cases h with | cons _ _ x1 _ a1 h=>
 cases h with | cons _ _ x2 _ a2 h=>
 cases h with | cons _ _ x3 _ a3 h=>
 cases h
 obtain⟨l,e1,e2⟩:=Sw (f:=Di.dw.cells) (fun el=>UH) (.cons _ _ _ _ a0 .nil)
 obtain⟨n1,rfl⟩:=pM a1
 obtain⟨n2,rfl⟩:=pM a2
 obtain⟨n3,rfl⟩:=pM a3
 simp only[List.cons.injEq,and_true] at e1
 subst e1
 exact⟨⟨l,n1,n2,n3⟩,rfl,e2⟩
end Go.Proofs.YtibffijhebobmaaGreatDoor
end
