/-
 The program of chapter 15: a floor that there is not; the books of a floor.
 Chapter 15, the law: the document's example.
 The law of chapter 15: the example; MasterRuns.
 From what the statements' arguments of chapter 15 may hold to plain data. No condition.
-/
import Derived.Test.YtibffijhebobmaaGreatDoorMzSF
import Derived.Test.YtibffijhebobmaaGreatDoorMzSH
import Derived.Test.YtibffijhebobmaaGreatDoorFaSF
import Derived.Test.YtibffijhebobmaaGreatDoorMzSP
import Derived.Test.YtibffijhebobmaaGreatDoorMzSM
import Derived.Test.YtibffijhebobmaaGreatDoorPmS
import Derived.Test.YtibffijhebobmaaGreatDoorMzSZ
set_option linter.unusedSimpArgs false
set_option linter.unusedVariables false
section
set_option maxRecDepth 100000
set_option maxHeartbeats 4000000
namespace Go.Proofs.YtibffijhebobmaaGreatDoor
open Go.AF
theorem Us:Lu Tryz.prog 83 0=some (true,6,0):=by kernel_rfl
def HI(i1 i2 i3 i4:Nat)(b:bI):List V:=[aW i1 b.aq.length,aW i2 b.ag.length,aW i3 b.au.length,aW i4 b.plan.length,.p (.int .i64 (b.bad:Int)),.p (.int .i64 (b.good:Int))]
theorem Q3(i1 i2 i3 i4:Nat)(b:bI):(HI i1 i2 i3 i4 b).all jj=true:=by simp only[HI,Vp,List.all_nil,DU,Bool.true_and,Bool.and_true];rfl
theorem Td(i1 i2 i3 i4:Nat)(b:bI):fZ (HI i1 i2 i3 i4 b)= .agg (HI i1 i2 i3 i4 b):=by
 unfold fZ HI
 rw[yd]
theorem U9{H:List ai}{cs:List PV}{t:List PV}{n:Nat}(hn:cs.length=n):cV H true n (.p (.ip (cs++t) 0))=some (.p (.agg cs)):=by
 subst hn
 show(if 0+cs.length<=(cs++t).length then some (V.p (.agg (((cs++t).drop 0).take cs.length))) else none)=_
 rw[if_pos (by rw[Zc];omega),Wh,List.take_left]
theorem KQ(b:bI)(t:List PV)(h1:b.aq.length<=1000)(h2:b.ag.length<=1000)(h3:b.au.length<=1000)(h4:b.plan.length<=1000)(h5:b.b9.length<=1000):az Tryz.prog 10 ([.ip (IA b++t) 0].map .p) [] fun v H2=>v= .agg (HI 4 3 5 6 b)∧H2=[.cells (HI 4 3 5 6 b) 37,.dead,.dead,cY b.ag,c7 b.aq,c8 b.au,bu b.plan,bu b.b9]:=by
 refine az.start (N:=12) Tryz.func10 rfl rfl Kn ?_
 iterate 8 refine af ?_
 refine Kc (aa.Xm rfl rfl rfl an) ?_
 refine af ?_
 refine aF.nJ rfl ?_
 iterate 4 refine af ?_
 refine Kc (aa.Iq rfl rfl) ?_
 refine af ?_
 refine Kc (aa.load (v:= .p (.agg (IA b))) rfl rfl an (U9 rfl)) ?_
 refine Kc (ua 3 1 b h1 h2 h3 h4 h5 rfl rfl rfl rfl rfl rfl an) ?_
 refine Kc (aa.field (v:= .agg (HI 4 3 5 6 b)) rfl rfl Us (congrArg some (Td 4 3 5 6 b))) ?_
 refine Kz (aa.store (H':=[.cells (HI 4 3 5 6 b) 37,.dead,.dead,cY b.ag,c7 b.aq,c8 b.au,bu b.plan,bu b.b9]) rfl rfl rfl rfl (Q3 4 3 5 6 b) an rfl rfl) ?_
 iterate 2 refine af ?_
 exact⟨.inr rfl,_,eX.one rfl ⟨_,_,_,rfl,an,(show cV _ _ _ _=_ from congrArg some (Td 4 3 5 6 b))⟩,rfl,rfl⟩
set_option maxRecDepth 1000000
open Go Go.AF
def Oo:Bs:=[115,97,99,107,32,49,48,32,50,48,32,57,48,48,32,57,53,48,32,48,32,48,10,115,97,99,107,32,49,48,48,32,49,53,48,32,48,32,48,32,49,48,48,32,49,50,48,10,109,97,114,107,10,108,101,97,100,32,48,32,54,48,48,32,49,32,53,48,53,32,48,32,52,48,32,49,56,48,48,32,49,57,48,48,10,119,101,97,114,32,48,10,108,101,97,100,32,48,32,53,32,49,32,53,32,48,32,49,48,32,49,56,48,48,32,49,57,48,48,10,115,108,97,116,10,112,101,110,99,105,108,32,50,32,51,32,49,48,48,10,98,97,100,32,52,10,98,108,97,109,101,10,103,111,111,100,32,51,10,99,97,108,108,10,103,111,111,100,32,52,10,102,114,111,109,32,52,10,98,97,99,107,10,98,108,97,109,101,10,119,101,97,114,32,48,10,112,101,110,99,105,108,32,50,32,51,32,49,48,48,10,107,101,101,112,10]
def J2:Bs:=[115,97,99,107,32,48,32,99,97,114,100,32,48,10,115,97,99,107,32,49,32,99,97,114,100,32,49,10,109,97,114,107,32,49,10,99,97,114,100,32,50,32,115,104,97,114,101,32,53,51,48,32,53,56,49,10,119,101,97,114,32,52,48,32,49,56,51,54,32,49,56,57,51,10,101,114,114,111,114,32,49,49,10,99,97,114,100,32,51,10,99,97,114,100,32,52,10,98,97,100,32,49,10,98,108,97,109,101,32,48,32,49,32,50,32,51,32,52,10,103,111,111,100,32,49,10,99,97,108,108,32,49,48,48,32,49,48,48,32,52,10,101,114,114,111,114,32,54,10,102,114,111,109,32,48,32,49,32,50,32,51,32,52,10,98,97,99,107,32,48,10,101,114,114,111,114,32,52,10,119,101,97,114,32,48,32,49,56,48,48,32,49,56,50,48,10,101,114,114,111,114,32,50,10,101,114,114,111,114,32,52,10]
def P0:Di.bJ:=⟨[⟨2000,1,2⟩,⟨2200,2,3⟩],90,100,5⟩
theorem RI:vH P0 Oo=(J2,0):=by decide+kernel
end Go.Proofs.YtibffijhebobmaaGreatDoor
end
section
set_option maxRecDepth 100000
set_option maxHeartbeats 4000000
namespace Go.Proofs.YtibffijhebobmaaGreatDoor
open Go.AF
theorem QT(p:Di.bJ)(s:Bs)(hp:p.dies.length<=100):Pure Tryz.prog 33 [Di.cI p,.str (sB s)] (.tuple [.str (sB (vH p s).1),.int .i64 (vH p s).2]):=by
 by_cases h1:131072<s.length
 ·have e:vH p s=([],3):=by unfold vH;rw[if_pos h1]
  rw[e];exact Im p s h1
 ·by_cases h2:s≠[]∧s.getLast?≠some 10
  ·have e:vH p s=([],8):=by unfold vH;rw[if_neg h1,if_pos h2]
   rw[e];exact J1 p s h1 h2.1 h2.2
  ·have Wb:s=[]∨s.getLast?=some 10:=by
     by_cases h:s=[]
     ·exact .inl h
     ·exact .inr (Decidable.byContradiction fun h3=>h2 ⟨h,h3⟩)
   cases h3:Di.eF p with
   | false=>
    have e:vH p s=([],1):=by unfold vH;rw[if_neg h1,if_neg h2,if_pos h3]
    rw[e];exact Oc p s hp h1 Wb h3
   | true=>
    have e:vH p s=(ya (newF p) (c5 10 [] s).dropLast,0):=by unfold vH;rw[if_neg h1,if_neg h2,if_neg (by rw[h3];decide)]
    rw[e];exact PN p s hp h1 Wb h3
theorem KT:Pure Tryz.prog 33 [Di.cI P0,.str (sB Oo)] (.tuple [.str (sB J2),.int .i64 0]):=by
 have h:=QT P0 Oo (by decide)
 rw[RI] at h
 exact h
theorem Oj:Pure Tryz.prog 34 [] (Di.cI P0):=by
 refine Kf (N:=8) Tryz.func34 ?_
 iterate 10 refine af ?_
 refine Kc (aa.aR rfl an (by decide) rfl rfl rfl) ?_
 iterate 5 refine af ?_
 exact Fin.gL rfl ⟨_,_,_,rfl,an,rfl⟩ rfl
theorem JI:Pure Tryz.prog 32 [] (.tuple [.str (sB Oo),.str (sB J2)]):=by
 refine Kf (N:=6) Tryz.func32 ?_
 iterate 21 refine af ?_
 exact Fin.dI (xs:=[.str (sB Oo),.str (sB J2)]) rfl ⟨_,_,rfl,rfl,⟨_,_,rfl,rfl,rfl⟩⟩ rfl rfl
theorem gE:Pure Tryz.prog 8 [] (.bool true):=by
 refine Kf (N:=22) Tryz.func8 ?_
 iterate 6 refine af ?_
 refine Kc (Kp (JI)) ?_
 iterate 8 refine af ?_
 refine Kc (Kp (Oj)) ?_
 refine af ?_
 refine Kc (Kp (KT)) ?_
 iterate 10 refine af ?_
 refine Kc (aa.dJ J2 J2 rfl rfl rfl) ?_
 refine af ?_
 refine Kg 19 18 4 rfl (fun h=>(aa.move rfl rfl)) ?_
 refine Kh 20 18 19 rfl rfl rfl rfl (fun h=>(aa.eql rfl rfl rfl)) ?_
 exact kS
open Go Go.AF
theorem pG{x:PV}(h:Ty (.leaf (.int .i64)) x):∃ n:Int,x= .int .i64 n:=by
 cases h with
 | int _ n _=>exact⟨n,rfl⟩
theorem Mn{x:List PV}(h:o8 [.leaf .string] x):∃ s:Bs,x=[.str (sB s)]:=by
 cases h with
 | cons _ _ y ys h1 h2=>
  cases h2
  cases h1 with
  | str s hs=>exact⟨s.data.toList,rfl⟩
theorem Aw{x:List PV}(h:o8 [.sl [.leaf .string]] x):∃ l:List Bs,x=[cz l]∧l.length<=9223372036854775807:=
 Tf (f:=je) (fun el h=>by obtain⟨s,e⟩:=Mn h;exact⟨s,e⟩) h
theorem Vh{el:List PV}(h:o8 [.leaf (.int .i64),.leaf (.int .i64),.leaf (.int .i64)] el):∃ d:Di.eg,el=d.cells:=by
 obtain⟨xs,h1,h2⟩:=Qs (n:=3) h
 match xs,h1 with
 | [a,b,c],_=>exact⟨⟨a,b,c⟩,h2⟩
abbrev Mg:List Sh:=[.sl [.leaf (.int .i64),.leaf (.int .i64),.leaf (.int .i64)],.leaf (.int .i64),.leaf (.int .i64),.leaf (.int .i64)]
theorem NL{x:List PV}(h:o8 Mg x):∃ p:Di.bJ,x=p.cells∧p.dies.length<=9223372036854775807:=by
 cases h with | cons _ _ x0 _ a0 h=>
 cases h with | cons _ _ x1 _ a1 h=>
 cases h with | cons _ _ x2 _ a2 h=>
 cases h with | cons _ _ x3 _ a3 h=>
 cases h
 obtain⟨l,e1,e2⟩:=Tf (f:=Di.eg.cells) (fun el=>Vh) (.cons _ _ _ _ a0 .nil)
 obtain⟨n1,rfl⟩:=pG a1
 obtain⟨n2,rfl⟩:=pG a2
 obtain⟨n3,rfl⟩:=pG a3
 simp only[List.cons.injEq,and_true] at e1
 subst e1
 exact⟨⟨l,n1,n2,n3⟩,rfl,e2⟩
end Go.Proofs.YtibffijhebobmaaGreatDoor
end
