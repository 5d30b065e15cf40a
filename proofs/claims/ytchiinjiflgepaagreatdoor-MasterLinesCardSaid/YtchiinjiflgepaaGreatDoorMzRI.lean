/-
 Chapter 15, the law: the document's example.
 The law of chapter 15: the example; MasterRuns.
 From what the statements' arguments of chapter 15 may hold to plain data. No condition.
 MasterRuns, from its arguments.
 The program of chapter 15: a floor that there is not; the books of a floor.
-/
import Derived.Test.YtchiinjiflgepaaGreatDoorMzRP
import Derived.Test.YtchiinjiflgepaaGreatDoorMzRF
import Derived.Test.YtchiinjiflgepaaGreatDoorMzRH
import Derived.Test.YtchiinjiflgepaaGreatDoorMzRN
import Derived.Test.YtchiinjiflgepaaGreatDoorFaRF
import Derived.Test.YtchiinjiflgepaaGreatDoorPmR
import Derived.Test.YtchiinjiflgepaaGreatDoorMzRZ
theorem Sv{A:Prop}(h:A:=by
 refine Kc (aa.gy rfl rfl rfl ?_) ?_
 ·exact fO
 iterate 3 refine af ?_
 refine Fin.cY rfl rfl ?_
 simp):A:=h
set_option linter.unusedSimpArgs false
set_option linter.unusedVariables false
section
set_option maxRecDepth 1000000
namespace Go.Proofs.YtchiinjiflgepaaGreatDoor
open Go Go.AF
def JX:Bs:=[115,97,99,107,32,49,48,32,50,48,32,57,48,48,32,57,53,48,32,48,32,48,10,115,97,99,107,32,49,48,48,32,49,53,48,32,48,32,48,32,49,48,48,32,49,50,48,10,109,97,114,107,10,108,101,97,100,32,48,32,54,48,48,32,49,32,53,48,53,32,48,32,52,48,32,49,56,48,48,32,49,57,48,48,10,119,101,97,114,32,48,10,108,101,97,100,32,48,32,53,32,49,32,53,32,48,32,49,48,32,49,56,48,48,32,49,57,48,48,10,115,108,97,116,10,112,101,110,99,105,108,32,50,32,51,32,49,48,48,10,98,97,100,32,52,10,98,108,97,109,101,10,103,111,111,100,32,51,10,99,97,108,108,10,103,111,111,100,32,52,10,102,114,111,109,32,52,10,98,97,99,107,10,98,108,97,109,101,10,119,101,97,114,32,48,10,112,101,110,99,105,108,32,50,32,51,32,49,48,48,10,107,101,101,112,10]
def HY:Bs:=[115,97,99,107,32,48,32,99,97,114,100,32,48,10,115,97,99,107,32,49,32,99,97,114,100,32,49,10,109,97,114,107,32,49,10,99,97,114,100,32,50,32,115,104,97,114,101,32,53,51,48,32,53,56,49,10,119,101,97,114,32,52,48,32,49,56,51,54,32,49,56,57,51,10,101,114,114,111,114,32,49,49,10,99,97,114,100,32,51,10,99,97,114,100,32,52,10,98,97,100,32,49,10,98,108,97,109,101,32,48,32,49,32,50,32,51,32,52,10,103,111,111,100,32,49,10,99,97,108,108,32,49,48,48,32,49,48,48,32,52,10,101,114,114,111,114,32,54,10,102,114,111,109,32,48,32,49,32,50,32,51,32,52,10,98,97,99,107,32,48,10,101,114,114,111,114,32,52,10,119,101,97,114,32,48,32,49,56,48,48,32,49,56,50,48,10,101,114,114,111,114,32,50,10,101,114,114,111,114,32,52,10]
def QV:Di.bX:=⟨[⟨2000,1,2⟩,⟨2200,2,3⟩],90,100,5⟩
theorem Pa:ku QV JX=(HY,0):=by decide+kernel
end Go.Proofs.YtchiinjiflgepaaGreatDoor
end
section
set_option maxRecDepth 100000
set_option maxHeartbeats 4000000
namespace Go.Proofs.YtchiinjiflgepaaGreatDoor
open Go.AF
theorem Fu(p:Di.bX)(s:Bs)(hp:p.dies.length<=100):Pure Tryz.prog 11 [Di.ew p,.str (sB s)] (.tuple [.str (sB (ku p s).1),.int .i64 (ku p s).2]):=by
 by_cases h1:131072<s.length
 ·have e:ku p s=([],3):=by unfold ku;rw[if_pos h1]
  rw[e];exact HQ p s h1
 ·by_cases h2:s≠[]∧s.getLast?≠some 10
  ·have e:ku p s=([],8):=by unfold ku;rw[if_neg h1,if_pos h2]
   rw[e];exact GQ p s h1 h2.1 h2.2
  ·have Xg:s=[]∨s.getLast?=some 10:=by
     by_cases h:s=[]
     ·exact .inl h
     ·exact .inr (Decidable.byContradiction fun h3=>h2 ⟨h,h3⟩)
   cases h3:Di.dY p with
   | false=>
    have e:ku p s=([],1):=by unfold ku;rw[if_neg h1,if_neg h2,if_pos h3]
    rw[e];exact IK p s hp h1 Xg h3
   | true=>
    have e:ku p s=(xF (newF p) (cU 10 [] s).dropLast,0):=by unfold ku;rw[if_neg h1,if_neg h2,if_neg (by rw[h3];decide)]
    rw[e];exact QB p s hp h1 Xg h3
theorem KT:Pure Tryz.prog 11 [Di.ew QV,.str (sB JX)] (.tuple [.str (sB HY),.int .i64 0]):=by
 have h:=Fu QV JX (by decide)
 rw[Pa] at h
 exact h
theorem KI:Pure Tryz.prog 39 [] (Di.ew QV):=by
 refine Kf (N:=8) Tryz.func39 ?_
 iterate 10 refine af ?_
 refine Kc (aa.aF rfl ai (by decide) rfl rfl rfl) ?_
 iterate 5 refine af ?_
 exact Fin.cY rfl ⟨_,_,_,rfl,ai,rfl⟩ rfl
theorem Hz:Pure Tryz.prog 38 [] (.tuple [.str (sB JX),.str (sB HY)]):=by
 refine Kf (N:=6) Tryz.func38 ?_
 iterate 21 refine af ?_
 exact Fin.bq (xs:=[.str (sB JX),.str (sB HY)]) rfl ⟨_,_,rfl,rfl,⟨_,_,rfl,rfl,rfl⟩⟩ rfl rfl
theorem wQ:Pure Tryz.prog 10 [] (.bool true):=by
 refine Kf (N:=22) Tryz.func10 ?_
 iterate 6 refine af ?_
 refine Kc (Kp (Hz)) ?_
 iterate 8 refine af ?_
 refine Kc (Kp (KI)) ?_
 refine af ?_
 refine Kc (Kp (KT)) ?_
 iterate 10 refine af ?_
 refine Kc (aa.aK HY HY rfl rfl rfl) ?_
 refine af ?_
 refine Kg 19 18 4 rfl (fun h=>(aa.move rfl rfl)) ?_
 refine Kh 20 18 19 rfl rfl rfl rfl (fun h=>(aa.eql rfl rfl rfl)) ?_
 exact Sv
theorem P3(p:Di.bX)(s:Bs):Pure Tryz.prog 3 [Di.ew p,.str (sB s)] (.bool true):=by
 refine Kf (N:=47) Tryz.func3 ?_
 iterate 9 refine af ?_
 refine Kc (Kl (.p (Di.lN p.dies))) ?_
 iterate 3 refine af ?_
 refine Kg 14 13 1 rfl (fun h=>(aa.move rfl rfl)) ?_
 refine Kh 15 13 14 rfl rfl rfl rfl (fun h=>(aa.eF rfl rfl w9)) ?_
 refine Kh 16 13 15 rfl rfl rfl rfl (fun h=>(aa.gtr rfl rfl rfl)) ?_
 refine Kh 17 13 16 rfl rfl rfl rfl (fun h=>(aa.move rfl rfl)) ?_
 refine Kg 18 17 1 rfl (fun h=>(aa.move rfl rfl)) ?_
 refine Kh 19 17 18 rfl rfl rfl rfl (fun h=>(aa.eF rfl rfl w9)) ?_
 refine Kh 20 17 19 rfl rfl rfl rfl (fun h=>(aa.leq rfl rfl rfl)) ?_
 refine aq.g 21 13 rfl rfl rfl rfl rfl rfl rfl [(17,_),(20,_)] (fun h=>And.intro (.inr ⟨_,rfl,h⟩) (And.intro (.inl rfl) (trivial))) (fun h=>(aa.gy rfl rfl rfl ?_)) ?_
 ·exact fO
 refine Kc (aa.lE rfl rfl rfl ?_) ?_
 ·exact fO
 refine af ?_
 refine Ki (fun hc0=> ?_) fun hc0=> ?_
 ·iterate 2 refine af ?_
  refine Kc (Kp (wQ)) ?_
  exact Bg
 ·have aay:p.dies.length<=10:=by
   have h:=hc0
   simp only[OG,ZP] at h
   omega
  iterate 3 refine af ?_
  refine Kc (Kl (.p (Di.ew p))) ?_
  refine af ?_
  refine Kc (Kp (Fu p s (by omega))) ?_
  iterate 8 refine af ?_
  refine Kc (Kl (.p (Di.ew p))) ?_
  refine af ?_
  refine Kc (Kp (OU p s (by omega))) ?_
  iterate 10 refine af ?_
  refine Kc (aa.aK (ku p s).1 (ku p s).1 rfl rfl rfl) ?_
  refine af ?_
  refine Kg 40 39 6 rfl (fun h=>(aa.move rfl rfl)) ?_
  refine Kg 41 39 8 rfl (fun h=>(aa.move rfl rfl)) ?_
  refine aq.g 42 39 rfl rfl rfl rfl rfl rfl rfl [(40,_),(41,_)] (fun h=>And.intro (.inr ⟨_,rfl,h⟩) (And.intro (.inr ⟨_,rfl,h⟩) (trivial))) (fun h=>(aa.eql rfl rfl rfl)) ?_
  refine Kc (aa.gy rfl rfl rfl ?_) ?_
  ·exact fO
  refine af ?_
  refine aq.g 45 44 rfl rfl rfl rfl rfl rfl rfl [] (fun h=>trivial) (fun h=>(Kp (wQ))) ?_
  exact Sv
open Go Go.AF
theorem qq{x:PV}(h:Ty (.leaf (.int .i64)) x):∃ n:Int,x= .int .i64 n:=by
 cases h with
 | int _ n _=>exact⟨n,rfl⟩
theorem M3{x:List PV}(h:qx [.leaf .string] x):∃ s:Bs,x=[.str (sB s)]:=by
 cases h with
 | cons _ _ y ys h1 h2=>
  cases h2
  cases h1 with
  | str s hs=>exact⟨s.data.toList,rfl⟩
theorem Qf{x:List PV}(h:qx [.sl [.leaf .string]] x):∃ l:List Bs,x=[fS l]∧l.length<=9223372036854775807:=
 Tl (f:=jB) (fun el h=>by obtain⟨s,e⟩:=M3 h;exact⟨s,e⟩) h
theorem W1{el:List PV}(h:qx [.leaf (.int .i64),.leaf (.int .i64),.leaf (.int .i64)] el):∃ d:Di.cJ,el=d.cells:=by
 obtain⟨xs,h1,h2⟩:=Pv (n:=3) h
 match xs,h1 with
 | [a,b,c],_=>exact⟨⟨a,b,c⟩,h2⟩
abbrev Ny:List Sh:=[.sl [.leaf (.int .i64),.leaf (.int .i64),.leaf (.int .i64)],.leaf (.int .i64),.leaf (.int .i64),.leaf (.int .i64)]
theorem Lz{x:List PV}(h:qx Ny x):∃ p:Di.bX,x=p.cells∧p.dies.length<=9223372036854775807:=by
 cases h with | cons _ _ x0 _ a0 h=>
 cases h with | cons _ _ x1 _ a1 h=>
 cases h with | cons _ _ x2 _ a2 h=>
 cases h with | cons _ _ x3 _ a3 h=>
 cases h
 obtain⟨l,e1,e2⟩:=Tl (f:=Di.cJ.cells) (fun el=>W1) (.cons _ _ _ _ a0 .nil)
 obtain⟨n1,rfl⟩:=qq a1
 obtain⟨n2,rfl⟩:=qq a2
 obtain⟨n3,rfl⟩:=qq a3
 simp only[List.cons.injEq,and_true] at e1
 subst e1
 exact⟨⟨l,n1,n2,n3⟩,rfl,e2⟩
end Go.Proofs.YtchiinjiflgepaaGreatDoor
end
section
set_option maxRecDepth 100000
set_option maxHeartbeats 4000000
namespace Go.Proofs.YtchiinjiflgepaaGreatDoor
open Go.AF
theorem wT{x0 x1:List PV}(h0:qx Ny x0)(h1:qx [.leaf .string] x1):Pure Tryz.prog 3 [Nt true x0,Nt false x1] (.bool true):=by
 obtain⟨p,rfl,hp⟩:=Lz h0
 obtain⟨s,rfl⟩:=M3 h1
 exact P3 p s
theorem V1:J2 Tryz.prog 59 0=some (true,6,0):=by kernel_rfl
def ED(i1 i2 i3 i4:Nat)(b:bU):List V:=[bg i1 b.au.length,bg i2 b.ag.length,bg i3 b.ax.length,bg i4 b.plan.length,.p (.int .i64 (b.bad:Int)),.p (.int .i64 (b.good:Int))]
theorem On(i1 i2 i3 i4:Nat)(b:bU):(ED i1 i2 i3 i4 b).all jT=true:=by simp only[ED,P1,XH,BR,Bool.true_and,Bool.and_true];rfl
theorem R6(i1 i2 i3 i4:Nat)(b:bU):gL (ED i1 i2 i3 i4 b)= .agg (ED i1 i2 i3 i4 b):=by
 unfold gL ED
 rw[xV]
theorem Wl{H:List ak}{cs:List PV}{t:List PV}{n:Nat}(hn:cs.length=n):di H true n (.p (.ip (cs++t) 0))=some (.p (.agg cs)):=by
 subst hn
 show(if 0+cs.length<=(cs++t).length then some (V.p (.agg (((cs++t).drop 0).take cs.length))) else none)=_
 rw[if_pos (by rw[Zc];omega),Xj,List.take_left]
theorem Jh(b:bU)(t:List PV)(h1:b.au.length<=1000)(h2:b.ag.length<=1000)(h3:b.ax.length<=1000)(h4:b.plan.length<=1000)(h5:b.bH.length<=1000):aE Tryz.prog 18 ([.ip (G0 b++t) 0].map .p) [] fun v H2=>v= .agg (ED 4 3 5 6 b)∧H2=[.cells (ED 4 3 5 6 b) 41,.dead,.dead,dj b.ag,dD b.au,dI b.ax,bL b.plan,bL b.bH]:=by
 refine aE.start (N:=12) Tryz.func18 rfl rfl Kn ?_
 iterate 8 refine af ?_
 refine Kc (aa.aaC rfl rfl rfl ai) ?_
 refine af ?_
 refine aC.aU rfl ?_
 iterate 4 refine af ?_
 refine Kc (aa.GL rfl rfl) ?_
 refine af ?_
 refine Kc (aa.load (v:= .p (.agg (G0 b))) rfl rfl ai (Wl rfl)) ?_
 refine Kc (uA 3 1 b h1 h2 h3 h4 h5 rfl rfl rfl rfl rfl rfl ai) ?_
 refine Kc (aa.field (v:= .agg (ED 4 3 5 6 b)) rfl rfl V1 (congrArg some (R6 4 3 5 6 b))) ?_
 refine Kz (aa.store (H':=[.cells (ED 4 3 5 6 b) 41,.dead,.dead,dj b.ag,dD b.au,dI b.ax,bL b.plan,bL b.bH]) rfl rfl rfl rfl (On 4 3 5 6 b) ai rfl rfl) ?_
 iterate 2 refine af ?_
 exact⟨.inr rfl,_,fE.one rfl ⟨_,_,_,rfl,ai,(show di _ _ _ _=_ from congrArg some (R6 4 3 5 6 b))⟩,rfl,rfl⟩
end Go.Proofs.YtchiinjiflgepaaGreatDoor
end
