/-
 The program of chapter 15: a floor that there is not; the books of a floor.
 Chapter 15, the law: the document's example.
 The law of chapter 15: the example; MasterRuns.
 From what the statements' arguments of chapter 15 may hold to plain data. No condition.
 The law MasterNone.
-/
import Derived.Test.YtchiinjiflgepaaGreatDoorMzQF
import Derived.Test.YtchiinjiflgepaaGreatDoorMzQH
import Derived.Test.YtchiinjiflgepaaGreatDoorFaQF
import Derived.Test.YtchiinjiflgepaaGreatDoorMzQP
import Derived.Test.YtchiinjiflgepaaGreatDoorMzQN
import Derived.Test.YtchiinjiflgepaaGreatDoorPmQ
import Derived.Test.YtchiinjiflgepaaGreatDoorMzQZ
theorem PD{A:Prop}(h:A:=by
 iterate 2 refine af ?_
 refine Ki (fun hc0=> ?_) fun hc0=> ?_
 ·iterate 6 refine af ?_
  exact Fin.dW (xs:=[.str (sB []),.int .i64 13]) rfl ⟨_,_,rfl,⟨_,_,_,rfl,an,rfl⟩,⟨_,_,rfl,⟨_,_,_,rfl,an,rfl⟩,rfl⟩⟩ rfl rfl
 ·exfalso
  cases hc0):A:=h
set_option linter.unusedSimpArgs false
set_option linter.unusedVariables false
section
set_option maxRecDepth 100000
set_option maxHeartbeats 4000000
namespace Go.Proofs.YtchiinjiflgepaaGreatDoor
open Go.AF
theorem Ka(s:Bs):Pure Tryz.prog 15 [.nilPtr,.str (sB s)] (.tuple [.str (sB []),.int .i64 13]):=by
 refine Kf (N:=58) Tryz.func15 ?_
 iterate 11 refine af ?_
 refine Kc (aa.uy rfl rfl rfl an) ?_
 refine af ?_
 refine aj.g (v:= .top) 14 13 rfl rfl rfl rfl rfl rfl rfl [] (fun h=>by cases h) (fun h=>by cases h) ?_
 refine aj.g (v:= .top) 15 13 rfl rfl rfl rfl rfl rfl rfl [] (fun h=>by cases h) (fun h=>by cases h) ?_
 refine aj.g (v:= .top) 16 13 rfl rfl rfl rfl rfl rfl rfl [] (fun h=>by cases h) (fun h=>by cases h) ?_
 refine aj.g (v:= .top) 17 13 rfl rfl rfl rfl rfl rfl rfl [] (fun h=>by cases h) (fun h=>by cases h) ?_
 refine aj.g (v:= .p (.bool false)) 18 13 rfl rfl rfl rfl rfl rfl rfl [] (fun h=>by cases h) (fun h=>by cases h) ?_
 refine Kc (aa.me rfl rfl rfl ?_) ?_
 ·exact eM
 exact PD
theorem Kk(s:Bs)(cs:List PV)(hl:cs.length=12):Pure Tryz.prog 15 [.ip (cs++[.bool false]) 0,.str (sB s)] (.tuple [.str (sB []),.int .i64 13]):=by
 refine Kf (N:=58) Tryz.func15 ?_
 iterate 11 refine af ?_
 refine Kc (aa.Pg rfl rfl rfl an) ?_
 refine af ?_
 refine Kg 14 13 2 rfl (fun h=>(aa.load rfl rfl an rfl)) ?_
 refine Kh 15 13 14 rfl rfl rfl rfl (fun h=>(aa.wX rfl rfl)) ?_
 refine Kh 16 13 15 rfl rfl rfl rfl (fun h=>(aa.fieldAddr rfl rfl an rfl)) ?_
 refine Kh 17 13 16 rfl rfl rfl rfl (fun h=>(aa.load (v:= .p (.bool false)) rfl rfl an (by show((cs++[PV.bool false])[12]?).map V.p=_;rw[<- hl];simp))) ?_
 refine Kh 18 13 17 rfl rfl rfl rfl (fun h=>(aa.iZ rfl rfl)) ?_
 refine Kc (aa.me rfl rfl rfl ?_) ?_
 ·exact eM
 exact PD
theorem Gn:Pure Tryz.prog 18 [.nilPtr] (.agg [.nilSlice,.nilSlice,.nilSlice,.nilSlice,.int .i64 0,.int .i64 0]):=by
 refine Kf (N:=12) Tryz.func18 ?_
 iterate 8 refine af ?_
 refine Kc (aa.uy rfl rfl rfl an) ?_
 refine af ?_
 refine aB.pQ rfl ?_
 iterate 6 refine af ?_
 exact Fin.gw rfl ⟨_,_,_,rfl,an,rfl⟩ rfl
theorem Uy:IF Tryz.prog 59 0=some (true,6,0):=by kernel_rfl
def Dh(i1 i2 i3 i4:Nat)(b:bG):List V:=[aV i1 b.au.length,aV i2 b.ag.length,aV i3 b.aq.length,aV i4 b.plan.length,.p (.int .i64 (b.bad:Int)),.p (.int .i64 (b.good:Int))]
theorem Mv(i1 i2 i3 i4:Nat)(b:bG):(Dh i1 i2 i3 i4 b).all jb=true:=by simp only[Dh,Rv,List.all_nil,BE,Bool.true_and,Bool.and_true];rfl
theorem QK(i1 i2 i3 i4:Nat)(b:bG):fP (Dh i1 i2 i3 i4 b)= .agg (Dh i1 i2 i3 i4 b):=by
 unfold fP Dh
 rw[xl]
theorem Td{H:List ai}{cs:List PV}{t:List PV}{n:Nat}(hn:cs.length=n):cW H true n (.p (.ip (cs++t) 0))=some (.p (.agg cs)):=by
 subst hn
 show(if 0+cs.length<=(cs++t).length then some (V.p (.agg (((cs++t).drop 0).take cs.length))) else none)=_
 rw[if_pos (by rw[Zb];omega),UL,List.take_left]
theorem BF(b:bG)(t:List PV)(h1:b.au.length<=1000)(h2:b.ag.length<=1000)(h3:b.aq.length<=1000)(h4:b.plan.length<=1000)(h5:b.b6.length<=1000):ax Tryz.prog 18 ([.ip (FI b++t) 0].map .p) [] fun v H2=>v= .agg (Dh 4 3 5 6 b)∧H2=[.cells (Dh 4 3 5 6 b) 41,.dead,.dead,cU b.ag,c5 b.au,c7 b.aq,bh b.plan,bh b.b6]:=by
 refine ax.start (N:=12) Tryz.func18 rfl rfl Kn ?_
 iterate 8 refine af ?_
 refine Kc (aa.Pg rfl rfl rfl an) ?_
 refine af ?_
 refine aB.jT rfl ?_
 iterate 4 refine af ?_
 refine Kc (aa.wX rfl rfl) ?_
 refine af ?_
 refine Kc (aa.load (v:= .p (.agg (FI b))) rfl rfl an (Td rfl)) ?_
 refine Kc (sX 3 1 b h1 h2 h3 h4 h5 rfl rfl rfl rfl rfl rfl an) ?_
 refine Kc (aa.field (v:= .agg (Dh 4 3 5 6 b)) rfl rfl Uy (congrArg some (QK 4 3 5 6 b))) ?_
 refine Kz (aa.store (H':=[.cells (Dh 4 3 5 6 b) 41,.dead,.dead,cU b.ag,c5 b.au,c7 b.aq,bh b.plan,bh b.b6]) rfl rfl rfl rfl (Mv 4 3 5 6 b) an rfl rfl) ?_
 iterate 2 refine af ?_
 exact⟨.inr rfl,_,eK.one rfl ⟨_,_,_,rfl,an,(show cW _ _ _ _=_ from congrArg some (QK 4 3 5 6 b))⟩,rfl,rfl⟩
set_option maxRecDepth 1000000
open Go Go.AF
def I4:Bs:=[115,97,99,107,32,49,48,32,50,48,32,57,48,48,32,57,53,48,32,48,32,48,10,115,97,99,107,32,49,48,48,32,49,53,48,32,48,32,48,32,49,48,48,32,49,50,48,10,109,97,114,107,10,108,101,97,100,32,48,32,54,48,48,32,49,32,53,48,53,32,48,32,52,48,32,49,56,48,48,32,49,57,48,48,10,119,101,97,114,32,48,10,108,101,97,100,32,48,32,53,32,49,32,53,32,48,32,49,48,32,49,56,48,48,32,49,57,48,48,10,115,108,97,116,10,112,101,110,99,105,108,32,50,32,51,32,49,48,48,10,98,97,100,32,52,10,98,108,97,109,101,10,103,111,111,100,32,51,10,99,97,108,108,10,103,111,111,100,32,52,10,102,114,111,109,32,52,10,98,97,99,107,10,98,108,97,109,101,10,119,101,97,114,32,48,10,112,101,110,99,105,108,32,50,32,51,32,49,48,48,10,107,101,101,112,10]
def Fb:Bs:=[115,97,99,107,32,48,32,99,97,114,100,32,48,10,115,97,99,107,32,49,32,99,97,114,100,32,49,10,109,97,114,107,32,49,10,99,97,114,100,32,50,32,115,104,97,114,101,32,53,51,48,32,53,56,49,10,119,101,97,114,32,52,48,32,49,56,51,54,32,49,56,57,51,10,101,114,114,111,114,32,49,49,10,99,97,114,100,32,51,10,99,97,114,100,32,52,10,98,97,100,32,49,10,98,108,97,109,101,32,48,32,49,32,50,32,51,32,52,10,103,111,111,100,32,49,10,99,97,108,108,32,49,48,48,32,49,48,48,32,52,10,101,114,114,111,114,32,54,10,102,114,111,109,32,48,32,49,32,50,32,51,32,52,10,98,97,99,107,32,48,10,101,114,114,111,114,32,52,10,119,101,97,114,32,48,32,49,56,48,48,32,49,56,50,48,10,101,114,114,111,114,32,50,10,101,114,114,111,114,32,52,10]
def AW:Di.bB:=⟨[⟨2000,1,2⟩,⟨2200,2,3⟩],90,100,5⟩
theorem Mn:nZ AW I4=(Fb,0):=by decide+kernel
end Go.Proofs.YtchiinjiflgepaaGreatDoor
end
section
set_option maxRecDepth 100000
set_option maxHeartbeats 4000000
namespace Go.Proofs.YtchiinjiflgepaaGreatDoor
open Go.AF
theorem lR(p:Di.bB)(s:Bs)(hp:p.dies.length<=100):Pure Tryz.prog 11 [Di.bO p,.str (sB s)] (.tuple [.str (sB (nZ p s).1),.int .i64 (nZ p s).2]):=by
 by_cases h1:131072<s.length
 ·have e:nZ p s=([],3):=by unfold nZ;rw[if_pos h1]
  rw[e];exact FF p s h1
 ·by_cases h2:s≠[]∧s.getLast?≠some 10
  ·have e:nZ p s=([],8):=by unfold nZ;rw[if_neg h1,if_pos h2]
   rw[e];exact Gj p s h1 h2.1 h2.2
  ·have UA:s=[]∨s.getLast?=some 10:=by
     by_cases h:s=[]
     ·exact .inl h
     ·exact .inr (Decidable.byContradiction fun h3=>h2 ⟨h,h3⟩)
   cases h3:Di.dH p with
   | false=>
    have e:nZ p s=([],1):=by unfold nZ;rw[if_neg h1,if_neg h2,if_pos h3]
    rw[e];exact KK p s hp h1 UA h3
   | true=>
    have e:nZ p s=(kV (newF p) (dG 10 [] s).dropLast,0):=by unfold nZ;rw[if_neg h1,if_neg h2,if_neg (by rw[h3];decide)]
    rw[e];exact Of p s hp h1 UA h3
theorem GU:Pure Tryz.prog 11 [Di.bO AW,.str (sB I4)] (.tuple [.str (sB Fb),.int .i64 0]):=by
 have h:=lR AW I4 (by decide)
 rw[Mn] at h
 exact h
theorem Lm:Pure Tryz.prog 39 [] (Di.bO AW):=by
 refine Kf (N:=8) Tryz.func39 ?_
 iterate 10 refine af ?_
 refine Kc (aa.aU rfl an (by decide) rfl rfl rfl) ?_
 iterate 5 refine af ?_
 exact Fin.gw rfl ⟨_,_,_,rfl,an,rfl⟩ rfl
theorem Gm:Pure Tryz.prog 38 [] (.tuple [.str (sB I4),.str (sB Fb)]):=by
 refine Kf (N:=6) Tryz.func38 ?_
 iterate 21 refine af ?_
 exact Fin.dW (xs:=[.str (sB I4),.str (sB Fb)]) rfl ⟨_,_,rfl,rfl,⟨_,_,rfl,rfl,rfl⟩⟩ rfl rfl
theorem iy:Pure Tryz.prog 10 [] (.bool true):=by
 refine Kf (N:=22) Tryz.func10 ?_
 iterate 6 refine af ?_
 refine Kc (Kp (Gm)) ?_
 iterate 8 refine af ?_
 refine Kc (Kp (Lm)) ?_
 refine af ?_
 refine Kc (Kp (GU)) ?_
 iterate 10 refine af ?_
 refine Kc (aa.rV Fb Fb rfl rfl rfl) ?_
 refine af ?_
 refine Kg 19 18 4 rfl (fun h=>(aa.move rfl rfl)) ?_
 refine Kh 20 18 19 rfl rfl rfl rfl (fun h=>(aa.eql rfl rfl rfl)) ?_
 exact MG
open Go Go.AF
theorem oE{x:PV}(h:Ty (.leaf (.int .i64)) x):∃ n:Int,x= .int .i64 n:=by
 cases h with
 | int _ n _=>exact⟨n,rfl⟩
theorem Ln{x:List PV}(h:l7 [.leaf (.int .u8)] x):∃ n:Nat,x=[.int .u8 (n:Int)]∧n<=255:=by
 exact Po
theorem JN{x:List PV}(h:l7 [.leaf .string] x):∃ s:Bs,x=[.str (sB s)]:=by
 cases h with
 | cons _ _ y ys h1 h2=>
  cases h2
  cases h1 with
  | str s hs=>exact⟨s.data.toList,rfl⟩
theorem yZ{x:List PV}(h:l7 [.sl [.leaf .string]] x):∃ l:List Bs,x=[b9 l]∧l.length<=9223372036854775807:=
 OT (f:=iF) (fun el h=>by obtain⟨s,e⟩:=JN h;exact⟨s,e⟩) h
theorem So{el:List PV}(h:l7 [.leaf (.int .i64),.leaf (.int .i64),.leaf (.int .i64)] el):∃ d:Di.dY,el=d.cells:=by
 obtain⟨xs,h1,h2⟩:=Ny (n:=3) h
 match xs,h1 with
 | [a,b,c],_=>exact⟨⟨a,b,c⟩,h2⟩
abbrev DB:List Sh:=[.sl [.leaf (.int .i64),.leaf (.int .i64),.leaf (.int .i64)],.leaf (.int .i64),.leaf (.int .i64),.leaf (.int .i64)]
theorem CI{x:List PV}(h:l7 DB x):∃ p:Di.bB,x=p.cells∧p.dies.length<=9223372036854775807:=by
 cases h with | cons _ _ x0 _ a0 h=>
 cases h with | cons _ _ x1 _ a1 h=>
 cases h with | cons _ _ x2 _ a2 h=>
 cases h with | cons _ _ x3 _ a3 h=>
 cases h
 obtain⟨l,e1,e2⟩:=OT (f:=Di.dY.cells) (fun el=>So) (.cons _ _ _ _ a0 .nil)
 obtain⟨n1,rfl⟩:=oE a1
 obtain⟨n2,rfl⟩:=oE a2
 obtain⟨n3,rfl⟩:=oE a3
 simp only[List.cons.injEq,and_true] at e1
 subst e1
 exact⟨⟨l,n1,n2,n3⟩,rfl,e2⟩
end Go.Proofs.YtchiinjiflgepaaGreatDoor
end
section
set_option maxRecDepth 100000
set_option maxHeartbeats 4000000
namespace Go.Proofs.YtchiinjiflgepaaGreatDoor
open Go.AF
theorem M4(s:Bs):Pure Tryz.prog 6 [.str (sB s)] (.bool true):=by
 refine Kf (N:=65) Tryz.func6 ?_
 iterate 12 refine af ?_
 refine Kc (Kp (Ka s)) ?_
 iterate 9 refine af ?_
 refine Kc (Kp (Gn)) ?_
 iterate 9 refine af ?_
 refine aB.to (To.wkB 1 rfl) ?_
 refine aB.freeze 1 rfl rfl ?_
 iterate 3 refine af ?_
 refine Kc (Kp (Kk s [.is [] 0,.is [] 0,.is [] 0,.is [] 0,.int .i64 0,.int .i64 0,.is [] 0,.is [] 0,.int .i64 0,.int .i64 0,.int .i64 0,.is [] 0] rfl)) ?_
 iterate 9 refine af ?_
 refine Kc (aa.tg 3 (BF noB [.is [] 0,.int .i64 0,.int .i64 0,.int .i64 0,.is [] 0,.bool false] (Zl _) (Zl _) (Zl _) (Zl _) (Zl _)) rfl rfl rfl rfl rfl rfl rfl an) ?_
 iterate 6 refine af ?_
 refine Kc (aa.rV [] [] rfl rfl rfl) ?_
 refine af ?_
 refine Kg 31 30 5 rfl (fun h=>(aa.move rfl rfl)) ?_
 refine Kh 32 30 31 rfl rfl rfl rfl (fun h=>(aa.eql rfl rfl rfl)) ?_
 refine Kc (aa.dM rfl rfl rfl ?_) ?_
 ·exact eM
 refine af ?_
 refine Kg 35 34 6 rfl (fun h=>(aa.fieldAddr rfl rfl an rfl)) ?_
 refine Kh 36 34 35 rfl rfl rfl rfl (fun h=>(aa.load rfl rfl an rfl)) ?_
 refine Kh 37 34 36 rfl rfl rfl rfl (fun h=>(aa.aQ rfl rfl an rfl)) ?_
 refine Kg 38 34 6 rfl (fun h=>(aa.fieldAddr rfl rfl an rfl)) ?_
 refine Kh 39 34 38 rfl rfl rfl rfl (fun h=>(aa.load rfl rfl an rfl)) ?_
 refine Kh 40 34 39 rfl rfl rfl rfl (fun h=>(aa.aQ rfl rfl an rfl)) ?_
 refine aj.g 41 34 rfl rfl rfl rfl rfl rfl rfl [(37,_),(40,_)] (fun h=>And.intro (.inr ⟨_,rfl,h⟩) (And.intro (.inr ⟨_,rfl,h⟩) (trivial))) (fun h=>(aa.add rfl rfl rfl (aH ?_))) ?_
 ·decide
 refine Kh 42 34 41 rfl rfl rfl rfl (fun h=>(aa.eql rfl rfl rfl)) ?_
 refine Kc (aa.dM rfl rfl rfl ?_) ?_
 ·exact eM
 refine af ?_
 refine Kg 45 44 8 rfl (fun h=>(aa.move rfl rfl)) ?_
 refine Kh 46 44 45 rfl rfl rfl rfl (fun h=>(aa.rV [] [] rfl rfl rfl)) ?_
 refine Kc (aa.dM rfl rfl rfl ?_) ?_
 ·exact eM
 refine af ?_
 refine Kg 49 48 9 rfl (fun h=>(aa.move rfl rfl)) ?_
 refine Kh 50 48 49 rfl rfl rfl rfl (fun h=>(aa.eql rfl rfl rfl)) ?_
 refine Kc (aa.dM rfl rfl rfl ?_) ?_
 ·exact eM
 refine af ?_
 refine Kg 53 52 10 rfl (fun h=>(aa.fieldAddr rfl rfl an rfl)) ?_
 refine Kh 54 52 53 rfl rfl rfl rfl (fun h=>(aa.load rfl rfl an rfl)) ?_
 refine Kh 55 52 54 rfl rfl rfl rfl (fun h=>(aa.aQ rfl rfl an rfl)) ?_
 refine Kg 56 52 10 rfl (fun h=>(aa.fieldAddr rfl rfl an rfl)) ?_
 refine Kh 57 52 56 rfl rfl rfl rfl (fun h=>(aa.load rfl rfl an rfl)) ?_
 refine Kh 58 52 57 rfl rfl rfl rfl (fun h=>(aa.aQ rfl rfl an rfl)) ?_
 refine aj.g 59 52 rfl rfl rfl rfl rfl rfl rfl [(55,_),(58,_)] (fun h=>And.intro (.inr ⟨_,rfl,h⟩) (And.intro (.inr ⟨_,rfl,h⟩) (trivial))) (fun h=>(aa.add rfl rfl rfl (aH ?_))) ?_
 ·decide
 refine Kh 60 52 59 rfl rfl rfl rfl (fun h=>(aa.eql rfl rfl rfl)) ?_
 refine Kc (aa.dM rfl rfl rfl ?_) ?_
 ·exact eM
 refine af ?_
 refine aj.g 63 62 rfl rfl rfl rfl rfl rfl rfl [] (fun h=>trivial) (fun h=>(Kp (iy))) ?_
 exact Q1
theorem uB{x0:List PV}(h0:l7 [.leaf .string] x0):Pure Tryz.prog 6 [wh false x0] (.bool true):=by
 obtain⟨s,rfl⟩:=JN h0
 exact M4 s
end Go.Proofs.YtchiinjiflgepaaGreatDoor
end
