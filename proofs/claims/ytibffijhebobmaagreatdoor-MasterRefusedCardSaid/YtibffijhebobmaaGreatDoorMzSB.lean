/-
 The program of chapter 15: what verbs do (slats, pencils; questions).
 The program of chapter 15: what verbs do (sacks, calls).
 Chapter 15, the program: how many bits a set has, as a processor counts them.
 The program of chapter 15: what verbs do (complaints).
 The program of chapter 15: what verbs do (leads).
 Chapter 15, the program: what was drawn through each die, as a plan that can be followed leaves it.
 The program of chapter 15: what verbs do (dies).
-/
import Derived.Test.YtibffijhebobmaaGreatDoorMzSF
import Derived.Test.YtibffijhebobmaaGreatDoorMzSA
import Derived.Test.YtibffijhebobmaaGreatDoorMzSC
import Derived.Test.YtibffijhebobmaaGreatDoorMzSR
import Derived.Test.YtibffijhebobmaaGreatDoorMzSD
import Derived.Test.YtibffijhebobmaaGreatDoorFaSF
import Derived.Test.YtibffijhebobmaaGreatDoorMzSP
import Derived.Test.YtibffijhebobmaaGreatDoorMzSZ
theorem DG{A:Prop}(h:A:=by
 exact⟨⟨1,6,3,4,5,by decide,rfl,rfl,rfl,rfl,rfl,rfl⟩,⟨ZP rfl,by intro j y h1 h2 h3;obtain rfl | rfl | rfl | rfl | rfl:j=1∨j=2∨j=3∨j=4∨j=5:=(by omega);all_goals first | exact .inl (Zy (show some ai.dead=some y from h3)).symm | exact .inr h3⟩⟩):A:=h
theorem Cl{A:Prop}(h:A:=by
 exact⟨⟨1,2,3,4,5,by decide,rfl,rfl,rfl,rfl,rfl,rfl⟩,⟨ZP rfl,by intro j y h1 h2 h3;obtain rfl | rfl | rfl | rfl | rfl:j=1∨j=2∨j=3∨j=4∨j=5:=(by omega);all_goals first | exact .inl (Zy (show some ai.dead=some y from h3)).symm | exact .inr h3⟩⟩):A:=h
theorem wD{A:Prop}(h:A:=by
 obtain⟨z1,rfl,z3⟩:=iz
 iterate 3 refine af ?_
 exact iR.one rfl rfl ⟨z1,rfl,z3⟩):A:=h
theorem uX{A:Prop}(h:A:=by
 rcases Zw.1 hp with rfl | hp
 ·exact h
 ·exact hl p hp):A:=h
set_option linter.unusedSimpArgs false
set_option linter.unusedVariables false
section
set_option maxRecDepth 100000
set_option maxHeartbeats 4000000
namespace Go.Proofs.YtibffijhebobmaaGreatDoor
open Go.AF
def U5(b b2:bI)(p:Di.bJ)(um:V)(H:List ai):Prop:=At6 b2 p um H∧Eh b p um H
theorem Ih(b:bI)(p:Di.bJ)(um:V):U5 b b p um (mO b p um):=⟨VE b p um,Dw b p um⟩
def Wy(F:bT)(v:Vb)(n:List Int)(um:V):V->List ai->Prop:=fun r H2=>(bp F v n).2.2=0∧r= .p (.str (sB (bp F v n).2.1))∧U5 F.b (bp F v n).1.b F.aT um H2
def XZ(F:bT)(v:Vb)(n:List Int)(um:V):PV->List ai->Prop:=fun y H2=>(bp F v n).2.2≠0∧y= .iface 94 (.agg [.int .i64 (bp F v n).2.2])∧V1 F.b F.aT um H2
def VC(v:Vb)(g:FuncId):Prop:=∀(F:bT) (n:List Int) (a:Option Addr) (m c:Nat),kO F->n.length=v.many->(∀ x∈n,0<=x∧x<10000000000000)->
 ay Tryz.prog g [.ptr 0 0,.p (Di.bh n)] (mO F.b F.aT (.raw a m c)) (Wy F v n (.raw a m c)) (XZ F v n (.raw a m c))
theorem dW{F:bT}{v:Vb}{n:List Int}{um:V}{H2:List ai}{e:Int}(h:(bp F v n).2.2=e)(he:e≠0)(hp:V1 F.b F.aT um H2):∃ y,V.p (.iface 94 (.agg [.int .i64 e]))= .p y∧XZ F v n um y H2:=⟨_,rfl,by rw[h];exact he,by rw[h],hp⟩
theorem xU{F:bT}{v:Vb}{n:List Int}{um:V}{H2:List ai}{r:Bs}{F2:bT}{t:Bs}(h:bp F v n=(F2,r,0))(ht:t=r)(hp:U5 F.b F2.b F.aT um H2):Wy F v n um (.p (.str (sB t))) H2:=by
 unfold Wy
 rw[h,ht]
 exact⟨rfl,rfl,hp⟩
theorem Rz{H:List ai}{k i:Nat}{l:List Ck.Sk}(h:H[i]? =some (c7 l)):bS H (k+1) (aW i l.length)=some (Ck.cM l):=qI h fun h=>by rw[KJ.1 h];rfl
theorem Pd{H:List ai}{k i:Nat}{l:List Rx.bY}(h:H[i]? =some (cY l)):bS H (k+1) (aW i l.length)=some (Rx.fF l):=qI h fun h=>by rw[KJ.1 h];rfl
theorem P4{H:List ai}{k i:Nat}{l:List Di.cO}(h:H[i]? =some (c8 l)):bS H (k+1) (aW i l.length)=some (Di.eY l):=qI h fun h=>by rw[KJ.1 h];rfl
theorem ID{H:List ai}{k i:Nat}{l:List Int}(h:H[i]? =some (bu l)):bS H (k+1) (aW i l.length)=some (Di.bh l):=qI h fun h=>by rw[KJ.1 h];rfl
theorem YB{H:List ai}{k i:Nat}{l:List Rx.bY}{xs:List PV}(h:H[i]? =some (cY l)):cS (bS H (k+1)) (aW i l.length::xs.map .p)=some (Rx.fF l::xs):=by simp only[cS,Pd h,vD]
theorem hbS{H:List ai}{k i:Nat}{l:List Ck.Sk}{xs:List PV}(h:H[i]? =some (c7 l)):cS (bS H (k+1)) (aW i l.length::xs.map .p)=some (Ck.cM l::xs):=by simp only[cS,Rz h,vD]
theorem XQ{H:List ai}{k i j:Nat}{x:PV}{l:List Di.cO}{q:List Int}(h:H[i]? =some (c8 l))(h2:H[j]? =some (bu q)):cS (bS H (k+1)) [.p x,aW i l.length,aW j q.length]=some [x,Di.eY l,Di.bh q]:=by simp only[cS,P4 h,ID h2,KB]
theorem fE{w:Bs}{l:List jd}(h:w.length<=100)(hl:∀ p∈l,p.ok):∀ p∈jd.str w::l,p.ok:=fun p hp=>by
 exact uX
theorem ew{k:Int}{l:List jd}(h:0<=k∧k<10000000000000)(hl:∀ p∈l,p.ok):∀ p∈jd.num k::l,p.ok:=fun p hp=>by
 exact uX
theorem FK{q:List Int}{l:List jd}(h:q.length<=100∧∀ k∈q,0<=k∧k<10000000000000)(hl:∀ p∈l,p.ok):∀ p∈jd.FW q::l,p.ok:=fun p hp=>by
 exact uX
theorem gr:∀ p∈([]:List jd),p.ok:=fun p hp=>by cases hp
theorem U2:VC .slat 86:=by
 intro F n a m c hF hl hn
 have jz:=Rx.cG hF.b.cd
 have tR:=hF.b.sk
 have tf:=hF.b.dr
 refine ay.start (N:=11) Tryz.func86 rfl rfl Kn ?_
 iterate 6 refine af ?_
 refine Kc (aa.aG rfl rfl mh) ?_
 refine af ?_
 refine aj.dH 7 (At F.b F.aT a m c 0 0) rfl rfl rfl rfl rfl rfl rfl an (fun y H2 iz=> ?_) (fun v H2 iz=> ?_)
 ·obtain⟨q1,rfl,rfl⟩:=iz
  exact dW (e:=9) (by show(bp F .slat n).2.2=_;unfold bp;dsimp only;rw[if_pos (by omega)]) (by decide) (fL _ _ _)
 obtain⟨hlt,rfl,rfl⟩:=iz
 refine Kc (aa.aG rfl rfl ku) ?_
 refine Kc (aa.aR rfl an (by decide) rfl rfl rfl) ?_
 refine Kc (Kp (de [.str gG,.num (F.b.ag.length:Int)] Kn Kn (fE (by decide) (ew (by omega) gr)))) ?_
 iterate 3 refine af ?_
 refine iR.one rfl rfl (xU (F2:={F with b:=F.b.gq ⟨0,0⟩}) (r:=bn gG [(F.b.ag.length:Int)]) (by unfold bp;dsimp only;rw[if_neg (by omega)]) (by rw[fC];rfl) ?_)
 exact DG
theorem Uw(b:bI)(p:Di.bJ)(a:Option Addr)(m c:Nat)(x y:Int)(hlt:b.ag.length<24):az Tryz.prog 87 [.ptr 0 0,.p (.int .i64 x),.p (.int .i64 y)] (mO b p (.raw a m c)) (fun v H2=>v= .p (.int .i64 (b.ag.length:Int))∧H2=[cB (b.gq ⟨x,y⟩) p (.raw a m c) 1 6 3 4 5,c7 b.aq,.dead,c8 b.au,bu b.plan,bu b.b9,cY (b.gq ⟨x,y⟩).ag]):=
 ((At b p a m c x y).mono (Xv:=fun v H2=>v= .p (.int .i64 (b.ag.length:Int))∧H2=[cB (b.gq ⟨x,y⟩) p (.raw a m c) 1 6 3 4 5,c7 b.aq,.dead,c8 b.au,bu b.plan,bu b.b9,cY (b.gq ⟨x,y⟩).ag]) (X3:=fun _ _=>False) (fun v H2 ⟨_,h1,h2⟩=>⟨h1,h2⟩) (fun y H2 ⟨h1,_⟩=>h1 hlt)).toC (fun _ _ h=>h)
theorem Pr:VC .blame 93:=by
 intro F n a m c hF hl hn
 have jz:=Rx.cG hF.b.cd
 have tR:=hF.b.sk
 have tf:=hF.b.dr
 refine ay.start (N:=37) Tryz.func93 rfl rfl Kn ?_
 iterate 5 refine af ?_
 refine aF.aB 24 mixed (by kernel_rfl) (by decide) ?_
 refine af ?_
 refine Kq (aa.nilCheck rfl rfl) ?_
 iterate 3 refine af ?_
 refine Kq (Kl (aW 2 F.b.ag.length)) ?_
 refine af ?_
 refine Kq (aa.nilCheck rfl rfl) ?_
 iterate 3 refine af ?_
 refine Kq (Kl (.p (.int .i64 (F.b.bad:Int)))) ?_
 refine af ?_
 refine Kq (aa.nilCheck rfl rfl) ?_
 iterate 3 refine af ?_
 refine Kq (Kl (.p (.int .i64 (F.b.good:Int)))) ?_
 refine Kq (aa.ze 3 (Rx.qg F.b.ag F.b.bad F.b.good (ZS jz (by decide))) rfl rfl rfl rfl rfl (YB (i:=2) (xs:=[.int .i64 (F.b.bad:Int),.int .i64 (F.b.good:Int)]) rfl) an) ?_
 refine af ?_
 refine Kq (aa.extract rfl rfl rfl) ?_
 refine Kq (aa.extract rfl rfl rfl) ?_
 iterate 2 refine af ?_
 refine av.nil ?_
 iterate 4 refine af ?_
 refine aj.ct 30 (b:=(decide ((Rx.ji F.b.ag F.b.bad F.b.good)=0))) (j6 (Rx.ji F.b.ag F.b.bad F.b.good)) (oL (Rx.ji F.b.ag F.b.bad F.b.good)) rfl rfl rfl rfl rfl rfl rfl an (fun he=> ?_) (fun he=> ?_)
 ·have hne:Rx.ji F.b.ag F.b.bad F.b.good≠0:=Zk he
  exact dW (e:=Rx.ji F.b.ag F.b.bad F.b.good) (by show(bp F .blame n).2.2=_;unfold bp;dsimp only;rw[if_pos hne]) hne (fL _ _ _)
 have hz:¬ Rx.ji F.b.ag F.b.bad F.b.good≠0:=fun h=>h (Zg he)
 iterate 3 refine af ?_
 refine Kc (aa.aG rfl rfl mh) ?_
 refine af ?_
 refine Kc (Kp (pK (Rx.lG F.b.ag F.b.bad F.b.good) (Ys hF.b.cd))) ?_
 refine Kc (aa.aG rfl rfl GY) ?_
 refine Kc (aa.aR rfl an (by decide) rfl rfl rfl) ?_
 refine Kc (Kp (de [.str (Vb.t .blame),.FW (jm (Rx.lG F.b.ag F.b.bad F.b.good))] Kn Kn (fE (by decide) (FK ⟨gD _,s0 _⟩ gr)))) ?_
 iterate 3 refine af ?_
 refine iR.one rfl rfl (xU (F2:=F) (r:=bn (Vb.t .blame) (jm (Rx.lG F.b.ag F.b.bad F.b.good))) (by unfold bp;dsimp only;rw[if_neg hz]) (by rw[fC];simp[jJ,jd.w]) (Ih _ _ _))
theorem TT:VC .from_ 99:=by
 intro F n a m c hF hl hn
 have jz:=Rx.cG hF.b.cd
 have tR:=hF.b.sk
 have tf:=hF.b.dr
 have q0:0<=nn n 0∧nn n 0<10000000000000:=hn _ (Di.bN 0 (show 0<n.length by rw[hl];decide))
 refine ay.start (N:=28) Tryz.func99 rfl rfl Kn ?_
 iterate 5 refine af ?_
 refine aF.aB 15 mixed (by kernel_rfl) (by decide) ?_
 refine af ?_
 refine Kq (aa.nilCheck rfl rfl) ?_
 iterate 3 refine af ?_
 refine Kq (Kl (aW 2 F.b.ag.length)) ?_
 refine af ?_
 refine Kq (aa.aP (g:=Di.gt 0 n) (k:=0) (Di.aE _) rfl rfl rfl an dF rfl (fun _=>rfl) (by decide) (by rw[hl];decide)) ?_
 refine Kq (Kl (.p (.int .i64 (nn n 0)))) ?_
 refine Kq (aa.ze 3 (Rx.PR F.b.ag (nn n 0) (ZS jz (by decide))) rfl rfl rfl rfl rfl (YB (i:=2) (xs:=[.int .i64 (nn n 0)]) rfl) an) ?_
 refine af ?_
 refine Kq (aa.extract rfl rfl rfl) ?_
 refine Kq (aa.extract rfl rfl rfl) ?_
 iterate 2 refine af ?_
 refine av.nil ?_
 iterate 4 refine af ?_
 refine aj.ct 21 (b:=(decide ((Rx.gf F.b.ag (nn n 0))=0))) (j6 (Rx.gf F.b.ag (nn n 0))) (oL (Rx.gf F.b.ag (nn n 0))) rfl rfl rfl rfl rfl rfl rfl an (fun he=> ?_) (fun he=> ?_)
 ·have hne:Rx.gf F.b.ag (nn n 0)≠0:=Zk he
  exact dW (e:=Rx.gf F.b.ag (nn n 0)) (by show(bp F .from_ n).2.2=_;unfold bp;dsimp only;rw[if_pos hne]) hne (fL _ _ _)
 have hz:¬ Rx.gf F.b.ag (nn n 0)≠0:=fun h=>h (Zg he)
 iterate 3 refine af ?_
 refine Kc (aa.aG rfl rfl mh) ?_
 refine af ?_
 refine Kc (Kp (pK (Rx.mB F.b.ag (Rx.b6 F.b.ag) (nn n 0)) (Rk hF.b.cd _))) ?_
 refine Kc (aa.aG rfl rfl GY) ?_
 refine Kc (aa.aR rfl an (by decide) rfl rfl rfl) ?_
 refine Kc (Kp (de [.str (Vb.t .from_),.FW (jm (Rx.mB F.b.ag (Rx.b6 F.b.ag) (nn n 0)))] Kn Kn (fE (by decide) (FK ⟨gD _,s0 _⟩ gr)))) ?_
 iterate 3 refine af ?_
 refine iR.one rfl rfl (xU (F2:=F) (r:=bn (Vb.t .from_) (jm (Rx.mB F.b.ag (Rx.b6 F.b.ag) (nn n 0)))) (by unfold bp;dsimp only;rw[if_neg hz]) (by rw[fC];simp[jJ,jd.w]) (Ih _ _ _))
theorem NP:VC .pencil 89:=by
 intro F n a m c hF hl hn
 have jz:=Rx.cG hF.b.cd
 have tR:=hF.b.sk
 have tf:=hF.b.dr
 have q0:0<=nn n 0∧nn n 0<10000000000000:=hn _ (Di.bN 0 (show 0<n.length by rw[hl];decide))
 have q1:0<=nn n 1∧nn n 1<10000000000000:=hn _ (Di.bN 0 (show 1<n.length by rw[hl];decide))
 have q2:0<=nn n 2∧nn n 2<10000000000000:=hn _ (Di.bN 0 (show 2<n.length by rw[hl];decide))
 obtain⟨k0,e0⟩:=Wv q0.1
 obtain⟨k1,e1⟩:=Wv q1.1
 refine ay.start (N:=43) Tryz.func89 rfl rfl Kn ?_
 iterate 7 refine af ?_
 refine aj.dH 6 (zz F.b F.aT a m c) rfl rfl rfl rfl rfl rfl rfl an (fun y H2 iz=> ?_) (fun v H2 iz=> ?_)
 ·obtain⟨q1,rfl,rfl⟩:=iz
  exact dW (e:=9) (by show(bp F .pencil n).2.2=_;unfold bp;dsimp only;rw[if_pos (by omega)]) (by decide) (fL _ _ _)
 obtain⟨hlt,rfl,rfl⟩:=iz
 iterate 5 refine af ?_
 refine Kc (aa.aP (g:=Di.gt 0 n) (k:=0) (Di.aE _) rfl rfl rfl an dF rfl (fun _=>rfl) (by decide) (by rw[hl];decide)) ?_
 refine Kc (Kl (.p (.int .i64 (nn n 0)))) ?_
 refine Kc (aa.gK rfl rfl rfl rfl an (uC F.b F.aT a m c (nn n 0))) ?_
 refine af ?_
 refine Kg 13 12 0 rfl (fun h=>(aa.move rfl rfl)) ?_
 refine Kg 14 12 1 rfl (fun h=>(aa.move rfl rfl)) ?_
 refine Kh 15 12 14 rfl rfl rfl rfl (fun h=>(aa.aP (g:=Di.gt 0 n) (k:=1) (Di.aE _) rfl rfl rfl an dF rfl (fun _=>rfl) (by decide) (by rw[hl];decide))) ?_
 refine Kh 16 12 15 rfl rfl rfl rfl (fun h=>(Kl (.p (.int .i64 (nn n 1))))) ?_
 refine aj.g 17 12 rfl rfl rfl rfl rfl rfl rfl [(13,_),(16,_)] (fun h=>And.intro (.inr ⟨_,rfl,h⟩) (And.intro (.inr ⟨_,rfl,h⟩) (trivial))) (fun h=>(aa.gK rfl rfl rfl rfl an (uC F.b F.aT a m c (nn n 1)))) ?_
 refine Kc (aa.ec rfl rfl rfl ?_) ?_
 ·exact ax
 refine aj.ct 19 (b:=_) (dn _ 2) (dj _ 2) rfl rfl rfl rfl rfl rfl rfl an (fun hb=> ?_) (fun hb=> ?_)
 ·exact dW (e:=2) (by show(bp F .pencil n).2.2=_;unfold bp;dsimp only;rw[if_neg (by omega),if_pos (by simp only[Yd,ZY] at hb;omega)]) (by decide) (fL _ _ _)
 have hi:¬ ((F.b.ag.length:Int)<=nn n 0∨(F.b.ag.length:Int)<=nn n 1):=by simp only[Zm,Zn] at hb;omega
 iterate 4 refine af ?_
 refine Kc (aa.aP (g:=Di.gt 0 n) (k:=2) (Di.aE _) rfl rfl rfl an dF rfl (fun _=>rfl) (by decide) (by rw[hl];decide)) ?_
 refine Kc (Kl (.p (.int .i64 (nn n 2)))) ?_
 refine af ?_
 refine aj.ct 24 (b:=_) (dn _ 1) (dj _ 1) rfl rfl rfl rfl rfl rfl rfl an (fun iW=> ?_) (fun iW=> ?_)
 ·exact dW (e:=1) (by show(bp F .pencil n).2.2=_;unfold bp;dsimp only;rw[if_neg (by omega),if_neg hi,if_pos (by have h:=Zk iW;omega)]) (by decide) (fL _ _ _)
 have hm:¬ 1048576<nn n 2:=by have h:=Zg iW;omega
 have hp0:=Wi (show k0<=24 by omega)
 have hp1:=Wi (show k1<=24 by omega)
 iterate 2 refine af ?_
 refine aF.iT 19 ([cB (F.b.gq ⟨((1*2^k0||| 1*2^k1:Nat):Int),nn n 2⟩) F.aT (.raw a m c) 1 6 3 4 5,c7 F.b.aq,.dead,c8 F.b.au,bu F.b.plan,bu F.b.b9,cY (F.b.gq ⟨((1*2^k0||| 1*2^k1:Nat):Int),nn n 2⟩).ag]) mixed (by kernel_rfl) (by decide) ?_
 refine aA.cons 25 rfl rfl rfl (aa.aG rfl rfl mh) (aa.aG rfl rfl mh) ?_
 refine aA.cons 26 rfl rfl rfl (aa.move rfl rfl) (aa.move rfl rfl) ?_
 refine aA.cons 27 rfl rfl rfl (aa.move rfl rfl) (aa.move rfl rfl) ?_
 refine aA.cons 28 rfl rfl rfl (aa.aP (g:=Di.gt 0 n) (k:=0) (Di.aE _) rfl rfl rfl an dF rfl (fun _=>rfl) (by decide) (by rw[hl];decide)) (aa.aP (g:=Di.gt 0 n) (k:=0) (Di.aE _) rfl rfl rfl an dF rfl (fun _=>rfl) (by decide) (by rw[hl];decide)) ?_
 refine aA.cons 29 rfl rfl rfl (aa.load (v:= .p (.int .i64 ((k0:Nat):Int))) rfl rfl an (by rw[<- e0];rfl)) (aa.load (v:= .p (.int .i64 ((k0:Nat):Int))) rfl rfl an (by rw[<- e0];rfl)) ?_
 refine aA.cons 30 rfl rfl rfl (aa.pE 1 k0 rfl rfl rfl (by show _<=(64:Nat);omega) (by show _<=(9223372036854775807:Int);rw[ZL];omega)) (aa.pE 1 k0 rfl rfl rfl (by show _<=(64:Nat);omega) (by show _<=(9223372036854775807:Int);rw[ZL];omega)) ?_
 refine aA.cons 31 rfl rfl rfl (aa.move rfl rfl) (aa.move rfl rfl) ?_
 refine aA.cons 32 rfl rfl rfl (aa.aP (g:=Di.gt 0 n) (k:=1) (Di.aE _) rfl rfl rfl an dF rfl (fun _=>rfl) (by decide) (by rw[hl];decide)) (aa.aP (g:=Di.gt 0 n) (k:=1) (Di.aE _) rfl rfl rfl an dF rfl (fun _=>rfl) (by decide) (by rw[hl];decide)) ?_
 refine aA.cons 33 rfl rfl rfl (aa.load (v:= .p (.int .i64 ((k1:Nat):Int))) rfl rfl an (by rw[<- e1];rfl)) (aa.load (v:= .p (.int .i64 ((k1:Nat):Int))) rfl rfl an (by rw[<- e1];rfl)) ?_
 refine aA.cons 34 rfl rfl rfl (aa.pE 1 k1 rfl rfl rfl (by show _<=(64:Nat);omega) (by show _<=(9223372036854775807:Int);rw[ZL];omega)) (aa.pE 1 k1 rfl rfl rfl (by show _<=(64:Nat);omega) (by show _<=(9223372036854775807:Int);rw[ZL];omega)) ?_
 refine aA.cons 35 rfl rfl rfl (aa.Qv (1*2^k0) (1*2^k1) rfl rfl rfl (by show _<=(9223372036854775807:Int);rw[ZL];omega) (by show _<=(9223372036854775807:Int);rw[ZL];omega) (by have ho:=NI (n:=62) (x:=1*2^k0) (y:=1*2^k1) (by omega) (by omega);show _<=(9223372036854775807:Int);omega)) (aa.Qv (1*2^k0) (1*2^k1) rfl rfl rfl (by show _<=(9223372036854775807:Int);rw[ZL];omega) (by show _<=(9223372036854775807:Int);rw[ZL];omega) (by have ho:=NI (n:=62) (x:=1*2^k0) (y:=1*2^k1) (by omega) (by omega);show _<=(9223372036854775807:Int);omega)) ?_
 refine aA.cons 36 rfl rfl rfl (aa.move rfl rfl) (aa.move rfl rfl) ?_
 refine aA.cons 37 rfl rfl rfl (aa.aP (g:=Di.gt 0 n) (k:=2) (Di.aE _) rfl rfl rfl an dF rfl (fun _=>rfl) (by decide) (by rw[hl];decide)) (aa.aP (g:=Di.gt 0 n) (k:=2) (Di.aE _) rfl rfl rfl an dF rfl (fun _=>rfl) (by decide) (by rw[hl];decide)) ?_
 refine aA.cons 38 rfl rfl rfl (Kl (.p (.int .i64 (nn n 2)))) (Kl (.p (.int .i64 (nn n 2)))) ?_
 refine aA.lay 39 rfl rfl rfl (aa.gK rfl rfl rfl rfl an (Uw F.b F.aT a m c ((1*2^k0||| 1*2^k1:Nat):Int) (nn n 2) hlt)) ?_
 refine aA.cons 40 rfl rfl rfl (aa.aG rfl rfl ku) (aa.aG rfl rfl ku) ?_
 refine aA.cons 41 rfl rfl rfl (aa.aR rfl an (by decide) rfl rfl rfl) (aa.aR rfl an (by decide) rfl rfl rfl) ?_
 refine aA.cons 42 rfl rfl rfl (Kp (de [.str gG,.num (F.b.ag.length:Int)] Kn Kn (fE (by decide) (ew (by omega) gr)))) (Kp (de [.str gG,.num (F.b.ag.length:Int)] Kn Kn (fE (by decide) (ew (by omega) gr)))) ?_
 refine aA.cons 4 rfl rfl rfl (aa.assign rfl rfl) (aa.assign rfl rfl) ?_
 refine aA.nil ?_
 iterate 2 refine af ?_
 refine iR.one rfl rfl (xU (F2:={F with b:=F.b.gq ⟨((1*2^k0||| 1*2^k1:Nat):Int),nn n 2⟩}) (r:=bn gG [(F.b.ag.length:Int)]) (by unfold bp;dsimp only;rw[if_neg (by omega),if_neg hi,if_neg hm,H6 e0 e1]) (by rw[fC];rfl) ?_)
 exact DG
theorem qu(l:List Int):l.flatMap Di.bZ=l.map (PV.int .i64):=by
 induction l with
 | nil=>rfl
 | cons x l ih=>rw[ZI,ih];rfl
theorem qj(n:List Int)(l k:Nat):((n.flatMap Di.bZ).drop (l*1)).take (k*1)=((n.drop l).take k).flatMap Di.bZ:=by
 rw[qu,qu,Ks,Ks,List.map_take,List.map_drop]
theorem Oi(n:List Int)(l k j:Nat)(hj:j<k):nn ((n.drop l).take k) j=nn n (l+j):=by
 unfold nn Di.gt
 rw[Ze,Ze,SA hj,Sr]
theorem uj(n:List Int)(l k:Nat)(h:l+k<=n.length)(h2:2<=k):Pure Tryz.prog 140 [.is (((n.drop l).take k).flatMap Di.bZ) k] (.agg [.int .i64 (nn n l),.int .i64 (nn n (l+1))]):=by
 have hk:k=((n.drop l).take k).length:=by rw[EA,P1];omega
 have h3:=Qk ((n.drop l).take k) k hk (by omega)
 rwa [Oi n l k 0 (by omega),Oi n l k 1 (by omega)] at h3
theorem HP(l:List Ck.Sk)(b:List Ck.Tk)(hl:l.length<=Ck.cN)(hb:b.length<=Ck.cN):Pure Tryz.prog 141 [Ck.cM l,Ck.vI b] (.tuple [.agg [.int .i64 (shr l b).1.1,.int .i64 (shr l b).1.2],.int .i64 (shr l b).2]):=by
 have h:=Ck.Mh l b hl hb
 rwa [W2] at h
theorem zS(b:bI)(p:Di.bJ)(a:Option Addr)(m c:Nat):(mO b p (.raw a m c)).map (aH (sg 6 []))=mO b p (.raw a m c):=(by simp[cB,mO,bR,bK,b8,dV,iq,fA,bC,cT,c7,cY,c8,bu,di,Di.bJ.cells])
theorem flS(b:bI)(p:Di.bJ)(um:V)(x:Ck.Sk)(c:Int)(i1 i2 i3 i4 i5:Nat):ai.cells ([.row i1 (b.aq.length+1),aW i2 b.ag.length,aW i3 b.au.length,aW i4 b.plan.length,.p (.int .i64 (b.bad:Int)),.p (.int .i64 (b.good:Int)),.row i5 (b.b9.length+1)]++p.cells.map .p++[um,.p (.bool true)]) 87=cB {b with aq:=b.aq++[x],b9:=b.b9++[c]} p um i1 i2 i3 i4 i5:=by
 unfold cB di
 rw[<- kE i1 b.aq x,<- kE i5 b.b9 c]
theorem Ui:VC .call 97:=by
 intro F n a m c hF hl hn
 have jz:=Rx.cG hF.b.cd
 have tR:=hF.b.sk
 have tf:=hF.b.dr
 obtain⟨⟨s1,s2⟩,s3,s4⟩:=OF (bad:=(F.b.bad:Int)) (good:=(F.b.good:Int)) hF.b.cd
 refine ay.start (N:=45) Tryz.func97 rfl rfl Kn ?_
 iterate 5 refine af ?_
 refine aF.bU 26 1 [6] [([],false),([],false),([],false),([],false),([],false),([],false),([],false),([],false),([],false),([],false),([],false),([],false),([],false),([],false),([],false),([],false),([],false),([],false),([],false),([],false),([],false),([],false),([],false),([6],true),([],false),([6],true)] mixed (by kernel_rfl) (by decide) (by kernel_rfl) rfl (zS _ _ _ _ _) ?_
 refine af ?_
 refine bA.cons 10 rfl rfl rfl (fun _=>(aa.nilCheck rfl rfl)) rfl ?_
 iterate 3 refine af ?_
 refine bA.cons 14 rfl rfl rfl (fun _=>(Kl (aW 2 (F.b.ag).length))) (cT Kn) ?_
 refine af ?_
 refine bA.cons 16 rfl rfl rfl (fun _=>(aa.nilCheck rfl rfl)) rfl ?_
 iterate 3 refine af ?_
 refine bA.cons 20 rfl rfl rfl (fun _=>(Kl (.p (.int .i64 (F.b.bad:Int))))) rfl ?_
 refine af ?_
 refine bA.cons 22 rfl rfl rfl (fun _=>(aa.nilCheck rfl rfl)) rfl ?_
 iterate 3 refine af ?_
 refine bA.cons 26 rfl rfl rfl (fun _=>(Kl (.p (.int .i64 (F.b.good:Int))))) rfl ?_
 refine bA.cons 27 rfl rfl rfl (fun _=>(aa.ze 3 (Rx.IB F.b.ag F.b.bad F.b.good (ZS jz (by decide))) rfl rfl rfl rfl rfl (YB (i:=2) (xs:=[.int .i64 (F.b.bad:Int),.int .i64 (F.b.good:Int)]) rfl) an)) rfl ?_
 refine af ?_
 refine bA.cons 28 rfl rfl rfl (fun _=>(aa.extract rfl rfl rfl)) rfl ?_
 refine bA.cons 29 rfl rfl rfl (fun _=>(aa.extract rfl rfl rfl)) rfl ?_
 refine bA.cons 30 rfl rfl rfl (fun _=>(aa.extract rfl rfl rfl)) rfl ?_
 refine bA.lay (v0:= .ptr 7 0) 6 6 rfl rfl rfl rfl rfl rfl rfl rfl (fun _=>(aa.aO rfl an rfl)) rfl rfl rfl ?_
 refine bA.cons 5 rfl rfl rfl (fun _=>(aa.assign rfl rfl)) rfl ?_
 refine bA.put (blk:= .cells [.p (.int .i64 (Rx.lS F.b.ag F.b.bad F.b.good).1),.p (.int .i64 (Rx.lS F.b.ag F.b.bad F.b.good).2)] 24) 6 rfl rfl rfl rfl (fun _=>(aa.store rfl rfl rfl rfl rfl an rfl rfl)) rfl rfl ?_
 refine bA.nil ?_
 iterate 5 refine af ?_
 refine aj.ct 32 (b:=(decide ((Rx.ji F.b.ag F.b.bad F.b.good)=0))) (j6 (Rx.ji F.b.ag F.b.bad F.b.good)) (oL (Rx.ji F.b.ag F.b.bad F.b.good)) rfl rfl rfl rfl rfl rfl rfl an (fun he=> ?_) (fun he=> ?_)
 ·have hne:Rx.ji F.b.ag F.b.bad F.b.good≠0:=Zk he
  exact dW (e:=Rx.ji F.b.ag F.b.bad F.b.good) (by show(bp F .call n).2.2=_;unfold bp;dsimp only;rw[if_pos hne]) hne (⟨⟨_,rfl,rfl⟩,⟨ZP rfl,by intro j y h1 h2 h3;obtain rfl | rfl | rfl | rfl | rfl:j=1∨j=2∨j=3∨j=4∨j=5:=(by omega);all_goals first | exact .inl (Zy (show some ai.dead=some y from h3)).symm | exact .inr h3⟩⟩)
 have hz:¬ Rx.ji F.b.ag F.b.bad F.b.good≠0:=fun h=>h (Zg he)
 iterate 2 refine af ?_
 refine aF.aB 13 mixed (by kernel_rfl) (by decide) ?_
 refine Kq (aa.aG rfl rfl mh) ?_
 refine af ?_
 refine Kq (Kl (.p (.int .i64 (Rx.lS F.b.ag F.b.bad F.b.good).1))) ?_
 refine Kq (aa.aG rfl rfl ku) ?_
 refine af ?_
 refine Kq (Kl (.p (.int .i64 (Rx.lS F.b.ag F.b.bad F.b.good).2))) ?_
 refine Kq (aa.aG rfl rfl ku) ?_
 refine af ?_
 refine Kq (Kp (pK (Rx.xY F.b.ag F.b.bad F.b.good) (TQ hF.b.cd))) ?_
 refine Kq (aa.aG rfl rfl GY) ?_
 refine Kq (aa.aR rfl an (by decide) rfl rfl rfl) ?_
 refine Kq (Kp (de [.str (Vb.t .call),.num (Rx.lS F.b.ag F.b.bad F.b.good).1,.num (Rx.lS F.b.ag F.b.bad F.b.good).2,.FW (jm (Rx.xY F.b.ag F.b.bad F.b.good))] Kn Kn (fE (by decide) (ew ⟨s1,by omega⟩ (ew ⟨s3,by omega⟩ (FK ⟨gD _,s0 _⟩ gr)))))) ?_
 refine af ?_
 refine av.nil ?_
 iterate 2 refine af ?_
 refine iR.one rfl rfl (xU (F2:=F) (r:=bn (Vb.t .call) ((Rx.lS F.b.ag F.b.bad F.b.good).1::(Rx.lS F.b.ag F.b.bad F.b.good).2::jm (Rx.xY F.b.ag F.b.bad F.b.good))) (by unfold bp;dsimp only;rw[if_neg hz]) (by rw[fC];simp[jJ,jd.w]) ⟨⟨1,2,3,4,5,by decide,rfl,rfl,rfl,rfl,rfl,rfl⟩,⟨ZP rfl,by intro j y h1 h2 h3;obtain rfl | rfl | rfl | rfl | rfl:j=1∨j=2∨j=3∨j=4∨j=5:=(by omega);all_goals first | exact .inl (Zy (show some ai.dead=some y from h3)).symm | exact .inr h3⟩⟩)
theorem Vu:VC .kJ 85:=by
 intro F n a m c hF hl hn
 have jz:=Rx.cG hF.b.cd
 have tR:=hF.b.sk
 have tf:=hF.b.dr
 have hl6:n.length=6:=hl
 have hck:=hF.b.ck
 refine ay.start (N:=84) Tryz.func85 rfl rfl Kn ?_
 iterate 11 refine af ?_
 refine Kc (Kl (aW 1 F.b.aq.length)) ?_
 refine Kc (aa.bD rfl rfl an qC) ?_
 refine af ?_
 refine aj.ct 17 (b:=_) (dn _ 9) (dj _ 9) rfl rfl rfl rfl rfl rfl rfl an (fun hb=> ?_) (fun hb=> ?_)
 ·exact dW (e:=9) (by show(bp F .kJ n).2.2=_;unfold bp;dsimp only;rw[if_pos (.inl (by have h:=Zk hb;omega))]) (by decide) (fL _ _ _)
 have hs8:F.b.aq.length<8:=by have h:=Zg hb;omega
 iterate 4 refine af ?_
 refine aj.dH 19 (zz F.b F.aT a m c) rfl rfl rfl rfl rfl rfl rfl an (fun y H2 iz=> ?_) (fun v H2 iz=> ?_)
 ·obtain⟨q1,rfl,rfl⟩:=iz
  exact dW (e:=9) (by show(bp F .kJ n).2.2=_;unfold bp;dsimp only;rw[if_pos (.inr (by omega))]) (by decide) (fL _ _ _)
 obtain⟨hlt,rfl,rfl⟩:=iz
 have hro:¬ (8<=F.b.aq.length∨24<=F.b.ag.length):=by omega
 iterate 2 refine af ?_
 refine aF.bU 11 1 [6] [([],false),([],false),([],false),([],false),([],false),([],false),([],false),([],false),([],false),([],false),([6],true)] mixed (by kernel_rfl) (by decide) (by kernel_rfl) rfl (zS _ _ _ _ _) ?_
 refine af ?_
 refine bA.cons 21 rfl rfl rfl (fun _=>(aa.gI (l:=0) (h:=2) (r:=((n.drop 0).take 2).flatMap Di.bZ) rfl rfl an dF rfl ⟨_,rfl⟩ (by omega) (by omega) (qj n 0 2))) rfl ?_
 refine bA.cons 22 rfl rfl rfl (fun _=>(Kp (uj n 0 2 (by omega) (by omega)))) rfl ?_
 refine af ?_
 refine bA.cons 24 rfl rfl rfl (fun _=>(aa.gI (l:=2) (h:=4) (r:=((n.drop 2).take 2).flatMap Di.bZ) rfl rfl an dF ⟨_,rfl⟩ ⟨_,rfl⟩ (by omega) (by omega) (qj n 2 2))) rfl ?_
 refine bA.cons 25 rfl rfl rfl (fun _=>(Kp (uj n 2 2 (by omega) (by omega)))) rfl ?_
 refine af ?_
 refine bA.cons 27 rfl rfl rfl (fun _=>(aa.gI (l:=4) (h:=n.length) (r:=((n.drop 4).take (n.length - 4)).flatMap Di.bZ) rfl rfl an dF ⟨_,rfl⟩ rfl (by omega) (by omega) (qj n 4 (n.length - 4)))) rfl ?_
 refine bA.cons 28 rfl rfl rfl (fun _=>(Kp (uj n 4 (n.length - 4) (by omega) (by omega)))) rfl ?_
 refine bA.cons 29 rfl rfl rfl (fun _=>(aa.Kv (v:= .p (.agg (iQ n).cells)) rfl an rfl rfl rfl)) rfl ?_
 refine bA.lay (v0:= .ptr 7 0) 5 6 rfl rfl rfl rfl rfl rfl rfl rfl (fun _=>(aa.aO rfl an rfl)) rfl rfl rfl ?_
 refine bA.nil ?_
 refine Kz (aa.store (H':=[cB F.b F.aT (.raw a m c) 1 2 3 4 5,c7 F.b.aq,cY F.b.ag,c8 F.b.au,bu F.b.plan,bu F.b.b9,.cells ((iQ n).cells.map .p) 60]) rfl rfl rfl rfl rfl an rfl rfl) ?_
 iterate 3 refine af ?_
 refine Kc (Kl (.p (.agg (iQ n).cells))) ?_
 refine Kc (aa.aR rfl an (by decide) rfl rfl rfl) ?_
 iterate 2 refine af ?_
 refine Kc (aa.aR rfl an (by decide) rfl rfl rfl) ?_
 refine Kc (Kp (HP [iQ n] [bX 0 1] Kn Kn)) ?_
 iterate 10 refine af ?_
 refine aj.ct 40 (b:=(decide ((shr [iQ n] [bX 0 1]).2=0))) (j6 (shr [iQ n] [bX 0 1]).2) (oL (shr [iQ n] [bX 0 1]).2) rfl rfl rfl rfl rfl rfl rfl an (fun he=> ?_) (fun he=> ?_)
 ·have hne:(shr [iQ n] [bX 0 1]).2≠0:=Zk he
  exact dW (e:=(shr [iQ n] [bX 0 1]).2) (by show(bp F .kJ n).2.2=_;unfold bp;dsimp only;rw[if_neg hro,if_pos hne]) hne (⟨⟨_,rfl,rfl⟩,⟨ZP rfl,by intro j y h1 h2 h3;obtain rfl | rfl | rfl | rfl | rfl:j=1∨j=2∨j=3∨j=4∨j=5:=(by omega);all_goals first | exact .inl (Zy (show some ai.dead=some y from h3)).symm | exact .inr h3⟩⟩)
 have hz:¬ (shr [iQ n] [bX 0 1]).2≠0:=fun h=>h (Zg he)
 iterate 2 refine af ?_
 refine aF.freeze 6 rfl rfl ?_
 refine aF.to (To.cut (H:=mO F.b F.aT (.raw a m c)) (ext:=[.dead,.cells [.p (.int .i64 (shr [iQ n] [bX 0 1]).1.1),.p (.int .i64 (shr [iQ n] [bX 0 1]).1.2)] 24]) (T2:=[(0,.ptr 0 0),(5,.p (.ip (iQ n).cells 0))]) (Uj _ _ _ _ _) (Zf _) KS rfl) ?_
 iterate 2 refine af ?_
 refine aj.dH 42 (At F.b F.aT a m c 0 0) rfl rfl rfl rfl rfl rfl rfl an (fun y H2 iz=> ?_) (fun v H2 iz=> ?_)
 ·exact absurd hlt iz.1
 obtain⟨_,rfl,rfl⟩:=iz
 iterate 3 refine af ?_
 refine aF.bU 24 2 [0,1,5,7,8] [([],false),([],false),([],false),([],false),([],false),([],false),([],false),([0],false),([],false),([],false),([7,1],true),([],false),([],false),([],false),([],false),([0],false),([],false),([],false),([8,5],true),([],false),([],false),([],false),([],false),([0,7],true)] mixed (by kernel_rfl) (by decide) (by kernel_rfl) rfl (by simp[cB,mO,bR,bK,b8,dV,iq,fA,bC,cT,c7,cY,c8,bu,di,Di.bJ.cells]) ?_
 iterate 3 refine af ?_
 refine bA.cons 46 rfl rfl rfl (fun _=>(aa.nilCheck rfl rfl)) rfl ?_
 iterate 3 refine af ?_
 refine bA.cons 50 rfl rfl rfl (fun _=>(Kl (aW 1 (F.b.aq).length))) (cT Kn) ?_
 refine bA.cons 51 rfl rfl rfl (fun _=>(Kl (.p (.agg (iQ n).cells)))) rfl ?_
 refine bA.cons 52 rfl rfl rfl (fun _=>(aa.aR rfl an (by decide) rfl rfl rfl)) rfl ?_
 refine bA.Ot (blk:= .row (((F.b.aq).flatMap Ck.Sk.cells).map .p++((iQ n).cells).map .p) 60) (v0:= .row 9 _) 53 7 1 rfl rfl rfl rfl rfl rfl rfl rfl rfl rfl (fun _=>(aa.qw (i:=1) (len:=(F.b.aq).length) (cs:=((F.b.aq).flatMap Ck.Sk.cells).map .p) (ys:=((iQ n).cells).map .p) (n:=1) rfl rfl rfl an an rfl (by rw[Zr,AF.cy (c:=6) (fun _=>rfl)];rfl) rfl (by decide) rfl an (by decide) (by show(2*(_+1)+192)*48<=281474976710656;omega))) rfl rfl (by show ai.row (bw _ (_++_)) _=_;rw[bF,aX,aX]) ?_
 refine af ?_
 refine bA.cons 55 rfl rfl rfl (fun _=>(aa.nilCheck rfl rfl)) rfl ?_
 iterate 2 refine af ?_
 refine bA.cons 58 rfl rfl rfl (fun _=>(Kl (aW 5 (F.b.b9).length))) (cT Kn) ?_
 refine af ?_
 refine bA.cons 60 rfl rfl rfl (fun _=>(aa.aR rfl an (by decide) rfl rfl rfl)) rfl ?_
 refine bA.Ot (blk:= .row (((F.b.b9).flatMap Di.bZ).map .p++(Di.bZ (F.b.ag.length:Int)).map .p) 3) (v0:= .row 9 _) 61 8 5 rfl rfl rfl rfl rfl rfl rfl rfl rfl rfl (fun _=>(aa.qw (i:=5) (len:=(F.b.b9).length) (cs:=((F.b.b9).flatMap Di.bZ).map .p) (ys:=(Di.bZ (F.b.ag.length:Int)).map .p) (n:=1) rfl rfl rfl an an rfl (by rw[Zr,AF.cy (c:=1) (fun _=>rfl)];rfl) rfl (by decide) rfl an (by decide) (by show(2*(_+1)+192)*8<=281474976710656;omega))) rfl rfl (by show ai.row (bw _ (_++_)) _=_;rw[bF,aX,aX]) ?_
 refine bA.cons 62 rfl rfl rfl (fun _=>(aa.nilCheck rfl rfl)) rfl ?_
 iterate 3 refine af ?_
 refine bA.put (blk:= .cells ([.row 7 (F.b.aq.length+1),aW 6 (F.b.gq ⟨0,0⟩).ag.length,aW 3 (F.b.gq ⟨0,0⟩).au.length,aW 4 (F.b.gq ⟨0,0⟩).plan.length,.p (.int .i64 ((F.b.gq ⟨0,0⟩).bad:Int)),.p (.int .i64 ((F.b.gq ⟨0,0⟩).good:Int)),aW 5 F.b.b9.length]++F.aT.cells.map .p++[.raw a m c,.p (.bool true)]) 87) 0 rfl rfl rfl rfl (fun _=>(aa.store rfl rfl rfl rfl rfl an rfl rfl)) rfl (by simp[bR,bK,b8,dV,iq,cT,Di.bJ.cells,aY,sg,xD]) ?_
 refine bA.nil ?_
 iterate 7 refine af ?_
 refine Kc (aa.aG rfl rfl mh) ?_
 iterate 5 refine af ?_
 refine Kc (Kl (.row 7 (F.b.aq.length+1))) ?_
 refine af ?_
 refine Kc (aa.fN (m:=(F.b.aq.length:Int)) rfl rfl rfl ((aI ?_).trans ?_)) ?_
 ·omega
 ·omega
 refine Kc (aa.aG rfl rfl ku) ?_
 refine Kc (aa.aG rfl rfl mh) ?_
 refine af ?_
 refine Kc (aa.aG rfl rfl ku) ?_
 refine Kc (aa.aR rfl an (by decide) rfl rfl rfl) ?_
 refine Kc (Kp (de [.str (Vb.t .kJ),.num (F.b.aq.length:Int),.str gG,.num (F.b.ag.length:Int)] Kn Kn (fE (by decide) (ew (by omega) (fE (by decide) (ew (by omega) gr)))))) ?_
 iterate 3 refine af ?_
 refine iR.one rfl rfl (xU (F2:={F with b:={F.b.gq ⟨0,0⟩ with aq:=F.b.aq++[iQ n],b9:=F.b.b9++[(F.b.ag.length:Int)]}}) (r:=bn (Vb.t .kJ) [(F.b.aq.length:Int)]++32::bn gG [(F.b.ag.length:Int)]) (by unfold bp;dsimp only;rw[if_neg hro,if_neg hz]) (by simp[cQ,bn,jJ,jd.w]) ?_)
 exact⟨⟨7,6,3,4,8,by decide,congrArg some (flS (F.b.gq ⟨0,0⟩) F.aT _ (iQ n) (F.b.ag.length:Int) 7 6 3 4 8),congrArg some (Lt _ _),rfl,rfl,rfl,congrArg some (Ea _ _)⟩,⟨ZP rfl,by intro j y h1 h2 h3;obtain rfl | rfl | rfl | rfl | rfl:j=1∨j=2∨j=3∨j=4∨j=5:=(by omega);all_goals first | exact .inl (Zy (show some ai.dead=some y from h3)).symm | exact .inr h3⟩⟩
theorem rA{n x m:Nat}(h:x<2^n):x&&& m=x&&& (m%2^n):=by
 apply Kt
 intro i
 rw[MN,MN,Nat.testBit_mod_two_pow]
 by_cases hi:i<n
 ·simp[hi]
 ·rw[VH (ZJ h (Zu (by omega) (by omega)))]
  rfl
theorem qm(y M:Nat){a m:Nat}(ha:a<2^8)(hm:m<2^8):(2^8*y+a)&&& (2^8*M+m)=2^8*(y&&& M)+(a&&& m):=by
 apply Kt
 intro i
 rw[MN,V5 _ ha,V5 _ hm,V5 _ (Nat.lt_of_le_of_lt Nat.and_le_left ha)]
 by_cases hi:i<8
 ·simp[hi]
 ·simp[hi]
theorem aa5:((List.range 256).all fun t=>decide (t&&& 85=(t%128)&&& 85)&&decide (t&&& 51=(t%64)&&& 51)&&decide (t&&& 15=t%16))=true:=by kernel_rfl
theorem Ai{t:Nat}(h:t<256):t&&& 85=(t%128)&&& 85∧t&&& 51=(t%64)&&& 51∧t&&& 15=t%16:=by
 have:=Zz.1 aa5 t (ZZ.2 h)
 simp only[Zm,Zn] at this
 omega
def s1(a:Nat):Nat:=(a / 2&&& 85)+(a&&& 85)
def s2(a:Nat):Nat:=(a / 4&&& 51)+(a&&& 51)
def s3(a:Nat):Nat:=(a / 16+a)&&& 15
theorem st1(y M:Nat){a:Nat}(ha:a<256):((256*y+a) / 2&&& (256*M+85))+((256*y+a)&&& (256*M+85))=256*((y / 2&&& M)+(y&&& M))+s1 a:=by
 have e:(256*y+a) / 2=256*(y / 2)+(128*(y%2)+a / 2):=by omega
 have h1:128*(y%2)+a / 2<2^8:=by omega
 have h2:=(Ai (t:=128*(y%2)+a / 2) (by omega)).1
 rw[show(128*(y%2)+a / 2)%128=a / 2 by omega] at h2
 rw[e]
 have k1:=qm (y / 2) M h1 (show 85<2^8 by decide)
 have k2:=qm y M (show a<2^8 by omega) (show 85<2^8 by decide)
 rw[h2] at k1
 rw[show(2:Nat)^8=256 by decide] at k1 k2
 rw[k1,k2]
 unfold s1
 omega
theorem st2(y M:Nat){a:Nat}(ha:a<256):((256*y+a) / 4&&& (256*M+51))+((256*y+a)&&& (256*M+51))=256*((y / 4&&& M)+(y&&& M))+s2 a:=by
 have e:(256*y+a) / 4=256*(y / 4)+(64*(y%4)+a / 4):=by omega
 have h1:64*(y%4)+a / 4<2^8:=by omega
 have h2:=(Ai (t:=64*(y%4)+a / 4) (by omega)).2.1
 rw[show(64*(y%4)+a / 4)%64=a / 4 by omega] at h2
 rw[e]
 have k1:=qm (y / 4) M h1 (show 51<2^8 by decide)
 have k2:=qm y M (show a<2^8 by omega) (show 51<2^8 by decide)
 rw[h2] at k1
 rw[show(2:Nat)^8=256 by decide] at k1 k2
 rw[k1,k2]
 unfold s2
 omega
theorem st3(y M:Nat){a:Nat}(ha:a<=68)(hy:y%16<=4):((256*y+a) / 16+(256*y+a))&&& (256*M+15)=256*((y / 16+y)&&& M)+s3 a:=by
 have e:(256*y+a) / 16+(256*y+a)=256*(y / 16+y)+(16*(y%16)+a / 16+a):=by omega
 have h1:16*(y%16)+a / 16+a<2^8:=by omega
 have h2:=(Ai (t:=16*(y%16)+a / 16+a) (by omega)).2.2
 have h3:=(Ai (t:=a / 16+a) (by omega)).2.2
 rw[e]
 have k1:=qm (y / 16+y) M h1 (show 15<2^8 by decide)
 rw[h2] at k1
 rw[show(2:Nat)^8=256 by decide] at k1
 rw[k1]
 unfold s3
 rw[h3]
 omega
def pop8(a:Nat):Nat:=((List.range 8).filter a.testBit).length
theorem K3:((List.range 256).all fun a=>decide (s1 a<256)&&decide (s2 (s1 a)<=68)&&decide (s2 (s1 a)%16<=4)&&decide (s3 (s2 (s1 a))=pop8 a)&&decide (pop8 a<=8))=true:=by kernel_rfl
theorem byte_at{a:Nat}(h:a<256):s1 a<256∧s2 (s1 a)<=68∧s2 (s1 a)%16<=4∧s3 (s2 (s1 a))=pop8 a∧pop8 a<=8:=by
 have:=Zz.1 K3 a (ZZ.2 h)
 simp only[Zm,Zn] at this
 omega
def EU(x:Nat):Nat:=(x / 2^1&&& 6148914691236517205)+(x&&& 6148914691236517205)
def HQ(x:Nat):Nat:=(EU x / 2^2&&& 3689348814741910323)+(EU x&&& 3689348814741910323)
def J8(x:Nat):Nat:=HQ x / 2^4+HQ x&&& 1085102592571150095
def G8(x:Nat):Nat:=J8 x+J8 x / 2^8
def HX(x:Nat):Nat:=G8 x+G8 x / 2^16
def J7(x:Nat):Nat:=HX x+HX x / 2^32
def fT(a b c:Nat):Nat:=256*(256*c+b)+a
theorem HD{a b c:Nat}(ha:a<256)(hb:b<256)(hc:c<256):EU (fT a b c)=fT (s1 a) (s1 b) (s1 c):=by
 have hx:fT a b c<2^24:=by unfold fT;omega
 have hx2:fT a b c / 2^1<2^24:=by omega
 unfold EU
 rw[rA hx,rA hx2,show(6148914691236517205:Nat)%2^24=256*(256*85+85)+85 by decide,show(2:Nat)^1=2 by decide]
 unfold fT
 rw[st1 _ _ ha,st1 _ _ hb]
 rfl
theorem HA{a b c:Nat}(ha:a<256)(hb:b<256)(hc:c<256):HQ (fT a b c)=fT (s2 (s1 a)) (s2 (s1 b)) (s2 (s1 c)):=by
 have ga:=(byte_at ha).1
 have gb:=(byte_at hb).1
 have gc:=(byte_at hc).1
 have hx:fT (s1 a) (s1 b) (s1 c)<2^24:=by unfold fT;omega
 have hx2:fT (s1 a) (s1 b) (s1 c) / 2^2<2^24:=by omega
 unfold HQ
 rw[HD ha hb hc,rA hx,rA hx2,show(3689348814741910323:Nat)%2^24=256*(256*51+51)+51 by decide,show(2:Nat)^2=4 by decide]
 unfold fT
 rw[st2 _ _ ga,st2 _ _ gb]
 rfl
theorem Sa{a b c:Nat}(ha:a<256)(hb:b<256)(hc:c<256):J8 (fT a b c)=fT (pop8 a) (pop8 b) (pop8 c):=by
 obtain⟨_,ga,ga2,ga3,_⟩:=byte_at ha
 obtain⟨_,gb,gb2,gb3,_⟩:=byte_at hb
 obtain⟨_,gc,gc2,gc3,_⟩:=byte_at hc
 have hx:fT (s2 (s1 a)) (s2 (s1 b)) (s2 (s1 c)) / 2^4+fT (s2 (s1 a)) (s2 (s1 b)) (s2 (s1 c))<2^24:=by unfold fT;omega
 unfold J8
 rw[HA ha hb hc,rA hx,show(1085102592571150095:Nat)%2^24=256*(256*15+15)+15 by decide,show(2:Nat)^4=16 by decide]
 unfold fT
 rw[st3 _ _ ga (by omega),st3 _ _ gb gc2,ga3,gb3]
 rw[<- gc3]
 rfl
theorem T5{a b c:Nat}(ha:a<256)(hb:b<256)(hc:c<256):J7 (fT a b c)&&& 127=pop8 a+pop8 b+pop8 c∧EU (fT a b c)<2^24∧HQ (fT a b c)<2^24∧J8 (fT a b c)<2^24∧G8 (fT a b c)<2^25∧HX (fT a b c)<2^25∧J7 (fT a b c)<2^25:=by
 obtain⟨f1,f2,_,_,pa⟩:=byte_at ha
 obtain⟨g1,g2,_,_,pb⟩:=byte_at hb
 obtain⟨h1,h2,_,_,pc⟩:=byte_at hc
 have e1:=HD ha hb hc
 have e2:=HA ha hb hc
 have e3:=Sa ha hb hc
 have e4:G8 (fT a b c)=256*(256*pop8 c+pop8 b+pop8 c)+(pop8 a+pop8 b):=by
  unfold G8
  rw[e3]
  unfold fT
  omega
 have e5:HX (fT a b c)=256*(256*pop8 c+pop8 b+pop8 c)+(pop8 a+pop8 b+pop8 c):=by
  unfold HX
  rw[e4]
  omega
 have e6:J7 (fT a b c)=256*(256*pop8 c+pop8 b+pop8 c)+(pop8 a+pop8 b+pop8 c):=by
  unfold J7
  rw[e5]
  omega
 refine⟨?_,?_,?_,?_,?_,?_,?_⟩
 ·have:=Nat.and_two_pow_sub_one_eq_mod (J7 (fT a b c)) 7
  rw[show(2:Nat)^7 - 1=127 by decide] at this
  rw[this,e6]
  omega
 ·rw[e1];unfold fT;omega
 ·rw[e2];unfold fT;omega
 ·rw[e3];unfold fT;omega
 ·rw[e4];omega
 ·rw[e5];omega
 ·rw[e6];omega
theorem Mt(x:Nat):((List.range 24).filter x.testBit).length=pop8 (x%256)+pop8 (x / 256%256)+pop8 (x / 65536%256):=by
 have e:∀(k i:Nat),i<8->(x / 2^k%256).testBit i=x.testBit (k+i):=fun k i hi=>by
  rw[show(256:Nat)=2^8 by decide,Nat.testBit_mod_two_pow,Nat.testBit_div_two_pow]
  simp[hi,Wl]
 have h:∀ k,(((List.range 8).map (k+ ·)).filter x.testBit).length=pop8 (x / 2^k%256):=fun k=>by
  unfold pop8
  rw[List.filter_map,Zr]
  congr 1
  apply List.filter_congr
  intro i hi
  exact(e k i (ZZ.1 hi)).symm
 have e3:List.range 24=(List.range 8).map (0+ ·)++(List.range 8).map (8+ ·)++(List.range 8).map (16+ ·):=by decide
 rw[e3,List.filter_append,List.filter_append,Zc,Zc,h,h,h]
 simp
theorem Yj{x:Nat}(h:x<2^24):J7 x&&& 127=((List.range 24).filter x.testBit).length∧EU x<2^24∧HQ x<2^24∧J8 x<2^24∧G8 x<2^25∧HX x<2^25∧J7 x<2^25:=by
 have ex:x=fT (x%256) (x / 256%256) (x / 65536%256):=by unfold fT;omega
 have hk:=T5 (a:=x%256) (b:=x / 256%256) (c:=x / 65536%256) (by omega) (by omega) (by omega)
 rw[<- ex] at hk
 rw[Mt]
 exact hk
theorem ocS{x:Nat}(h:x<2^24):J7 x&&& 127=(jm x).length:=by
 rw[(Yj h).1]
 unfold jm
 rw[Zr]
theorem SU(n k:Nat):decide (((n / 2^k&&& 1:Nat):Int)=0)= !n.testBit k:=by
 rw[Nat.testBit_eq_decide_div_mod_eq,Nat.and_one_is_mod]
 by_cases h:n / 2^k%2=1
 ·rw[h];rfl
 ·have h0:n / 2^k%2=0:=by omega
  rw[h0];rfl
theorem zR{n k:Nat}(h:n.testBit k=false):n||| 1*2^k=n+2^k:=by
 rw[ZL,<- nF h]
theorem Py(x:Nat)(hx:x<2^24):Pure Tryz.prog 183 [.int .u64 (x:Int)] (.int .i64 (((jm x).length:Nat):Int)):=by
 have nK:(2:Nat)^24=16777216:=by decide
 have h25:(2:Nat)^25=33554432:=by decide
 have hz:=ocS hx
 obtain⟨_,h1,h2,h3,h4,h5,h6⟩:=Yj hx
 refine Kf (N:=35) Tryz.func183 ?_
 iterate 7 refine af ?_
 refine Kc (aa.xS x 1 rfl rfl rfl (by first | decide | (show _<=(9223372036854775807:Int);omega) | (show _<=(4294967295:Int);omega) | (show _<=(18446744073709551615:Int);omega) | (show _<=(255:Int);omega) | (show _<=(65535:Int);omega))) ?_
 refine Kc (aa.pR (x / 2^1) 6148914691236517205 rfl rfl rfl (by first | (show _<=(9223372036854775807:Int);omega) | (show _<=(4294967295:Int);omega) | (show _<=(18446744073709551615:Int);omega) | (show _<=(255:Int);omega) | (show _<=(65535:Int);omega)) (by first | decide | (show _<=(9223372036854775807:Int);omega) | (show _<=(4294967295:Int);omega) | (show _<=(18446744073709551615:Int);omega) | (show _<=(255:Int);omega) | (show _<=(65535:Int);omega))) ?_
 refine af ?_
 refine Kc (aa.pR x 6148914691236517205 rfl rfl rfl (by first | (show _<=(9223372036854775807:Int);omega) | (show _<=(4294967295:Int);omega) | (show _<=(18446744073709551615:Int);omega) | (show _<=(255:Int);omega) | (show _<=(65535:Int);omega)) (by first | decide | (show _<=(9223372036854775807:Int);omega) | (show _<=(4294967295:Int);omega) | (show _<=(18446744073709551615:Int);omega) | (show _<=(255:Int);omega) | (show _<=(65535:Int);omega))) ?_
 refine Kc (aa.add (m:=((EU x:Nat):Int)) rfl rfl rfl ((mY ?_).trans ?_)) ?_
 ·have e:EU x=(x / 2^1&&& 6148914691236517205)+(x&&& 6148914691236517205):=rfl;omega
 ·have e:EU x=(x / 2^1&&& 6148914691236517205)+(x&&& 6148914691236517205):=rfl;omega
 iterate 5 refine af ?_
 refine Kc (aa.xS (EU x) 2 rfl rfl rfl (by first | decide | (show _<=(9223372036854775807:Int);omega) | (show _<=(4294967295:Int);omega) | (show _<=(18446744073709551615:Int);omega) | (show _<=(255:Int);omega) | (show _<=(65535:Int);omega))) ?_
 refine Kc (aa.pR (EU x / 2^2) 3689348814741910323 rfl rfl rfl (by first | (show _<=(9223372036854775807:Int);omega) | (show _<=(4294967295:Int);omega) | (show _<=(18446744073709551615:Int);omega) | (show _<=(255:Int);omega) | (show _<=(65535:Int);omega)) (by first | decide | (show _<=(9223372036854775807:Int);omega) | (show _<=(4294967295:Int);omega) | (show _<=(18446744073709551615:Int);omega) | (show _<=(255:Int);omega) | (show _<=(65535:Int);omega))) ?_
 refine af ?_
 refine Kc (aa.pR (EU x) 3689348814741910323 rfl rfl rfl (by first | (show _<=(9223372036854775807:Int);omega) | (show _<=(4294967295:Int);omega) | (show _<=(18446744073709551615:Int);omega) | (show _<=(255:Int);omega) | (show _<=(65535:Int);omega)) (by first | decide | (show _<=(9223372036854775807:Int);omega) | (show _<=(4294967295:Int);omega) | (show _<=(18446744073709551615:Int);omega) | (show _<=(255:Int);omega) | (show _<=(65535:Int);omega))) ?_
 refine Kc (aa.add (m:=((HQ x:Nat):Int)) rfl rfl rfl ((mY ?_).trans ?_)) ?_
 ·have e:HQ x=(EU x / 2^2&&& 3689348814741910323)+(EU x&&& 3689348814741910323):=rfl;omega
 ·have e:HQ x=(EU x / 2^2&&& 3689348814741910323)+(EU x&&& 3689348814741910323):=rfl;omega
 iterate 5 refine af ?_
 refine Kc (aa.xS (HQ x) 4 rfl rfl rfl (by first | decide | (show _<=(9223372036854775807:Int);omega) | (show _<=(4294967295:Int);omega) | (show _<=(18446744073709551615:Int);omega) | (show _<=(255:Int);omega) | (show _<=(65535:Int);omega))) ?_
 refine af ?_
 refine Kc (aa.add (m:=((HQ x / 2^4+HQ x:Nat):Int)) rfl rfl rfl ((mY ?_).trans ?_)) ?_
 ·omega
 ·omega
 refine Kc (aa.pR (HQ x / 2^4+HQ x) 1085102592571150095 rfl rfl rfl (by first | (show _<=(9223372036854775807:Int);omega) | (show _<=(4294967295:Int);omega) | (show _<=(18446744073709551615:Int);omega) | (show _<=(255:Int);omega) | (show _<=(65535:Int);omega)) (by first | decide | (show _<=(9223372036854775807:Int);omega) | (show _<=(4294967295:Int);omega) | (show _<=(18446744073709551615:Int);omega) | (show _<=(255:Int);omega) | (show _<=(65535:Int);omega))) ?_
 iterate 3 refine af ?_
 refine aF.norm [] [(0,.p (.int .u64 ((J8 x:Nat):Int)))] [] rfl KS rfl ?_
 iterate 3 refine af ?_
 refine Kc (aa.xS (J8 x) 8 rfl rfl rfl (by first | decide | (show _<=(9223372036854775807:Int);omega) | (show _<=(4294967295:Int);omega) | (show _<=(18446744073709551615:Int);omega) | (show _<=(255:Int);omega) | (show _<=(65535:Int);omega))) ?_
 refine Kc (aa.add (m:=((G8 x:Nat):Int)) rfl rfl rfl ((mY ?_).trans ?_)) ?_
 ·have e:G8 x=J8 x+J8 x / 2^8:=rfl;omega
 ·have e:G8 x=J8 x+J8 x / 2^8:=rfl;omega
 iterate 6 refine af ?_
 refine Kc (aa.xS (G8 x) 16 rfl rfl rfl (by first | decide | (show _<=(9223372036854775807:Int);omega) | (show _<=(4294967295:Int);omega) | (show _<=(18446744073709551615:Int);omega) | (show _<=(255:Int);omega) | (show _<=(65535:Int);omega))) ?_
 refine Kc (aa.add (m:=((HX x:Nat):Int)) rfl rfl rfl ((mY ?_).trans ?_)) ?_
 ·have e:HX x=G8 x+G8 x / 2^16:=rfl;omega
 ·have e:HX x=G8 x+G8 x / 2^16:=rfl;omega
 iterate 6 refine af ?_
 refine Kc (aa.xS (HX x) 32 rfl rfl rfl (by first | decide | (show _<=(9223372036854775807:Int);omega) | (show _<=(4294967295:Int);omega) | (show _<=(18446744073709551615:Int);omega) | (show _<=(255:Int);omega) | (show _<=(65535:Int);omega))) ?_
 refine Kc (aa.add (m:=((J7 x:Nat):Int)) rfl rfl rfl ((mY ?_).trans ?_)) ?_
 ·have e:J7 x=HX x+HX x / 2^32:=rfl;omega
 ·have e:J7 x=HX x+HX x / 2^32:=rfl;omega
 iterate 5 refine af ?_
 refine Kc (aa.dS rfl rfl (by rw[Yc];rfl) B0 (aI ?_)) ?_
 ·omega
 refine Kc (aa.pR (J7 x) 127 rfl rfl rfl (by first | (show _<=(9223372036854775807:Int);omega) | (show _<=(4294967295:Int);omega) | (show _<=(18446744073709551615:Int);omega) | (show _<=(255:Int);omega) | (show _<=(65535:Int);omega)) (by first | decide | (show _<=(9223372036854775807:Int);omega) | (show _<=(4294967295:Int);omega) | (show _<=(18446744073709551615:Int);omega) | (show _<=(255:Int);omega) | (show _<=(65535:Int);omega))) ?_
 iterate 3 refine af ?_
 refine Fin.gL rfl rfl ?_
 rw[hz]
theorem G3(x:Nat)(hx:x<2^24):Pure Tryz.prog 144 [.int .u64 (x:Int)] (.int .i64 (((jm x).length:Nat):Int)):=by
 refine Kf (N:=8) Tryz.func144 ?_
 iterate 5 refine af ?_
 refine Ki (fun hc0=> ?_) fun hc0=> ?_
 ·cases hc0
 ·iterate 4 refine af ?_
  refine Kc (Kp (Py x hx)) ?_
  exact dO
theorem Ns(F:bT)(n:List Int)(a:Option Addr)(m c k:Nat)(hF:kO F)(hk:nn n 0=((k:Nat):Int)):ay Tryz.prog 91 [.ptr 0 0,.p (.str (sB [98,97,100])),.ptr 0 4,.p (.int .i64 ((k:Nat):Int))] (mO F.b F.aT (.raw a m c)) (Wy F .bad n (.raw a m c)) (XZ F .bad n (.raw a m c)):=by
 have jz:=Rx.cG hF.b.cd
 have nK:(2:Nat)^24=16777216:=by decide
 have hpw:=Zu (show 0<2 by omega) jz
 have hb0:=hF.b.bad
 have T4:=hF.b.good
 have hle:=Nat.div_le_self F.b.bad (2^k)
 refine ay.start (N:=66) Tryz.func91 rfl rfl Kn ?_
 iterate 8 refine af ?_
 refine Kc (aa.gK rfl rfl rfl rfl an (uC F.b F.aT a m c ((k:Nat):Int))) ?_
 refine aj.ct 14 (b:=_) (dn _ 2) (dj _ 2) rfl rfl rfl rfl rfl rfl rfl an (fun hb=> ?_) (fun hb=> ?_)
 ·have Ny:fS F.b F.b.bad (nn n 0)=2:=by unfold fS;rw[hk,if_pos (by have h:=Zk hb;omega)]
  exact dW (e:=2) (by show(bp F .bad n).2.2=_;unfold bp;dsimp only;rw[if_pos (by rw[Ny];decide),Ny]) (by decide) (fL _ _ _)
 have Li:k<F.b.ag.length:=by have h:=Zg hb;omega
 have hp0:=Wi (show k<=24 by omega)
 iterate 5 refine af ?_
 refine Kc (Kl (.p (.int .i64 ((F.b.bad:Nat):Int)))) ?_
 refine af ?_
 refine Kc (aa.xS F.b.bad k rfl rfl rfl (by first | decide | (show _<=(9223372036854775807:Int);omega) | (show _<=(4294967295:Int);omega) | (show _<=(18446744073709551615:Int);omega) | (show _<=(255:Int);omega) | (show _<=(65535:Int);omega))) ?_
 refine Kc (aa.pR (F.b.bad / 2^k) 1 rfl rfl rfl (by first | (show _<=(9223372036854775807:Int);omega) | (show _<=(4294967295:Int);omega) | (show _<=(18446744073709551615:Int);omega) | (show _<=(255:Int);omega) | (show _<=(65535:Int);omega)) (by first | decide | (show _<=(9223372036854775807:Int);omega) | (show _<=(4294967295:Int);omega) | (show _<=(18446744073709551615:Int);omega) | (show _<=(255:Int);omega) | (show _<=(65535:Int);omega))) ?_
 refine af ?_
 rw[SU]
 refine aj.ct 22 (b:=(!F.b.bad.testBit k)) (dn (!F.b.bad.testBit k) 5) (dj (!F.b.bad.testBit k) 5) rfl rfl rfl rfl rfl rfl rfl an (fun iW=> ?_) (fun iW=> ?_)
 ·have AU:F.b.bad.testBit k=true:=by simpa using iW
  have NG:fS F.b F.b.bad (nn n 0)=5:=by unfold fS;rw[hk,if_neg (by omega),G7,AU];rfl
  exact dW (e:=5) (by show(bp F .bad n).2.2=_;unfold bp;dsimp only;rw[if_pos (by rw[NG];decide),NG]) (by decide) (fL _ _ _)
 have AU:F.b.bad.testBit k=false:=by simpa using iW
 have hce:fS F.b F.b.bad (nn n 0)=0:=by unfold fS;rw[hk,if_neg (by omega),G7,AU];rfl
 have YN:¬ fS F.b F.b.bad (nn n 0)≠0:=fun h=>h hce
 have hN:F.b.bad+pow2 (nn n 0)=(F.b.bad||| 1*2^k):=by unfold pow2;rw[hk,G7];exact(zR AU).symm
 have hkp:=SP (show 1<2 by omega) Li
 have hBN:(F.b.bad||| 1*2^k)<16777216:=by rw[zR AU];have h5:2^k+2^k<=2^F.b.ag.length:=(by have:=Zu (show 0<2 by omega) (show k+1<=F.b.ag.length by omega);rw[Wc] at this;omega);have h6:=NI (x:=F.b.bad) (y:=2^k) (n:=F.b.ag.length) (by omega) hkp;rw[<- nF AU] at h6;omega
 iterate 2 refine af ?_
 refine aF.aB 7 mixed (by kernel_rfl) (by decide) ?_
 refine af ?_
 refine Kq (aa.nilCheck rfl rfl) ?_
 refine Kq (Kl (.p (.int .i64 ((F.b.bad:Nat):Int)))) ?_
 refine af ?_
 refine Kq (aa.pE 1 k rfl rfl rfl (by show _<=(64:Nat);omega) (by show _<=(9223372036854775807:Int);rw[ZL];omega)) ?_
 refine Kq (aa.Qv F.b.bad (1*2^k) rfl rfl rfl (by show _<=(9223372036854775807:Int);omega) (by show _<=(9223372036854775807:Int);rw[ZL];omega) (by show _<=(9223372036854775807:Int);omega)) ?_
 refine Kq (aa.nilCheck rfl rfl) ?_
 refine av.nil ?_
 refine Kz (aa.store (H':=[cB {F.b with bad:=(F.b.bad||| 1*2^k)} F.aT (.raw a m c) 1 2 3 4 5,c7 F.b.aq,cY F.b.ag,c8 F.b.au,bu F.b.plan,bu F.b.b9]) rfl rfl rfl rfl rfl an rfl rfl) ?_
 iterate 2 refine af ?_
 refine aF.aB 24 mixed (by kernel_rfl) (by decide) ?_
 refine af ?_
 refine Kq (aa.nilCheck rfl rfl) ?_
 iterate 3 refine af ?_
 refine Kq (Kl (aW 2 F.b.ag.length)) ?_
 refine af ?_
 refine Kq (aa.nilCheck rfl rfl) ?_
 iterate 3 refine af ?_
 refine Kq (Kl (.p (.int .i64 (((F.b.bad||| 1*2^k):Nat):Int)))) ?_
 refine af ?_
 refine Kq (aa.nilCheck rfl rfl) ?_
 iterate 3 refine af ?_
 refine Kq (Kl (.p (.int .i64 ((F.b.good:Nat):Int)))) ?_
 refine Kq (aa.ze 3 (Rx.qg F.b.ag (((F.b.bad||| 1*2^k):Nat):Int) ((F.b.good:Nat):Int) (ZS jz (by decide))) rfl rfl rfl rfl rfl (YB (i:=2) (xs:=[.int .i64 (((F.b.bad||| 1*2^k):Nat):Int),.int .i64 ((F.b.good:Nat):Int)]) rfl) an) ?_
 refine af ?_
 refine Kq (aa.extract rfl rfl rfl) ?_
 refine Kq (aa.extract rfl rfl rfl) ?_
 iterate 2 refine af ?_
 refine av.nil ?_
 iterate 6 refine af ?_
 refine aj.ct 55 (b:=_) (dn _ (Rx.ji F.b.ag (((F.b.bad||| 1*2^k):Nat):Int) ((F.b.good:Nat):Int))) (dj _ (Rx.ji F.b.ag (((F.b.bad||| 1*2^k):Nat):Int) ((F.b.good:Nat):Int))) rfl rfl rfl rfl rfl rfl rfl an (fun VN=> ?_) (fun VN=> ?_)
 ·have TI:(Rx.ji F.b.ag (((F.b.bad||| 1*2^k):Nat):Int) ((F.b.good:Nat):Int))=6:=by simpa using VN
  exact dW (e:=(Rx.ji F.b.ag (((F.b.bad||| 1*2^k):Nat):Int) ((F.b.good:Nat):Int))) (by rw[TI];show(bp F .bad n).2.2=_;unfold bp;dsimp only;rw[if_neg YN,hN,if_pos TI]) (by rw[TI];decide) (⟨⟨_,rfl,rfl⟩,⟨ZP rfl,by intro j y h1 h2 h3;obtain rfl | rfl | rfl | rfl | rfl:j=1∨j=2∨j=3∨j=4∨j=5:=(by omega);all_goals first | exact .inl (Zy (show some ai.dead=some y from h3)).symm | exact .inr h3⟩⟩)
 have hn6:¬ (Rx.ji F.b.ag (((F.b.bad||| 1*2^k):Nat):Int) ((F.b.good:Nat):Int))=6:=by simpa using VN
 iterate 4 refine af ?_
 refine Kc (aa.aG rfl rfl mh) ?_
 iterate 2 refine af ?_
 refine Kc (Kl (.p (.int .i64 (((F.b.bad||| 1*2^k):Nat):Int)))) ?_
 refine Kc (aa.dS rfl rfl (by rw[B0];rfl) CK (mY ?_)) ?_
 ·omega
 refine Kc (Kp (G3 (F.b.bad||| 1*2^k) (by omega))) ?_
 refine Kc (aa.aG rfl rfl ku) ?_
 refine Kc (aa.aR rfl an (by decide) rfl rfl rfl) ?_
 refine Kc (Kp (de [.str (Vb.t .bad),.num ((jm (F.b.bad||| 1*2^k)).length:Int)] Kn Kn (fE (by decide) (ew (by have:=gD (F.b.bad||| 1*2^k);omega) gr)))) ?_
 iterate 3 refine af ?_
 refine iR.one rfl rfl (xU (F2:={F with b:={F.b with bad:=(F.b.bad||| 1*2^k)}}) (r:=bn (Vb.t .bad) [((jm (F.b.bad||| 1*2^k)).length:Int)]) (by unfold bp;dsimp only;rw[if_neg YN,hN,if_neg hn6]) (by rw[fC];rfl) ?_)
 exact Cl
theorem WX:VC .bad 90:=by
 intro F n a m c hF hl hn
 have jz:=Rx.cG hF.b.cd
 have tR:=hF.b.sk
 have tf:=hF.b.dr
 have q0:0<=nn n 0∧nn n 0<10000000000000:=hn _ (Di.bN 0 (show 0<n.length by rw[hl];decide))
 obtain⟨k,hk⟩:=Wv q0.1
 refine ay.start (N:=15) Tryz.func90 rfl rfl Kn ?_
 iterate 5 refine af ?_
 refine aF.aB 9 mixed (by kernel_rfl) (by decide) ?_
 iterate 2 refine af ?_
 refine Kq (aa.nilCheck rfl rfl) ?_
 iterate 4 refine af ?_
 refine Kq (aa.aP (g:=Di.gt 0 n) (k:=0) (Di.aE _) rfl rfl rfl an dF rfl (fun _=>rfl) (by decide) (by rw[hl];decide)) ?_
 refine Kq (aa.load (v:= .p (.int .i64 ((k:Nat):Int))) rfl rfl an (by rw[<- hk];rfl)) ?_
 refine av.nil ?_
 refine aj.dH 14 (Ns F n a m c k hF hk) rfl rfl rfl rfl rfl rfl rfl an (fun y H2 iz=> ?_) (fun v H2 iz=> ?_)
 ·exact⟨_,rfl,iz⟩
 exact wD
theorem Iz(F:bT)(n:List Int)(a:Option Addr)(m c k:Nat)(hF:kO F)(hk:nn n 0=((k:Nat):Int)):ay Tryz.prog 91 [.ptr 0 0,.p (.str (sB [103,111,111,100])),.ptr 0 5,.p (.int .i64 ((k:Nat):Int))] (mO F.b F.aT (.raw a m c)) (Wy F .good n (.raw a m c)) (XZ F .good n (.raw a m c)):=by
 have jz:=Rx.cG hF.b.cd
 have nK:(2:Nat)^24=16777216:=by decide
 have hpw:=Zu (show 0<2 by omega) jz
 have hb0:=hF.b.bad
 have T4:=hF.b.good
 have hle:=Nat.div_le_self F.b.good (2^k)
 refine ay.start (N:=66) Tryz.func91 rfl rfl Kn ?_
 iterate 8 refine af ?_
 refine Kc (aa.gK rfl rfl rfl rfl an (uC F.b F.aT a m c ((k:Nat):Int))) ?_
 refine aj.ct 14 (b:=_) (dn _ 2) (dj _ 2) rfl rfl rfl rfl rfl rfl rfl an (fun hb=> ?_) (fun hb=> ?_)
 ·have Ny:fS F.b F.b.good (nn n 0)=2:=by unfold fS;rw[hk,if_pos (by have h:=Zk hb;omega)]
  exact dW (e:=2) (by show(bp F .good n).2.2=_;unfold bp;dsimp only;rw[if_pos (by rw[Ny];decide),Ny]) (by decide) (fL _ _ _)
 have Li:k<F.b.ag.length:=by have h:=Zg hb;omega
 have hp0:=Wi (show k<=24 by omega)
 iterate 5 refine af ?_
 refine Kc (Kl (.p (.int .i64 ((F.b.good:Nat):Int)))) ?_
 refine af ?_
 refine Kc (aa.xS F.b.good k rfl rfl rfl (by first | decide | (show _<=(9223372036854775807:Int);omega) | (show _<=(4294967295:Int);omega) | (show _<=(18446744073709551615:Int);omega) | (show _<=(255:Int);omega) | (show _<=(65535:Int);omega))) ?_
 refine Kc (aa.pR (F.b.good / 2^k) 1 rfl rfl rfl (by first | (show _<=(9223372036854775807:Int);omega) | (show _<=(4294967295:Int);omega) | (show _<=(18446744073709551615:Int);omega) | (show _<=(255:Int);omega) | (show _<=(65535:Int);omega)) (by first | decide | (show _<=(9223372036854775807:Int);omega) | (show _<=(4294967295:Int);omega) | (show _<=(18446744073709551615:Int);omega) | (show _<=(255:Int);omega) | (show _<=(65535:Int);omega))) ?_
 refine af ?_
 rw[SU]
 refine aj.ct 22 (b:=(!F.b.good.testBit k)) (dn (!F.b.good.testBit k) 5) (dj (!F.b.good.testBit k) 5) rfl rfl rfl rfl rfl rfl rfl an (fun iW=> ?_) (fun iW=> ?_)
 ·have AU:F.b.good.testBit k=true:=by simpa using iW
  have NG:fS F.b F.b.good (nn n 0)=5:=by unfold fS;rw[hk,if_neg (by omega),G7,AU];rfl
  exact dW (e:=5) (by show(bp F .good n).2.2=_;unfold bp;dsimp only;rw[if_pos (by rw[NG];decide),NG]) (by decide) (fL _ _ _)
 have AU:F.b.good.testBit k=false:=by simpa using iW
 have hce:fS F.b F.b.good (nn n 0)=0:=by unfold fS;rw[hk,if_neg (by omega),G7,AU];rfl
 have YN:¬ fS F.b F.b.good (nn n 0)≠0:=fun h=>h hce
 have hN:F.b.good+pow2 (nn n 0)=(F.b.good||| 1*2^k):=by unfold pow2;rw[hk,G7];exact(zR AU).symm
 have hkp:=SP (show 1<2 by omega) Li
 have hBN:(F.b.good||| 1*2^k)<16777216:=by rw[zR AU];have h5:2^k+2^k<=2^F.b.ag.length:=(by have:=Zu (show 0<2 by omega) (show k+1<=F.b.ag.length by omega);rw[Wc] at this;omega);have h6:=NI (x:=F.b.good) (y:=2^k) (n:=F.b.ag.length) (by omega) hkp;rw[<- nF AU] at h6;omega
 iterate 2 refine af ?_
 refine aF.aB 7 mixed (by kernel_rfl) (by decide) ?_
 refine af ?_
 refine Kq (aa.nilCheck rfl rfl) ?_
 refine Kq (Kl (.p (.int .i64 ((F.b.good:Nat):Int)))) ?_
 refine af ?_
 refine Kq (aa.pE 1 k rfl rfl rfl (by show _<=(64:Nat);omega) (by show _<=(9223372036854775807:Int);rw[ZL];omega)) ?_
 refine Kq (aa.Qv F.b.good (1*2^k) rfl rfl rfl (by show _<=(9223372036854775807:Int);omega) (by show _<=(9223372036854775807:Int);rw[ZL];omega) (by show _<=(9223372036854775807:Int);omega)) ?_
 refine Kq (aa.nilCheck rfl rfl) ?_
 refine av.nil ?_
 refine Kz (aa.store (H':=[cB {F.b with good:=(F.b.good||| 1*2^k)} F.aT (.raw a m c) 1 2 3 4 5,c7 F.b.aq,cY F.b.ag,c8 F.b.au,bu F.b.plan,bu F.b.b9]) rfl rfl rfl rfl rfl an rfl rfl) ?_
 iterate 2 refine af ?_
 refine aF.aB 24 mixed (by kernel_rfl) (by decide) ?_
 refine af ?_
 refine Kq (aa.nilCheck rfl rfl) ?_
 iterate 3 refine af ?_
 refine Kq (Kl (aW 2 F.b.ag.length)) ?_
 refine af ?_
 refine Kq (aa.nilCheck rfl rfl) ?_
 iterate 3 refine af ?_
 refine Kq (Kl (.p (.int .i64 ((F.b.bad:Nat):Int)))) ?_
 refine af ?_
 refine Kq (aa.nilCheck rfl rfl) ?_
 iterate 3 refine af ?_
 refine Kq (Kl (.p (.int .i64 (((F.b.good||| 1*2^k):Nat):Int)))) ?_
 refine Kq (aa.ze 3 (Rx.qg F.b.ag ((F.b.bad:Nat):Int) (((F.b.good||| 1*2^k):Nat):Int) (ZS jz (by decide))) rfl rfl rfl rfl rfl (YB (i:=2) (xs:=[.int .i64 ((F.b.bad:Nat):Int),.int .i64 (((F.b.good||| 1*2^k):Nat):Int)]) rfl) an) ?_
 refine af ?_
 refine Kq (aa.extract rfl rfl rfl) ?_
 refine Kq (aa.extract rfl rfl rfl) ?_
 iterate 2 refine af ?_
 refine av.nil ?_
 iterate 6 refine af ?_
 refine aj.ct 55 (b:=_) (dn _ (Rx.ji F.b.ag ((F.b.bad:Nat):Int) (((F.b.good||| 1*2^k):Nat):Int))) (dj _ (Rx.ji F.b.ag ((F.b.bad:Nat):Int) (((F.b.good||| 1*2^k):Nat):Int))) rfl rfl rfl rfl rfl rfl rfl an (fun VN=> ?_) (fun VN=> ?_)
 ·have TI:(Rx.ji F.b.ag ((F.b.bad:Nat):Int) (((F.b.good||| 1*2^k):Nat):Int))=6:=by simpa using VN
  exact dW (e:=(Rx.ji F.b.ag ((F.b.bad:Nat):Int) (((F.b.good||| 1*2^k):Nat):Int))) (by rw[TI];show(bp F .good n).2.2=_;unfold bp;dsimp only;rw[if_neg YN,hN,if_pos TI]) (by rw[TI];decide) (⟨⟨_,rfl,rfl⟩,⟨ZP rfl,by intro j y h1 h2 h3;obtain rfl | rfl | rfl | rfl | rfl:j=1∨j=2∨j=3∨j=4∨j=5:=(by omega);all_goals first | exact .inl (Zy (show some ai.dead=some y from h3)).symm | exact .inr h3⟩⟩)
 have hn6:¬ (Rx.ji F.b.ag ((F.b.bad:Nat):Int) (((F.b.good||| 1*2^k):Nat):Int))=6:=by simpa using VN
 iterate 4 refine af ?_
 refine Kc (aa.aG rfl rfl mh) ?_
 iterate 2 refine af ?_
 refine Kc (Kl (.p (.int .i64 (((F.b.good||| 1*2^k):Nat):Int)))) ?_
 refine Kc (aa.dS rfl rfl (by rw[B0];rfl) CK (mY ?_)) ?_
 ·omega
 refine Kc (Kp (G3 (F.b.good||| 1*2^k) (by omega))) ?_
 refine Kc (aa.aG rfl rfl ku) ?_
 refine Kc (aa.aR rfl an (by decide) rfl rfl rfl) ?_
 refine Kc (Kp (de [.str (Vb.t .good),.num ((jm (F.b.good||| 1*2^k)).length:Int)] Kn Kn (fE (by decide) (ew (by have:=gD (F.b.good||| 1*2^k);omega) gr)))) ?_
 iterate 3 refine af ?_
 refine iR.one rfl rfl (xU (F2:={F with b:={F.b with good:=(F.b.good||| 1*2^k)}}) (r:=bn (Vb.t .good) [((jm (F.b.good||| 1*2^k)).length:Int)]) (by unfold bp;dsimp only;rw[if_neg YN,hN,if_neg hn6]) (by rw[fC];rfl) ?_)
 exact Cl
theorem TP:VC .good 92:=by
 intro F n a m c hF hl hn
 have jz:=Rx.cG hF.b.cd
 have tR:=hF.b.sk
 have tf:=hF.b.dr
 have q0:0<=nn n 0∧nn n 0<10000000000000:=hn _ (Di.bN 0 (show 0<n.length by rw[hl];decide))
 obtain⟨k,hk⟩:=Wv q0.1
 refine ay.start (N:=15) Tryz.func92 rfl rfl Kn ?_
 iterate 5 refine af ?_
 refine aF.aB 9 mixed (by kernel_rfl) (by decide) ?_
 iterate 2 refine af ?_
 refine Kq (aa.nilCheck rfl rfl) ?_
 iterate 4 refine af ?_
 refine Kq (aa.aP (g:=Di.gt 0 n) (k:=0) (Di.aE _) rfl rfl rfl an dF rfl (fun _=>rfl) (by decide) (by rw[hl];decide)) ?_
 refine Kq (aa.load (v:= .p (.int .i64 ((k:Nat):Int))) rfl rfl an (by rw[<- hk];rfl)) ?_
 refine av.nil ?_
 refine aj.dH 14 (Iz F n a m c k hF hk) rfl rfl rfl rfl rfl rfl rfl an (fun y H2 iz=> ?_) (fun v H2 iz=> ?_)
 ·exact⟨_,rfl,iz⟩
 exact wD
theorem flL(b:bI)(p:Di.bJ)(um:V)(x:Di.cO)(y:Int)(i1 i2 i3 i4 i5:Nat):ai.cells ([aW i1 b.aq.length,aW i2 b.ag.length,.row i3 (b.au.length+1),.row i4 (b.plan.length+1),.p (.int .i64 (b.bad:Int)),.p (.int .i64 (b.good:Int)),aW i5 b.b9.length]++p.cells.map .p++[um,.p (.bool true)]) 87=cB {b with au:=b.au++[x],plan:=b.plan++[y]} p um i1 i2 i3 i4 i5:=by
 unfold cB di
 rw[<- kE i3 b.au x,<- kE i4 b.plan y]
theorem LS{H:List ai}{i k:Nat}{l:List Int}(h:H[i]? =some (bu l))(hk:k<l.length):cV H false 1 (.ptr i (k*1))=some (.p (.int .i64 (nn l k))):=by
 simp only[cV,h]
 cases l with
 | nil=>cases hk
 | cons x l=>
  show(((x::l).flatMap Di.bZ).map V.p)[k*1]? =_
  rw[qu,Re,Ks,Zs,Zb hk]
  unfold nn
  rw[Di.aE 0 k hk]
  rfl
theorem Q9(b:bI)(p:Di.bJ)(um:V)(i1 i2 i3 i4 i5:Nat)(H:List ai)(h0:H[0]? =some (cB b p um i1 i2 i3 i4 i5))(h2:H[i2]? =some (cY b.ag))(hi:i2≠0)(x y:Int)(hlt:b.ag.length<24):az Tryz.prog 87 [.ptr 0 0,.p (.int .i64 x),.p (.int .i64 y)] H (fun v H2=>v= .p (.int .i64 (b.ag.length:Int))∧H2=(H.set i2 .dead++[cY (b.gq ⟨x,y⟩).ag]).set 0 (cB (b.gq ⟨x,y⟩) p um i1 H.length i3 i4 i5)):=
 ((KD b p um i1 i2 i3 i4 i5 H h0 h2 hi x y).mono (Xv:=fun v H2=>v= .p (.int .i64 (b.ag.length:Int))∧H2=(H.set i2 .dead++[cY (b.gq ⟨x,y⟩).ag]).set 0 (cB (b.gq ⟨x,y⟩) p um i1 H.length i3 i4 i5)) (X3:=fun _ _=>False) (fun v H2 ⟨_,h1,h2⟩=>⟨h1,h2⟩) (fun y H2 ⟨h1,_⟩=>h1 hlt)).toC (fun _ _ h=>h)
theorem Ut:VC .lead 88:=by
 intro F n a m c hF hl hn
 have jz:=Rx.cG hF.b.cd
 have tR:=hF.b.sk
 have tf:=hF.b.dr
 have hl8:n.length=8:=hl
 have hck:=hF.b.ck
 have q0:0<=nn n 0∧nn n 0<10000000000000:=hn _ (Di.bN 0 (show 0<n.length by rw[hl];decide))
 have q1:0<=nn n 1∧nn n 1<10000000000000:=hn _ (Di.bN 0 (show 1<n.length by rw[hl];decide))
 have q2:0<=nn n 2∧nn n 2<10000000000000:=hn _ (Di.bN 0 (show 2<n.length by rw[hl];decide))
 have q3:0<=nn n 3∧nn n 3<10000000000000:=hn _ (Di.bN 0 (show 3<n.length by rw[hl];decide))
 have q4:0<=nn n 4∧nn n 4<10000000000000:=hn _ (Di.bN 0 (show 4<n.length by rw[hl];decide))
 have q5:0<=nn n 5∧nn n 5<10000000000000:=hn _ (Di.bN 0 (show 5<n.length by rw[hl];decide))
 have q6:0<=nn n 6∧nn n 6<10000000000000:=hn _ (Di.bN 0 (show 6<n.length by rw[hl];decide))
 have q7:0<=nn n 7∧nn n 7<10000000000000:=hn _ (Di.bN 0 (show 7<n.length by rw[hl];decide))
 obtain⟨⟨n1,n4⟩,_⟩:=Di.iD hF.p
 obtain⟨u0,O5⟩:=hF.b.ER
 have Pw:=fy O5
 refine ay.start (N:=145) Tryz.func88 rfl rfl Kn ?_
 iterate 7 refine af ?_
 refine aj.dH 10 (zz F.b F.aT a m c) rfl rfl rfl rfl rfl rfl rfl an (fun y H2 iz=> ?_) (fun v H2 iz=> ?_)
 ·obtain⟨q1,rfl,rfl⟩:=iz
  exact dW (e:=9) (by show(bp F .lead n).2.2=_;unfold bp;dsimp only;rw[if_pos (by omega)]) (by decide) (fL _ _ _)
 obtain⟨hlt,rfl,rfl⟩:=iz
 have hnr:¬ 24<=F.b.ag.length:=by omega
 iterate 6 refine af ?_
 refine aF.bU 29 1 [6] [([],false),([],false),([],false),([],false),([],false),([],false),([],false),([],false),([],false),([],false),([],false),([],false),([],false),([],false),([],false),([],false),([],false),([],false),([],false),([],false),([],false),([],false),([],false),([],false),([],false),([],false),([],false),([6],true),([6],true)] mixed (by kernel_rfl) (by decide) (by kernel_rfl) rfl (zS _ _ _ _ _) ?_
 refine af ?_
 refine bA.cons 13 rfl rfl rfl (fun _=>(aa.nilCheck rfl rfl)) rfl ?_
 iterate 3 refine af ?_
 refine bA.cons 17 rfl rfl rfl (fun _=>(Kl (aW 1 (F.b.aq).length))) (cT Kn) ?_
 iterate 2 refine af ?_
 refine bA.cons 20 rfl rfl rfl (fun _=>(aa.aP (g:=Di.gt 0 n) (k:=0) (Di.aE _) rfl rfl rfl an dF rfl (fun _=>rfl) (by decide) (by rw[hl];decide))) rfl ?_
 refine bA.cons 21 rfl rfl rfl (fun _=>(Kl (.p (.int .i64 (nn n 0))))) rfl ?_
 refine af ?_
 refine bA.cons 23 rfl rfl rfl (fun _=>(aa.aP (g:=Di.gt 0 n) (k:=1) (Di.aE _) rfl rfl rfl an dF rfl (fun _=>rfl) (by decide) (by rw[hl];decide))) rfl ?_
 refine bA.cons 24 rfl rfl rfl (fun _=>(Kl (.p (.int .i64 (nn n 1))))) rfl ?_
 refine bA.cons 25 rfl rfl rfl (fun _=>(aa.dH (HZ (nn n 0) (nn n 1)) rfl rfl rfl rfl (an))) rfl ?_
 iterate 2 refine af ?_
 refine bA.cons 28 rfl rfl rfl (fun _=>(aa.aP (g:=Di.gt 0 n) (k:=2) (Di.aE _) rfl rfl rfl an dF rfl (fun _=>rfl) (by decide) (by rw[hl];decide))) rfl ?_
 refine bA.cons 29 rfl rfl rfl (fun _=>(Kl (.p (.int .i64 (nn n 2))))) rfl ?_
 refine af ?_
 refine bA.cons 31 rfl rfl rfl (fun _=>(aa.aP (g:=Di.gt 0 n) (k:=3) (Di.aE _) rfl rfl rfl an dF rfl (fun _=>rfl) (by decide) (by rw[hl];decide))) rfl ?_
 refine bA.cons 32 rfl rfl rfl (fun _=>(Kl (.p (.int .i64 (nn n 3))))) rfl ?_
 refine bA.cons 33 rfl rfl rfl (fun _=>(aa.dH (HZ (nn n 2) (nn n 3)) rfl rfl rfl rfl (an))) rfl ?_
 refine bA.cons 34 rfl rfl rfl (fun _=>(aa.aR rfl an (by decide) rfl rfl rfl)) rfl ?_
 refine bA.cons 35 rfl rfl rfl (fun _=>(aa.ze 3 (HP F.b.aq [bX (nn n 0) (nn n 1),bX (nn n 2) (nn n 3)] (ZS tR (by decide)) Kn) rfl rfl rfl rfl rfl (hbS (i:=1) (xs:=[Ck.vI [bX (nn n 0) (nn n 1),bX (nn n 2) (nn n 3)]]) rfl) an)) rfl ?_
 refine af ?_
 refine bA.cons 36 rfl rfl rfl (fun _=>(aa.extract rfl rfl rfl)) rfl ?_
 refine bA.cons 37 rfl rfl rfl (fun _=>(aa.extract rfl rfl rfl)) rfl ?_
 refine bA.lay (v0:= .ptr 7 0) 6 6 rfl rfl rfl rfl rfl rfl rfl rfl (fun _=>(aa.aO rfl an rfl)) rfl rfl rfl ?_
 refine bA.put (blk:= .cells [.p (.int .i64 (shr F.b.aq [bX (nn n 0) (nn n 1),bX (nn n 2) (nn n 3)]).1.1),.p (.int .i64 (shr F.b.aq [bX (nn n 0) (nn n 1),bX (nn n 2) (nn n 3)]).1.2)] 24) 6 rfl rfl rfl rfl (fun _=>(aa.store rfl rfl rfl rfl rfl an rfl rfl)) rfl rfl ?_
 refine bA.nil ?_
 iterate 5 refine af ?_
 refine aj.ct 39 (b:=(decide ((shr F.b.aq [bX (nn n 0) (nn n 1),bX (nn n 2) (nn n 3)]).2=0))) (j6 (shr F.b.aq [bX (nn n 0) (nn n 1),bX (nn n 2) (nn n 3)]).2) (oL (shr F.b.aq [bX (nn n 0) (nn n 1),bX (nn n 2) (nn n 3)]).2) rfl rfl rfl rfl rfl rfl rfl an (fun he=> ?_) (fun he=> ?_)
 ·have hne:(shr F.b.aq [bX (nn n 0) (nn n 1),bX (nn n 2) (nn n 3)]).2≠0:=Zk he
  exact dW (e:=(shr F.b.aq [bX (nn n 0) (nn n 1),bX (nn n 2) (nn n 3)]).2) (by show(bp F .lead n).2.2=_;unfold bp;dsimp only;rw[if_neg hnr,if_pos hne]) hne (⟨⟨_,rfl,rfl⟩,⟨ZP rfl,by intro j y h1 h2 h3;obtain rfl | rfl | rfl | rfl | rfl:j=1∨j=2∨j=3∨j=4∨j=5:=(by omega);all_goals first | exact .inl (Zy (show some ai.dead=some y from h3)).symm | exact .inr h3⟩⟩)
 have xm:(shr F.b.aq [bX (nn n 0) (nn n 1),bX (nn n 2) (nn n 3)]).2=0:=Zg he
 have hz:¬ (shr F.b.aq [bX (nn n 0) (nn n 1),bX (nn n 2) (nn n 3)]).2≠0:=fun h=>h xm
 obtain⟨⟨i1,i2⟩,i3,i4⟩:=MF xm
 obtain⟨⟨b1,b2⟩,b3,b4⟩:=Tc F.b.aq [bX (nn n 0) (nn n 1),bX (nn n 2) (nn n 3)]
 have ck1:0<=nn F.b.b9 (nn n 0).toNat∧nn F.b.b9 (nn n 0).toNat<(F.b.ag.length:Int):=hF.b.Pp _ (Di.bN 0 (show(nn n 0).toNat<F.b.b9.length by omega))
 have ck2:0<=nn F.b.b9 (nn n 2).toNat∧nn F.b.b9 (nn n 2).toNat<(F.b.ag.length:Int):=hF.b.Pp _ (Di.bN 0 (show(nn n 2).toNat<F.b.b9.length by omega))
 obtain⟨k0,e0⟩:=Wv ck1.1
 obtain⟨k1,e1⟩:=Wv ck2.1
 have hp0:=Wi (show k0<=24 by omega)
 have hp1:=Wi (show k1<=24 by omega)
 iterate 8 refine af ?_
 refine Kc (Kl (aW 3 F.b.au.length)) ?_
 refine Kc (aa.bD rfl rfl an qC) ?_
 refine af ?_
 refine aj.ct 48 (b:=_) (dn _ 9) (dj _ 9) rfl rfl rfl rfl rfl rfl rfl an (fun hb=> ?_) (fun hb=> ?_)
 ·exact dW (e:=9) (by show(bp F .lead n).2.2=_;unfold bp;dsimp only;rw[if_neg hnr,if_neg hz,if_pos (by have h:=Zk hb;omega)]) (by decide) (⟨⟨_,rfl,rfl⟩,⟨ZP rfl,by intro j y h1 h2 h3;obtain rfl | rfl | rfl | rfl | rfl:j=1∨j=2∨j=3∨j=4∨j=5:=(by omega);all_goals first | exact .inl (Zy (show some ai.dead=some y from h3)).symm | exact .inr h3⟩⟩)
 have XN:¬ 8<=F.b.au.length:=by have h:=Zg hb;omega
 iterate 2 refine af ?_
 refine aF.xO (H':=[cB F.b F.aT (.raw a m c) 1 2 3 4 5,c7 F.b.aq,cY F.b.ag,c8 F.b.au,bu F.b.plan,bu F.b.b9,.cells [.p (.int .i64 (shr F.b.aq [bX (nn n 0) (nn n 1),bX (nn n 2) (nn n 3)]).1.1),.p (.int .i64 (shr F.b.aq [bX (nn n 0) (nn n 1),bX (nn n 2) (nn n 3)]).1.2)] 24]) rfl ?_
 refine aF.bU 33 2 [0,3,4,7,8] [([],false),([],false),([],false),([],false),([],false),([],false),([],false),([0],false),([],false),([],false),([],false),([],false),([],false),([],false),([],false),([],false),([7,3],true),([],false),([],false),([],false),([],false),([],false),([0],false),([],false),([],false),([],false),([],false),([8,4],true),([],false),([],false),([],false),([],false),([0,7],true)] mixed (by kernel_rfl) (by decide) (by kernel_rfl) rfl (by simp[cB,mO,bR,bK,b8,dV,iq,fA,bC,cT,c7,cY,c8,bu,di,Di.bJ.cells]) ?_
 iterate 3 refine af ?_
 refine bA.cons 52 rfl rfl rfl (fun _=>(aa.nilCheck rfl rfl)) rfl ?_
 iterate 3 refine af ?_
 refine bA.cons 56 rfl rfl rfl (fun _=>(Kl (aW 3 (F.b.au).length))) (cT Kn) ?_
 refine af ?_
 refine bA.cons 58 rfl rfl rfl (fun _=>(aa.aP (g:=Di.gt 0 n) (k:=5) (Di.aE _) rfl rfl rfl an dF rfl (fun _=>rfl) (by decide) (by rw[hl];decide))) rfl ?_
 refine bA.cons 59 rfl rfl rfl (fun _=>(Kl (.p (.int .i64 (nn n 5))))) rfl ?_
 refine af ?_
 refine bA.cons 61 rfl rfl rfl (fun _=>(aa.gI (l:=6) (h:=n.length) (r:=((n.drop 6).take (n.length - 6)).flatMap Di.bZ) rfl rfl an dF ⟨_,rfl⟩ rfl (by omega) (by omega) (qj n 6 (n.length - 6)))) rfl ?_
 refine bA.cons 62 rfl rfl rfl (fun _=>(Kp (uj n 6 (n.length - 6) (by omega) (by omega)))) rfl ?_
 refine bA.cons 63 rfl rfl rfl (fun _=>(aa.Kv (v:= .p (.agg (⟨nn n 5,nn n 6,nn n 7⟩:Di.cO).cells)) rfl an rfl rfl rfl)) rfl ?_
 refine bA.cons 64 rfl rfl rfl (fun _=>(aa.aR rfl an (by decide) rfl rfl rfl)) rfl ?_
 refine bA.Ot (blk:= .row (((F.b.au).flatMap Di.cO.cells).map .p++((⟨nn n 5,nn n 6,nn n 7⟩:Di.cO).cells).map .p) 74) (v0:= .row 9 _) 65 7 3 rfl rfl rfl rfl rfl rfl rfl rfl rfl rfl (fun _=>(aa.qw (i:=3) (len:=(F.b.au).length) (cs:=((F.b.au).flatMap Di.cO.cells).map .p) (ys:=((⟨nn n 5,nn n 6,nn n 7⟩:Di.cO).cells).map .p) (n:=1) rfl rfl rfl an an rfl (by rw[Zr,AF.cy (c:=3) (fun _=>rfl)];rfl) rfl (by decide) rfl an (by decide) (by show(2*(_+1)+192)*24<=281474976710656;omega))) rfl rfl (by show ai.row (bw _ (_++_)) _=_;rw[bF,aX,aX]) ?_
 refine af ?_
 refine bA.cons 67 rfl rfl rfl (fun _=>(aa.nilCheck rfl rfl)) rfl ?_
 iterate 3 refine af ?_
 refine bA.cons 71 rfl rfl rfl (fun _=>(Kl (aW 4 (F.b.plan).length))) (cT Kn) ?_
 refine af ?_
 refine bA.cons 73 rfl rfl rfl (fun _=>(aa.aP (g:=Di.gt 0 n) (k:=4) (Di.aE _) rfl rfl rfl an dF rfl (fun _=>rfl) (by decide) (by rw[hl];decide))) rfl ?_
 refine bA.cons 74 rfl rfl rfl (fun _=>(Kl (.p (.int .i64 (nn n 4))))) rfl ?_
 refine bA.cons 75 rfl rfl rfl (fun _=>(aa.aR rfl an (by decide) rfl rfl rfl)) rfl ?_
 refine bA.Ot (blk:= .row (((F.b.plan).flatMap Di.bZ).map .p++(Di.bZ (nn n 4)).map .p) 3) (v0:= .row 9 _) 76 8 4 rfl rfl rfl rfl rfl rfl rfl rfl rfl rfl (fun _=>(aa.qw (i:=4) (len:=(F.b.plan).length) (cs:=((F.b.plan).flatMap Di.bZ).map .p) (ys:=(Di.bZ (nn n 4)).map .p) (n:=1) rfl rfl rfl an an rfl (by rw[Zr,AF.cy (c:=1) (fun _=>rfl)];rfl) rfl (by decide) rfl an (by decide) (by show(2*(_+1)+192)*8<=281474976710656;omega))) rfl rfl (by show ai.row (bw _ (_++_)) _=_;rw[bF,aX,aX]) ?_
 refine bA.cons 77 rfl rfl rfl (fun _=>(aa.nilCheck rfl rfl)) rfl ?_
 iterate 3 refine af ?_
 refine bA.put (blk:= .cells ([aW 1 F.b.aq.length,aW 2 F.b.ag.length,.row 7 (F.b.au.length+1),aW 4 F.b.plan.length,.p (.int .i64 (F.b.bad:Int)),.p (.int .i64 (F.b.good:Int)),aW 5 F.b.b9.length]++F.aT.cells.map .p++[.raw a m c,.p (.bool true)]) 87) 0 rfl rfl rfl rfl (fun _=>(aa.store rfl rfl rfl rfl rfl an rfl rfl)) rfl (by simp[bR,bK,b8,dV,iq,cT,Di.bJ.cells,aY,sg,xD]) ?_
 refine bA.nil ?_
 iterate 7 refine af ?_
 refine aF.xO (H':=[cB {F.b with au:=F.b.au++[(⟨nn n 5,nn n 6,nn n 7⟩:Di.cO)],plan:=F.b.plan++[nn n 4]} F.aT (.raw a m c) 1 2 7 8 5,c7 F.b.aq,cY F.b.ag,.dead,.dead,bu F.b.b9,.cells [.p (.int .i64 (shr F.b.aq [bX (nn n 0) (nn n 1),bX (nn n 2) (nn n 3)]).1.1),.p (.int .i64 (shr F.b.aq [bX (nn n 0) (nn n 1),bX (nn n 2) (nn n 3)]).1.2)] 24,c8 (F.b.au++[(⟨nn n 5,nn n 6,nn n 7⟩:Di.cO)]),bu (F.b.plan++[nn n 4])]) (by rw[<- flL F.b F.aT _ _ _ 1 2 7 8 5,<- NR,<- Ea];rfl) ?_
 refine aF.aB 22 mixed (by kernel_rfl) (by decide) ?_
 refine af ?_
 refine Kq (aa.nilCheck rfl rfl) ?_
 refine af ?_
 refine Kq (Kl (.p (Di.cI F.aT))) ?_
 refine af ?_
 refine Kq (aa.nilCheck rfl rfl) ?_
 iterate 3 refine af ?_
 refine Kq (Kl (aW 7 (F.b.au++[(⟨nn n 5,nn n 6,nn n 7⟩:Di.cO)]).length)) ?_
 refine af ?_
 refine Kq (aa.nilCheck rfl rfl) ?_
 iterate 3 refine af ?_
 refine Kq (Kl (aW 8 (F.b.plan++[nn n 4]).length)) ?_
 refine Kq (aa.VJ 3 (Di.sH F.aT (F.b.au++[(⟨nn n 5,nn n 6,nn n 7⟩:Di.cO)]) (F.b.plan++[nn n 4]) (ZS n4 (by decide)) (ZS (show(F.b.au++[(⟨nn n 5,nn n 6,nn n 7⟩:Di.cO)]).length<=9 by simp;omega) (by decide)) (ZS (show(F.b.plan++[nn n 4]).length<=9 by simp;omega) (by decide))) rfl rfl rfl rfl (XQ (i:=7) (j:=8) rfl rfl) an) ?_
 refine af ?_
 refine Kq (aa.extract rfl rfl rfl) ?_
 refine Kq (aa.extract rfl rfl rfl) ?_
 refine Kq (aa.extract rfl rfl rfl) ?_
 refine af ?_
 refine av.nil ?_
 iterate 4 refine af ?_
 refine aj.ct 107 (b:=(decide ((Di.gN F.aT (F.b.au++[(⟨nn n 5,nn n 6,nn n 7⟩:Di.cO)]) (F.b.plan++[nn n 4])).2.2=0))) (j6 (Di.gN F.aT (F.b.au++[(⟨nn n 5,nn n 6,nn n 7⟩:Di.cO)]) (F.b.plan++[nn n 4])).2.2) (oL (Di.gN F.aT (F.b.au++[(⟨nn n 5,nn n 6,nn n 7⟩:Di.cO)]) (F.b.plan++[nn n 4])).2.2) rfl rfl rfl rfl rfl rfl rfl an (fun KZ=> ?_) (fun KZ=> ?_)
 ·have hne:(Di.gN F.aT (F.b.au++[(⟨nn n 5,nn n 6,nn n 7⟩:Di.cO)]) (F.b.plan++[nn n 4])).2.2≠0:=Zk KZ
  exact dW (e:=(Di.gN F.aT (F.b.au++[(⟨nn n 5,nn n 6,nn n 7⟩:Di.cO)]) (F.b.plan++[nn n 4])).2.2) (by show(bp F .lead n).2.2=_;unfold bp;dsimp only;rw[if_neg hnr,if_neg hz,if_neg XN,if_pos hne]) hne (⟨⟨_,rfl,rfl⟩,⟨ZP rfl,by intro j y h1 h2 h3;obtain rfl | rfl | rfl | rfl | rfl:j=1∨j=2∨j=3∨j=4∨j=5:=(by omega);all_goals first | exact .inl (Zy (show some ai.dead=some y from h3)).symm | exact .inr h3⟩⟩)
 have hy:¬ (Di.gN F.aT (F.b.au++[(⟨nn n 5,nn n 6,nn n 7⟩:Di.cO)]) (F.b.plan++[nn n 4])).2.2≠0:=fun h=>h (Zg KZ)
 iterate 2 refine af ?_
 refine aF.aB 24 mixed (by kernel_rfl) (by decide) ?_
 iterate 2 refine af ?_
 refine Kq (aa.nilCheck rfl rfl) ?_
 iterate 2 refine af ?_
 refine Kq (Kl (aW 5 F.b.b9.length)) ?_
 refine af ?_
 refine Kq (aa.aP (g:=Di.gt 0 n) (k:=0) (Di.aE _) rfl rfl rfl an dF rfl (fun _=>rfl) (by decide) (by rw[hl];decide)) ?_
 refine Kq (Kl (.p (.int .i64 (nn n 0)))) ?_
 refine Kq (aa.H8 rfl rfl rfl an dF q0.1 (by omega)) ?_
 refine Kq (aa.load (v:= .p (.int .i64 ((k0:Nat):Int))) rfl rfl an (by rw[<- e0];exact LS rfl (by omega))) ?_
 refine Kq (aa.pE 1 k0 rfl rfl rfl (by show _<=(64:Nat);omega) (by show _<=(9223372036854775807:Int);rw[ZL];omega)) ?_
 refine af ?_
 refine Kq (aa.nilCheck rfl rfl) ?_
 iterate 2 refine af ?_
 refine Kq (Kl (aW 5 F.b.b9.length)) ?_
 refine af ?_
 refine Kq (aa.aP (g:=Di.gt 0 n) (k:=2) (Di.aE _) rfl rfl rfl an dF rfl (fun _=>rfl) (by decide) (by rw[hl];decide)) ?_
 refine Kq (Kl (.p (.int .i64 (nn n 2)))) ?_
 refine Kq (aa.H8 rfl rfl rfl an dF q2.1 (by omega)) ?_
 refine Kq (aa.load (v:= .p (.int .i64 ((k1:Nat):Int))) rfl rfl an (by rw[<- e1];exact LS rfl (by omega))) ?_
 refine Kq (aa.pE 1 k1 rfl rfl rfl (by show _<=(64:Nat);omega) (by show _<=(9223372036854775807:Int);rw[ZL];omega)) ?_
 refine Kq (aa.Qv (1*2^k0) (1*2^k1) rfl rfl rfl (by show _<=(9223372036854775807:Int);rw[ZL];omega) (by show _<=(9223372036854775807:Int);rw[ZL];omega) (by have ho:=NI (n:=62) (x:=1*2^k0) (y:=1*2^k1) (by omega) (by omega);show _<=(9223372036854775807:Int);omega)) ?_
 refine av.nil ?_
 refine Kc (aa.gK rfl rfl rfl rfl an (Q9 {F.b with au:=F.b.au++[(⟨nn n 5,nn n 6,nn n 7⟩:Di.cO)],plan:=F.b.plan++[nn n 4]} F.aT (.raw a m c) 1 2 7 8 5 _ rfl rfl (by decide) ((1*2^k0||| 1*2^k1:Nat):Int) 0 hlt)) ?_
 iterate 4 refine af ?_
 refine Kc (aa.aG rfl rfl mh) ?_
 refine af ?_
 refine Kc (aa.aG rfl rfl ku) ?_
 refine Kc (aa.aG rfl rfl mh) ?_
 refine af ?_
 refine Kc (Kl (.p (.int .i64 (shr F.b.aq [bX (nn n 0) (nn n 1),bX (nn n 2) (nn n 3)]).1.1))) ?_
 refine Kc (aa.aG rfl rfl ku) ?_
 refine af ?_
 refine Kc (Kl (.p (.int .i64 (shr F.b.aq [bX (nn n 0) (nn n 1),bX (nn n 2) (nn n 3)]).1.2))) ?_
 refine Kc (aa.aG rfl rfl ku) ?_
 refine Kc (aa.aR rfl an (by decide) rfl rfl rfl) ?_
 refine Kc (Kp (de [.str gG,.num (F.b.ag.length:Int),.str Gk,.num (shr F.b.aq [bX (nn n 0) (nn n 1),bX (nn n 2) (nn n 3)]).1.1,.num (shr F.b.aq [bX (nn n 0) (nn n 1),bX (nn n 2) (nn n 3)]).1.2] Kn Kn (fE (by decide) (ew (by omega) (fE (by decide) (ew ⟨b1,b2⟩ (ew ⟨b3,b4⟩ gr))))))) ?_
 iterate 3 refine af ?_
 refine iR.one rfl rfl (xU (F2:={F with b:={F.b.gq ⟨((1*2^k0||| 1*2^k1:Nat):Int),0⟩ with au:=(F.b.au++[(⟨nn n 5,nn n 6,nn n 7⟩:Di.cO)]),plan:=(F.b.plan++[nn n 4])}}) (r:=bn gG [(F.b.ag.length:Int)]++32::bn Gk [(shr F.b.aq [bX (nn n 0) (nn n 1),bX (nn n 2) (nn n 3)]).1.1,(shr F.b.aq [bX (nn n 0) (nn n 1),bX (nn n 2) (nn n 3)]).1.2]) (by unfold bp;dsimp only;rw[if_neg hnr,if_neg hz,if_neg XN,if_neg hy,H6 e0 e1]) (by simp[cQ,bn,jJ,jd.w]) ?_)
 exact⟨⟨1,9,7,8,5,by decide,rfl,rfl,rfl,rfl,rfl,rfl⟩,⟨ZP rfl,by intro j y h1 h2 h3;obtain rfl | rfl | rfl | rfl | rfl:j=1∨j=2∨j=3∨j=4∨j=5:=(by omega);all_goals first | exact .inl (Zy (show some ai.dead=some y from h3)).symm | exact .inr h3⟩⟩
theorem Fe{l:List Int}{q j:Nat}{x:Int}(hq:q<l.length):Di.gt 0 (l.set q x) j=if q=j then x else Di.gt 0 l j:=by
 unfold Di.gt
 rw[Ze,Ze,Zt]
 by_cases h:q=j
 ·rw[if_pos h,if_pos h,if_pos hq];rfl
 ·rw[if_neg h,if_neg h]
theorem oC{l:List Di.cO}{i:Nat}{w:Di.cO}{r:List Di.cO}(h:w::r=l.drop i):Di.gt Di.cO.d l i=w∧r=l.drop (i+1):=by
 have h1:(l.drop i)[0]? =some w:=by rw[<- h];rfl
 rw[Sr,Kb] at h1
 refine⟨?_,?_⟩
 ·unfold Di.gt
  rw[Ze,h1];rfl
 ·rw[show l.drop (i+1)=(l.drop i).drop 1 by rw[OU],<- h];rfl
theorem JL{p:Di.bJ}{b:bI}:∀(l:List Di.cO) (i:Nat) (u v:List Int) (n:Int),l=b.au.drop i->i<=b.plan.length->u.length=p.dies.length->(∀ j,j<u.length->Di.gt 0 u j=xH b (j:Int) i)->Di.fW p b.plan i u l=(some v,n,0)->
    v.length=p.dies.length∧∀ j,j<v.length->Di.gt 0 v j=eZ b (j:Int):=by
 intro l
 induction l with
 | nil=>
  intro i u v n hl hi hu hj h
  unfold Di.fW at h
  split at h
  ·cases h
  ·rename_i h2
   cases h
   have e:i=b.plan.length:=by omega
   subst e
   exact⟨hu,hj⟩
 | cons w l ih=>
  intro i u v n hl hi hu hj h
  unfold Di.fW at h
  split at h
  ·cases h
  ·rename_i h2
   split at h
   ·cases h
   ·rename_i h3
    split at h
    ·cases h
    ·rename_i h4
     obtain⟨g1,g2⟩:=oC hl
     obtain⟨k1,k2⟩:=Di.fP (by simpa using h3)
     have hq:(Di.gt 0 b.plan i).toNat<u.length:=by omega
     refine ih (i+1) _ v n g2 (by omega) (by rw[yX];exact hu) (fun j hjl=> ?_) h
     rw[yX] at hjl
     rw[Fe hq,xH,g1]
     by_cases e:(Di.gt 0 b.plan i).toNat=j
     ·rw[if_pos e,if_pos (by omega),e,hj j hjl]
     ·rw[if_neg e,if_neg (by omega),Int.add_zero,hj j hjl]
theorem N8{p:Di.bJ}{b:bI}{u:List Int}{n:Int}(h:Di.gN p b.au b.plan=(some u,n,0)):u.length=p.dies.length∧∀ j,j<u.length->Di.gt 0 u j=eZ b (j:Int):=by
 obtain⟨h1,h2⟩:=uA h
 rw[Di.gM h1 h2] at h
 refine JL b.au 0 (List.replicate p.dies.length 0) u n rfl (Zp _) (by rw[ZbH]) (fun j hj=> ?_) h
 rw[ZbH] at hj
 unfold Di.gt
 rw[Ze,List.getElem?_replicate,if_pos hj]
 rfl
namespace Di
theorem FT(p:bJ)(l:List cO)(plan:List Int)(hp:p.dies.length<=cN)(hl:l.length<=cN)(hn:plan.length<=cN)(w:List Int)(hf:gN p l plan=(some w,(l.length:Int),0)):az Tryz.prog 29 ([cI p,eY l,bh plan].map .p) [] fun v H2=>v= .tuple [.row 0 p.dies.length,.p (.int .i64 (l.length:Int)),.p (.int .i64 0)]∧H2=[.row ((w.flatMap bZ).map .p) 3]:=by
 have Ss:=hp
 have vP:=hl
 have hn2:=hn
 unfold cN at Ss vP hn2
 refine az.start (N:=93) Tryz.func29 rfl rfl Kn ?_
 iterate 12 refine af ?_
 refine Kc (Kp (pM p hp)) ?_
 iterate 3 refine af ?_
 refine Ki (fun hc0=> ?_) fun hc0=> ?_
 ·have hv:eF p=false:=by simpa using hc0
  iterate 7 refine af ?_
  rw[FY hv] at hf
  cases hf
 ·have hv:eF p=true:=by simpa using hc0
  obtain⟨⟨n1,n4⟩,_,hsh,Ri⟩:=iD hv
  iterate 3 refine af ?_
  refine Kc (Kp (tK l hl)) ?_
  iterate 3 refine af ?_
  refine Ki (fun cK=> ?_) fun cK=> ?_
  ·have hd:mD l=false:=by simpa using cK
   iterate 7 refine af ?_
   rw[ON hv hd] at hf
   cases hf
  ·have hd:mD l=true:=by simpa using cK
   obtain⟨hl8,Ux⟩:=jE hd
   iterate 6 refine af ?_
   refine Kc (aa.makeSlice (n:=p.dies.length) (c:=p.dies.length) rfl rfl rfl an an (by decide) (Zf _) (by show 8*p.dies.length<=281474976710656;omega)) ?_
   iterate 4 refine af ?_
   rw[HT]
   refine aF.norm [0] [(1,_),(2,_),(3,_),(6,.row 0 p.dies.length)] [.row (((List.replicate p.dies.length 0).flatMap bZ).map .p) 3] rfl KS (by show[ai.row (bw _ (List.map V.p _)) _]=_;rw[aX]) ?_
   iterate 6 refine af ?_
   refine aF.eU [1,2,3,24,25,83,84,85,86,87,88,89,90,91,92] (fun g=>[(26,.p (.int .i64 ((g.1:Nat):Int))),(6,.row 0 p.dies.length)]) (fun g=>[.row ((g.2.flatMap bZ).map .p) 3]) (fun g=>g.1<=l.length∧Bx p g.2 (1000*(g.1:Int))∧fW p plan 0 (List.replicate p.dies.length 0) l=fW p plan g.1 g.2 (l.drop g.1)) (fun g=>l.length - g.1) (0,List.replicate p.dies.length 0) ⟨Zp _,S6 p,rfl⟩ (To.sub (Sub.zY (Sub.cons rfl (Sub.cons rfl (Sub.nil))))) (fun g hg=> ?_)
   obtain⟨i,u⟩:=g
   obtain⟨zE,nk,Gr⟩:=hg
   dsimp only at zE nk Gr ⊢
   have hul:=nk.1
   iterate 5 refine af ?_
   refine Ki (fun jb=> ?_) fun jb=> ?_
   ·have hk0:i<l.length:=by have h:(i:Int)<(l.length:Int):=Zg jb;omega
    have hW:=ov (Ux _ (bN cO.d hk0))
    iterate 6 refine af ?_
    refine Kc (aa.aP (g:=gt cO.d l) (aE _) rfl rfl rfl an Fy rfl (fun _=>rfl) (by decide) hk0) ?_
    refine Kc (Kl (.p (.agg (gt cO.d l i).cells))) ?_
    iterate 2 refine af ?_
    refine Kz (aa.store (H':=[.row ((u.flatMap bZ).map .p) 3,.cells ((gt cO.d l i).cells.map .p) 74]) rfl rfl rfl rfl rfl an rfl rfl) ?_
    iterate 11 refine af ?_
    refine Ki (fun mc=> ?_) fun mc=> ?_
    ·have hpl:(plan.length:Int)<=(i:Int):=Zg mc
     iterate 8 refine af ?_
     rw[gM hv hd,Gr,SM hk0 hpl] at hf
     cases hf
    ·have hpl:¬ (plan.length:Int)<=(i:Int):=Zk mc
     have VY:i<plan.length:=by omega
     refine af ?_
     refine aF.aB 11 mixed (by kernel_rfl) (by decide) ?_
     iterate 2 refine af ?_
     refine Kq (aa.aP (g:=gt 0 plan) (aE _) rfl rfl rfl an dF rfl (fun _=>rfl) (by decide) VY) ?_
     refine Kq (Kl (.p (.int .i64 (gt 0 plan i)))) ?_
     iterate 2 refine af ?_
     refine Kq (aa.bD rfl rfl an rfl) ?_
     refine Kq (aa.fN rfl rfl rfl (aI ?_)) ?_
     ·omega
     refine Kq (Kp (cP _ _ _)) ?_
     refine Kq (aa.gW rfl rfl) ?_
     refine af ?_
     refine av.nil ?_
     refine af ?_
     refine Ki (fun tY=> ?_) fun tY=> ?_
     ·have hin:jg (gt 0 plan i) 0 ((p.dies.length:Int) - 1)=false:=by simpa using tY
      iterate 8 refine af ?_
      rw[gM hv hd,Gr,Sg hk0 hpl hin] at hf
      cases hf
     ·have hin:jg (gt 0 plan i) 0 ((p.dies.length:Int) - 1)=true:=by simpa using tY
      obtain⟨Xs,hq1⟩:=fP hin
      have hq:(gt 0 plan i).toNat<p.dies.length:=by omega
      have HM:(gt 0 plan i).toNat<u.length:=by omega
      have hud:=nk.2 _ HM
      have TN:=Ri _ (bN eg.d hq)
      iterate 6 refine af ?_
      refine Kc (aa.aP (g:=gt 0 plan) (aE _) rfl rfl rfl an dF rfl (fun _=>rfl) (by decide) VY) ?_
      refine Kc (Kl (.p (.int .i64 (gt 0 plan i)))) ?_
      refine Kc (aa.kX rfl rfl rfl an dF Xs (by omega)) ?_
      iterate 4 refine af ?_
      refine aF.aB 19 mixed (by kernel_rfl) (by decide) ?_
      iterate 3 refine af ?_
      refine Kq (aa.aP (g:=gt 0 plan) (aE _) rfl rfl rfl an dF rfl (fun _=>rfl) (by decide) VY) ?_
      refine Kq (Kl (.p (.int .i64 (gt 0 plan i)))) ?_
      refine Kq (Kp (rX p (gt 0 plan i) hq Xs)) ?_
      refine af ?_
      refine Kq (aa.nilCheck rfl rfl) ?_
      refine Kq (aa.kT (f:=bZ) (c:=1) (k:=(gt 0 plan i).toNat) (j:=0) (xs:=u) rfl rfl an rfl rfl (by omega) (fun _=>rfl) HM (by decide) (show _=PV.int .i64 (gt 0 u (gt 0 plan i).toNat) from by rw[aE 0 _ HM];rfl)) ?_
      refine af ?_
      refine Kq (aa.nilCheck rfl rfl) ?_
      refine Kq (aa.kT (f:=bZ) (c:=1) (k:=(gt 0 plan i).toNat) (j:=0) (xs:=u) rfl rfl an rfl rfl (by omega) (fun _=>rfl) HM (by decide) (show _=PV.int .i64 (gt 0 u (gt 0 plan i).toNat) from by rw[aE 0 _ HM];rfl)) ?_
      iterate 2 refine af ?_
      refine Kq (aa.add (m:=(gt 0 u (gt 0 plan i).toNat+(gt cO.d l i).len)) rfl rfl rfl ((aI ?_).trans ?_)) ?_
      ·omega
      ·rfl
      iterate 2 refine af ?_
      refine Kq (Kp (Ig p (gt eg.d p.dies (gt 0 plan i).toNat) (gt 0 u (gt 0 plan i).toNat) ((gt 0 u (gt 0 plan i).toNat)+(gt cO.d l i).len) (gt cO.d l i) hsh TN (by omega) (by omega) (Ux _ (bN cO.d hk0)))) ?_
      refine Kq (aa.gW rfl rfl) ?_
      refine av.nil ?_
      refine af ?_
      refine Ki (fun uk=> ?_) fun uk=> ?_
      ·have QG:Av p (gt eg.d p.dies (gt 0 plan i).toNat) (gt 0 u (gt 0 plan i).toNat) (gt cO.d l i)=false:=by first | simpa only[Ku] using uk | (unfold Av;simpa only[Ku] using uk)
       iterate 8 refine af ?_
       rw[gM hv hd,Gr,MA hk0 hpl hin QG] at hf
       cases hf
      ·exact DL
   ·have hi2:i=l.length:=by have h:¬ ((i:Int)<(l.length:Int)):=Zk jb;omega
    subst hi2
    refine aF.exit ?_
    iterate 9 refine af ?_
    refine Ki (fun xQ=> ?_) fun xQ=> ?_
    ·have hlt:(l.length:Int)<(plan.length:Int):=Zg xQ
     iterate 9 refine af ?_
     rw[gM hv hd,Gr,Ex hlt] at hf
     cases hf
    ·have hlt:¬ (l.length:Int)<(plan.length:Int):=Zk xQ
     iterate 11 refine af ?_
     rw[gM hv hd,Gr,LK hlt] at hf
     obtain rfl:u=w:=by simpa using hf
     exact⟨.inr rfl,_,eX.many (vs:=[.row 0 p.dies.length,.p (.int .i64 (l.length:Int)),.p (.int .i64 0)]) rfl ⟨_,_,rfl,rfl,⟨_,_,rfl,rfl,⟨_,_,rfl,rfl,rfl⟩⟩⟩,rfl,rfl⟩
end Di
theorem IT{σ:Nat->Option Nat}{xs:List PV}{e:TypeId}:aH σ (.row (xs.map .p) e)= .row (xs.map .p) e:=by show ai.row (bw σ _) e=_;rw[aX]
theorem K7{H:List ai}{i k:Nat}{l:List Int}{e:TypeId}(h:H[i]? =some (.row ((l.flatMap Di.bZ).map .p) e))(hk:k<l.length):cV H false 1 (.ptr i (k*1))=some (.p (.int .i64 (Di.gt 0 l k))):=by
 simp only[cV,h]
 show((l.flatMap Di.bZ).map V.p)[k*1]? =_
 rw[qu,Re,Ks,Zs,Zb hk,Di.aE 0 k hk]
 rfl
theorem MB(F:bT)(n:List Int)(a:Option Addr)(m c:Nat)(hF:kO F)(q0:0<=nn n 0∧nn n 0<10000000000000):ay Tryz.prog 102 [.ptr 0 0,.p (.int .i64 (nn n 0))] (mO F.b F.aT (.raw a m c)) (Wy F .wear n (.raw a m c)) (XZ F .wear n (.raw a m c)):=by
 have jz:=Rx.cG hF.b.cd
 have tf:=hF.b.dr
 obtain⟨⟨n1,n4⟩,_⟩:=Di.iD hF.p
 obtain⟨u0,O5⟩:=hF.b.ER
 have Pw:=fy O5
 obtain⟨hul,hug⟩:=N8 O5
 have Ux:=(Di.jE (uA O5).2).2
 have hub:0<=eZ F.b (nn n 0)∧eZ F.b (nn n 0)<=1000*(F.b.plan.length:Int):=E1 Ux Pw _ (Zf _)
 refine ay.start (N:=70) Tryz.func102 rfl rfl Kn ?_
 iterate 11 refine af ?_
 refine Kc (Kl (.p (.is (F.aT.dies.flatMap Di.eg.cells) F.aT.dies.length))) ?_
 iterate 2 refine af ?_
 refine aj.ct 17 (b:=_) (dn _ 2) (dj _ 2) rfl rfl rfl rfl rfl rfl rfl an (fun hb=> ?_) (fun hb=> ?_)
 ·exact dW (e:=2) (by show(bp F .wear n).2.2=_;unfold bp;dsimp only;rw[if_pos (by have h:=Zk hb;omega)]) (by decide) (fL _ _ _)
 have hj:¬ (F.aT.dies.length:Int)<=nn n 0:=by have h:=Zg hb;omega
 have hjl:(nn n 0).toNat<u0.length:=by omega
 have Z7:Di.gt 0 u0 (nn n 0).toNat=eZ F.b (nn n 0):=by rw[hug _ hjl,Int.toNat_of_nonneg q0.1]
 have hw:(!Di.jg (nn n 0) 0 ((F.aT.dies.length:Int) - 1)|| !Di.jg (eZ F.b (nn n 0)) 0 8000)=false:=by unfold Di.jg;simp only[PF,Bool.not_eq_false',Zm,Zn];omega
 have hwe:(Di.dY F.aT (nn n 0) (eZ F.b (nn n 0))).2=0:=by rw[Di.D8 hF.p hw]
 obtain⟨⟨x1,x2⟩,x3,x4⟩:=La (p:=F.aT) (j:=nn n 0) (u:=eZ F.b (nn n 0))
 iterate 2 refine af ?_
 refine aF.bU 23 1 [6] [([],false),([],false),([],false),([],false),([],false),([],false),([],false),([],false),([],false),([],false),([],false),([],false),([],false),([],false),([],false),([],false),([6],true),([6],false),([6],false),([],false),([],false),([6],false),([],false)] mixed (by kernel_rfl) (by decide) (by kernel_rfl) rfl (zS _ _ _ _ _) ?_
 refine af ?_
 refine bA.cons 20 rfl rfl rfl (fun _=>(aa.nilCheck rfl rfl)) rfl ?_
 refine af ?_
 refine bA.cons 22 rfl rfl rfl (fun _=>(Kl (.p (Di.cI F.aT)))) rfl ?_
 refine af ?_
 refine bA.cons 24 rfl rfl rfl (fun _=>(aa.nilCheck rfl rfl)) rfl ?_
 iterate 3 refine af ?_
 refine bA.cons 28 rfl rfl rfl (fun _=>(Kl (aW 3 (F.b.au).length))) (cT Kn) ?_
 refine af ?_
 refine bA.cons 30 rfl rfl rfl (fun _=>(aa.nilCheck rfl rfl)) rfl ?_
 iterate 3 refine af ?_
 refine bA.cons 34 rfl rfl rfl (fun _=>(Kl (aW 4 (F.b.plan).length))) (cT Kn) ?_
 refine bA.lay (blk:= .row ((u0.flatMap Di.bZ).map .p) 3) (v:= .tuple [.row 6 F.aT.dies.length,.p (.int .i64 (F.b.au.length:Int)),.p (.int .i64 0)]) (v0:= .tuple [.row 7 F.aT.dies.length,.p (.int .i64 (F.b.au.length:Int)),.p (.int .i64 0)]) 35 6 rfl rfl rfl rfl rfl rfl rfl rfl (fun _=>(aa.Uo (args:=[Di.cI F.aT,Di.eY F.b.au,Di.bh F.b.plan]) 3 7 (Di.FT F.aT F.b.au F.b.plan (ZS n4 (by decide)) (ZS tf (by decide)) (ZS (show F.b.plan.length<=8 by omega) (by decide)) u0 O5) rfl (eT (f:=Di.bZ) (fun _=>rfl) _) rfl rfl rfl rfl (XQ (i:=3) (j:=4) rfl rfl) an)) rfl rfl (by show ai.row (bw _ _) _=_;rw[aX]) ?_
 refine af ?_
 refine bA.cons 36 rfl rfl rfl (fun _=>(aa.extract rfl rfl rfl)) rfl ?_
 refine bA.cons 37 rfl rfl rfl (fun _=>(aa.extract rfl rfl rfl)) rfl ?_
 refine bA.cons 38 rfl rfl rfl (fun _=>(aa.extract rfl rfl rfl)) rfl ?_
 refine bA.cons 5 rfl rfl rfl (fun _=>(aa.assign rfl rfl)) rfl ?_
 refine bA.cons 6 rfl rfl rfl (fun _=>(aa.assign rfl rfl)) rfl ?_
 refine bA.nil ?_
 iterate 5 refine af ?_
 refine Kc (Kp (j6 0 rfl)) ?_
 iterate 2 refine af ?_
 refine aF.xO (H':=[cB F.b F.aT (.raw a m c) 1 2 3 4 5,c7 F.b.aq,cY F.b.ag,c8 F.b.au,bu F.b.plan,bu F.b.b9,.row ((u0.flatMap Di.bZ).map .p) 3]) rfl ?_
 refine aF.bU 15 1 [7] [([],false),([],false),([],false),([],false),([],false),([],false),([],false),([],false),([],false),([],false),([],false),([],false),([],false),([7],true),([7],true)] mixed (by kernel_rfl) (by decide) (by kernel_rfl) rfl (by simp[cB,mO,bR,bK,b8,dV,iq,fA,bC,IT,cT,c7,cY,c8,bu,di,Di.bJ.cells]) ?_
 refine af ?_
 refine bA.cons 43 rfl rfl rfl (fun _=>(aa.nilCheck rfl rfl)) rfl ?_
 refine af ?_
 refine bA.cons 45 rfl rfl rfl (fun _=>(Kl (.p (Di.cI F.aT)))) rfl ?_
 iterate 3 refine af ?_
 refine bA.cons 49 rfl rfl rfl (fun _=>(aa.kX rfl rfl rfl an dF q0.1 (by omega))) rfl ?_
 refine bA.cons 50 rfl rfl rfl (fun _=>(aa.load (v:= .p (.int .i64 (eZ F.b (nn n 0)))) rfl rfl an (by rw[<- Z7];exact K7 rfl hjl))) rfl ?_
 refine bA.cons 51 rfl rfl rfl (fun _=>(Kp (Di.Hh F.aT (nn n 0) (eZ F.b (nn n 0)) (ZS n4 (by decide))))) rfl ?_
 refine af ?_
 refine bA.cons 52 rfl rfl rfl (fun _=>(aa.extract rfl rfl rfl)) rfl ?_
 refine bA.cons 53 rfl rfl rfl (fun _=>(aa.extract rfl rfl rfl)) rfl ?_
 refine bA.lay (v0:= .ptr 8 0) 8 7 rfl rfl rfl rfl rfl rfl rfl rfl (fun _=>(aa.aO rfl an rfl)) rfl rfl rfl ?_
 refine bA.put (blk:= .cells [.p (.int .i64 (Di.dY F.aT (nn n 0) (eZ F.b (nn n 0))).1.1),.p (.int .i64 (Di.dY F.aT (nn n 0) (eZ F.b (nn n 0))).1.2)] 24) 7 rfl rfl rfl rfl (fun _=>(aa.store rfl rfl rfl rfl rfl an rfl rfl)) rfl rfl ?_
 refine bA.nil ?_
 iterate 5 refine af ?_
 refine Kc (Kp (j6 (Di.dY F.aT (nn n 0) (eZ F.b (nn n 0))).2 (by rw[hwe];rfl))) ?_
 iterate 2 refine af ?_
 refine aF.aB 15 mixed (by kernel_rfl) (by decide) ?_
 refine Kq (aa.aG rfl rfl mh) ?_
 iterate 2 refine af ?_
 refine Kq (aa.kX rfl rfl rfl an dF q0.1 (by omega)) ?_
 refine Kq (aa.load (v:= .p (.int .i64 (eZ F.b (nn n 0)))) rfl rfl an (by rw[<- Z7];exact K7 rfl hjl)) ?_
 refine Kq (aa.aG rfl rfl ku) ?_
 refine af ?_
 refine Kq (Kl (.p (.int .i64 (Di.dY F.aT (nn n 0) (eZ F.b (nn n 0))).1.1))) ?_
 refine Kq (aa.aG rfl rfl ku) ?_
 refine af ?_
 refine Kq (Kl (.p (.int .i64 (Di.dY F.aT (nn n 0) (eZ F.b (nn n 0))).1.2))) ?_
 refine Kq (aa.aG rfl rfl ku) ?_
 refine Kq (aa.aR rfl an (by decide) rfl rfl rfl) ?_
 refine Kq (Kp (de [.str (Vb.t .wear),.num (eZ F.b (nn n 0)),.num (Di.dY F.aT (nn n 0) (eZ F.b (nn n 0))).1.1,.num (Di.dY F.aT (nn n 0) (eZ F.b (nn n 0))).1.2] Kn Kn (fE (by decide) (ew ⟨hub.1,by omega⟩ (ew ⟨x1,by omega⟩ (ew ⟨x3,by omega⟩ gr)))))) ?_
 refine af ?_
 refine av.nil ?_
 iterate 2 refine af ?_
 refine iR.one rfl rfl (xU (F2:=F) (r:=bn (Vb.t .wear) [eZ F.b (nn n 0),(Di.dY F.aT (nn n 0) (eZ F.b (nn n 0))).1.1,(Di.dY F.aT (nn n 0) (eZ F.b (nn n 0))).1.2]) (by unfold bp;dsimp only;rw[if_neg hj]) (by rw[fC];rfl) ⟨⟨1,2,3,4,5,by decide,rfl,rfl,rfl,rfl,rfl,rfl⟩,⟨ZP rfl,by intro j y h1 h2 h3;obtain rfl | rfl | rfl | rfl | rfl:j=1∨j=2∨j=3∨j=4∨j=5:=(by omega);all_goals first | exact .inl (Zy (show some ai.dead=some y from h3)).symm | exact .inr h3⟩⟩)
theorem Ul:VC .wear 101:=by
 intro F n a m c hF hl hn
 have jz:=Rx.cG hF.b.cd
 have tR:=hF.b.sk
 have tf:=hF.b.dr
 have q0:0<=nn n 0∧nn n 0<10000000000000:=hn _ (Di.bN 0 (show 0<n.length by rw[hl];decide))
 refine ay.start (N:=10) Tryz.func101 rfl rfl Kn ?_
 iterate 8 refine af ?_
 refine Kc (aa.aP (g:=Di.gt 0 n) (k:=0) (Di.aE _) rfl rfl rfl an dF rfl (fun _=>rfl) (by decide) (by rw[hl];decide)) ?_
 refine Kc (Kl (.p (.int .i64 (nn n 0)))) ?_
 refine aj.dH 9 (MB F n a m c hF q0) rfl rfl rfl rfl rfl rfl rfl an (fun y H2 iz=> ?_) (fun v H2 iz=> ?_)
 ·exact⟨_,rfl,iz⟩
 exact wD
end Go.Proofs.YtibffijhebobmaaGreatDoor
end
