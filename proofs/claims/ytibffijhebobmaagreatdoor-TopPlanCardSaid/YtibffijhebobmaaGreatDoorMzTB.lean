/-
 The program of chapter 15: what verbs do (slats, pencils; questions).
 The program of chapter 15: what verbs do (sacks, calls).
 Chapter 15, the program: how many bits a set has, as a processor counts them.
 The program of chapter 15: what verbs do (complaints).
 The program of chapter 15: what verbs do (leads).
 Chapter 15, the program: what was drawn through each die, as a plan that can be followed leaves it.
 The program of chapter 15: what verbs do (dies).
-/
import Derived.Test.YtibffijhebobmaaGreatDoorMzTF
import Derived.Test.YtibffijhebobmaaGreatDoorMzTA
import Derived.Test.YtibffijhebobmaaGreatDoorMzTC
import Derived.Test.YtibffijhebobmaaGreatDoorMzTR
import Derived.Test.YtibffijhebobmaaGreatDoorMzTD
import Derived.Test.YtibffijhebobmaaGreatDoorFaTF
import Derived.Test.YtibffijhebobmaaGreatDoorMzTP
import Derived.Test.YtibffijhebobmaaGreatDoorMzTZ
theorem E7{A:Prop}(h:A:=by
 exact⟨⟨1,6,3,4,5,by decide,rfl,rfl,rfl,rfl,rfl,rfl⟩,⟨ZR rfl,by intro j y h1 h2 h3;obtain rfl | rfl | rfl | rfl | rfl:j=1∨j=2∨j=3∨j=4∨j=5:=(by omega);all_goals first | exact .inl (ZD (show some ah.dead=some y from h3)).symm | exact .inr h3⟩⟩):A:=h
theorem CL{A:Prop}(h:A:=by
 exact⟨⟨1,2,3,4,5,by decide,rfl,rfl,rfl,rfl,rfl,rfl⟩,⟨ZR rfl,by intro j y h1 h2 h3;obtain rfl | rfl | rfl | rfl | rfl:j=1∨j=2∨j=3∨j=4∨j=5:=(by omega);all_goals first | exact .inl (ZD (show some ah.dead=some y from h3)).symm | exact .inr h3⟩⟩):A:=h
theorem vS{A:Prop}(h:A:=by
 obtain⟨z1,rfl,z3⟩:=iw
 iterate 3 refine af ?_
 exact iF.one rfl rfl ⟨z1,rfl,z3⟩):A:=h
theorem vC{A:Prop}(h:A:=by
 rcases Zr.1 hp with rfl | hp
 ·exact h
 ·exact hl p hp):A:=h
set_option linter.unusedSimpArgs false
set_option linter.unusedVariables false
section
set_option maxRecDepth 100000
set_option maxHeartbeats 4000000
namespace Go.Proofs.YtibffijhebobmaaGreatDoor
open Go.AF
def U9(b b2:bN)(p:Di.bn)(um:V)(H:List ah):Prop:=At6 b2 p um H∧DP b p um H
theorem Hu(b:bN)(p:Di.bn)(um:V):U9 b b p um (mQ b p um):=⟨TJ b p um,A5 b p um⟩
def Wr(F:cW)(v:Vb)(n:List Int)(um:V):V->List ah->Prop:=fun r H2=>(bH F v n).2.2=0∧r= .p (.str (sB (bH F v n).2.1))∧U9 F.b (bH F v n).1.b F.aV um H2
def Yb(F:cW)(v:Vb)(n:List Int)(um:V):PV->List ah->Prop:=fun y H2=>(bH F v n).2.2≠0∧y= .iface 94 (.agg [.int .i64 (bH F v n).2.2])∧Uh F.b F.aV um H2
def VC(v:Vb)(g:FuncId):Prop:=∀(F:cW) (n:List Int) (a:Option Addr) (m c:Nat),mJ F->n.length=v.many->(∀ x∈n,0<=x∧x<10000000000000)->
 av Tryz.prog g [.ptr 0 0,.p (Di.bw n)] (mQ F.b F.aV (.raw a m c)) (Wr F v n (.raw a m c)) (Yb F v n (.raw a m c))
theorem ec{F:cW}{v:Vb}{n:List Int}{um:V}{H2:List ah}{e:Int}(h:(bH F v n).2.2=e)(he:e≠0)(hp:Uh F.b F.aV um H2):∃ y,V.p (.iface 94 (.agg [.int .i64 e]))= .p y∧Yb F v n um y H2:=⟨_,rfl,by rw[h];exact he,by rw[h],hp⟩
theorem x8{F:cW}{v:Vb}{n:List Int}{um:V}{H2:List ah}{r:Bs}{F2:cW}{t:Bs}(h:bH F v n=(F2,r,0))(ht:t=r)(hp:U9 F.b F2.b F.aV um H2):Wr F v n um (.p (.str (sB t))) H2:=by
 unfold Wr
 rw[h,ht]
 exact⟨rfl,rfl,hp⟩
theorem Qs{H:List ah}{k i:Nat}{l:List Ck.Sk}(h:H[i]? =some (dn l)):bU H (k+1) (aZ i l.length)=some (Ck.ic l):=qU h fun h=>by rw[RV.1 h];rfl
theorem Px{H:List ah}{k i:Nat}{l:List Rx.cx}(h:H[i]? =some (cV l)):bU H (k+1) (aZ i l.length)=some (Rx.ku l):=qU h fun h=>by rw[RV.1 h];rfl
theorem PG{H:List ah}{k i:Nat}{l:List Di.aH}(h:H[i]? =some (de l)):bU H (k+1) (aZ i l.length)=some (Di.cv l):=qU h fun h=>by rw[RV.1 h];rfl
theorem JM{H:List ah}{k i:Nat}{l:List Int}(h:H[i]? =some (bz l)):bU H (k+1) (aZ i l.length)=some (Di.bw l):=qU h fun h=>by rw[RV.1 h];rfl
theorem Z2{H:List ah}{k i:Nat}{l:List Rx.cx}{xs:List PV}(h:H[i]? =some (cV l)):cT (bU H (k+1)) (aZ i l.length::xs.map .p)=some (Rx.ku l::xs):=by simp only[cT,Px h,wM]
theorem hbS{H:List ah}{k i:Nat}{l:List Ck.Sk}{xs:List PV}(h:H[i]? =some (dn l)):cT (bU H (k+1)) (aZ i l.length::xs.map .p)=some (Ck.ic l::xs):=by simp only[cT,Qs h,wM]
theorem WY{H:List ah}{k i j:Nat}{x:PV}{l:List Di.aH}{q:List Int}(h:H[i]? =some (de l))(h2:H[j]? =some (bz q)):cT (bU H (k+1)) [.p x,aZ i l.length,aZ j q.length]=some [x,Di.cv l,Di.bw q]:=by simp only[cT,PG h,JM h2,NC]
theorem fD{w:Bs}{l:List iU}(h:w.length<=100)(hl:∀ p∈l,p.ok):∀ p∈iU.str w::l,p.ok:=fun p hp=>by
 exact vC
theorem eG{k:Int}{l:List iU}(h:0<=k∧k<10000000000000)(hl:∀ p∈l,p.ok):∀ p∈iU.num k::l,p.ok:=fun p hp=>by
 exact vC
theorem F0{q:List Int}{l:List iU}(h:q.length<=100∧∀ k∈q,0<=k∧k<10000000000000)(hl:∀ p∈l,p.ok):∀ p∈iU.Gh q::l,p.ok:=fun p hp=>by
 exact vC
theorem gf:∀ p∈([]:List iU),p.ok:=fun p hp=>by cases hp
theorem US:VC .slat 86:=by
 intro F n a m c hF hl hn
 have jM:=Rx.dc hF.b.cd
 have ud:=hF.b.sk
 have sO:=hF.b.dr
 refine av.start (N:=11) Tryz.func86 rfl rfl Kn ?_
 iterate 6 refine af ?_
 refine Kc (aa.aG rfl rfl lN) ?_
 refine af ?_
 refine aj.eY 7 (zE F.b F.aV a m c 0 0) rfl rfl rfl rfl rfl rfl rfl an (fun y H2 iw=> ?_) (fun v H2 iw=> ?_)
 ·obtain⟨q1,rfl,rfl⟩:=iw
  exact ec (e:=9) (by show(bH F .slat n).2.2=_;unfold bH;dsimp only;rw[if_pos (by omega)]) (by decide) (fG _ _ _)
 obtain⟨hlt,rfl,rfl⟩:=iw
 refine Kc (aa.aG rfl rfl kn) ?_
 refine Kc (aa.aS rfl an (by decide) rfl rfl rfl) ?_
 refine Kc (Kp (dy [.str jQ,.num (F.b.ai.length:Int)] Kn Kn (fD (by decide) (eG (by omega) gf)))) ?_
 iterate 3 refine af ?_
 refine iF.one rfl rfl (x8 (F2:={F with b:=F.b.fU ⟨0,0⟩}) (r:=aY jQ [(F.b.ai.length:Int)]) (by unfold bH;dsimp only;rw[if_neg (by omega)]) (by rw[eJ];rfl) ?_)
 exact E7
theorem VV(b:bN)(p:Di.bn)(a:Option Addr)(m c:Nat)(x y:Int)(hlt:b.ai.length<24):ax Tryz.prog 87 [.ptr 0 0,.p (.int .i64 x),.p (.int .i64 y)] (mQ b p (.raw a m c)) (fun v H2=>v= .p (.int .i64 (b.ai.length:Int))∧H2=[cH (b.fU ⟨x,y⟩) p (.raw a m c) 1 6 3 4 5,dn b.au,.dead,de b.aq,bz b.plan,bz b.bZ,cV (b.fU ⟨x,y⟩).ai]):=
 ((zE b p a m c x y).mono (Y9:=fun v H2=>v= .p (.int .i64 (b.ai.length:Int))∧H2=[cH (b.fU ⟨x,y⟩) p (.raw a m c) 1 6 3 4 5,dn b.au,.dead,de b.aq,bz b.plan,bz b.bZ,cV (b.fU ⟨x,y⟩).ai]) (YA:=fun _ _=>False) (fun v H2 ⟨_,h1,h2⟩=>⟨h1,h2⟩) (fun y H2 ⟨h1,_⟩=>h1 hlt)).toC (fun _ _ h=>h)
theorem P0:VC .blame 93:=by
 intro F n a m c hF hl hn
 have jM:=Rx.dc hF.b.cd
 have ud:=hF.b.sk
 have sO:=hF.b.dr
 refine av.start (N:=37) Tryz.func93 rfl rfl Kn ?_
 iterate 5 refine af ?_
 refine aF.aD 24 mixed (by kernel_rfl) (by decide) ?_
 refine af ?_
 refine Kq (aa.nilCheck rfl rfl) ?_
 iterate 3 refine af ?_
 refine Kq (Kl (aZ 2 F.b.ai.length)) ?_
 refine af ?_
 refine Kq (aa.nilCheck rfl rfl) ?_
 iterate 3 refine af ?_
 refine Kq (Kl (.p (.int .i64 (F.b.bad:Int)))) ?_
 refine af ?_
 refine Kq (aa.nilCheck rfl rfl) ?_
 iterate 3 refine af ?_
 refine Kq (Kl (.p (.int .i64 (F.b.good:Int)))) ?_
 refine Kq (aa.yU 3 (Rx.rR F.b.ai F.b.bad F.b.good (ZW jM (by decide))) rfl rfl rfl rfl rfl (Z2 (i:=2) (xs:=[.int .i64 (F.b.bad:Int),.int .i64 (F.b.good:Int)]) rfl) an) ?_
 refine af ?_
 refine Kq (aa.extract rfl rfl rfl) ?_
 refine Kq (aa.extract rfl rfl rfl) ?_
 iterate 2 refine af ?_
 refine aA.nil ?_
 iterate 4 refine af ?_
 refine aj.cy 30 (b:=(decide ((Rx.iY F.b.ai F.b.bad F.b.good)=0))) (j7 (Rx.iY F.b.ai F.b.bad F.b.good)) (oB (Rx.iY F.b.ai F.b.bad F.b.good)) rfl rfl rfl rfl rfl rfl rfl an (fun he=> ?_) (fun he=> ?_)
 ·have hne:Rx.iY F.b.ai F.b.bad F.b.good≠0:=Zl he
  exact ec (e:=Rx.iY F.b.ai F.b.bad F.b.good) (by show(bH F .blame n).2.2=_;unfold bH;dsimp only;rw[if_pos hne]) hne (fG _ _ _)
 have hz:¬ Rx.iY F.b.ai F.b.bad F.b.good≠0:=fun h=>h (Zk he)
 iterate 3 refine af ?_
 refine Kc (aa.aG rfl rfl lN) ?_
 refine af ?_
 refine Kc (Kp (pH (Rx.lE F.b.ai F.b.bad F.b.good) (Y8 hF.b.cd))) ?_
 refine Kc (aa.aG rfl rfl Iy) ?_
 refine Kc (aa.aS rfl an (by decide) rfl rfl rfl) ?_
 refine Kc (Kp (dy [.str (Vb.t .blame),.Gh (jb (Rx.lE F.b.ai F.b.bad F.b.good))] Kn Kn (fD (by decide) (F0 ⟨gu _,si _⟩ gf)))) ?_
 iterate 3 refine af ?_
 refine iF.one rfl rfl (x8 (F2:=F) (r:=aY (Vb.t .blame) (jb (Rx.lE F.b.ai F.b.bad F.b.good))) (by unfold bH;dsimp only;rw[if_neg hz]) (by rw[eJ];simp[jJ,iU.w]) (Hu _ _ _))
theorem VS:VC .from_ 99:=by
 intro F n a m c hF hl hn
 have jM:=Rx.dc hF.b.cd
 have ud:=hF.b.sk
 have sO:=hF.b.dr
 have q0:0<=nn n 0∧nn n 0<10000000000000:=hn _ (Di.bC 0 (show 0<n.length by rw[hl];decide))
 refine av.start (N:=28) Tryz.func99 rfl rfl Kn ?_
 iterate 5 refine af ?_
 refine aF.aD 15 mixed (by kernel_rfl) (by decide) ?_
 refine af ?_
 refine Kq (aa.nilCheck rfl rfl) ?_
 iterate 3 refine af ?_
 refine Kq (Kl (aZ 2 F.b.ai.length)) ?_
 refine af ?_
 refine Kq (aa.aN (g:=Di.gt 0 n) (k:=0) (Di.aC _) rfl rfl rfl an dH rfl (fun _=>rfl) (by decide) (by rw[hl];decide)) ?_
 refine Kq (Kl (.p (.int .i64 (nn n 0)))) ?_
 refine Kq (aa.yU 3 (Rx.Q7 F.b.ai (nn n 0) (ZW jM (by decide))) rfl rfl rfl rfl rfl (Z2 (i:=2) (xs:=[.int .i64 (nn n 0)]) rfl) an) ?_
 refine af ?_
 refine Kq (aa.extract rfl rfl rfl) ?_
 refine Kq (aa.extract rfl rfl rfl) ?_
 iterate 2 refine af ?_
 refine aA.nil ?_
 iterate 4 refine af ?_
 refine aj.cy 21 (b:=(decide ((Rx.fY F.b.ai (nn n 0))=0))) (j7 (Rx.fY F.b.ai (nn n 0))) (oB (Rx.fY F.b.ai (nn n 0))) rfl rfl rfl rfl rfl rfl rfl an (fun he=> ?_) (fun he=> ?_)
 ·have hne:Rx.fY F.b.ai (nn n 0)≠0:=Zl he
  exact ec (e:=Rx.fY F.b.ai (nn n 0)) (by show(bH F .from_ n).2.2=_;unfold bH;dsimp only;rw[if_pos hne]) hne (fG _ _ _)
 have hz:¬ Rx.fY F.b.ai (nn n 0)≠0:=fun h=>h (Zk he)
 iterate 3 refine af ?_
 refine Kc (aa.aG rfl rfl lN) ?_
 refine af ?_
 refine Kc (Kp (pH (Rx.mq F.b.ai (Rx.b8 F.b.ai) (nn n 0)) (QB hF.b.cd _))) ?_
 refine Kc (aa.aG rfl rfl Iy) ?_
 refine Kc (aa.aS rfl an (by decide) rfl rfl rfl) ?_
 refine Kc (Kp (dy [.str (Vb.t .from_),.Gh (jb (Rx.mq F.b.ai (Rx.b8 F.b.ai) (nn n 0)))] Kn Kn (fD (by decide) (F0 ⟨gu _,si _⟩ gf)))) ?_
 iterate 3 refine af ?_
 refine iF.one rfl rfl (x8 (F2:=F) (r:=aY (Vb.t .from_) (jb (Rx.mq F.b.ai (Rx.b8 F.b.ai) (nn n 0)))) (by unfold bH;dsimp only;rw[if_neg hz]) (by rw[eJ];simp[jJ,iU.w]) (Hu _ _ _))
theorem Ld:VC .pencil 89:=by
 intro F n a m c hF hl hn
 have jM:=Rx.dc hF.b.cd
 have ud:=hF.b.sk
 have sO:=hF.b.dr
 have q0:0<=nn n 0∧nn n 0<10000000000000:=hn _ (Di.bC 0 (show 0<n.length by rw[hl];decide))
 have q1:0<=nn n 1∧nn n 1<10000000000000:=hn _ (Di.bC 0 (show 1<n.length by rw[hl];decide))
 have q2:0<=nn n 2∧nn n 2<10000000000000:=hn _ (Di.bC 0 (show 2<n.length by rw[hl];decide))
 obtain⟨k0,e0⟩:=V8 q0.1
 obtain⟨k1,e1⟩:=V8 q1.1
 refine av.start (N:=43) Tryz.func89 rfl rfl Kn ?_
 iterate 7 refine af ?_
 refine aj.eY 6 (AE F.b F.aV a m c) rfl rfl rfl rfl rfl rfl rfl an (fun y H2 iw=> ?_) (fun v H2 iw=> ?_)
 ·obtain⟨q1,rfl,rfl⟩:=iw
  exact ec (e:=9) (by show(bH F .pencil n).2.2=_;unfold bH;dsimp only;rw[if_pos (by omega)]) (by decide) (fG _ _ _)
 obtain⟨hlt,rfl,rfl⟩:=iw
 iterate 5 refine af ?_
 refine Kc (aa.aN (g:=Di.gt 0 n) (k:=0) (Di.aC _) rfl rfl rfl an dH rfl (fun _=>rfl) (by decide) (by rw[hl];decide)) ?_
 refine Kc (Kl (.p (.int .i64 (nn n 0)))) ?_
 refine Kc (aa.gB rfl rfl rfl rfl an (uw F.b F.aV a m c (nn n 0))) ?_
 refine af ?_
 refine Kg 13 12 0 rfl (fun h=>(aa.move rfl rfl)) ?_
 refine Kg 14 12 1 rfl (fun h=>(aa.move rfl rfl)) ?_
 refine Kh 15 12 14 rfl rfl rfl rfl (fun h=>(aa.aN (g:=Di.gt 0 n) (k:=1) (Di.aC _) rfl rfl rfl an dH rfl (fun _=>rfl) (by decide) (by rw[hl];decide))) ?_
 refine Kh 16 12 15 rfl rfl rfl rfl (fun h=>(Kl (.p (.int .i64 (nn n 1))))) ?_
 refine aj.g 17 12 rfl rfl rfl rfl rfl rfl rfl [(13,_),(16,_)] (fun h=>And.intro (.inr ⟨_,rfl,h⟩) (And.intro (.inr ⟨_,rfl,h⟩) (trivial))) (fun h=>(aa.gB rfl rfl rfl rfl an (uw F.b F.aV a m c (nn n 1)))) ?_
 refine Kc (aa.fH rfl rfl rfl ?_) ?_
 ·exact az
 refine aj.cy 19 (b:=_) (dD _ 2) (dG _ 2) rfl rfl rfl rfl rfl rfl rfl an (fun hb=> ?_) (fun hb=> ?_)
 ·exact ec (e:=2) (by show(bH F .pencil n).2.2=_;unfold bH;dsimp only;rw[if_neg (by omega),if_pos (by simp only[Bool.and_eq_false_iff,Wk] at hb;omega)]) (by decide) (fG _ _ _)
 have hi:¬ ((F.b.ai.length:Int)<=nn n 0∨(F.b.ai.length:Int)<=nn n 1):=by simp only[Zn,Zq] at hb;omega
 iterate 4 refine af ?_
 refine Kc (aa.aN (g:=Di.gt 0 n) (k:=2) (Di.aC _) rfl rfl rfl an dH rfl (fun _=>rfl) (by decide) (by rw[hl];decide)) ?_
 refine Kc (Kl (.p (.int .i64 (nn n 2)))) ?_
 refine af ?_
 refine aj.cy 24 (b:=_) (dD _ 1) (dG _ 1) rfl rfl rfl rfl rfl rfl rfl an (fun iu=> ?_) (fun iu=> ?_)
 ·exact ec (e:=1) (by show(bH F .pencil n).2.2=_;unfold bH;dsimp only;rw[if_neg (by omega),if_neg hi,if_pos (by have h:=Zl iu;omega)]) (by decide) (fG _ _ _)
 have hm:¬ 1048576<nn n 2:=by have h:=Zk iu;omega
 have hp0:=V4 (show k0<=24 by omega)
 have hp1:=V4 (show k1<=24 by omega)
 iterate 2 refine af ?_
 refine aF.j9 19 ([cH (F.b.fU ⟨((1*2^k0||| 1*2^k1:Nat):Int),nn n 2⟩) F.aV (.raw a m c) 1 6 3 4 5,dn F.b.au,.dead,de F.b.aq,bz F.b.plan,bz F.b.bZ,cV (F.b.fU ⟨((1*2^k0||| 1*2^k1:Nat):Int),nn n 2⟩).ai]) mixed (by kernel_rfl) (by decide) ?_
 refine aJ.cons 25 rfl rfl rfl (aa.aG rfl rfl lN) (aa.aG rfl rfl lN) ?_
 refine aJ.cons 26 rfl rfl rfl (aa.move rfl rfl) (aa.move rfl rfl) ?_
 refine aJ.cons 27 rfl rfl rfl (aa.move rfl rfl) (aa.move rfl rfl) ?_
 refine aJ.cons 28 rfl rfl rfl (aa.aN (g:=Di.gt 0 n) (k:=0) (Di.aC _) rfl rfl rfl an dH rfl (fun _=>rfl) (by decide) (by rw[hl];decide)) (aa.aN (g:=Di.gt 0 n) (k:=0) (Di.aC _) rfl rfl rfl an dH rfl (fun _=>rfl) (by decide) (by rw[hl];decide)) ?_
 refine aJ.cons 29 rfl rfl rfl (aa.load (v:= .p (.int .i64 ((k0:Nat):Int))) rfl rfl an (by rw[<- e0];rfl)) (aa.load (v:= .p (.int .i64 ((k0:Nat):Int))) rfl rfl an (by rw[<- e0];rfl)) ?_
 refine aJ.cons 30 rfl rfl rfl (aa.ri 1 k0 rfl rfl rfl (by show _<=(64:Nat);omega) (by show _<=(9223372036854775807:Int);rw[ZO];omega)) (aa.ri 1 k0 rfl rfl rfl (by show _<=(64:Nat);omega) (by show _<=(9223372036854775807:Int);rw[ZO];omega)) ?_
 refine aJ.cons 31 rfl rfl rfl (aa.move rfl rfl) (aa.move rfl rfl) ?_
 refine aJ.cons 32 rfl rfl rfl (aa.aN (g:=Di.gt 0 n) (k:=1) (Di.aC _) rfl rfl rfl an dH rfl (fun _=>rfl) (by decide) (by rw[hl];decide)) (aa.aN (g:=Di.gt 0 n) (k:=1) (Di.aC _) rfl rfl rfl an dH rfl (fun _=>rfl) (by decide) (by rw[hl];decide)) ?_
 refine aJ.cons 33 rfl rfl rfl (aa.load (v:= .p (.int .i64 ((k1:Nat):Int))) rfl rfl an (by rw[<- e1];rfl)) (aa.load (v:= .p (.int .i64 ((k1:Nat):Int))) rfl rfl an (by rw[<- e1];rfl)) ?_
 refine aJ.cons 34 rfl rfl rfl (aa.ri 1 k1 rfl rfl rfl (by show _<=(64:Nat);omega) (by show _<=(9223372036854775807:Int);rw[ZO];omega)) (aa.ri 1 k1 rfl rfl rfl (by show _<=(64:Nat);omega) (by show _<=(9223372036854775807:Int);rw[ZO];omega)) ?_
 refine aJ.cons 35 rfl rfl rfl (aa.Wq (1*2^k0) (1*2^k1) rfl rfl rfl (by show _<=(9223372036854775807:Int);rw[ZO];omega) (by show _<=(9223372036854775807:Int);rw[ZO];omega) (by have ho:=PJ (n:=62) (x:=1*2^k0) (y:=1*2^k1) (by omega) (by omega);show _<=(9223372036854775807:Int);omega)) (aa.Wq (1*2^k0) (1*2^k1) rfl rfl rfl (by show _<=(9223372036854775807:Int);rw[ZO];omega) (by show _<=(9223372036854775807:Int);rw[ZO];omega) (by have ho:=PJ (n:=62) (x:=1*2^k0) (y:=1*2^k1) (by omega) (by omega);show _<=(9223372036854775807:Int);omega)) ?_
 refine aJ.cons 36 rfl rfl rfl (aa.move rfl rfl) (aa.move rfl rfl) ?_
 refine aJ.cons 37 rfl rfl rfl (aa.aN (g:=Di.gt 0 n) (k:=2) (Di.aC _) rfl rfl rfl an dH rfl (fun _=>rfl) (by decide) (by rw[hl];decide)) (aa.aN (g:=Di.gt 0 n) (k:=2) (Di.aC _) rfl rfl rfl an dH rfl (fun _=>rfl) (by decide) (by rw[hl];decide)) ?_
 refine aJ.cons 38 rfl rfl rfl (Kl (.p (.int .i64 (nn n 2)))) (Kl (.p (.int .i64 (nn n 2)))) ?_
 refine aJ.lay 39 rfl rfl rfl (aa.gB rfl rfl rfl rfl an (VV F.b F.aV a m c ((1*2^k0||| 1*2^k1:Nat):Int) (nn n 2) hlt)) ?_
 refine aJ.cons 40 rfl rfl rfl (aa.aG rfl rfl kn) (aa.aG rfl rfl kn) ?_
 refine aJ.cons 41 rfl rfl rfl (aa.aS rfl an (by decide) rfl rfl rfl) (aa.aS rfl an (by decide) rfl rfl rfl) ?_
 refine aJ.cons 42 rfl rfl rfl (Kp (dy [.str jQ,.num (F.b.ai.length:Int)] Kn Kn (fD (by decide) (eG (by omega) gf)))) (Kp (dy [.str jQ,.num (F.b.ai.length:Int)] Kn Kn (fD (by decide) (eG (by omega) gf)))) ?_
 refine aJ.cons 4 rfl rfl rfl (aa.assign rfl rfl) (aa.assign rfl rfl) ?_
 refine aJ.nil ?_
 iterate 2 refine af ?_
 refine iF.one rfl rfl (x8 (F2:={F with b:=F.b.fU ⟨((1*2^k0||| 1*2^k1:Nat):Int),nn n 2⟩}) (r:=aY jQ [(F.b.ai.length:Int)]) (by unfold bH;dsimp only;rw[if_neg (by omega),if_neg hi,if_neg hm,HR e0 e1]) (by rw[eJ];rfl) ?_)
 exact E7
theorem qC(l:List Int):l.flatMap Di.bY=l.map (PV.int .i64):=by
 induction l with
 | nil=>rfl
 | cons x l ih=>rw[ZH,ih];rfl
theorem qz(n:List Int)(l k:Nat):((n.flatMap Di.bY).drop (l*1)).take (k*1)=((n.drop l).take k).flatMap Di.bY:=by
 rw[qC,qC,JW,JW,List.map_take,List.map_drop]
theorem M7(n:List Int)(l k j:Nat)(hj:j<k):nn ((n.drop l).take k) j=nn n (l+j):=by
 unfold nn Di.gt
 rw[Ze,Ze,SW hj,St]
theorem uj(n:List Int)(l k:Nat)(h:l+k<=n.length)(h2:2<=k):Pure Tryz.prog 140 [.is (((n.drop l).take k).flatMap Di.bY) k] (.agg [.int .i64 (nn n l),.int .i64 (nn n (l+1))]):=by
 have hk:k=((n.drop l).take k).length:=by rw[ZU,KP];omega
 have h3:=QT ((n.drop l).take k) k hk (by omega)
 rwa [M7 n l k 0 (by omega),M7 n l k 1 (by omega)] at h3
theorem IA(l:List Ck.Sk)(b:List Ck.Tk)(hl:l.length<=Ck.b6)(hb:b.length<=Ck.b6):Pure Tryz.prog 141 [Ck.ic l,Ck.wH b] (.tuple [.agg [.int .i64 (shr l b).1.1,.int .i64 (shr l b).1.2],.int .i64 (shr l b).2]):=by
 have h:=Ck.K7 l b hl hb
 rwa [W2] at h
theorem At(b:bN)(p:Di.bn)(a:Option Addr)(m c:Nat):(mQ b p (.raw a m c)).map (aE (sg 6 []))=mQ b p (.raw a m c):=(by simp[cH,mQ,bS,bK,cj,ef,ia,fA,bE,cU,dn,cV,de,bz,dF,Di.bn.cells])
theorem flS(b:bN)(p:Di.bn)(um:V)(x:Ck.Sk)(c:Int)(i1 i2 i3 i4 i5:Nat):ah.cells ([.row i1 (b.au.length+1),aZ i2 b.ai.length,aZ i3 b.aq.length,aZ i4 b.plan.length,.p (.int .i64 (b.bad:Int)),.p (.int .i64 (b.good:Int)),.row i5 (b.bZ.length+1)]++p.cells.map .p++[um,.p (.bool true)]) 87=cH {b with au:=b.au++[x],bZ:=b.bZ++[c]} p um i1 i2 i3 i4 i5:=by
 unfold cH dF
 rw[<- lf i1 b.au x,<- lf i5 b.bZ c]
theorem VU:VC .call 97:=by
 intro F n a m c hF hl hn
 have jM:=Rx.dc hF.b.cd
 have ud:=hF.b.sk
 have sO:=hF.b.dr
 obtain⟨⟨s1,s2⟩,s3,s4⟩:=KZ (bad:=(F.b.bad:Int)) (good:=(F.b.good:Int)) hF.b.cd
 refine av.start (N:=45) Tryz.func97 rfl rfl Kn ?_
 iterate 5 refine af ?_
 refine aF.bQ 26 1 [6] [([],false),([],false),([],false),([],false),([],false),([],false),([],false),([],false),([],false),([],false),([],false),([],false),([],false),([],false),([],false),([],false),([],false),([],false),([],false),([],false),([],false),([],false),([],false),([6],true),([],false),([6],true)] mixed (by kernel_rfl) (by decide) (by kernel_rfl) rfl (At _ _ _ _ _) ?_
 refine af ?_
 refine br.cons 10 rfl rfl rfl (fun _=>(aa.nilCheck rfl rfl)) rfl ?_
 iterate 3 refine af ?_
 refine br.cons 14 rfl rfl rfl (fun _=>(Kl (aZ 2 (F.b.ai).length))) (cU Kn) ?_
 refine af ?_
 refine br.cons 16 rfl rfl rfl (fun _=>(aa.nilCheck rfl rfl)) rfl ?_
 iterate 3 refine af ?_
 refine br.cons 20 rfl rfl rfl (fun _=>(Kl (.p (.int .i64 (F.b.bad:Int))))) rfl ?_
 refine af ?_
 refine br.cons 22 rfl rfl rfl (fun _=>(aa.nilCheck rfl rfl)) rfl ?_
 iterate 3 refine af ?_
 refine br.cons 26 rfl rfl rfl (fun _=>(Kl (.p (.int .i64 (F.b.good:Int))))) rfl ?_
 refine br.cons 27 rfl rfl rfl (fun _=>(aa.yU 3 (Rx.Jf F.b.ai F.b.bad F.b.good (ZW jM (by decide))) rfl rfl rfl rfl rfl (Z2 (i:=2) (xs:=[.int .i64 (F.b.bad:Int),.int .i64 (F.b.good:Int)]) rfl) an)) rfl ?_
 refine af ?_
 refine br.cons 28 rfl rfl rfl (fun _=>(aa.extract rfl rfl rfl)) rfl ?_
 refine br.cons 29 rfl rfl rfl (fun _=>(aa.extract rfl rfl rfl)) rfl ?_
 refine br.cons 30 rfl rfl rfl (fun _=>(aa.extract rfl rfl rfl)) rfl ?_
 refine br.lay (v0:= .ptr 7 0) 6 6 rfl rfl rfl rfl rfl rfl rfl rfl (fun _=>(aa.aQ rfl an rfl)) rfl rfl rfl ?_
 refine br.cons 5 rfl rfl rfl (fun _=>(aa.assign rfl rfl)) rfl ?_
 refine br.put (blk:= .cells [.p (.int .i64 (Rx.lS F.b.ai F.b.bad F.b.good).1),.p (.int .i64 (Rx.lS F.b.ai F.b.bad F.b.good).2)] 24) 6 rfl rfl rfl rfl (fun _=>(aa.store rfl rfl rfl rfl rfl an rfl rfl)) rfl rfl ?_
 refine br.nil ?_
 iterate 5 refine af ?_
 refine aj.cy 32 (b:=(decide ((Rx.iY F.b.ai F.b.bad F.b.good)=0))) (j7 (Rx.iY F.b.ai F.b.bad F.b.good)) (oB (Rx.iY F.b.ai F.b.bad F.b.good)) rfl rfl rfl rfl rfl rfl rfl an (fun he=> ?_) (fun he=> ?_)
 ·have hne:Rx.iY F.b.ai F.b.bad F.b.good≠0:=Zl he
  exact ec (e:=Rx.iY F.b.ai F.b.bad F.b.good) (by show(bH F .call n).2.2=_;unfold bH;dsimp only;rw[if_pos hne]) hne (⟨⟨_,rfl,rfl⟩,⟨ZR rfl,by intro j y h1 h2 h3;obtain rfl | rfl | rfl | rfl | rfl:j=1∨j=2∨j=3∨j=4∨j=5:=(by omega);all_goals first | exact .inl (ZD (show some ah.dead=some y from h3)).symm | exact .inr h3⟩⟩)
 have hz:¬ Rx.iY F.b.ai F.b.bad F.b.good≠0:=fun h=>h (Zk he)
 iterate 2 refine af ?_
 refine aF.aD 13 mixed (by kernel_rfl) (by decide) ?_
 refine Kq (aa.aG rfl rfl lN) ?_
 refine af ?_
 refine Kq (Kl (.p (.int .i64 (Rx.lS F.b.ai F.b.bad F.b.good).1))) ?_
 refine Kq (aa.aG rfl rfl kn) ?_
 refine af ?_
 refine Kq (Kl (.p (.int .i64 (Rx.lS F.b.ai F.b.bad F.b.good).2))) ?_
 refine Kq (aa.aG rfl rfl kn) ?_
 refine af ?_
 refine Kq (Kp (pH (Rx.xU F.b.ai F.b.bad F.b.good) (Va hF.b.cd))) ?_
 refine Kq (aa.aG rfl rfl Iy) ?_
 refine Kq (aa.aS rfl an (by decide) rfl rfl rfl) ?_
 refine Kq (Kp (dy [.str (Vb.t .call),.num (Rx.lS F.b.ai F.b.bad F.b.good).1,.num (Rx.lS F.b.ai F.b.bad F.b.good).2,.Gh (jb (Rx.xU F.b.ai F.b.bad F.b.good))] Kn Kn (fD (by decide) (eG ⟨s1,by omega⟩ (eG ⟨s3,by omega⟩ (F0 ⟨gu _,si _⟩ gf)))))) ?_
 refine af ?_
 refine aA.nil ?_
 iterate 2 refine af ?_
 refine iF.one rfl rfl (x8 (F2:=F) (r:=aY (Vb.t .call) ((Rx.lS F.b.ai F.b.bad F.b.good).1::(Rx.lS F.b.ai F.b.bad F.b.good).2::jb (Rx.xU F.b.ai F.b.bad F.b.good))) (by unfold bH;dsimp only;rw[if_neg hz]) (by rw[eJ];simp[jJ,iU.w]) ⟨⟨1,2,3,4,5,by decide,rfl,rfl,rfl,rfl,rfl,rfl⟩,⟨ZR rfl,by intro j y h1 h2 h3;obtain rfl | rfl | rfl | rfl | rfl:j=1∨j=2∨j=3∨j=4∨j=5:=(by omega);all_goals first | exact .inl (ZD (show some ah.dead=some y from h3)).symm | exact .inr h3⟩⟩)
theorem UP:VC .nN 85:=by
 intro F n a m c hF hl hn
 have jM:=Rx.dc hF.b.cd
 have ud:=hF.b.sk
 have sO:=hF.b.dr
 have hl6:n.length=6:=hl
 have hck:=hF.b.ck
 refine av.start (N:=84) Tryz.func85 rfl rfl Kn ?_
 iterate 11 refine af ?_
 refine Kc (Kl (aZ 1 F.b.au.length)) ?_
 refine Kc (aa.bq rfl rfl an rG) ?_
 refine af ?_
 refine aj.cy 17 (b:=_) (dD _ 9) (dG _ 9) rfl rfl rfl rfl rfl rfl rfl an (fun hb=> ?_) (fun hb=> ?_)
 ·exact ec (e:=9) (by show(bH F .nN n).2.2=_;unfold bH;dsimp only;rw[if_pos (.inl (by have h:=Zl hb;omega))]) (by decide) (fG _ _ _)
 have hs8:F.b.au.length<8:=by have h:=Zk hb;omega
 iterate 4 refine af ?_
 refine aj.eY 19 (AE F.b F.aV a m c) rfl rfl rfl rfl rfl rfl rfl an (fun y H2 iw=> ?_) (fun v H2 iw=> ?_)
 ·obtain⟨q1,rfl,rfl⟩:=iw
  exact ec (e:=9) (by show(bH F .nN n).2.2=_;unfold bH;dsimp only;rw[if_pos (.inr (by omega))]) (by decide) (fG _ _ _)
 obtain⟨hlt,rfl,rfl⟩:=iw
 have hro:¬ (8<=F.b.au.length∨24<=F.b.ai.length):=by omega
 iterate 2 refine af ?_
 refine aF.bQ 11 1 [6] [([],false),([],false),([],false),([],false),([],false),([],false),([],false),([],false),([],false),([],false),([6],true)] mixed (by kernel_rfl) (by decide) (by kernel_rfl) rfl (At _ _ _ _ _) ?_
 refine af ?_
 refine br.cons 21 rfl rfl rfl (fun _=>(aa.oy (l:=0) (h:=2) (r:=((n.drop 0).take 2).flatMap Di.bY) rfl rfl an dH rfl ⟨_,rfl⟩ (by omega) (by omega) (qz n 0 2))) rfl ?_
 refine br.cons 22 rfl rfl rfl (fun _=>(Kp (uj n 0 2 (by omega) (by omega)))) rfl ?_
 refine af ?_
 refine br.cons 24 rfl rfl rfl (fun _=>(aa.oy (l:=2) (h:=4) (r:=((n.drop 2).take 2).flatMap Di.bY) rfl rfl an dH ⟨_,rfl⟩ ⟨_,rfl⟩ (by omega) (by omega) (qz n 2 2))) rfl ?_
 refine br.cons 25 rfl rfl rfl (fun _=>(Kp (uj n 2 2 (by omega) (by omega)))) rfl ?_
 refine af ?_
 refine br.cons 27 rfl rfl rfl (fun _=>(aa.oy (l:=4) (h:=n.length) (r:=((n.drop 4).take (n.length - 4)).flatMap Di.bY) rfl rfl an dH ⟨_,rfl⟩ rfl (by omega) (by omega) (qz n 4 (n.length - 4)))) rfl ?_
 refine br.cons 28 rfl rfl rfl (fun _=>(Kp (uj n 4 (n.length - 4) (by omega) (by omega)))) rfl ?_
 refine br.cons 29 rfl rfl rfl (fun _=>(aa.sF (v:= .p (.agg (iz n).cells)) rfl an rfl rfl rfl)) rfl ?_
 refine br.lay (v0:= .ptr 7 0) 5 6 rfl rfl rfl rfl rfl rfl rfl rfl (fun _=>(aa.aQ rfl an rfl)) rfl rfl rfl ?_
 refine br.nil ?_
 refine Kz (aa.store (H':=[cH F.b F.aV (.raw a m c) 1 2 3 4 5,dn F.b.au,cV F.b.ai,de F.b.aq,bz F.b.plan,bz F.b.bZ,.cells ((iz n).cells.map .p) 60]) rfl rfl rfl rfl rfl an rfl rfl) ?_
 iterate 3 refine af ?_
 refine Kc (Kl (.p (.agg (iz n).cells))) ?_
 refine Kc (aa.aS rfl an (by decide) rfl rfl rfl) ?_
 iterate 2 refine af ?_
 refine Kc (aa.aS rfl an (by decide) rfl rfl rfl) ?_
 refine Kc (Kp (IA [iz n] [bT 0 1] Kn Kn)) ?_
 iterate 10 refine af ?_
 refine aj.cy 40 (b:=(decide ((shr [iz n] [bT 0 1]).2=0))) (j7 (shr [iz n] [bT 0 1]).2) (oB (shr [iz n] [bT 0 1]).2) rfl rfl rfl rfl rfl rfl rfl an (fun he=> ?_) (fun he=> ?_)
 ·have hne:(shr [iz n] [bT 0 1]).2≠0:=Zl he
  exact ec (e:=(shr [iz n] [bT 0 1]).2) (by show(bH F .nN n).2.2=_;unfold bH;dsimp only;rw[if_neg hro,if_pos hne]) hne (⟨⟨_,rfl,rfl⟩,⟨ZR rfl,by intro j y h1 h2 h3;obtain rfl | rfl | rfl | rfl | rfl:j=1∨j=2∨j=3∨j=4∨j=5:=(by omega);all_goals first | exact .inl (ZD (show some ah.dead=some y from h3)).symm | exact .inr h3⟩⟩)
 have hz:¬ (shr [iz n] [bT 0 1]).2≠0:=fun h=>h (Zk he)
 iterate 2 refine af ?_
 refine aF.freeze 6 rfl rfl ?_
 refine aF.to (To.cut (H:=mQ F.b F.aV (.raw a m c)) (ext:=[.dead,.cells [.p (.int .i64 (shr [iz n] [bT 0 1]).1.1),.p (.int .i64 (shr [iz n] [bT 0 1]).1.2)] 24]) (T2:=[(0,.ptr 0 0),(5,.p (.ip (iz n).cells 0))]) (Vy _ _ _ _ _) (Zf _) KS rfl) ?_
 iterate 2 refine af ?_
 refine aj.eY 42 (zE F.b F.aV a m c 0 0) rfl rfl rfl rfl rfl rfl rfl an (fun y H2 iw=> ?_) (fun v H2 iw=> ?_)
 ·exact absurd hlt iw.1
 obtain⟨_,rfl,rfl⟩:=iw
 iterate 3 refine af ?_
 refine aF.bQ 24 2 [0,1,5,7,8] [([],false),([],false),([],false),([],false),([],false),([],false),([],false),([0],false),([],false),([],false),([7,1],true),([],false),([],false),([],false),([],false),([0],false),([],false),([],false),([8,5],true),([],false),([],false),([],false),([],false),([0,7],true)] mixed (by kernel_rfl) (by decide) (by kernel_rfl) rfl (by simp[cH,mQ,bS,bK,cj,ef,ia,fA,bE,cU,dn,cV,de,bz,dF,Di.bn.cells]) ?_
 iterate 3 refine af ?_
 refine br.cons 46 rfl rfl rfl (fun _=>(aa.nilCheck rfl rfl)) rfl ?_
 iterate 3 refine af ?_
 refine br.cons 50 rfl rfl rfl (fun _=>(Kl (aZ 1 (F.b.au).length))) (cU Kn) ?_
 refine br.cons 51 rfl rfl rfl (fun _=>(Kl (.p (.agg (iz n).cells)))) rfl ?_
 refine br.cons 52 rfl rfl rfl (fun _=>(aa.aS rfl an (by decide) rfl rfl rfl)) rfl ?_
 refine br.JX (blk:= .row (((F.b.au).flatMap Ck.Sk.cells).map .p++((iz n).cells).map .p) 60) (v0:= .row 9 _) 53 7 1 rfl rfl rfl rfl rfl rfl rfl rfl rfl rfl (fun _=>(aa.qJ (i:=1) (len:=(F.b.au).length) (cs:=((F.b.au).flatMap Ck.Sk.cells).map .p) (ys:=((iz n).cells).map .p) (n:=1) rfl rfl rfl an an rfl (by rw[Zp,AF.cu (c:=6) (fun _=>rfl)];rfl) rfl (by decide) rfl an (by decide) (by show(2*(_+1)+192)*48<=281474976710656;omega))) rfl rfl (by show ah.row (bA _ (_++_)) _=_;rw[bF,aP,aP]) ?_
 refine af ?_
 refine br.cons 55 rfl rfl rfl (fun _=>(aa.nilCheck rfl rfl)) rfl ?_
 iterate 2 refine af ?_
 refine br.cons 58 rfl rfl rfl (fun _=>(Kl (aZ 5 (F.b.bZ).length))) (cU Kn) ?_
 refine af ?_
 refine br.cons 60 rfl rfl rfl (fun _=>(aa.aS rfl an (by decide) rfl rfl rfl)) rfl ?_
 refine br.JX (blk:= .row (((F.b.bZ).flatMap Di.bY).map .p++(Di.bY (F.b.ai.length:Int)).map .p) 3) (v0:= .row 9 _) 61 8 5 rfl rfl rfl rfl rfl rfl rfl rfl rfl rfl (fun _=>(aa.qJ (i:=5) (len:=(F.b.bZ).length) (cs:=((F.b.bZ).flatMap Di.bY).map .p) (ys:=(Di.bY (F.b.ai.length:Int)).map .p) (n:=1) rfl rfl rfl an an rfl (by rw[Zp,AF.cu (c:=1) (fun _=>rfl)];rfl) rfl (by decide) rfl an (by decide) (by show(2*(_+1)+192)*8<=281474976710656;omega))) rfl rfl (by show ah.row (bA _ (_++_)) _=_;rw[bF,aP,aP]) ?_
 refine br.cons 62 rfl rfl rfl (fun _=>(aa.nilCheck rfl rfl)) rfl ?_
 iterate 3 refine af ?_
 refine br.put (blk:= .cells ([.row 7 (F.b.au.length+1),aZ 6 (F.b.fU ⟨0,0⟩).ai.length,aZ 3 (F.b.fU ⟨0,0⟩).aq.length,aZ 4 (F.b.fU ⟨0,0⟩).plan.length,.p (.int .i64 ((F.b.fU ⟨0,0⟩).bad:Int)),.p (.int .i64 ((F.b.fU ⟨0,0⟩).good:Int)),aZ 5 F.b.bZ.length]++F.aV.cells.map .p++[.raw a m c,.p (.bool true)]) 87) 0 rfl rfl rfl rfl (fun _=>(aa.store rfl rfl rfl rfl rfl an rfl rfl)) rfl (by simp[bS,bK,cj,ef,ia,cU,Di.bn.cells,bf,sg,sW]) ?_
 refine br.nil ?_
 iterate 7 refine af ?_
 refine Kc (aa.aG rfl rfl lN) ?_
 iterate 5 refine af ?_
 refine Kc (Kl (.row 7 (F.b.au.length+1))) ?_
 refine af ?_
 refine Kc (aa.iI (m:=(F.b.au.length:Int)) rfl rfl rfl ((aK ?_).trans ?_)) ?_
 ·omega
 ·omega
 refine Kc (aa.aG rfl rfl kn) ?_
 refine Kc (aa.aG rfl rfl lN) ?_
 refine af ?_
 refine Kc (aa.aG rfl rfl kn) ?_
 refine Kc (aa.aS rfl an (by decide) rfl rfl rfl) ?_
 refine Kc (Kp (dy [.str (Vb.t .nN),.num (F.b.au.length:Int),.str jQ,.num (F.b.ai.length:Int)] Kn Kn (fD (by decide) (eG (by omega) (fD (by decide) (eG (by omega) gf)))))) ?_
 iterate 3 refine af ?_
 refine iF.one rfl rfl (x8 (F2:={F with b:={F.b.fU ⟨0,0⟩ with au:=F.b.au++[iz n],bZ:=F.b.bZ++[(F.b.ai.length:Int)]}}) (r:=aY (Vb.t .nN) [(F.b.au.length:Int)]++32::aY jQ [(F.b.ai.length:Int)]) (by unfold bH;dsimp only;rw[if_neg hro,if_neg hz]) (by simp[cQ,aY,jJ,iU.w]) ?_)
 exact⟨⟨7,6,3,4,8,by decide,congrArg some (flS (F.b.fU ⟨0,0⟩) F.aV _ (iz n) (F.b.ai.length:Int) 7 6 3 4 8),congrArg some (MU _ _),rfl,rfl,rfl,congrArg some (BV _ _)⟩,⟨ZR rfl,by intro j y h1 h2 h3;obtain rfl | rfl | rfl | rfl | rfl:j=1∨j=2∨j=3∨j=4∨j=5:=(by omega);all_goals first | exact .inl (ZD (show some ah.dead=some y from h3)).symm | exact .inr h3⟩⟩
theorem rF{n x m:Nat}(h:x<2^n):x&&& m=x&&& (m%2^n):=by
 apply KH
 intro i
 rw[KU,KU,Nat.testBit_mod_two_pow]
 by_cases hi:i<n
 ·simp[hi]
 ·rw[UI (ZQ h (Zy (by omega) (by omega)))]
  rfl
theorem qh(y M:Nat){a m:Nat}(ha:a<2^8)(hm:m<2^8):(2^8*y+a)&&& (2^8*M+m)=2^8*(y&&& M)+(a&&& m):=by
 apply KH
 intro i
 rw[KU,TV _ ha,TV _ hm,TV _ (Nat.lt_of_le_of_lt Nat.and_le_left ha)]
 by_cases hi:i<8
 ·simp[hi]
 ·simp[hi]
theorem aap:((List.range 256).all fun t=>decide (t&&& 85=(t%128)&&& 85)&&decide (t&&& 51=(t%64)&&& 51)&&decide (t&&& 15=t%16))=true:=by kernel_rfl
theorem zm{t:Nat}(h:t<256):t&&& 85=(t%128)&&& 85∧t&&& 51=(t%64)&&& 51∧t&&& 15=t%16:=by
 have:=Zx.1 aap t (xJ.2 h)
 simp only[Zn,Zq] at this
 omega
def s1(a:Nat):Nat:=(a / 2&&& 85)+(a&&& 85)
def s2(a:Nat):Nat:=(a / 4&&& 51)+(a&&& 51)
def s3(a:Nat):Nat:=(a / 16+a)&&& 15
theorem st1(y M:Nat){a:Nat}(ha:a<256):((256*y+a) / 2&&& (256*M+85))+((256*y+a)&&& (256*M+85))=256*((y / 2&&& M)+(y&&& M))+s1 a:=by
 have e:(256*y+a) / 2=256*(y / 2)+(128*(y%2)+a / 2):=by omega
 have h1:128*(y%2)+a / 2<2^8:=by omega
 have h2:=(zm (t:=128*(y%2)+a / 2) (by omega)).1
 rw[show(128*(y%2)+a / 2)%128=a / 2 by omega] at h2
 rw[e]
 have k1:=qh (y / 2) M h1 (show 85<2^8 by decide)
 have k2:=qh y M (show a<2^8 by omega) (show 85<2^8 by decide)
 rw[h2] at k1
 rw[show(2:Nat)^8=256 by decide] at k1 k2
 rw[k1,k2]
 unfold s1
 omega
theorem st2(y M:Nat){a:Nat}(ha:a<256):((256*y+a) / 4&&& (256*M+51))+((256*y+a)&&& (256*M+51))=256*((y / 4&&& M)+(y&&& M))+s2 a:=by
 have e:(256*y+a) / 4=256*(y / 4)+(64*(y%4)+a / 4):=by omega
 have h1:64*(y%4)+a / 4<2^8:=by omega
 have h2:=(zm (t:=64*(y%4)+a / 4) (by omega)).2.1
 rw[show(64*(y%4)+a / 4)%64=a / 4 by omega] at h2
 rw[e]
 have k1:=qh (y / 4) M h1 (show 51<2^8 by decide)
 have k2:=qh y M (show a<2^8 by omega) (show 51<2^8 by decide)
 rw[h2] at k1
 rw[show(2:Nat)^8=256 by decide] at k1 k2
 rw[k1,k2]
 unfold s2
 omega
theorem st3(y M:Nat){a:Nat}(ha:a<=68)(hy:y%16<=4):((256*y+a) / 16+(256*y+a))&&& (256*M+15)=256*((y / 16+y)&&& M)+s3 a:=by
 have e:(256*y+a) / 16+(256*y+a)=256*(y / 16+y)+(16*(y%16)+a / 16+a):=by omega
 have h1:16*(y%16)+a / 16+a<2^8:=by omega
 have h2:=(zm (t:=16*(y%16)+a / 16+a) (by omega)).2.2
 have h3:=(zm (t:=a / 16+a) (by omega)).2.2
 rw[e]
 have k1:=qh (y / 16+y) M h1 (show 15<2^8 by decide)
 rw[h2] at k1
 rw[show(2:Nat)^8=256 by decide] at k1
 rw[k1]
 unfold s3
 rw[h3]
 omega
def pop8(a:Nat):Nat:=((List.range 8).filter a.testBit).length
theorem Oa:((List.range 256).all fun a=>decide (s1 a<256)&&decide (s2 (s1 a)<=68)&&decide (s2 (s1 a)%16<=4)&&decide (s3 (s2 (s1 a))=pop8 a)&&decide (pop8 a<=8))=true:=by kernel_rfl
theorem byte_at{a:Nat}(h:a<256):s1 a<256∧s2 (s1 a)<=68∧s2 (s1 a)%16<=4∧s3 (s2 (s1 a))=pop8 a∧pop8 a<=8:=by
 have:=Zx.1 Oa a (xJ.2 h)
 simp only[Zn,Zq] at this
 omega
def Fa(x:Nat):Nat:=(x / 2^1&&& 6148914691236517205)+(x&&& 6148914691236517205)
def GM(x:Nat):Nat:=(Fa x / 2^2&&& 3689348814741910323)+(Fa x&&& 3689348814741910323)
def KN(x:Nat):Nat:=GM x / 2^4+GM x&&& 1085102592571150095
def G0(x:Nat):Nat:=KN x+KN x / 2^8
def G2(x:Nat):Nat:=G0 x+G0 x / 2^16
def KR(x:Nat):Nat:=G2 x+G2 x / 2^32
def fO(a b c:Nat):Nat:=256*(256*c+b)+a
theorem GN{a b c:Nat}(ha:a<256)(hb:b<256)(hc:c<256):Fa (fO a b c)=fO (s1 a) (s1 b) (s1 c):=by
 have hx:fO a b c<2^24:=by unfold fO;omega
 have hx2:fO a b c / 2^1<2^24:=by omega
 unfold Fa
 rw[rF hx,rF hx2,show(6148914691236517205:Nat)%2^24=256*(256*85+85)+85 by decide,show(2:Nat)^1=2 by decide]
 unfold fO
 rw[st1 _ _ ha,st1 _ _ hb]
 rfl
theorem Ix{a b c:Nat}(ha:a<256)(hb:b<256)(hc:c<256):GM (fO a b c)=fO (s2 (s1 a)) (s2 (s1 b)) (s2 (s1 c)):=by
 have ga:=(byte_at ha).1
 have gb:=(byte_at hb).1
 have gc:=(byte_at hc).1
 have hx:fO (s1 a) (s1 b) (s1 c)<2^24:=by unfold fO;omega
 have hx2:fO (s1 a) (s1 b) (s1 c) / 2^2<2^24:=by omega
 unfold GM
 rw[GN ha hb hc,rF hx,rF hx2,show(3689348814741910323:Nat)%2^24=256*(256*51+51)+51 by decide,show(2:Nat)^2=4 by decide]
 unfold fO
 rw[st2 _ _ ga,st2 _ _ gb]
 rfl
theorem Qx{a b c:Nat}(ha:a<256)(hb:b<256)(hc:c<256):KN (fO a b c)=fO (pop8 a) (pop8 b) (pop8 c):=by
 obtain⟨_,ga,ga2,ga3,_⟩:=byte_at ha
 obtain⟨_,gb,gb2,gb3,_⟩:=byte_at hb
 obtain⟨_,gc,gc2,gc3,_⟩:=byte_at hc
 have hx:fO (s2 (s1 a)) (s2 (s1 b)) (s2 (s1 c)) / 2^4+fO (s2 (s1 a)) (s2 (s1 b)) (s2 (s1 c))<2^24:=by unfold fO;omega
 unfold KN
 rw[Ix ha hb hc,rF hx,show(1085102592571150095:Nat)%2^24=256*(256*15+15)+15 by decide,show(2:Nat)^4=16 by decide]
 unfold fO
 rw[st3 _ _ ga (by omega),st3 _ _ gb gc2,ga3,gb3]
 rw[<- gc3]
 rfl
theorem TP{a b c:Nat}(ha:a<256)(hb:b<256)(hc:c<256):KR (fO a b c)&&& 127=pop8 a+pop8 b+pop8 c∧Fa (fO a b c)<2^24∧GM (fO a b c)<2^24∧KN (fO a b c)<2^24∧G0 (fO a b c)<2^25∧G2 (fO a b c)<2^25∧KR (fO a b c)<2^25:=by
 obtain⟨f1,f2,_,_,pa⟩:=byte_at ha
 obtain⟨g1,g2,_,_,pb⟩:=byte_at hb
 obtain⟨h1,h2,_,_,pc⟩:=byte_at hc
 have e1:=GN ha hb hc
 have e2:=Ix ha hb hc
 have e3:=Qx ha hb hc
 have e4:G0 (fO a b c)=256*(256*pop8 c+pop8 b+pop8 c)+(pop8 a+pop8 b):=by
  unfold G0
  rw[e3]
  unfold fO
  omega
 have e5:G2 (fO a b c)=256*(256*pop8 c+pop8 b+pop8 c)+(pop8 a+pop8 b+pop8 c):=by
  unfold G2
  rw[e4]
  omega
 have e6:KR (fO a b c)=256*(256*pop8 c+pop8 b+pop8 c)+(pop8 a+pop8 b+pop8 c):=by
  unfold KR
  rw[e5]
  omega
 refine⟨?_,?_,?_,?_,?_,?_,?_⟩
 ·have:=Nat.and_two_pow_sub_one_eq_mod (KR (fO a b c)) 7
  rw[show(2:Nat)^7 - 1=127 by decide] at this
  rw[this,e6]
  omega
 ·rw[e1];unfold fO;omega
 ·rw[e2];unfold fO;omega
 ·rw[e3];unfold fO;omega
 ·rw[e4];omega
 ·rw[e5];omega
 ·rw[e6];omega
theorem M1(x:Nat):((List.range 24).filter x.testBit).length=pop8 (x%256)+pop8 (x / 256%256)+pop8 (x / 65536%256):=by
 have e:∀(k i:Nat),i<8->(x / 2^k%256).testBit i=x.testBit (k+i):=fun k i hi=>by
  rw[show(256:Nat)=2^8 by decide,Nat.testBit_mod_two_pow,Nat.testBit_div_two_pow]
  simp[hi,S2]
 have h:∀ k,(((List.range 8).map (k+ ·)).filter x.testBit).length=pop8 (x / 2^k%256):=fun k=>by
  unfold pop8
  rw[List.filter_map,Zp]
  congr 1
  apply List.filter_congr
  intro i hi
  exact(e k i (xJ.1 hi)).symm
 have e3:List.range 24=(List.range 8).map (0+ ·)++(List.range 8).map (8+ ·)++(List.range 8).map (16+ ·):=by decide
 rw[e3,List.filter_append,List.filter_append,Zb,Zb,h,h,h]
 simp
theorem XB{x:Nat}(h:x<2^24):KR x&&& 127=((List.range 24).filter x.testBit).length∧Fa x<2^24∧GM x<2^24∧KN x<2^24∧G0 x<2^25∧G2 x<2^25∧KR x<2^25:=by
 have ex:x=fO (x%256) (x / 256%256) (x / 65536%256):=by unfold fO;omega
 have hk:=TP (a:=x%256) (b:=x / 256%256) (c:=x / 65536%256) (by omega) (by omega) (by omega)
 rw[<- ex] at hk
 rw[M1]
 exact hk
theorem ocS{x:Nat}(h:x<2^24):KR x&&& 127=(jb x).length:=by
 rw[(XB h).1]
 unfold jb
 rw[Zp]
theorem Sr(n k:Nat):decide (((n / 2^k&&& 1:Nat):Int)=0)= !n.testBit k:=by
 rw[Nat.testBit_eq_decide_div_mod_eq,Nat.and_one_is_mod]
 by_cases h:n / 2^k%2=1
 ·rw[h];rfl
 ·have h0:n / 2^k%2=0:=by omega
  rw[h0];rfl
theorem Ao{n k:Nat}(h:n.testBit k=false):n||| 1*2^k=n+2^k:=by
 rw[ZO,<- rY h]
theorem Qz(x:Nat)(hx:x<2^24):Pure Tryz.prog 183 [.int .u64 (x:Int)] (.int .i64 (((jb x).length:Nat):Int)):=by
 have oO:(2:Nat)^24=16777216:=by decide
 have h25:(2:Nat)^25=33554432:=by decide
 have hz:=ocS hx
 obtain⟨_,h1,h2,h3,h4,h5,h6⟩:=XB hx
 refine Kf (N:=35) Tryz.func183 ?_
 iterate 7 refine af ?_
 refine Kc (aa.x6 x 1 rfl rfl rfl (by first | decide | (show _<=(9223372036854775807:Int);omega) | (show _<=(4294967295:Int);omega) | (show _<=(18446744073709551615:Int);omega) | (show _<=(255:Int);omega) | (show _<=(65535:Int);omega))) ?_
 refine Kc (aa.pK (x / 2^1) 6148914691236517205 rfl rfl rfl (by first | (show _<=(9223372036854775807:Int);omega) | (show _<=(4294967295:Int);omega) | (show _<=(18446744073709551615:Int);omega) | (show _<=(255:Int);omega) | (show _<=(65535:Int);omega)) (by first | decide | (show _<=(9223372036854775807:Int);omega) | (show _<=(4294967295:Int);omega) | (show _<=(18446744073709551615:Int);omega) | (show _<=(255:Int);omega) | (show _<=(65535:Int);omega))) ?_
 refine af ?_
 refine Kc (aa.pK x 6148914691236517205 rfl rfl rfl (by first | (show _<=(9223372036854775807:Int);omega) | (show _<=(4294967295:Int);omega) | (show _<=(18446744073709551615:Int);omega) | (show _<=(255:Int);omega) | (show _<=(65535:Int);omega)) (by first | decide | (show _<=(9223372036854775807:Int);omega) | (show _<=(4294967295:Int);omega) | (show _<=(18446744073709551615:Int);omega) | (show _<=(255:Int);omega) | (show _<=(65535:Int);omega))) ?_
 refine Kc (aa.add (m:=((Fa x:Nat):Int)) rfl rfl rfl ((mK ?_).trans ?_)) ?_
 ·have e:Fa x=(x / 2^1&&& 6148914691236517205)+(x&&& 6148914691236517205):=rfl;omega
 ·have e:Fa x=(x / 2^1&&& 6148914691236517205)+(x&&& 6148914691236517205):=rfl;omega
 iterate 5 refine af ?_
 refine Kc (aa.x6 (Fa x) 2 rfl rfl rfl (by first | decide | (show _<=(9223372036854775807:Int);omega) | (show _<=(4294967295:Int);omega) | (show _<=(18446744073709551615:Int);omega) | (show _<=(255:Int);omega) | (show _<=(65535:Int);omega))) ?_
 refine Kc (aa.pK (Fa x / 2^2) 3689348814741910323 rfl rfl rfl (by first | (show _<=(9223372036854775807:Int);omega) | (show _<=(4294967295:Int);omega) | (show _<=(18446744073709551615:Int);omega) | (show _<=(255:Int);omega) | (show _<=(65535:Int);omega)) (by first | decide | (show _<=(9223372036854775807:Int);omega) | (show _<=(4294967295:Int);omega) | (show _<=(18446744073709551615:Int);omega) | (show _<=(255:Int);omega) | (show _<=(65535:Int);omega))) ?_
 refine af ?_
 refine Kc (aa.pK (Fa x) 3689348814741910323 rfl rfl rfl (by first | (show _<=(9223372036854775807:Int);omega) | (show _<=(4294967295:Int);omega) | (show _<=(18446744073709551615:Int);omega) | (show _<=(255:Int);omega) | (show _<=(65535:Int);omega)) (by first | decide | (show _<=(9223372036854775807:Int);omega) | (show _<=(4294967295:Int);omega) | (show _<=(18446744073709551615:Int);omega) | (show _<=(255:Int);omega) | (show _<=(65535:Int);omega))) ?_
 refine Kc (aa.add (m:=((GM x:Nat):Int)) rfl rfl rfl ((mK ?_).trans ?_)) ?_
 ·have e:GM x=(Fa x / 2^2&&& 3689348814741910323)+(Fa x&&& 3689348814741910323):=rfl;omega
 ·have e:GM x=(Fa x / 2^2&&& 3689348814741910323)+(Fa x&&& 3689348814741910323):=rfl;omega
 iterate 5 refine af ?_
 refine Kc (aa.x6 (GM x) 4 rfl rfl rfl (by first | decide | (show _<=(9223372036854775807:Int);omega) | (show _<=(4294967295:Int);omega) | (show _<=(18446744073709551615:Int);omega) | (show _<=(255:Int);omega) | (show _<=(65535:Int);omega))) ?_
 refine af ?_
 refine Kc (aa.add (m:=((GM x / 2^4+GM x:Nat):Int)) rfl rfl rfl ((mK ?_).trans ?_)) ?_
 ·omega
 ·omega
 refine Kc (aa.pK (GM x / 2^4+GM x) 1085102592571150095 rfl rfl rfl (by first | (show _<=(9223372036854775807:Int);omega) | (show _<=(4294967295:Int);omega) | (show _<=(18446744073709551615:Int);omega) | (show _<=(255:Int);omega) | (show _<=(65535:Int);omega)) (by first | decide | (show _<=(9223372036854775807:Int);omega) | (show _<=(4294967295:Int);omega) | (show _<=(18446744073709551615:Int);omega) | (show _<=(255:Int);omega) | (show _<=(65535:Int);omega))) ?_
 iterate 3 refine af ?_
 refine aF.norm [] [(0,.p (.int .u64 ((KN x:Nat):Int)))] [] rfl KS rfl ?_
 iterate 3 refine af ?_
 refine Kc (aa.x6 (KN x) 8 rfl rfl rfl (by first | decide | (show _<=(9223372036854775807:Int);omega) | (show _<=(4294967295:Int);omega) | (show _<=(18446744073709551615:Int);omega) | (show _<=(255:Int);omega) | (show _<=(65535:Int);omega))) ?_
 refine Kc (aa.add (m:=((G0 x:Nat):Int)) rfl rfl rfl ((mK ?_).trans ?_)) ?_
 ·have e:G0 x=KN x+KN x / 2^8:=rfl;omega
 ·have e:G0 x=KN x+KN x / 2^8:=rfl;omega
 iterate 6 refine af ?_
 refine Kc (aa.x6 (G0 x) 16 rfl rfl rfl (by first | decide | (show _<=(9223372036854775807:Int);omega) | (show _<=(4294967295:Int);omega) | (show _<=(18446744073709551615:Int);omega) | (show _<=(255:Int);omega) | (show _<=(65535:Int);omega))) ?_
 refine Kc (aa.add (m:=((G2 x:Nat):Int)) rfl rfl rfl ((mK ?_).trans ?_)) ?_
 ·have e:G2 x=G0 x+G0 x / 2^16:=rfl;omega
 ·have e:G2 x=G0 x+G0 x / 2^16:=rfl;omega
 iterate 6 refine af ?_
 refine Kc (aa.x6 (G2 x) 32 rfl rfl rfl (by first | decide | (show _<=(9223372036854775807:Int);omega) | (show _<=(4294967295:Int);omega) | (show _<=(18446744073709551615:Int);omega) | (show _<=(255:Int);omega) | (show _<=(65535:Int);omega))) ?_
 refine Kc (aa.add (m:=((KR x:Nat):Int)) rfl rfl rfl ((mK ?_).trans ?_)) ?_
 ·have e:KR x=G2 x+G2 x / 2^32:=rfl;omega
 ·have e:KR x=G2 x+G2 x / 2^32:=rfl;omega
 iterate 5 refine af ?_
 refine Kc (aa.dY rfl rfl (by rw[XG];rfl) CR (aK ?_)) ?_
 ·omega
 refine Kc (aa.pK (KR x) 127 rfl rfl rfl (by first | (show _<=(9223372036854775807:Int);omega) | (show _<=(4294967295:Int);omega) | (show _<=(18446744073709551615:Int);omega) | (show _<=(255:Int);omega) | (show _<=(65535:Int);omega)) (by first | decide | (show _<=(9223372036854775807:Int);omega) | (show _<=(4294967295:Int);omega) | (show _<=(18446744073709551615:Int);omega) | (show _<=(255:Int);omega) | (show _<=(65535:Int);omega))) ?_
 iterate 3 refine af ?_
 refine Fin.fQ rfl rfl ?_
 rw[hz]
theorem HJ(x:Nat)(hx:x<2^24):Pure Tryz.prog 144 [.int .u64 (x:Int)] (.int .i64 (((jb x).length:Nat):Int)):=by
 refine Kf (N:=8) Tryz.func144 ?_
 iterate 5 refine af ?_
 refine Ki (fun hc0=> ?_) fun hc0=> ?_
 ·cases hc0
 ·iterate 4 refine af ?_
  refine Kc (Kp (Qz x hx)) ?_
  exact dA
theorem Ok(F:cW)(n:List Int)(a:Option Addr)(m c k:Nat)(hF:mJ F)(hk:nn n 0=((k:Nat):Int)):av Tryz.prog 91 [.ptr 0 0,.p (.str (sB [98,97,100])),.ptr 0 4,.p (.int .i64 ((k:Nat):Int))] (mQ F.b F.aV (.raw a m c)) (Wr F .bad n (.raw a m c)) (Yb F .bad n (.raw a m c)):=by
 have jM:=Rx.dc hF.b.cd
 have oO:(2:Nat)^24=16777216:=by decide
 have hpw:=Zy (show 0<2 by omega) jM
 have hb0:=hF.b.bad
 have TY:=hF.b.good
 have hle:=Nat.div_le_self F.b.bad (2^k)
 refine av.start (N:=66) Tryz.func91 rfl rfl Kn ?_
 iterate 8 refine af ?_
 refine Kc (aa.gB rfl rfl rfl rfl an (uw F.b F.aV a m c ((k:Nat):Int))) ?_
 refine aj.cy 14 (b:=_) (dD _ 2) (dG _ 2) rfl rfl rfl rfl rfl rfl rfl an (fun hb=> ?_) (fun hb=> ?_)
 ·have Oj:fJ F.b F.b.bad (nn n 0)=2:=by unfold fJ;rw[hk,if_pos (by have h:=Zl hb;omega)]
  exact ec (e:=2) (by show(bH F .bad n).2.2=_;unfold bH;dsimp only;rw[if_pos (by rw[Oj];decide),Oj]) (by decide) (fG _ _ _)
 have VO:k<F.b.ai.length:=by have h:=Zk hb;omega
 have hp0:=V4 (show k<=24 by omega)
 iterate 5 refine af ?_
 refine Kc (Kl (.p (.int .i64 ((F.b.bad:Nat):Int)))) ?_
 refine af ?_
 refine Kc (aa.x6 F.b.bad k rfl rfl rfl (by first | decide | (show _<=(9223372036854775807:Int);omega) | (show _<=(4294967295:Int);omega) | (show _<=(18446744073709551615:Int);omega) | (show _<=(255:Int);omega) | (show _<=(65535:Int);omega))) ?_
 refine Kc (aa.pK (F.b.bad / 2^k) 1 rfl rfl rfl (by first | (show _<=(9223372036854775807:Int);omega) | (show _<=(4294967295:Int);omega) | (show _<=(18446744073709551615:Int);omega) | (show _<=(255:Int);omega) | (show _<=(65535:Int);omega)) (by first | decide | (show _<=(9223372036854775807:Int);omega) | (show _<=(4294967295:Int);omega) | (show _<=(18446744073709551615:Int);omega) | (show _<=(255:Int);omega) | (show _<=(65535:Int);omega))) ?_
 refine af ?_
 rw[Sr]
 refine aj.cy 22 (b:=(!F.b.bad.testBit k)) (dD (!F.b.bad.testBit k) 5) (dG (!F.b.bad.testBit k) 5) rfl rfl rfl rfl rfl rfl rfl an (fun iu=> ?_) (fun iu=> ?_)
 ·have x9:F.b.bad.testBit k=true:=by simpa using iu
  have Ob:fJ F.b F.b.bad (nn n 0)=5:=by unfold fJ;rw[hk,if_neg (by omega),AD,x9];rfl
  exact ec (e:=5) (by show(bH F .bad n).2.2=_;unfold bH;dsimp only;rw[if_pos (by rw[Ob];decide),Ob]) (by decide) (fG _ _ _)
 have x9:F.b.bad.testBit k=false:=by simpa using iu
 have hce:fJ F.b F.b.bad (nn n 0)=0:=by unfold fJ;rw[hk,if_neg (by omega),AD,x9];rfl
 have YL:¬ fJ F.b F.b.bad (nn n 0)≠0:=fun h=>h hce
 have hN:F.b.bad+pow2 (nn n 0)=(F.b.bad||| 1*2^k):=by unfold pow2;rw[hk,AD];exact(Ao x9).symm
 have hkp:=Sl (show 1<2 by omega) VO
 have hBN:(F.b.bad||| 1*2^k)<16777216:=by rw[Ao x9];have h5:2^k+2^k<=2^F.b.ai.length:=(by have:=Zy (show 0<2 by omega) (show k+1<=F.b.ai.length by omega);rw[V9] at this;omega);have h6:=PJ (x:=F.b.bad) (y:=2^k) (n:=F.b.ai.length) (by omega) hkp;rw[<- rY x9] at h6;omega
 iterate 2 refine af ?_
 refine aF.aD 7 mixed (by kernel_rfl) (by decide) ?_
 refine af ?_
 refine Kq (aa.nilCheck rfl rfl) ?_
 refine Kq (Kl (.p (.int .i64 ((F.b.bad:Nat):Int)))) ?_
 refine af ?_
 refine Kq (aa.ri 1 k rfl rfl rfl (by show _<=(64:Nat);omega) (by show _<=(9223372036854775807:Int);rw[ZO];omega)) ?_
 refine Kq (aa.Wq F.b.bad (1*2^k) rfl rfl rfl (by show _<=(9223372036854775807:Int);omega) (by show _<=(9223372036854775807:Int);rw[ZO];omega) (by show _<=(9223372036854775807:Int);omega)) ?_
 refine Kq (aa.nilCheck rfl rfl) ?_
 refine aA.nil ?_
 refine Kz (aa.store (H':=[cH {F.b with bad:=(F.b.bad||| 1*2^k)} F.aV (.raw a m c) 1 2 3 4 5,dn F.b.au,cV F.b.ai,de F.b.aq,bz F.b.plan,bz F.b.bZ]) rfl rfl rfl rfl rfl an rfl rfl) ?_
 iterate 2 refine af ?_
 refine aF.aD 24 mixed (by kernel_rfl) (by decide) ?_
 refine af ?_
 refine Kq (aa.nilCheck rfl rfl) ?_
 iterate 3 refine af ?_
 refine Kq (Kl (aZ 2 F.b.ai.length)) ?_
 refine af ?_
 refine Kq (aa.nilCheck rfl rfl) ?_
 iterate 3 refine af ?_
 refine Kq (Kl (.p (.int .i64 (((F.b.bad||| 1*2^k):Nat):Int)))) ?_
 refine af ?_
 refine Kq (aa.nilCheck rfl rfl) ?_
 iterate 3 refine af ?_
 refine Kq (Kl (.p (.int .i64 ((F.b.good:Nat):Int)))) ?_
 refine Kq (aa.yU 3 (Rx.rR F.b.ai (((F.b.bad||| 1*2^k):Nat):Int) ((F.b.good:Nat):Int) (ZW jM (by decide))) rfl rfl rfl rfl rfl (Z2 (i:=2) (xs:=[.int .i64 (((F.b.bad||| 1*2^k):Nat):Int),.int .i64 ((F.b.good:Nat):Int)]) rfl) an) ?_
 refine af ?_
 refine Kq (aa.extract rfl rfl rfl) ?_
 refine Kq (aa.extract rfl rfl rfl) ?_
 iterate 2 refine af ?_
 refine aA.nil ?_
 iterate 6 refine af ?_
 refine aj.cy 55 (b:=_) (dD _ (Rx.iY F.b.ai (((F.b.bad||| 1*2^k):Nat):Int) ((F.b.good:Nat):Int))) (dG _ (Rx.iY F.b.ai (((F.b.bad||| 1*2^k):Nat):Int) ((F.b.good:Nat):Int))) rfl rfl rfl rfl rfl rfl rfl an (fun S5=> ?_) (fun S5=> ?_)
 ·have VG:(Rx.iY F.b.ai (((F.b.bad||| 1*2^k):Nat):Int) ((F.b.good:Nat):Int))=6:=by simpa using S5
  exact ec (e:=(Rx.iY F.b.ai (((F.b.bad||| 1*2^k):Nat):Int) ((F.b.good:Nat):Int))) (by rw[VG];show(bH F .bad n).2.2=_;unfold bH;dsimp only;rw[if_neg YL,hN,if_pos VG]) (by rw[VG];decide) (⟨⟨_,rfl,rfl⟩,⟨ZR rfl,by intro j y h1 h2 h3;obtain rfl | rfl | rfl | rfl | rfl:j=1∨j=2∨j=3∨j=4∨j=5:=(by omega);all_goals first | exact .inl (ZD (show some ah.dead=some y from h3)).symm | exact .inr h3⟩⟩)
 have hn6:¬ (Rx.iY F.b.ai (((F.b.bad||| 1*2^k):Nat):Int) ((F.b.good:Nat):Int))=6:=by simpa using S5
 iterate 4 refine af ?_
 refine Kc (aa.aG rfl rfl lN) ?_
 iterate 2 refine af ?_
 refine Kc (Kl (.p (.int .i64 (((F.b.bad||| 1*2^k):Nat):Int)))) ?_
 refine Kc (aa.dY rfl rfl (by rw[CR];rfl) BB (mK ?_)) ?_
 ·omega
 refine Kc (Kp (HJ (F.b.bad||| 1*2^k) (by omega))) ?_
 refine Kc (aa.aG rfl rfl kn) ?_
 refine Kc (aa.aS rfl an (by decide) rfl rfl rfl) ?_
 refine Kc (Kp (dy [.str (Vb.t .bad),.num ((jb (F.b.bad||| 1*2^k)).length:Int)] Kn Kn (fD (by decide) (eG (by have:=gu (F.b.bad||| 1*2^k);omega) gf)))) ?_
 iterate 3 refine af ?_
 refine iF.one rfl rfl (x8 (F2:={F with b:={F.b with bad:=(F.b.bad||| 1*2^k)}}) (r:=aY (Vb.t .bad) [((jb (F.b.bad||| 1*2^k)).length:Int)]) (by unfold bH;dsimp only;rw[if_neg YL,hN,if_neg hn6]) (by rw[eJ];rfl) ?_)
 exact CL
theorem W4:VC .bad 90:=by
 intro F n a m c hF hl hn
 have jM:=Rx.dc hF.b.cd
 have ud:=hF.b.sk
 have sO:=hF.b.dr
 have q0:0<=nn n 0∧nn n 0<10000000000000:=hn _ (Di.bC 0 (show 0<n.length by rw[hl];decide))
 obtain⟨k,hk⟩:=V8 q0.1
 refine av.start (N:=15) Tryz.func90 rfl rfl Kn ?_
 iterate 5 refine af ?_
 refine aF.aD 9 mixed (by kernel_rfl) (by decide) ?_
 iterate 2 refine af ?_
 refine Kq (aa.nilCheck rfl rfl) ?_
 iterate 4 refine af ?_
 refine Kq (aa.aN (g:=Di.gt 0 n) (k:=0) (Di.aC _) rfl rfl rfl an dH rfl (fun _=>rfl) (by decide) (by rw[hl];decide)) ?_
 refine Kq (aa.load (v:= .p (.int .i64 ((k:Nat):Int))) rfl rfl an (by rw[<- hk];rfl)) ?_
 refine aA.nil ?_
 refine aj.eY 14 (Ok F n a m c k hF hk) rfl rfl rfl rfl rfl rfl rfl an (fun y H2 iw=> ?_) (fun v H2 iw=> ?_)
 ·exact⟨_,rfl,iw⟩
 exact vS
theorem JT(F:cW)(n:List Int)(a:Option Addr)(m c k:Nat)(hF:mJ F)(hk:nn n 0=((k:Nat):Int)):av Tryz.prog 91 [.ptr 0 0,.p (.str (sB [103,111,111,100])),.ptr 0 5,.p (.int .i64 ((k:Nat):Int))] (mQ F.b F.aV (.raw a m c)) (Wr F .good n (.raw a m c)) (Yb F .good n (.raw a m c)):=by
 have jM:=Rx.dc hF.b.cd
 have oO:(2:Nat)^24=16777216:=by decide
 have hpw:=Zy (show 0<2 by omega) jM
 have hb0:=hF.b.bad
 have TY:=hF.b.good
 have hle:=Nat.div_le_self F.b.good (2^k)
 refine av.start (N:=66) Tryz.func91 rfl rfl Kn ?_
 iterate 8 refine af ?_
 refine Kc (aa.gB rfl rfl rfl rfl an (uw F.b F.aV a m c ((k:Nat):Int))) ?_
 refine aj.cy 14 (b:=_) (dD _ 2) (dG _ 2) rfl rfl rfl rfl rfl rfl rfl an (fun hb=> ?_) (fun hb=> ?_)
 ·have Oj:fJ F.b F.b.good (nn n 0)=2:=by unfold fJ;rw[hk,if_pos (by have h:=Zl hb;omega)]
  exact ec (e:=2) (by show(bH F .good n).2.2=_;unfold bH;dsimp only;rw[if_pos (by rw[Oj];decide),Oj]) (by decide) (fG _ _ _)
 have VO:k<F.b.ai.length:=by have h:=Zk hb;omega
 have hp0:=V4 (show k<=24 by omega)
 iterate 5 refine af ?_
 refine Kc (Kl (.p (.int .i64 ((F.b.good:Nat):Int)))) ?_
 refine af ?_
 refine Kc (aa.x6 F.b.good k rfl rfl rfl (by first | decide | (show _<=(9223372036854775807:Int);omega) | (show _<=(4294967295:Int);omega) | (show _<=(18446744073709551615:Int);omega) | (show _<=(255:Int);omega) | (show _<=(65535:Int);omega))) ?_
 refine Kc (aa.pK (F.b.good / 2^k) 1 rfl rfl rfl (by first | (show _<=(9223372036854775807:Int);omega) | (show _<=(4294967295:Int);omega) | (show _<=(18446744073709551615:Int);omega) | (show _<=(255:Int);omega) | (show _<=(65535:Int);omega)) (by first | decide | (show _<=(9223372036854775807:Int);omega) | (show _<=(4294967295:Int);omega) | (show _<=(18446744073709551615:Int);omega) | (show _<=(255:Int);omega) | (show _<=(65535:Int);omega))) ?_
 refine af ?_
 rw[Sr]
 refine aj.cy 22 (b:=(!F.b.good.testBit k)) (dD (!F.b.good.testBit k) 5) (dG (!F.b.good.testBit k) 5) rfl rfl rfl rfl rfl rfl rfl an (fun iu=> ?_) (fun iu=> ?_)
 ·have x9:F.b.good.testBit k=true:=by simpa using iu
  have Ob:fJ F.b F.b.good (nn n 0)=5:=by unfold fJ;rw[hk,if_neg (by omega),AD,x9];rfl
  exact ec (e:=5) (by show(bH F .good n).2.2=_;unfold bH;dsimp only;rw[if_pos (by rw[Ob];decide),Ob]) (by decide) (fG _ _ _)
 have x9:F.b.good.testBit k=false:=by simpa using iu
 have hce:fJ F.b F.b.good (nn n 0)=0:=by unfold fJ;rw[hk,if_neg (by omega),AD,x9];rfl
 have YL:¬ fJ F.b F.b.good (nn n 0)≠0:=fun h=>h hce
 have hN:F.b.good+pow2 (nn n 0)=(F.b.good||| 1*2^k):=by unfold pow2;rw[hk,AD];exact(Ao x9).symm
 have hkp:=Sl (show 1<2 by omega) VO
 have hBN:(F.b.good||| 1*2^k)<16777216:=by rw[Ao x9];have h5:2^k+2^k<=2^F.b.ai.length:=(by have:=Zy (show 0<2 by omega) (show k+1<=F.b.ai.length by omega);rw[V9] at this;omega);have h6:=PJ (x:=F.b.good) (y:=2^k) (n:=F.b.ai.length) (by omega) hkp;rw[<- rY x9] at h6;omega
 iterate 2 refine af ?_
 refine aF.aD 7 mixed (by kernel_rfl) (by decide) ?_
 refine af ?_
 refine Kq (aa.nilCheck rfl rfl) ?_
 refine Kq (Kl (.p (.int .i64 ((F.b.good:Nat):Int)))) ?_
 refine af ?_
 refine Kq (aa.ri 1 k rfl rfl rfl (by show _<=(64:Nat);omega) (by show _<=(9223372036854775807:Int);rw[ZO];omega)) ?_
 refine Kq (aa.Wq F.b.good (1*2^k) rfl rfl rfl (by show _<=(9223372036854775807:Int);omega) (by show _<=(9223372036854775807:Int);rw[ZO];omega) (by show _<=(9223372036854775807:Int);omega)) ?_
 refine Kq (aa.nilCheck rfl rfl) ?_
 refine aA.nil ?_
 refine Kz (aa.store (H':=[cH {F.b with good:=(F.b.good||| 1*2^k)} F.aV (.raw a m c) 1 2 3 4 5,dn F.b.au,cV F.b.ai,de F.b.aq,bz F.b.plan,bz F.b.bZ]) rfl rfl rfl rfl rfl an rfl rfl) ?_
 iterate 2 refine af ?_
 refine aF.aD 24 mixed (by kernel_rfl) (by decide) ?_
 refine af ?_
 refine Kq (aa.nilCheck rfl rfl) ?_
 iterate 3 refine af ?_
 refine Kq (Kl (aZ 2 F.b.ai.length)) ?_
 refine af ?_
 refine Kq (aa.nilCheck rfl rfl) ?_
 iterate 3 refine af ?_
 refine Kq (Kl (.p (.int .i64 ((F.b.bad:Nat):Int)))) ?_
 refine af ?_
 refine Kq (aa.nilCheck rfl rfl) ?_
 iterate 3 refine af ?_
 refine Kq (Kl (.p (.int .i64 (((F.b.good||| 1*2^k):Nat):Int)))) ?_
 refine Kq (aa.yU 3 (Rx.rR F.b.ai ((F.b.bad:Nat):Int) (((F.b.good||| 1*2^k):Nat):Int) (ZW jM (by decide))) rfl rfl rfl rfl rfl (Z2 (i:=2) (xs:=[.int .i64 ((F.b.bad:Nat):Int),.int .i64 (((F.b.good||| 1*2^k):Nat):Int)]) rfl) an) ?_
 refine af ?_
 refine Kq (aa.extract rfl rfl rfl) ?_
 refine Kq (aa.extract rfl rfl rfl) ?_
 iterate 2 refine af ?_
 refine aA.nil ?_
 iterate 6 refine af ?_
 refine aj.cy 55 (b:=_) (dD _ (Rx.iY F.b.ai ((F.b.bad:Nat):Int) (((F.b.good||| 1*2^k):Nat):Int))) (dG _ (Rx.iY F.b.ai ((F.b.bad:Nat):Int) (((F.b.good||| 1*2^k):Nat):Int))) rfl rfl rfl rfl rfl rfl rfl an (fun S5=> ?_) (fun S5=> ?_)
 ·have VG:(Rx.iY F.b.ai ((F.b.bad:Nat):Int) (((F.b.good||| 1*2^k):Nat):Int))=6:=by simpa using S5
  exact ec (e:=(Rx.iY F.b.ai ((F.b.bad:Nat):Int) (((F.b.good||| 1*2^k):Nat):Int))) (by rw[VG];show(bH F .good n).2.2=_;unfold bH;dsimp only;rw[if_neg YL,hN,if_pos VG]) (by rw[VG];decide) (⟨⟨_,rfl,rfl⟩,⟨ZR rfl,by intro j y h1 h2 h3;obtain rfl | rfl | rfl | rfl | rfl:j=1∨j=2∨j=3∨j=4∨j=5:=(by omega);all_goals first | exact .inl (ZD (show some ah.dead=some y from h3)).symm | exact .inr h3⟩⟩)
 have hn6:¬ (Rx.iY F.b.ai ((F.b.bad:Nat):Int) (((F.b.good||| 1*2^k):Nat):Int))=6:=by simpa using S5
 iterate 4 refine af ?_
 refine Kc (aa.aG rfl rfl lN) ?_
 iterate 2 refine af ?_
 refine Kc (Kl (.p (.int .i64 (((F.b.good||| 1*2^k):Nat):Int)))) ?_
 refine Kc (aa.dY rfl rfl (by rw[CR];rfl) BB (mK ?_)) ?_
 ·omega
 refine Kc (Kp (HJ (F.b.good||| 1*2^k) (by omega))) ?_
 refine Kc (aa.aG rfl rfl kn) ?_
 refine Kc (aa.aS rfl an (by decide) rfl rfl rfl) ?_
 refine Kc (Kp (dy [.str (Vb.t .good),.num ((jb (F.b.good||| 1*2^k)).length:Int)] Kn Kn (fD (by decide) (eG (by have:=gu (F.b.good||| 1*2^k);omega) gf)))) ?_
 iterate 3 refine af ?_
 refine iF.one rfl rfl (x8 (F2:={F with b:={F.b with good:=(F.b.good||| 1*2^k)}}) (r:=aY (Vb.t .good) [((jb (F.b.good||| 1*2^k)).length:Int)]) (by unfold bH;dsimp only;rw[if_neg YL,hN,if_neg hn6]) (by rw[eJ];rfl) ?_)
 exact CL
theorem Vu:VC .good 92:=by
 intro F n a m c hF hl hn
 have jM:=Rx.dc hF.b.cd
 have ud:=hF.b.sk
 have sO:=hF.b.dr
 have q0:0<=nn n 0∧nn n 0<10000000000000:=hn _ (Di.bC 0 (show 0<n.length by rw[hl];decide))
 obtain⟨k,hk⟩:=V8 q0.1
 refine av.start (N:=15) Tryz.func92 rfl rfl Kn ?_
 iterate 5 refine af ?_
 refine aF.aD 9 mixed (by kernel_rfl) (by decide) ?_
 iterate 2 refine af ?_
 refine Kq (aa.nilCheck rfl rfl) ?_
 iterate 4 refine af ?_
 refine Kq (aa.aN (g:=Di.gt 0 n) (k:=0) (Di.aC _) rfl rfl rfl an dH rfl (fun _=>rfl) (by decide) (by rw[hl];decide)) ?_
 refine Kq (aa.load (v:= .p (.int .i64 ((k:Nat):Int))) rfl rfl an (by rw[<- hk];rfl)) ?_
 refine aA.nil ?_
 refine aj.eY 14 (JT F n a m c k hF hk) rfl rfl rfl rfl rfl rfl rfl an (fun y H2 iw=> ?_) (fun v H2 iw=> ?_)
 ·exact⟨_,rfl,iw⟩
 exact vS
theorem flL(b:bN)(p:Di.bn)(um:V)(x:Di.aH)(y:Int)(i1 i2 i3 i4 i5:Nat):ah.cells ([aZ i1 b.au.length,aZ i2 b.ai.length,.row i3 (b.aq.length+1),.row i4 (b.plan.length+1),.p (.int .i64 (b.bad:Int)),.p (.int .i64 (b.good:Int)),aZ i5 b.bZ.length]++p.cells.map .p++[um,.p (.bool true)]) 87=cH {b with aq:=b.aq++[x],plan:=b.plan++[y]} p um i1 i2 i3 i4 i5:=by
 unfold cH dF
 rw[<- lf i3 b.aq x,<- lf i4 b.plan y]
theorem Lf{H:List ah}{i k:Nat}{l:List Int}(h:H[i]? =some (bz l))(hk:k<l.length):cN H false 1 (.ptr i (k*1))=some (.p (.int .i64 (nn l k))):=by
 simp only[cN,h]
 cases l with
 | nil=>cases hk
 | cons x l=>
  show(((x::l).flatMap Di.bY).map V.p)[k*1]? =_
  rw[qC,Q1,JW,Zu,Zc hk]
  unfold nn
  rw[Di.aC 0 k hk]
  rfl
theorem QG(b:bN)(p:Di.bn)(um:V)(i1 i2 i3 i4 i5:Nat)(H:List ah)(h0:H[0]? =some (cH b p um i1 i2 i3 i4 i5))(h2:H[i2]? =some (cV b.ai))(hi:i2≠0)(x y:Int)(hlt:b.ai.length<24):ax Tryz.prog 87 [.ptr 0 0,.p (.int .i64 x),.p (.int .i64 y)] H (fun v H2=>v= .p (.int .i64 (b.ai.length:Int))∧H2=(H.set i2 .dead++[cV (b.fU ⟨x,y⟩).ai]).set 0 (cH (b.fU ⟨x,y⟩) p um i1 H.length i3 i4 i5)):=
 ((MQ b p um i1 i2 i3 i4 i5 H h0 h2 hi x y).mono (Y9:=fun v H2=>v= .p (.int .i64 (b.ai.length:Int))∧H2=(H.set i2 .dead++[cV (b.fU ⟨x,y⟩).ai]).set 0 (cH (b.fU ⟨x,y⟩) p um i1 H.length i3 i4 i5)) (YA:=fun _ _=>False) (fun v H2 ⟨_,h1,h2⟩=>⟨h1,h2⟩) (fun y H2 ⟨h1,_⟩=>h1 hlt)).toC (fun _ _ h=>h)
theorem T5:VC .lead 88:=by
 intro F n a m c hF hl hn
 have jM:=Rx.dc hF.b.cd
 have ud:=hF.b.sk
 have sO:=hF.b.dr
 have hl8:n.length=8:=hl
 have hck:=hF.b.ck
 have q0:0<=nn n 0∧nn n 0<10000000000000:=hn _ (Di.bC 0 (show 0<n.length by rw[hl];decide))
 have q1:0<=nn n 1∧nn n 1<10000000000000:=hn _ (Di.bC 0 (show 1<n.length by rw[hl];decide))
 have q2:0<=nn n 2∧nn n 2<10000000000000:=hn _ (Di.bC 0 (show 2<n.length by rw[hl];decide))
 have q3:0<=nn n 3∧nn n 3<10000000000000:=hn _ (Di.bC 0 (show 3<n.length by rw[hl];decide))
 have q4:0<=nn n 4∧nn n 4<10000000000000:=hn _ (Di.bC 0 (show 4<n.length by rw[hl];decide))
 have q5:0<=nn n 5∧nn n 5<10000000000000:=hn _ (Di.bC 0 (show 5<n.length by rw[hl];decide))
 have q6:0<=nn n 6∧nn n 6<10000000000000:=hn _ (Di.bC 0 (show 6<n.length by rw[hl];decide))
 have q7:0<=nn n 7∧nn n 7<10000000000000:=hn _ (Di.bC 0 (show 7<n.length by rw[hl];decide))
 obtain⟨⟨n1,n4⟩,_⟩:=Di.c9 hF.p
 obtain⟨u0,OV⟩:=hF.b.Kv
 have PM:=iP OV
 refine av.start (N:=145) Tryz.func88 rfl rfl Kn ?_
 iterate 7 refine af ?_
 refine aj.eY 10 (AE F.b F.aV a m c) rfl rfl rfl rfl rfl rfl rfl an (fun y H2 iw=> ?_) (fun v H2 iw=> ?_)
 ·obtain⟨q1,rfl,rfl⟩:=iw
  exact ec (e:=9) (by show(bH F .lead n).2.2=_;unfold bH;dsimp only;rw[if_pos (by omega)]) (by decide) (fG _ _ _)
 obtain⟨hlt,rfl,rfl⟩:=iw
 have hnr:¬ 24<=F.b.ai.length:=by omega
 iterate 6 refine af ?_
 refine aF.bQ 29 1 [6] [([],false),([],false),([],false),([],false),([],false),([],false),([],false),([],false),([],false),([],false),([],false),([],false),([],false),([],false),([],false),([],false),([],false),([],false),([],false),([],false),([],false),([],false),([],false),([],false),([],false),([],false),([],false),([6],true),([6],true)] mixed (by kernel_rfl) (by decide) (by kernel_rfl) rfl (At _ _ _ _ _) ?_
 refine af ?_
 refine br.cons 13 rfl rfl rfl (fun _=>(aa.nilCheck rfl rfl)) rfl ?_
 iterate 3 refine af ?_
 refine br.cons 17 rfl rfl rfl (fun _=>(Kl (aZ 1 (F.b.au).length))) (cU Kn) ?_
 iterate 2 refine af ?_
 refine br.cons 20 rfl rfl rfl (fun _=>(aa.aN (g:=Di.gt 0 n) (k:=0) (Di.aC _) rfl rfl rfl an dH rfl (fun _=>rfl) (by decide) (by rw[hl];decide))) rfl ?_
 refine br.cons 21 rfl rfl rfl (fun _=>(Kl (.p (.int .i64 (nn n 0))))) rfl ?_
 refine af ?_
 refine br.cons 23 rfl rfl rfl (fun _=>(aa.aN (g:=Di.gt 0 n) (k:=1) (Di.aC _) rfl rfl rfl an dH rfl (fun _=>rfl) (by decide) (by rw[hl];decide))) rfl ?_
 refine br.cons 24 rfl rfl rfl (fun _=>(Kl (.p (.int .i64 (nn n 1))))) rfl ?_
 refine br.cons 25 rfl rfl rfl (fun _=>(aa.eY (G9 (nn n 0) (nn n 1)) rfl rfl rfl rfl (an))) rfl ?_
 iterate 2 refine af ?_
 refine br.cons 28 rfl rfl rfl (fun _=>(aa.aN (g:=Di.gt 0 n) (k:=2) (Di.aC _) rfl rfl rfl an dH rfl (fun _=>rfl) (by decide) (by rw[hl];decide))) rfl ?_
 refine br.cons 29 rfl rfl rfl (fun _=>(Kl (.p (.int .i64 (nn n 2))))) rfl ?_
 refine af ?_
 refine br.cons 31 rfl rfl rfl (fun _=>(aa.aN (g:=Di.gt 0 n) (k:=3) (Di.aC _) rfl rfl rfl an dH rfl (fun _=>rfl) (by decide) (by rw[hl];decide))) rfl ?_
 refine br.cons 32 rfl rfl rfl (fun _=>(Kl (.p (.int .i64 (nn n 3))))) rfl ?_
 refine br.cons 33 rfl rfl rfl (fun _=>(aa.eY (G9 (nn n 2) (nn n 3)) rfl rfl rfl rfl (an))) rfl ?_
 refine br.cons 34 rfl rfl rfl (fun _=>(aa.aS rfl an (by decide) rfl rfl rfl)) rfl ?_
 refine br.cons 35 rfl rfl rfl (fun _=>(aa.yU 3 (IA F.b.au [bT (nn n 0) (nn n 1),bT (nn n 2) (nn n 3)] (ZW ud (by decide)) Kn) rfl rfl rfl rfl rfl (hbS (i:=1) (xs:=[Ck.wH [bT (nn n 0) (nn n 1),bT (nn n 2) (nn n 3)]]) rfl) an)) rfl ?_
 refine af ?_
 refine br.cons 36 rfl rfl rfl (fun _=>(aa.extract rfl rfl rfl)) rfl ?_
 refine br.cons 37 rfl rfl rfl (fun _=>(aa.extract rfl rfl rfl)) rfl ?_
 refine br.lay (v0:= .ptr 7 0) 6 6 rfl rfl rfl rfl rfl rfl rfl rfl (fun _=>(aa.aQ rfl an rfl)) rfl rfl rfl ?_
 refine br.put (blk:= .cells [.p (.int .i64 (shr F.b.au [bT (nn n 0) (nn n 1),bT (nn n 2) (nn n 3)]).1.1),.p (.int .i64 (shr F.b.au [bT (nn n 0) (nn n 1),bT (nn n 2) (nn n 3)]).1.2)] 24) 6 rfl rfl rfl rfl (fun _=>(aa.store rfl rfl rfl rfl rfl an rfl rfl)) rfl rfl ?_
 refine br.nil ?_
 iterate 5 refine af ?_
 refine aj.cy 39 (b:=(decide ((shr F.b.au [bT (nn n 0) (nn n 1),bT (nn n 2) (nn n 3)]).2=0))) (j7 (shr F.b.au [bT (nn n 0) (nn n 1),bT (nn n 2) (nn n 3)]).2) (oB (shr F.b.au [bT (nn n 0) (nn n 1),bT (nn n 2) (nn n 3)]).2) rfl rfl rfl rfl rfl rfl rfl an (fun he=> ?_) (fun he=> ?_)
 ·have hne:(shr F.b.au [bT (nn n 0) (nn n 1),bT (nn n 2) (nn n 3)]).2≠0:=Zl he
  exact ec (e:=(shr F.b.au [bT (nn n 0) (nn n 1),bT (nn n 2) (nn n 3)]).2) (by show(bH F .lead n).2.2=_;unfold bH;dsimp only;rw[if_neg hnr,if_pos hne]) hne (⟨⟨_,rfl,rfl⟩,⟨ZR rfl,by intro j y h1 h2 h3;obtain rfl | rfl | rfl | rfl | rfl:j=1∨j=2∨j=3∨j=4∨j=5:=(by omega);all_goals first | exact .inl (ZD (show some ah.dead=some y from h3)).symm | exact .inr h3⟩⟩)
 have vN:(shr F.b.au [bT (nn n 0) (nn n 1),bT (nn n 2) (nn n 3)]).2=0:=Zk he
 have hz:¬ (shr F.b.au [bT (nn n 0) (nn n 1),bT (nn n 2) (nn n 3)]).2≠0:=fun h=>h vN
 obtain⟨⟨i1,i2⟩,i3,i4⟩:=NT vN
 obtain⟨⟨b1,b2⟩,b3,b4⟩:=Si F.b.au [bT (nn n 0) (nn n 1),bT (nn n 2) (nn n 3)]
 have ck1:0<=nn F.b.bZ (nn n 0).toNat∧nn F.b.bZ (nn n 0).toNat<(F.b.ai.length:Int):=hF.b.P8 _ (Di.bC 0 (show(nn n 0).toNat<F.b.bZ.length by omega))
 have ck2:0<=nn F.b.bZ (nn n 2).toNat∧nn F.b.bZ (nn n 2).toNat<(F.b.ai.length:Int):=hF.b.P8 _ (Di.bC 0 (show(nn n 2).toNat<F.b.bZ.length by omega))
 obtain⟨k0,e0⟩:=V8 ck1.1
 obtain⟨k1,e1⟩:=V8 ck2.1
 have hp0:=V4 (show k0<=24 by omega)
 have hp1:=V4 (show k1<=24 by omega)
 iterate 8 refine af ?_
 refine Kc (Kl (aZ 3 F.b.aq.length)) ?_
 refine Kc (aa.bq rfl rfl an rG) ?_
 refine af ?_
 refine aj.cy 48 (b:=_) (dD _ 9) (dG _ 9) rfl rfl rfl rfl rfl rfl rfl an (fun hb=> ?_) (fun hb=> ?_)
 ·exact ec (e:=9) (by show(bH F .lead n).2.2=_;unfold bH;dsimp only;rw[if_neg hnr,if_neg hz,if_pos (by have h:=Zl hb;omega)]) (by decide) (⟨⟨_,rfl,rfl⟩,⟨ZR rfl,by intro j y h1 h2 h3;obtain rfl | rfl | rfl | rfl | rfl:j=1∨j=2∨j=3∨j=4∨j=5:=(by omega);all_goals first | exact .inl (ZD (show some ah.dead=some y from h3)).symm | exact .inr h3⟩⟩)
 have YK:¬ 8<=F.b.aq.length:=by have h:=Zk hb;omega
 iterate 2 refine af ?_
 refine aF.tW (H':=[cH F.b F.aV (.raw a m c) 1 2 3 4 5,dn F.b.au,cV F.b.ai,de F.b.aq,bz F.b.plan,bz F.b.bZ,.cells [.p (.int .i64 (shr F.b.au [bT (nn n 0) (nn n 1),bT (nn n 2) (nn n 3)]).1.1),.p (.int .i64 (shr F.b.au [bT (nn n 0) (nn n 1),bT (nn n 2) (nn n 3)]).1.2)] 24]) rfl ?_
 refine aF.bQ 33 2 [0,3,4,7,8] [([],false),([],false),([],false),([],false),([],false),([],false),([],false),([0],false),([],false),([],false),([],false),([],false),([],false),([],false),([],false),([],false),([7,3],true),([],false),([],false),([],false),([],false),([],false),([0],false),([],false),([],false),([],false),([],false),([8,4],true),([],false),([],false),([],false),([],false),([0,7],true)] mixed (by kernel_rfl) (by decide) (by kernel_rfl) rfl (by simp[cH,mQ,bS,bK,cj,ef,ia,fA,bE,cU,dn,cV,de,bz,dF,Di.bn.cells]) ?_
 iterate 3 refine af ?_
 refine br.cons 52 rfl rfl rfl (fun _=>(aa.nilCheck rfl rfl)) rfl ?_
 iterate 3 refine af ?_
 refine br.cons 56 rfl rfl rfl (fun _=>(Kl (aZ 3 (F.b.aq).length))) (cU Kn) ?_
 refine af ?_
 refine br.cons 58 rfl rfl rfl (fun _=>(aa.aN (g:=Di.gt 0 n) (k:=5) (Di.aC _) rfl rfl rfl an dH rfl (fun _=>rfl) (by decide) (by rw[hl];decide))) rfl ?_
 refine br.cons 59 rfl rfl rfl (fun _=>(Kl (.p (.int .i64 (nn n 5))))) rfl ?_
 refine af ?_
 refine br.cons 61 rfl rfl rfl (fun _=>(aa.oy (l:=6) (h:=n.length) (r:=((n.drop 6).take (n.length - 6)).flatMap Di.bY) rfl rfl an dH ⟨_,rfl⟩ rfl (by omega) (by omega) (qz n 6 (n.length - 6)))) rfl ?_
 refine br.cons 62 rfl rfl rfl (fun _=>(Kp (uj n 6 (n.length - 6) (by omega) (by omega)))) rfl ?_
 refine br.cons 63 rfl rfl rfl (fun _=>(aa.sF (v:= .p (.agg (⟨nn n 5,nn n 6,nn n 7⟩:Di.aH).cells)) rfl an rfl rfl rfl)) rfl ?_
 refine br.cons 64 rfl rfl rfl (fun _=>(aa.aS rfl an (by decide) rfl rfl rfl)) rfl ?_
 refine br.JX (blk:= .row (((F.b.aq).flatMap Di.aH.cells).map .p++((⟨nn n 5,nn n 6,nn n 7⟩:Di.aH).cells).map .p) 74) (v0:= .row 9 _) 65 7 3 rfl rfl rfl rfl rfl rfl rfl rfl rfl rfl (fun _=>(aa.qJ (i:=3) (len:=(F.b.aq).length) (cs:=((F.b.aq).flatMap Di.aH.cells).map .p) (ys:=((⟨nn n 5,nn n 6,nn n 7⟩:Di.aH).cells).map .p) (n:=1) rfl rfl rfl an an rfl (by rw[Zp,AF.cu (c:=3) (fun _=>rfl)];rfl) rfl (by decide) rfl an (by decide) (by show(2*(_+1)+192)*24<=281474976710656;omega))) rfl rfl (by show ah.row (bA _ (_++_)) _=_;rw[bF,aP,aP]) ?_
 refine af ?_
 refine br.cons 67 rfl rfl rfl (fun _=>(aa.nilCheck rfl rfl)) rfl ?_
 iterate 3 refine af ?_
 refine br.cons 71 rfl rfl rfl (fun _=>(Kl (aZ 4 (F.b.plan).length))) (cU Kn) ?_
 refine af ?_
 refine br.cons 73 rfl rfl rfl (fun _=>(aa.aN (g:=Di.gt 0 n) (k:=4) (Di.aC _) rfl rfl rfl an dH rfl (fun _=>rfl) (by decide) (by rw[hl];decide))) rfl ?_
 refine br.cons 74 rfl rfl rfl (fun _=>(Kl (.p (.int .i64 (nn n 4))))) rfl ?_
 refine br.cons 75 rfl rfl rfl (fun _=>(aa.aS rfl an (by decide) rfl rfl rfl)) rfl ?_
 refine br.JX (blk:= .row (((F.b.plan).flatMap Di.bY).map .p++(Di.bY (nn n 4)).map .p) 3) (v0:= .row 9 _) 76 8 4 rfl rfl rfl rfl rfl rfl rfl rfl rfl rfl (fun _=>(aa.qJ (i:=4) (len:=(F.b.plan).length) (cs:=((F.b.plan).flatMap Di.bY).map .p) (ys:=(Di.bY (nn n 4)).map .p) (n:=1) rfl rfl rfl an an rfl (by rw[Zp,AF.cu (c:=1) (fun _=>rfl)];rfl) rfl (by decide) rfl an (by decide) (by show(2*(_+1)+192)*8<=281474976710656;omega))) rfl rfl (by show ah.row (bA _ (_++_)) _=_;rw[bF,aP,aP]) ?_
 refine br.cons 77 rfl rfl rfl (fun _=>(aa.nilCheck rfl rfl)) rfl ?_
 iterate 3 refine af ?_
 refine br.put (blk:= .cells ([aZ 1 F.b.au.length,aZ 2 F.b.ai.length,.row 7 (F.b.aq.length+1),aZ 4 F.b.plan.length,.p (.int .i64 (F.b.bad:Int)),.p (.int .i64 (F.b.good:Int)),aZ 5 F.b.bZ.length]++F.aV.cells.map .p++[.raw a m c,.p (.bool true)]) 87) 0 rfl rfl rfl rfl (fun _=>(aa.store rfl rfl rfl rfl rfl an rfl rfl)) rfl (by simp[bS,bK,cj,ef,ia,cU,Di.bn.cells,bf,sg,sW]) ?_
 refine br.nil ?_
 iterate 7 refine af ?_
 refine aF.tW (H':=[cH {F.b with aq:=F.b.aq++[(⟨nn n 5,nn n 6,nn n 7⟩:Di.aH)],plan:=F.b.plan++[nn n 4]} F.aV (.raw a m c) 1 2 7 8 5,dn F.b.au,cV F.b.ai,.dead,.dead,bz F.b.bZ,.cells [.p (.int .i64 (shr F.b.au [bT (nn n 0) (nn n 1),bT (nn n 2) (nn n 3)]).1.1),.p (.int .i64 (shr F.b.au [bT (nn n 0) (nn n 1),bT (nn n 2) (nn n 3)]).1.2)] 24,de (F.b.aq++[(⟨nn n 5,nn n 6,nn n 7⟩:Di.aH)]),bz (F.b.plan++[nn n 4])]) (by rw[<- flL F.b F.aV _ _ _ 1 2 7 8 5,<- Lw,<- BV];rfl) ?_
 refine aF.aD 22 mixed (by kernel_rfl) (by decide) ?_
 refine af ?_
 refine Kq (aa.nilCheck rfl rfl) ?_
 refine af ?_
 refine Kq (Kl (.p (Di.dO F.aV))) ?_
 refine af ?_
 refine Kq (aa.nilCheck rfl rfl) ?_
 iterate 3 refine af ?_
 refine Kq (Kl (aZ 7 (F.b.aq++[(⟨nn n 5,nn n 6,nn n 7⟩:Di.aH)]).length)) ?_
 refine af ?_
 refine Kq (aa.nilCheck rfl rfl) ?_
 iterate 3 refine af ?_
 refine Kq (Kl (aZ 8 (F.b.plan++[nn n 4]).length)) ?_
 refine Kq (aa.Td 3 (Di.oq F.aV (F.b.aq++[(⟨nn n 5,nn n 6,nn n 7⟩:Di.aH)]) (F.b.plan++[nn n 4]) (ZW n4 (by decide)) (ZW (show(F.b.aq++[(⟨nn n 5,nn n 6,nn n 7⟩:Di.aH)]).length<=9 by simp;omega) (by decide)) (ZW (show(F.b.plan++[nn n 4]).length<=9 by simp;omega) (by decide))) rfl rfl rfl rfl (WY (i:=7) (j:=8) rfl rfl) an) ?_
 refine af ?_
 refine Kq (aa.extract rfl rfl rfl) ?_
 refine Kq (aa.extract rfl rfl rfl) ?_
 refine Kq (aa.extract rfl rfl rfl) ?_
 refine af ?_
 refine aA.nil ?_
 iterate 4 refine af ?_
 refine aj.cy 107 (b:=(decide ((Di.eC F.aV (F.b.aq++[(⟨nn n 5,nn n 6,nn n 7⟩:Di.aH)]) (F.b.plan++[nn n 4])).2.2=0))) (j7 (Di.eC F.aV (F.b.aq++[(⟨nn n 5,nn n 6,nn n 7⟩:Di.aH)]) (F.b.plan++[nn n 4])).2.2) (oB (Di.eC F.aV (F.b.aq++[(⟨nn n 5,nn n 6,nn n 7⟩:Di.aH)]) (F.b.plan++[nn n 4])).2.2) rfl rfl rfl rfl rfl rfl rfl an (fun J7=> ?_) (fun J7=> ?_)
 ·have hne:(Di.eC F.aV (F.b.aq++[(⟨nn n 5,nn n 6,nn n 7⟩:Di.aH)]) (F.b.plan++[nn n 4])).2.2≠0:=Zl J7
  exact ec (e:=(Di.eC F.aV (F.b.aq++[(⟨nn n 5,nn n 6,nn n 7⟩:Di.aH)]) (F.b.plan++[nn n 4])).2.2) (by show(bH F .lead n).2.2=_;unfold bH;dsimp only;rw[if_neg hnr,if_neg hz,if_neg YK,if_pos hne]) hne (⟨⟨_,rfl,rfl⟩,⟨ZR rfl,by intro j y h1 h2 h3;obtain rfl | rfl | rfl | rfl | rfl:j=1∨j=2∨j=3∨j=4∨j=5:=(by omega);all_goals first | exact .inl (ZD (show some ah.dead=some y from h3)).symm | exact .inr h3⟩⟩)
 have hy:¬ (Di.eC F.aV (F.b.aq++[(⟨nn n 5,nn n 6,nn n 7⟩:Di.aH)]) (F.b.plan++[nn n 4])).2.2≠0:=fun h=>h (Zk J7)
 iterate 2 refine af ?_
 refine aF.aD 24 mixed (by kernel_rfl) (by decide) ?_
 iterate 2 refine af ?_
 refine Kq (aa.nilCheck rfl rfl) ?_
 iterate 2 refine af ?_
 refine Kq (Kl (aZ 5 F.b.bZ.length)) ?_
 refine af ?_
 refine Kq (aa.aN (g:=Di.gt 0 n) (k:=0) (Di.aC _) rfl rfl rfl an dH rfl (fun _=>rfl) (by decide) (by rw[hl];decide)) ?_
 refine Kq (Kl (.p (.int .i64 (nn n 0)))) ?_
 refine Kq (aa.Ih rfl rfl rfl an dH q0.1 (by omega)) ?_
 refine Kq (aa.load (v:= .p (.int .i64 ((k0:Nat):Int))) rfl rfl an (by rw[<- e0];exact Lf rfl (by omega))) ?_
 refine Kq (aa.ri 1 k0 rfl rfl rfl (by show _<=(64:Nat);omega) (by show _<=(9223372036854775807:Int);rw[ZO];omega)) ?_
 refine af ?_
 refine Kq (aa.nilCheck rfl rfl) ?_
 iterate 2 refine af ?_
 refine Kq (Kl (aZ 5 F.b.bZ.length)) ?_
 refine af ?_
 refine Kq (aa.aN (g:=Di.gt 0 n) (k:=2) (Di.aC _) rfl rfl rfl an dH rfl (fun _=>rfl) (by decide) (by rw[hl];decide)) ?_
 refine Kq (Kl (.p (.int .i64 (nn n 2)))) ?_
 refine Kq (aa.Ih rfl rfl rfl an dH q2.1 (by omega)) ?_
 refine Kq (aa.load (v:= .p (.int .i64 ((k1:Nat):Int))) rfl rfl an (by rw[<- e1];exact Lf rfl (by omega))) ?_
 refine Kq (aa.ri 1 k1 rfl rfl rfl (by show _<=(64:Nat);omega) (by show _<=(9223372036854775807:Int);rw[ZO];omega)) ?_
 refine Kq (aa.Wq (1*2^k0) (1*2^k1) rfl rfl rfl (by show _<=(9223372036854775807:Int);rw[ZO];omega) (by show _<=(9223372036854775807:Int);rw[ZO];omega) (by have ho:=PJ (n:=62) (x:=1*2^k0) (y:=1*2^k1) (by omega) (by omega);show _<=(9223372036854775807:Int);omega)) ?_
 refine aA.nil ?_
 refine Kc (aa.gB rfl rfl rfl rfl an (QG {F.b with aq:=F.b.aq++[(⟨nn n 5,nn n 6,nn n 7⟩:Di.aH)],plan:=F.b.plan++[nn n 4]} F.aV (.raw a m c) 1 2 7 8 5 _ rfl rfl (by decide) ((1*2^k0||| 1*2^k1:Nat):Int) 0 hlt)) ?_
 iterate 4 refine af ?_
 refine Kc (aa.aG rfl rfl lN) ?_
 refine af ?_
 refine Kc (aa.aG rfl rfl kn) ?_
 refine Kc (aa.aG rfl rfl lN) ?_
 refine af ?_
 refine Kc (Kl (.p (.int .i64 (shr F.b.au [bT (nn n 0) (nn n 1),bT (nn n 2) (nn n 3)]).1.1))) ?_
 refine Kc (aa.aG rfl rfl kn) ?_
 refine af ?_
 refine Kc (Kl (.p (.int .i64 (shr F.b.au [bT (nn n 0) (nn n 1),bT (nn n 2) (nn n 3)]).1.2))) ?_
 refine Kc (aa.aG rfl rfl kn) ?_
 refine Kc (aa.aS rfl an (by decide) rfl rfl rfl) ?_
 refine Kc (Kp (dy [.str jQ,.num (F.b.ai.length:Int),.str F7,.num (shr F.b.au [bT (nn n 0) (nn n 1),bT (nn n 2) (nn n 3)]).1.1,.num (shr F.b.au [bT (nn n 0) (nn n 1),bT (nn n 2) (nn n 3)]).1.2] Kn Kn (fD (by decide) (eG (by omega) (fD (by decide) (eG ⟨b1,b2⟩ (eG ⟨b3,b4⟩ gf))))))) ?_
 iterate 3 refine af ?_
 refine iF.one rfl rfl (x8 (F2:={F with b:={F.b.fU ⟨((1*2^k0||| 1*2^k1:Nat):Int),0⟩ with aq:=(F.b.aq++[(⟨nn n 5,nn n 6,nn n 7⟩:Di.aH)]),plan:=(F.b.plan++[nn n 4])}}) (r:=aY jQ [(F.b.ai.length:Int)]++32::aY F7 [(shr F.b.au [bT (nn n 0) (nn n 1),bT (nn n 2) (nn n 3)]).1.1,(shr F.b.au [bT (nn n 0) (nn n 1),bT (nn n 2) (nn n 3)]).1.2]) (by unfold bH;dsimp only;rw[if_neg hnr,if_neg hz,if_neg YK,if_neg hy,HR e0 e1]) (by simp[cQ,aY,jJ,iU.w]) ?_)
 exact⟨⟨1,9,7,8,5,by decide,rfl,rfl,rfl,rfl,rfl,rfl⟩,⟨ZR rfl,by intro j y h1 h2 h3;obtain rfl | rfl | rfl | rfl | rfl:j=1∨j=2∨j=3∨j=4∨j=5:=(by omega);all_goals first | exact .inl (ZD (show some ah.dead=some y from h3)).symm | exact .inr h3⟩⟩
theorem Gv{l:List Int}{q j:Nat}{x:Int}(hq:q<l.length):Di.gt 0 (l.set q x) j=if q=j then x else Di.gt 0 l j:=by
 unfold Di.gt
 rw[Ze,Ze,Zv]
 by_cases h:q=j
 ·rw[if_pos h,if_pos h,if_pos hq];rfl
 ·rw[if_neg h,if_neg h]
theorem oF{l:List Di.aH}{i:Nat}{w:Di.aH}{r:List Di.aH}(h:w::r=l.drop i):Di.gt Di.aH.d l i=w∧r=l.drop (i+1):=by
 have h1:(l.drop i)[0]? =some w:=by rw[<- h];rfl
 rw[St,KC] at h1
 refine⟨?_,?_⟩
 ·unfold Di.gt
  rw[Ze,h1];rfl
 ·rw[show l.drop (i+1)=(l.drop i).drop 1 by rw[OR],<- h];rfl
theorem Jy{p:Di.bn}{b:bN}:∀(l:List Di.aH) (i:Nat) (u v:List Int) (n:Int),l=b.aq.drop i->i<=b.plan.length->u.length=p.dies.length->(∀ j,j<u.length->Di.gt 0 u j=xk b (j:Int) i)->Di.eX p b.plan i u l=(some v,n,0)->
    v.length=p.dies.length∧∀ j,j<v.length->Di.gt 0 v j=eB b (j:Int):=by
 intro l
 induction l with
 | nil=>
  intro i u v n hl hi hu hj h
  unfold Di.eX at h
  split at h
  ·cases h
  ·rename_i h2
   cases h
   have e:i=b.plan.length:=by omega
   subst e
   exact⟨hu,hj⟩
 | cons w l ih=>
  intro i u v n hl hi hu hj h
  unfold Di.eX at h
  split at h
  ·cases h
  ·rename_i h2
   split at h
   ·cases h
   ·rename_i h3
    split at h
    ·cases h
    ·rename_i h4
     obtain⟨g1,g2⟩:=oF hl
     obtain⟨k1,k2⟩:=Di.fq (by simpa using h3)
     have hq:(Di.gt 0 b.plan i).toNat<u.length:=by omega
     refine ih (i+1) _ v n g2 (by omega) (by rw[ZZ];exact hu) (fun j hjl=> ?_) h
     rw[ZZ] at hjl
     rw[Gv hq,xk,g1]
     by_cases e:(Di.gt 0 b.plan i).toNat=j
     ·rw[if_pos e,if_pos (by omega),e,hj j hjl]
     ·rw[if_neg e,if_neg (by omega),Int.add_zero,hj j hjl]
theorem vu{p:Di.bn}{b:bN}{u:List Int}{n:Int}(h:Di.eC p b.aq b.plan=(some u,n,0)):u.length=p.dies.length∧∀ j,j<u.length->Di.gt 0 u j=eB b (j:Int):=by
 obtain⟨h1,h2⟩:=qN h
 rw[Di.gG h1 h2] at h
 refine Jy b.aq 0 (List.replicate p.dies.length 0) u n rfl (Zs _) (by rw[Z0]) (fun j hj=> ?_) h
 rw[Z0] at hj
 unfold Di.gt
 rw[Ze,List.getElem?_replicate,if_pos hj]
 rfl
namespace Di
theorem Gs(p:bn)(l:List aH)(plan:List Int)(hp:p.dies.length<=b6)(hl:l.length<=b6)(hn:plan.length<=b6)(w:List Int)(hf:eC p l plan=(some w,(l.length:Int),0)):ax Tryz.prog 29 ([dO p,cv l,bw plan].map .p) [] fun v H2=>v= .tuple [.row 0 p.dies.length,.p (.int .i64 (l.length:Int)),.p (.int .i64 0)]∧H2=[.row ((w.flatMap bY).map .p) 3]:=by
 have Sa:=hp
 have xG:=hl
 have hn2:=hn
 unfold b6 at Sa xG hn2
 refine ax.start (N:=93) Tryz.func29 rfl rfl Kn ?_
 iterate 12 refine af ?_
 refine Kc (Kp (mj p hp)) ?_
 iterate 3 refine af ?_
 refine Ki (fun hc0=> ?_) fun hc0=> ?_
 ·have hv:cL p=false:=by simpa using hc0
  iterate 7 refine af ?_
  rw[FB hv] at hf
  cases hf
 ·have hv:cL p=true:=by simpa using hc0
  obtain⟨⟨n1,n4⟩,_,hsh,Pz⟩:=c9 hv
  iterate 3 refine af ?_
  refine Kc (Kp (nQ l hl)) ?_
  iterate 3 refine af ?_
  refine Ki (fun cR=> ?_) fun cR=> ?_
  ·have hd:cG l=false:=by simpa using cR
   iterate 7 refine af ?_
   rw[Of hv hd] at hf
   cases hf
  ·have hd:cG l=true:=by simpa using cR
   obtain⟨hl8,O4⟩:=dh hd
   iterate 6 refine af ?_
   refine Kc (aa.makeSlice (n:=p.dies.length) (c:=p.dies.length) rfl rfl rfl an an (by decide) (Zf _) (by show 8*p.dies.length<=281474976710656;omega)) ?_
   iterate 4 refine af ?_
   rw[HT]
   refine aF.norm [0] [(1,_),(2,_),(3,_),(6,.row 0 p.dies.length)] [.row (((List.replicate p.dies.length 0).flatMap bY).map .p) 3] rfl KS (by show[ah.row (bA _ (List.map V.p _)) _]=_;rw[aP]) ?_
   iterate 6 refine af ?_
   refine aF.fE [1,2,3,24,25,83,84,85,86,87,88,89,90,91,92] (fun g=>[(26,.p (.int .i64 ((g.1:Nat):Int))),(6,.row 0 p.dies.length)]) (fun g=>[.row ((g.2.flatMap bY).map .p) 3]) (fun g=>g.1<=l.length∧Br p g.2 (1000*(g.1:Int))∧eX p plan 0 (List.replicate p.dies.length 0) l=eX p plan g.1 g.2 (l.drop g.1)) (fun g=>l.length - g.1) (0,List.replicate p.dies.length 0) ⟨Zs _,RN p,rfl⟩ (To.sub (Sub.Jw (Sub.cons rfl (Sub.cons rfl (Sub.nil))))) (fun g hg=> ?_)
   obtain⟨i,u⟩:=g
   obtain⟨vt,mF,G5⟩:=hg
   dsimp only at vt mF G5 ⊢
   have Xi:=mF.1
   iterate 5 refine af ?_
   refine Ki (fun jR=> ?_) fun jR=> ?_
   ·have hk0:i<l.length:=by have h:(i:Int)<(l.length:Int):=Zk jR;omega
    have hW:=jh (O4 _ (bC aH.d hk0))
    iterate 6 refine af ?_
    refine Kc (aa.aN (g:=gt aH.d l) (aC _) rfl rfl rfl an oQ rfl (fun _=>rfl) (by decide) hk0) ?_
    refine Kc (Kl (.p (.agg (gt aH.d l i).cells))) ?_
    iterate 2 refine af ?_
    refine Kz (aa.store (H':=[.row ((u.flatMap bY).map .p) 3,.cells ((gt aH.d l i).cells.map .p) 74]) rfl rfl rfl rfl rfl an rfl rfl) ?_
    iterate 11 refine af ?_
    refine Ki (fun pG=> ?_) fun pG=> ?_
    ·have hpl:(plan.length:Int)<=(i:Int):=Zk pG
     iterate 8 refine af ?_
     rw[gG hv hd,G5,Sx hk0 hpl] at hf
     cases hf
    ·have hpl:¬ (plan.length:Int)<=(i:Int):=Zl pG
     have Ui:i<plan.length:=by omega
     refine af ?_
     refine aF.aD 11 mixed (by kernel_rfl) (by decide) ?_
     iterate 2 refine af ?_
     refine Kq (aa.aN (g:=gt 0 plan) (aC _) rfl rfl rfl an dH rfl (fun _=>rfl) (by decide) Ui) ?_
     refine Kq (Kl (.p (.int .i64 (gt 0 plan i)))) ?_
     iterate 2 refine af ?_
     refine Kq (aa.bq rfl rfl an rfl) ?_
     refine Kq (aa.iI rfl rfl rfl (aK ?_)) ?_
     ·omega
     refine Kq (Kp (cP _ _ _)) ?_
     refine Kq (aa.gr rfl rfl) ?_
     refine af ?_
     refine aA.nil ?_
     refine af ?_
     refine Ki (fun xM=> ?_) fun xM=> ?_
     ·have hin:iq (gt 0 plan i) 0 ((p.dies.length:Int) - 1)=false:=by simpa using xM
      iterate 8 refine af ?_
      rw[gG hv hd,G5,Su hk0 hpl hin] at hf
      cases hf
     ·have hin:iq (gt 0 plan i) 0 ((p.dies.length:Int) - 1)=true:=by simpa using xM
      obtain⟨XK,hq1⟩:=fq hin
      have hq:(gt 0 plan i).toNat<p.dies.length:=by omega
      have GZ:(gt 0 plan i).toNat<u.length:=by omega
      have hud:=mF.2 _ GZ
      have S7:=Pz _ (bC dw.d hq)
      iterate 6 refine af ?_
      refine Kc (aa.aN (g:=gt 0 plan) (aC _) rfl rfl rfl an dH rfl (fun _=>rfl) (by decide) Ui) ?_
      refine Kc (Kl (.p (.int .i64 (gt 0 plan i)))) ?_
      refine Kc (aa.lC rfl rfl rfl an dH XK (by omega)) ?_
      iterate 4 refine af ?_
      refine aF.aD 19 mixed (by kernel_rfl) (by decide) ?_
      iterate 3 refine af ?_
      refine Kq (aa.aN (g:=gt 0 plan) (aC _) rfl rfl rfl an dH rfl (fun _=>rfl) (by decide) Ui) ?_
      refine Kq (Kl (.p (.int .i64 (gt 0 plan i)))) ?_
      refine Kq (Kp (sI p (gt 0 plan i) hq XK)) ?_
      refine af ?_
      refine Kq (aa.nilCheck rfl rfl) ?_
      refine Kq (aa.kY (f:=bY) (c:=1) (k:=(gt 0 plan i).toNat) (j:=0) (xs:=u) rfl rfl an rfl rfl (by omega) (fun _=>rfl) GZ (by decide) (show _=PV.int .i64 (gt 0 u (gt 0 plan i).toNat) from by rw[aC 0 _ GZ];rfl)) ?_
      refine af ?_
      refine Kq (aa.nilCheck rfl rfl) ?_
      refine Kq (aa.kY (f:=bY) (c:=1) (k:=(gt 0 plan i).toNat) (j:=0) (xs:=u) rfl rfl an rfl rfl (by omega) (fun _=>rfl) GZ (by decide) (show _=PV.int .i64 (gt 0 u (gt 0 plan i).toNat) from by rw[aC 0 _ GZ];rfl)) ?_
      iterate 2 refine af ?_
      refine Kq (aa.add (m:=(gt 0 u (gt 0 plan i).toNat+(gt aH.d l i).len)) rfl rfl rfl ((aK ?_).trans ?_)) ?_
      ·omega
      ·rfl
      iterate 2 refine af ?_
      refine Kq (Kp (AT p (gt dw.d p.dies (gt 0 plan i).toNat) (gt 0 u (gt 0 plan i).toNat) ((gt 0 u (gt 0 plan i).toNat)+(gt aH.d l i).len) (gt aH.d l i) hsh S7 (by omega) (by omega) (O4 _ (bC aH.d hk0)))) ?_
      refine Kq (aa.gr rfl rfl) ?_
      refine aA.nil ?_
      refine af ?_
      refine Ki (fun Aq=> ?_) fun Aq=> ?_
      ·have Q3:nX p (gt dw.d p.dies (gt 0 plan i).toNat) (gt 0 u (gt 0 plan i).toNat) (gt aH.d l i)=false:=by first | simpa only[F5] using Aq | (unfold nX;simpa only[F5] using Aq)
       iterate 8 refine af ?_
       rw[gG hv hd,G5,OE hk0 hpl hin Q3] at hf
       cases hf
      ·exact BT
   ·have hi2:i=l.length:=by have h:¬ ((i:Int)<(l.length:Int)):=Zl jR;omega
    subst hi2
    refine aF.exit ?_
    iterate 9 refine af ?_
    refine Ki (fun zp=> ?_) fun zp=> ?_
    ·have hlt:(l.length:Int)<(plan.length:Int):=Zk zp
     iterate 9 refine af ?_
     rw[gG hv hd,G5,Bd hlt] at hf
     cases hf
    ·have hlt:¬ (l.length:Int)<(plan.length:Int):=Zl zp
     iterate 11 refine af ?_
     rw[gG hv hd,G5,Mv hlt] at hf
     obtain rfl:u=w:=by simpa using hf
     exact⟨.inr rfl,_,en.many (vs:=[.row 0 p.dies.length,.p (.int .i64 (l.length:Int)),.p (.int .i64 0)]) rfl ⟨_,_,rfl,rfl,⟨_,_,rfl,rfl,⟨_,_,rfl,rfl,rfl⟩⟩⟩,rfl,rfl⟩
end Di
theorem Ks{σ:Nat->Option Nat}{xs:List PV}{e:TypeId}:aE σ (.row (xs.map .p) e)= .row (xs.map .p) e:=by show ah.row (bA σ _) e=_;rw[aP]
theorem ME{H:List ah}{i k:Nat}{l:List Int}{e:TypeId}(h:H[i]? =some (.row ((l.flatMap Di.bY).map .p) e))(hk:k<l.length):cN H false 1 (.ptr i (k*1))=some (.p (.int .i64 (Di.gt 0 l k))):=by
 simp only[cN,h]
 show((l.flatMap Di.bY).map V.p)[k*1]? =_
 rw[qC,Q1,JW,Zu,Zc hk,Di.aC 0 k hk]
 rfl
theorem K1(F:cW)(n:List Int)(a:Option Addr)(m c:Nat)(hF:mJ F)(q0:0<=nn n 0∧nn n 0<10000000000000):av Tryz.prog 102 [.ptr 0 0,.p (.int .i64 (nn n 0))] (mQ F.b F.aV (.raw a m c)) (Wr F .wear n (.raw a m c)) (Yb F .wear n (.raw a m c)):=by
 have jM:=Rx.dc hF.b.cd
 have sO:=hF.b.dr
 obtain⟨⟨n1,n4⟩,_⟩:=Di.c9 hF.p
 obtain⟨u0,OV⟩:=hF.b.Kv
 have PM:=iP OV
 obtain⟨Xi,hug⟩:=vu OV
 have O4:=(Di.dh (qN OV).2).2
 have hub:0<=eB F.b (nn n 0)∧eB F.b (nn n 0)<=1000*(F.b.plan.length:Int):=zI O4 PM _ (Zf _)
 refine av.start (N:=70) Tryz.func102 rfl rfl Kn ?_
 iterate 11 refine af ?_
 refine Kc (Kl (.p (.is (F.aV.dies.flatMap Di.dw.cells) F.aV.dies.length))) ?_
 iterate 2 refine af ?_
 refine aj.cy 17 (b:=_) (dD _ 2) (dG _ 2) rfl rfl rfl rfl rfl rfl rfl an (fun hb=> ?_) (fun hb=> ?_)
 ·exact ec (e:=2) (by show(bH F .wear n).2.2=_;unfold bH;dsimp only;rw[if_pos (by have h:=Zl hb;omega)]) (by decide) (fG _ _ _)
 have hj:¬ (F.aV.dies.length:Int)<=nn n 0:=by have h:=Zk hb;omega
 have hjl:(nn n 0).toNat<u0.length:=by omega
 have hue:Di.gt 0 u0 (nn n 0).toNat=eB F.b (nn n 0):=by rw[hug _ hjl,V7 q0.1]
 have hw:(!Di.iq (nn n 0) 0 ((F.aV.dies.length:Int) - 1)|| !Di.iq (eB F.b (nn n 0)) 0 8000)=false:=by unfold Di.iq;simp only[XC,Wl,Zn,Zq];omega
 have hwe:(Di.bW F.aV (nn n 0) (eB F.b (nn n 0))).2=0:=by rw[Di.DF hF.p hw]
 obtain⟨⟨x1,x2⟩,x3,x4⟩:=Fi (p:=F.aV) (j:=nn n 0) (u:=eB F.b (nn n 0))
 iterate 2 refine af ?_
 refine aF.bQ 23 1 [6] [([],false),([],false),([],false),([],false),([],false),([],false),([],false),([],false),([],false),([],false),([],false),([],false),([],false),([],false),([],false),([],false),([6],true),([6],false),([6],false),([],false),([],false),([6],false),([],false)] mixed (by kernel_rfl) (by decide) (by kernel_rfl) rfl (At _ _ _ _ _) ?_
 refine af ?_
 refine br.cons 20 rfl rfl rfl (fun _=>(aa.nilCheck rfl rfl)) rfl ?_
 refine af ?_
 refine br.cons 22 rfl rfl rfl (fun _=>(Kl (.p (Di.dO F.aV)))) rfl ?_
 refine af ?_
 refine br.cons 24 rfl rfl rfl (fun _=>(aa.nilCheck rfl rfl)) rfl ?_
 iterate 3 refine af ?_
 refine br.cons 28 rfl rfl rfl (fun _=>(Kl (aZ 3 (F.b.aq).length))) (cU Kn) ?_
 refine af ?_
 refine br.cons 30 rfl rfl rfl (fun _=>(aa.nilCheck rfl rfl)) rfl ?_
 iterate 3 refine af ?_
 refine br.cons 34 rfl rfl rfl (fun _=>(Kl (aZ 4 (F.b.plan).length))) (cU Kn) ?_
 refine br.lay (blk:= .row ((u0.flatMap Di.bY).map .p) 3) (v:= .tuple [.row 6 F.aV.dies.length,.p (.int .i64 (F.b.aq.length:Int)),.p (.int .i64 0)]) (v0:= .tuple [.row 7 F.aV.dies.length,.p (.int .i64 (F.b.aq.length:Int)),.p (.int .i64 0)]) 35 6 rfl rfl rfl rfl rfl rfl rfl rfl (fun _=>(aa.TZ (args:=[Di.dO F.aV,Di.cv F.b.aq,Di.bw F.b.plan]) 3 7 (Di.Gs F.aV F.b.aq F.b.plan (ZW n4 (by decide)) (ZW sO (by decide)) (ZW (show F.b.plan.length<=8 by omega) (by decide)) u0 OV) rfl (eK (f:=Di.bY) (fun _=>rfl) _) rfl rfl rfl rfl (WY (i:=3) (j:=4) rfl rfl) an)) rfl rfl (by show ah.row (bA _ _) _=_;rw[aP]) ?_
 refine af ?_
 refine br.cons 36 rfl rfl rfl (fun _=>(aa.extract rfl rfl rfl)) rfl ?_
 refine br.cons 37 rfl rfl rfl (fun _=>(aa.extract rfl rfl rfl)) rfl ?_
 refine br.cons 38 rfl rfl rfl (fun _=>(aa.extract rfl rfl rfl)) rfl ?_
 refine br.cons 5 rfl rfl rfl (fun _=>(aa.assign rfl rfl)) rfl ?_
 refine br.cons 6 rfl rfl rfl (fun _=>(aa.assign rfl rfl)) rfl ?_
 refine br.nil ?_
 iterate 5 refine af ?_
 refine Kc (Kp (j7 0 rfl)) ?_
 iterate 2 refine af ?_
 refine aF.tW (H':=[cH F.b F.aV (.raw a m c) 1 2 3 4 5,dn F.b.au,cV F.b.ai,de F.b.aq,bz F.b.plan,bz F.b.bZ,.row ((u0.flatMap Di.bY).map .p) 3]) rfl ?_
 refine aF.bQ 15 1 [7] [([],false),([],false),([],false),([],false),([],false),([],false),([],false),([],false),([],false),([],false),([],false),([],false),([],false),([7],true),([7],true)] mixed (by kernel_rfl) (by decide) (by kernel_rfl) rfl (by simp[cH,mQ,bS,bK,cj,ef,ia,fA,bE,Ks,cU,dn,cV,de,bz,dF,Di.bn.cells]) ?_
 refine af ?_
 refine br.cons 43 rfl rfl rfl (fun _=>(aa.nilCheck rfl rfl)) rfl ?_
 refine af ?_
 refine br.cons 45 rfl rfl rfl (fun _=>(Kl (.p (Di.dO F.aV)))) rfl ?_
 iterate 3 refine af ?_
 refine br.cons 49 rfl rfl rfl (fun _=>(aa.lC rfl rfl rfl an dH q0.1 (by omega))) rfl ?_
 refine br.cons 50 rfl rfl rfl (fun _=>(aa.load (v:= .p (.int .i64 (eB F.b (nn n 0)))) rfl rfl an (by rw[<- hue];exact ME rfl hjl))) rfl ?_
 refine br.cons 51 rfl rfl rfl (fun _=>(Kp (Di.uG F.aV (nn n 0) (eB F.b (nn n 0)) (ZW n4 (by decide))))) rfl ?_
 refine af ?_
 refine br.cons 52 rfl rfl rfl (fun _=>(aa.extract rfl rfl rfl)) rfl ?_
 refine br.cons 53 rfl rfl rfl (fun _=>(aa.extract rfl rfl rfl)) rfl ?_
 refine br.lay (v0:= .ptr 8 0) 8 7 rfl rfl rfl rfl rfl rfl rfl rfl (fun _=>(aa.aQ rfl an rfl)) rfl rfl rfl ?_
 refine br.put (blk:= .cells [.p (.int .i64 (Di.bW F.aV (nn n 0) (eB F.b (nn n 0))).1.1),.p (.int .i64 (Di.bW F.aV (nn n 0) (eB F.b (nn n 0))).1.2)] 24) 7 rfl rfl rfl rfl (fun _=>(aa.store rfl rfl rfl rfl rfl an rfl rfl)) rfl rfl ?_
 refine br.nil ?_
 iterate 5 refine af ?_
 refine Kc (Kp (j7 (Di.bW F.aV (nn n 0) (eB F.b (nn n 0))).2 (by rw[hwe];rfl))) ?_
 iterate 2 refine af ?_
 refine aF.aD 15 mixed (by kernel_rfl) (by decide) ?_
 refine Kq (aa.aG rfl rfl lN) ?_
 iterate 2 refine af ?_
 refine Kq (aa.lC rfl rfl rfl an dH q0.1 (by omega)) ?_
 refine Kq (aa.load (v:= .p (.int .i64 (eB F.b (nn n 0)))) rfl rfl an (by rw[<- hue];exact ME rfl hjl)) ?_
 refine Kq (aa.aG rfl rfl kn) ?_
 refine af ?_
 refine Kq (Kl (.p (.int .i64 (Di.bW F.aV (nn n 0) (eB F.b (nn n 0))).1.1))) ?_
 refine Kq (aa.aG rfl rfl kn) ?_
 refine af ?_
 refine Kq (Kl (.p (.int .i64 (Di.bW F.aV (nn n 0) (eB F.b (nn n 0))).1.2))) ?_
 refine Kq (aa.aG rfl rfl kn) ?_
 refine Kq (aa.aS rfl an (by decide) rfl rfl rfl) ?_
 refine Kq (Kp (dy [.str (Vb.t .wear),.num (eB F.b (nn n 0)),.num (Di.bW F.aV (nn n 0) (eB F.b (nn n 0))).1.1,.num (Di.bW F.aV (nn n 0) (eB F.b (nn n 0))).1.2] Kn Kn (fD (by decide) (eG ⟨hub.1,by omega⟩ (eG ⟨x1,by omega⟩ (eG ⟨x3,by omega⟩ gf)))))) ?_
 refine af ?_
 refine aA.nil ?_
 iterate 2 refine af ?_
 refine iF.one rfl rfl (x8 (F2:=F) (r:=aY (Vb.t .wear) [eB F.b (nn n 0),(Di.bW F.aV (nn n 0) (eB F.b (nn n 0))).1.1,(Di.bW F.aV (nn n 0) (eB F.b (nn n 0))).1.2]) (by unfold bH;dsimp only;rw[if_neg hj]) (by rw[eJ];rfl) ⟨⟨1,2,3,4,5,by decide,rfl,rfl,rfl,rfl,rfl,rfl⟩,⟨ZR rfl,by intro j y h1 h2 h3;obtain rfl | rfl | rfl | rfl | rfl:j=1∨j=2∨j=3∨j=4∨j=5:=(by omega);all_goals first | exact .inl (ZD (show some ah.dead=some y from h3)).symm | exact .inr h3⟩⟩)
theorem UQ:VC .wear 101:=by
 intro F n a m c hF hl hn
 have jM:=Rx.dc hF.b.cd
 have ud:=hF.b.sk
 have sO:=hF.b.dr
 have q0:0<=nn n 0∧nn n 0<10000000000000:=hn _ (Di.bC 0 (show 0<n.length by rw[hl];decide))
 refine av.start (N:=10) Tryz.func101 rfl rfl Kn ?_
 iterate 8 refine af ?_
 refine Kc (aa.aN (g:=Di.gt 0 n) (k:=0) (Di.aC _) rfl rfl rfl an dH rfl (fun _=>rfl) (by decide) (by rw[hl];decide)) ?_
 refine Kc (Kl (.p (.int .i64 (nn n 0)))) ?_
 refine aj.eY 9 (K1 F n a m c hF q0) rfl rfl rfl rfl rfl rfl rfl an (fun y H2 iw=> ?_) (fun v H2 iw=> ?_)
 ·exact⟨_,rfl,iw⟩
 exact vS
end Go.Proofs.YtibffijhebobmaaGreatDoor
end
