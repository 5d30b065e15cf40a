/-
 The program of chapter 15: what verbs do (slats, pencils; questions).
 The program of chapter 15: what verbs do (sacks, calls).
 Chapter 15, the program: how many bits a set has, as a processor counts them.
 The program of chapter 15: what verbs do (complaints).
 The program of chapter 15: what verbs do (leads).
 Chapter 15, the program: what was drawn through each die, as a plan that can be followed leaves it.
 The program of chapter 15: what verbs do (dies).
-/
import Derived.Test.YtchiinjiflgepaaGreatDoorMzRF
import Derived.Test.YtchiinjiflgepaaGreatDoorMzRA
import Derived.Test.YtchiinjiflgepaaGreatDoorMzRC
import Derived.Test.YtchiinjiflgepaaGreatDoorMzRR
import Derived.Test.YtchiinjiflgepaaGreatDoorMzRD
import Derived.Test.YtchiinjiflgepaaGreatDoorFaRF
import Derived.Test.YtchiinjiflgepaaGreatDoorMzRP
import Derived.Test.YtchiinjiflgepaaGreatDoorMzRZ
theorem YM{A:Prop}(h:A:=by
 exact⟨⟨1,6,3,4,5,by decide,rfl,rfl,rfl,rfl,rfl,rfl⟩,⟨ZR rfl,by intro j y h1 h2 h3;obtain rfl | rfl | rfl | rfl | rfl:j=1∨j=2∨j=3∨j=4∨j=5:=(by omega);all_goals first | exact .inl (ZB (show some ak.dead=some y from h3)).symm | exact .inr h3⟩⟩):A:=h
theorem Tt{A:Prop}(h:A:=by
 exact⟨⟨1,2,3,4,5,by decide,rfl,rfl,rfl,rfl,rfl,rfl⟩,⟨ZR rfl,by intro j y h1 h2 h3;obtain rfl | rfl | rfl | rfl | rfl:j=1∨j=2∨j=3∨j=4∨j=5:=(by omega);all_goals first | exact .inl (ZB (show some ak.dead=some y from h3)).symm | exact .inr h3⟩⟩):A:=h
theorem ME{A:Prop}(h:A:=by
 obtain⟨z1,rfl,z3⟩:=jJ
 iterate 3 refine af ?_
 exact jt.one rfl rfl ⟨z1,rfl,z3⟩):A:=h
theorem NC{A:Prop}(h:A:=by
 rcases Zv.1 hp with rfl | hp
 ·exact h
 ·exact hl p hp):A:=h
set_option linter.unusedSimpArgs false
set_option linter.unusedVariables false
section
set_option maxRecDepth 100000
set_option maxHeartbeats 4000000
namespace Go.Proofs.YtchiinjiflgepaaGreatDoor
open Go.AF
def Ur(b b2:bU)(p:Di.bX)(um:V)(H:List ak):Prop:=At6 b2 p um H∧AT b p um H
theorem Ej(b:bU)(p:Di.bX)(um:V):Ur b b p um (ov b p um):=⟨W8 b p um,CI b p um⟩
def XD(F:c7)(v:Vb)(n:List Int)(um:V):V->List ak->Prop:=fun r H2=>(bp F v n).2.2=0∧r= .p (.str (sB (bp F v n).2.1))∧Ur F.b (bp F v n).1.b F.aT um H2
def YN(F:c7)(v:Vb)(n:List Int)(um:V):PV->List ak->Prop:=fun y H2=>(bp F v n).2.2≠0∧y= .iface 106 (.agg [.int .i64 (bp F v n).2.2])∧VV F.b F.aT um H2
def VC(v:Vb)(g:FuncId):Prop:=∀(F:c7) (n:List Int) (a:Option Addr) (m c:Nat),kK F->n.length=v.many->(∀ x∈n,0<=x∧x<10000000000000)->
 aD Tryz.prog g [.ptr 0 0,.p (Di.aQ n)] (ov F.b F.aT (.raw a m c)) (XD F v n (.raw a m c)) (YN F v n (.raw a m c))
theorem e8{F:c7}{v:Vb}{n:List Int}{um:V}{H2:List ak}{e:Int}(h:(bp F v n).2.2=e)(he:e≠0)(hp:VV F.b F.aT um H2):∃ y,V.p (.iface 106 (.agg [.int .i64 e]))= .p y∧YN F v n um y H2:=⟨_,rfl,by rw[h];exact he,by rw[h],hp⟩
theorem xy{F:c7}{v:Vb}{n:List Int}{um:V}{H2:List ak}{r:Bs}{F2:c7}{t:Bs}(h:bp F v n=(F2,r,0))(ht:t=r)(hp:Ur F.b F2.b F.aT um H2):XD F v n um (.p (.str (sB t))) H2:=by
 unfold XD
 rw[h,ht]
 exact⟨rfl,rfl,hp⟩
theorem QN{H:List ak}{k i:Nat}{l:List Ck.Sk}(h:H[i]? =some (dD l)):ct H (k+1) (bg i l.length)=some (Ck.b8 l):=qT h fun h=>by rw[Kd.1 h];rfl
theorem OD{H:List ak}{k i:Nat}{l:List Rx.bF}(h:H[i]? =some (dj l)):ct H (k+1) (bg i l.length)=some (Rx.cz l):=qT h fun h=>by rw[Kd.1 h];rfl
theorem OZ{H:List ak}{k i:Nat}{l:List Di.b7}(h:H[i]? =some (dI l)):ct H (k+1) (bg i l.length)=some (Di.dn l):=qT h fun h=>by rw[Kd.1 h];rfl
theorem GJ{H:List ak}{k i:Nat}{l:List Int}(h:H[i]? =some (bL l)):ct H (k+1) (bg i l.length)=some (Di.aQ l):=qT h fun h=>by rw[Kd.1 h];rfl
theorem Yz{H:List ak}{k i:Nat}{l:List Rx.bF}{xs:List PV}(h:H[i]? =some (dj l)):c9 (ct H (k+1)) (bg i l.length::xs.map .p)=some (Rx.cz l::xs):=by simp only[c9,OD h,vR]
theorem hbS{H:List ak}{k i:Nat}{l:List Ck.Sk}{xs:List PV}(h:H[i]? =some (dD l)):c9 (ct H (k+1)) (bg i l.length::xs.map .p)=some (Ck.b8 l::xs):=by simp only[c9,QN h,vR]
theorem aaW{H:List ak}{k i j:Nat}{x:PV}{l:List Di.b7}{q:List Int}(h:H[i]? =some (dI l))(h2:H[j]? =some (bL q)):c9 (ct H (k+1)) [.p x,bg i l.length,bg j q.length]=some [x,Di.dn l,Di.aQ q]:=by simp only[c9,OZ h,GJ h2,Kb]
theorem gq{w:Bs}{l:List jD}(h:w.length<=100)(hl:∀ p∈l,p.ok):∀ p∈jD.str w::l,p.ok:=fun p hp=>by
 exact NC
theorem fA{k:Int}{l:List jD}(h:0<=k∧k<10000000000000)(hl:∀ p∈l,p.ok):∀ p∈jD.num k::l,p.ok:=fun p hp=>by
 exact NC
theorem DU{q:List Int}{l:List jD}(h:q.length<=100∧∀ k∈q,0<=k∧k<10000000000000)(hl:∀ p∈l,p.ok):∀ p∈jD.DT q::l,p.ok:=fun p hp=>by
 exact NC
theorem gM:∀ p∈([]:List jD),p.ok:=fun p hp=>by cases hp
theorem Uq:VC .slat 91:=by
 intro F n a m c hF hl hn
 have en:=Rx.bM hF.b.cd
 have tT:=hF.b.sk
 have sN:=hF.b.dr
 refine aD.start (N:=11) Tryz.func91 rfl rfl Kn ?_
 iterate 6 refine af ?_
 refine Kc (aa.aJ rfl rfl mO) ?_
 refine af ?_
 refine aq.fT 7 (zl F.b F.aT a m c 0 0) rfl rfl rfl rfl rfl rfl rfl ai (fun y H2 jJ=> ?_) (fun v H2 jJ=> ?_)
 ·obtain⟨q1,rfl,rfl⟩:=jJ
  exact e8 (e:=9) (by show(bp F .slat n).2.2=_;unfold bp;dsimp only;rw[if_pos (by omega)]) (by decide) (gv _ _ _)
 obtain⟨hlt,rfl,rfl⟩:=jJ
 refine Kc (aa.aJ rfl rfl lD) ?_
 refine Kc (aa.aF rfl ai (by decide) rfl rfl rfl) ?_
 refine Kc (Kp (dJ [.str ic,.num (F.b.ag.length:Int)] Kn Kn (gq (by decide) (fA (by omega) gM)))) ?_
 iterate 3 refine af ?_
 refine jt.one rfl rfl (xy (F2:={F with b:=F.b.gz ⟨0,0⟩}) (r:=br ic [(F.b.ag.length:Int)]) (by unfold bp;dsimp only;rw[if_neg (by omega)]) (by rw[fW];rfl) ?_)
 exact YM
theorem Vu(b:bU)(p:Di.bX)(a:Option Addr)(m c:Nat)(x y:Int)(hlt:b.ag.length<24):aE Tryz.prog 92 [.ptr 0 0,.p (.int .i64 x),.p (.int .i64 y)] (ov b p (.raw a m c)) (fun v H2=>v= .p (.int .i64 (b.ag.length:Int))∧H2=[cI (b.gz ⟨x,y⟩) p (.raw a m c) 1 6 3 4 5,dD b.au,.dead,dI b.ax,bL b.plan,bL b.bH,dj (b.gz ⟨x,y⟩).ag]):=
 ((zl b p a m c x y).mono (Qr':=fun v H2=>v= .p (.int .i64 (b.ag.length:Int))∧H2=[cI (b.gz ⟨x,y⟩) p (.raw a m c) 1 6 3 4 5,dD b.au,.dead,dI b.ax,bL b.plan,bL b.bH,dj (b.gz ⟨x,y⟩).ag]) (Qp':=fun _ _=>False) (fun v H2 ⟨_,h1,h2⟩=>⟨h1,h2⟩) (fun y H2 ⟨h1,_⟩=>h1 hlt)).toC (fun _ _ h=>h)
theorem QS:VC .blame 98:=by
 intro F n a m c hF hl hn
 have en:=Rx.bM hF.b.cd
 have tT:=hF.b.sk
 have sN:=hF.b.dr
 refine aD.start (N:=37) Tryz.func98 rfl rfl Kn ?_
 iterate 5 refine af ?_
 refine aC.az 24 mixed (by kernel_rfl) (by decide) ?_
 refine af ?_
 refine Kq (aa.nilCheck rfl rfl) ?_
 iterate 3 refine af ?_
 refine Kq (Kl (bg 2 F.b.ag.length)) ?_
 refine af ?_
 refine Kq (aa.nilCheck rfl rfl) ?_
 iterate 3 refine af ?_
 refine Kq (Kl (.p (.int .i64 (F.b.bad:Int)))) ?_
 refine af ?_
 refine Kq (aa.nilCheck rfl rfl) ?_
 iterate 3 refine af ?_
 refine Kq (Kl (.p (.int .i64 (F.b.good:Int)))) ?_
 refine Kq (aa.yH 3 (Rx.qJ F.b.ag F.b.bad F.b.good (Zz en (by decide))) rfl rfl rfl rfl rfl (Yz (i:=2) (xs:=[.int .i64 (F.b.bad:Int),.int .i64 (F.b.good:Int)]) rfl) ai) ?_
 refine af ?_
 refine Kq (aa.extract rfl rfl rfl) ?_
 refine Kq (aa.extract rfl rfl rfl) ?_
 iterate 2 refine af ?_
 refine ay.nil ?_
 iterate 4 refine af ?_
 refine aq.cG 30 (b:=(decide ((Rx.hY F.b.ag F.b.bad F.b.good)=0))) (kR (Rx.hY F.b.ag F.b.bad F.b.good)) (oK (Rx.hY F.b.ag F.b.bad F.b.good)) rfl rfl rfl rfl rfl rfl rfl ai (fun he=> ?_) (fun he=> ?_)
 ·have hne:Rx.hY F.b.ag F.b.bad F.b.good≠0:=Zf he
  exact e8 (e:=Rx.hY F.b.ag F.b.bad F.b.good) (by show(bp F .blame n).2.2=_;unfold bp;dsimp only;rw[if_pos hne]) hne (gv _ _ _)
 have hz:¬ Rx.hY F.b.ag F.b.bad F.b.good≠0:=fun h=>h (Ze he)
 iterate 3 refine af ?_
 refine Kc (aa.aJ rfl rfl mO) ?_
 refine af ?_
 refine Kc (Kp (pX (Rx.kB F.b.ag F.b.bad F.b.good) (aaS hF.b.cd))) ?_
 refine Kc (aa.aJ rfl rfl Ep) ?_
 refine Kc (aa.aF rfl ai (by decide) rfl rfl rfl) ?_
 refine Kc (Kp (dJ [.str (Vb.t .blame),.DT (gw (Rx.kB F.b.ag F.b.bad F.b.good))] Kn Kn (gq (by decide) (DU ⟨fj _,qk _⟩ gM)))) ?_
 iterate 3 refine af ?_
 refine jt.one rfl rfl (xy (F2:=F) (r:=br (Vb.t .blame) (gw (Rx.kB F.b.ag F.b.bad F.b.good))) (by unfold bp;dsimp only;rw[if_neg hz]) (by rw[fW];simp[j7,jD.w]) (Ej _ _ _))
theorem Vl:VC .from_ 102:=by
 intro F n a m c hF hl hn
 have en:=Rx.bM hF.b.cd
 have tT:=hF.b.sk
 have sN:=hF.b.dr
 have q0:0<=nn n 0∧nn n 0<10000000000000:=hn _ (Di.aV 0 (show 0<n.length by rw[hl];decide))
 refine aD.start (N:=28) Tryz.func102 rfl rfl Kn ?_
 iterate 5 refine af ?_
 refine aC.az 15 mixed (by kernel_rfl) (by decide) ?_
 refine af ?_
 refine Kq (aa.nilCheck rfl rfl) ?_
 iterate 3 refine af ?_
 refine Kq (Kl (bg 2 F.b.ag.length)) ?_
 refine af ?_
 refine Kq (aa.aB (g:=Di.gt 0 n) (k:=0) (Di.av _) rfl rfl rfl ai bB rfl (fun _=>rfl) (by decide) (by rw[hl];decide)) ?_
 refine Kq (Kl (.p (.int .i64 (nn n 0)))) ?_
 refine Kq (aa.yH 3 (Rx.Pf F.b.ag (nn n 0) (Zz en (by decide))) rfl rfl rfl rfl rfl (Yz (i:=2) (xs:=[.int .i64 (nn n 0)]) rfl) ai) ?_
 refine af ?_
 refine Kq (aa.extract rfl rfl rfl) ?_
 refine Kq (aa.extract rfl rfl rfl) ?_
 iterate 2 refine af ?_
 refine ay.nil ?_
 iterate 4 refine af ?_
 refine aq.cG 21 (b:=(decide ((Rx.fH F.b.ag (nn n 0))=0))) (kR (Rx.fH F.b.ag (nn n 0))) (oK (Rx.fH F.b.ag (nn n 0))) rfl rfl rfl rfl rfl rfl rfl ai (fun he=> ?_) (fun he=> ?_)
 ·have hne:Rx.fH F.b.ag (nn n 0)≠0:=Zf he
  exact e8 (e:=Rx.fH F.b.ag (nn n 0)) (by show(bp F .from_ n).2.2=_;unfold bp;dsimp only;rw[if_pos hne]) hne (gv _ _ _)
 have hz:¬ Rx.fH F.b.ag (nn n 0)≠0:=fun h=>h (Ze he)
 iterate 3 refine af ?_
 refine Kc (aa.aJ rfl rfl mO) ?_
 refine af ?_
 refine Kc (Kp (pX (Rx.jb F.b.ag (Rx.bn F.b.ag) (nn n 0)) (Pq hF.b.cd _))) ?_
 refine Kc (aa.aJ rfl rfl Ep) ?_
 refine Kc (aa.aF rfl ai (by decide) rfl rfl rfl) ?_
 refine Kc (Kp (dJ [.str (Vb.t .from_),.DT (gw (Rx.jb F.b.ag (Rx.bn F.b.ag) (nn n 0)))] Kn Kn (gq (by decide) (DU ⟨fj _,qk _⟩ gM)))) ?_
 iterate 3 refine af ?_
 refine jt.one rfl rfl (xy (F2:=F) (r:=br (Vb.t .from_) (gw (Rx.jb F.b.ag (Rx.bn F.b.ag) (nn n 0)))) (by unfold bp;dsimp only;rw[if_neg hz]) (by rw[fW];simp[j7,jD.w]) (Ej _ _ _))
theorem KR:VC .pencil 94:=by
 intro F n a m c hF hl hn
 have en:=Rx.bM hF.b.cd
 have tT:=hF.b.sk
 have sN:=hF.b.dr
 have q0:0<=nn n 0∧nn n 0<10000000000000:=hn _ (Di.aV 0 (show 0<n.length by rw[hl];decide))
 have q1:0<=nn n 1∧nn n 1<10000000000000:=hn _ (Di.aV 0 (show 1<n.length by rw[hl];decide))
 have q2:0<=nn n 2∧nn n 2<10000000000000:=hn _ (Di.aV 0 (show 2<n.length by rw[hl];decide))
 obtain⟨k0,e0⟩:=Vo q0.1
 obtain⟨k1,e1⟩:=Vo q1.1
 refine aD.start (N:=43) Tryz.func94 rfl rfl Kn ?_
 iterate 7 refine af ?_
 refine aq.fT 6 (zX F.b F.aT a m c) rfl rfl rfl rfl rfl rfl rfl ai (fun y H2 jJ=> ?_) (fun v H2 jJ=> ?_)
 ·obtain⟨q1,rfl,rfl⟩:=jJ
  exact e8 (e:=9) (by show(bp F .pencil n).2.2=_;unfold bp;dsimp only;rw[if_pos (by omega)]) (by decide) (gv _ _ _)
 obtain⟨hlt,rfl,rfl⟩:=jJ
 iterate 5 refine af ?_
 refine Kc (aa.aB (g:=Di.gt 0 n) (k:=0) (Di.av _) rfl rfl rfl ai bB rfl (fun _=>rfl) (by decide) (by rw[hl];decide)) ?_
 refine Kc (Kl (.p (.int .i64 (nn n 0)))) ?_
 refine Kc (aa.ir rfl rfl rfl rfl ai (ux F.b F.aT a m c (nn n 0))) ?_
 refine af ?_
 refine Kg 13 12 0 rfl (fun h=>(aa.move rfl rfl)) ?_
 refine Kg 14 12 1 rfl (fun h=>(aa.move rfl rfl)) ?_
 refine Kh 15 12 14 rfl rfl rfl rfl (fun h=>(aa.aB (g:=Di.gt 0 n) (k:=1) (Di.av _) rfl rfl rfl ai bB rfl (fun _=>rfl) (by decide) (by rw[hl];decide))) ?_
 refine Kh 16 12 15 rfl rfl rfl rfl (fun h=>(Kl (.p (.int .i64 (nn n 1))))) ?_
 refine aq.g 17 12 rfl rfl rfl rfl rfl rfl rfl [(13,_),(16,_)] (fun h=>And.intro (.inr ⟨_,rfl,h⟩) (And.intro (.inr ⟨_,rfl,h⟩) (trivial))) (fun h=>(aa.ir rfl rfl rfl rfl ai (ux F.b F.aT a m c (nn n 1)))) ?_
 refine Kc (aa.gy rfl rfl rfl ?_) ?_
 ·exact fO
 refine aq.cG 19 (b:=_) (dQ _ 2) (dU _ 2) rfl rfl rfl rfl rfl rfl rfl ai (fun hb=> ?_) (fun hb=> ?_)
 ·exact e8 (e:=2) (by show(bp F .pencil n).2.2=_;unfold bp;dsimp only;rw[if_neg (by omega),if_pos (by simp only[YQ,ZP] at hb;omega)]) (by decide) (gv _ _ _)
 have hi:¬ ((F.b.ag.length:Int)<=nn n 0∨(F.b.ag.length:Int)<=nn n 1):=by simp only[Zo,Zl] at hb;omega
 iterate 4 refine af ?_
 refine Kc (aa.aB (g:=Di.gt 0 n) (k:=2) (Di.av _) rfl rfl rfl ai bB rfl (fun _=>rfl) (by decide) (by rw[hl];decide)) ?_
 refine Kc (Kl (.p (.int .i64 (nn n 2)))) ?_
 refine af ?_
 refine aq.cG 24 (b:=_) (dQ _ 1) (dU _ 1) rfl rfl rfl rfl rfl rfl rfl ai (fun iY=> ?_) (fun iY=> ?_)
 ·exact e8 (e:=1) (by show(bp F .pencil n).2.2=_;unfold bp;dsimp only;rw[if_neg (by omega),if_neg hi,if_pos (by have h:=Zf iY;omega)]) (by decide) (gv _ _ _)
 have hm:¬ 1048576<nn n 2:=by have h:=Ze iY;omega
 have hp0:=CW (show k0<=24 by omega)
 have hp1:=CW (show k1<=24 by omega)
 iterate 2 refine af ?_
 refine aC.kQ 19 ([cI (F.b.gz ⟨((1*2^k0||| 1*2^k1:Nat):Int),nn n 2⟩) F.aT (.raw a m c) 1 6 3 4 5,dD F.b.au,.dead,dI F.b.ax,bL F.b.plan,bL F.b.bH,dj (F.b.gz ⟨((1*2^k0||| 1*2^k1:Nat):Int),nn n 2⟩).ag]) mixed (by kernel_rfl) (by decide) ?_
 refine aN.cons 25 rfl rfl rfl (aa.aJ rfl rfl mO) (aa.aJ rfl rfl mO) ?_
 refine aN.cons 26 rfl rfl rfl (aa.move rfl rfl) (aa.move rfl rfl) ?_
 refine aN.cons 27 rfl rfl rfl (aa.move rfl rfl) (aa.move rfl rfl) ?_
 refine aN.cons 28 rfl rfl rfl (aa.aB (g:=Di.gt 0 n) (k:=0) (Di.av _) rfl rfl rfl ai bB rfl (fun _=>rfl) (by decide) (by rw[hl];decide)) (aa.aB (g:=Di.gt 0 n) (k:=0) (Di.av _) rfl rfl rfl ai bB rfl (fun _=>rfl) (by decide) (by rw[hl];decide)) ?_
 refine aN.cons 29 rfl rfl rfl (aa.load (v:= .p (.int .i64 ((k0:Nat):Int))) rfl rfl ai (by rw[<- e0];rfl)) (aa.load (v:= .p (.int .i64 ((k0:Nat):Int))) rfl rfl ai (by rw[<- e0];rfl)) ?_
 refine aN.cons 30 rfl rfl rfl (aa.qC 1 k0 rfl rfl rfl (by show _<=(64:Nat);omega) (by show _<=(9223372036854775807:Int);rw[ZN];omega)) (aa.qC 1 k0 rfl rfl rfl (by show _<=(64:Nat);omega) (by show _<=(9223372036854775807:Int);rw[ZN];omega)) ?_
 refine aN.cons 31 rfl rfl rfl (aa.move rfl rfl) (aa.move rfl rfl) ?_
 refine aN.cons 32 rfl rfl rfl (aa.aB (g:=Di.gt 0 n) (k:=1) (Di.av _) rfl rfl rfl ai bB rfl (fun _=>rfl) (by decide) (by rw[hl];decide)) (aa.aB (g:=Di.gt 0 n) (k:=1) (Di.av _) rfl rfl rfl ai bB rfl (fun _=>rfl) (by decide) (by rw[hl];decide)) ?_
 refine aN.cons 33 rfl rfl rfl (aa.load (v:= .p (.int .i64 ((k1:Nat):Int))) rfl rfl ai (by rw[<- e1];rfl)) (aa.load (v:= .p (.int .i64 ((k1:Nat):Int))) rfl rfl ai (by rw[<- e1];rfl)) ?_
 refine aN.cons 34 rfl rfl rfl (aa.qC 1 k1 rfl rfl rfl (by show _<=(64:Nat);omega) (by show _<=(9223372036854775807:Int);rw[ZN];omega)) (aa.qC 1 k1 rfl rfl rfl (by show _<=(64:Nat);omega) (by show _<=(9223372036854775807:Int);rw[ZN];omega)) ?_
 refine aN.cons 35 rfl rfl rfl (aa.Xr (1*2^k0) (1*2^k1) rfl rfl rfl (by show _<=(9223372036854775807:Int);rw[ZN];omega) (by show _<=(9223372036854775807:Int);rw[ZN];omega) (by have ho:=LO (n:=62) (x:=1*2^k0) (y:=1*2^k1) (by omega) (by omega);show _<=(9223372036854775807:Int);omega)) (aa.Xr (1*2^k0) (1*2^k1) rfl rfl rfl (by show _<=(9223372036854775807:Int);rw[ZN];omega) (by show _<=(9223372036854775807:Int);rw[ZN];omega) (by have ho:=LO (n:=62) (x:=1*2^k0) (y:=1*2^k1) (by omega) (by omega);show _<=(9223372036854775807:Int);omega)) ?_
 refine aN.cons 36 rfl rfl rfl (aa.move rfl rfl) (aa.move rfl rfl) ?_
 refine aN.cons 37 rfl rfl rfl (aa.aB (g:=Di.gt 0 n) (k:=2) (Di.av _) rfl rfl rfl ai bB rfl (fun _=>rfl) (by decide) (by rw[hl];decide)) (aa.aB (g:=Di.gt 0 n) (k:=2) (Di.av _) rfl rfl rfl ai bB rfl (fun _=>rfl) (by decide) (by rw[hl];decide)) ?_
 refine aN.cons 38 rfl rfl rfl (Kl (.p (.int .i64 (nn n 2)))) (Kl (.p (.int .i64 (nn n 2)))) ?_
 refine aN.lay 39 rfl rfl rfl (aa.ir rfl rfl rfl rfl ai (Vu F.b F.aT a m c ((1*2^k0||| 1*2^k1:Nat):Int) (nn n 2) hlt)) ?_
 refine aN.cons 40 rfl rfl rfl (aa.aJ rfl rfl lD) (aa.aJ rfl rfl lD) ?_
 refine aN.cons 41 rfl rfl rfl (aa.aF rfl ai (by decide) rfl rfl rfl) (aa.aF rfl ai (by decide) rfl rfl rfl) ?_
 refine aN.cons 42 rfl rfl rfl (Kp (dJ [.str ic,.num (F.b.ag.length:Int)] Kn Kn (gq (by decide) (fA (by omega) gM)))) (Kp (dJ [.str ic,.num (F.b.ag.length:Int)] Kn Kn (gq (by decide) (fA (by omega) gM)))) ?_
 refine aN.cons 4 rfl rfl rfl (aa.assign rfl rfl) (aa.assign rfl rfl) ?_
 refine aN.nil ?_
 iterate 2 refine af ?_
 refine jt.one rfl rfl (xy (F2:={F with b:=F.b.gz ⟨((1*2^k0||| 1*2^k1:Nat):Int),nn n 2⟩}) (r:=br ic [(F.b.ag.length:Int)]) (by unfold bp;dsimp only;rw[if_neg (by omega),if_neg hi,if_neg hm,Ex e0 e1]) (by rw[fW];rfl) ?_)
 exact YM
theorem qH(l:List Int):l.flatMap Di.bG=l.map (PV.int .i64):=by
 induction l with
 | nil=>rfl
 | cons x l ih=>rw[ZJ,ih];rfl
theorem rj(n:List Int)(l k:Nat):((n.flatMap Di.bG).drop (l*1)).take (k*1)=((n.drop l).take k).flatMap Di.bG:=by
 rw[qH,qH,Ig,Ig,List.map_take,List.map_drop]
theorem MF(n:List Int)(l k j:Nat)(hj:j<k):nn ((n.drop l).take k) j=nn n (l+j):=by
 unfold nn Di.gt
 rw[Zh,Zh,Rv hj,Rd]
theorem uE(n:List Int)(l k:Nat)(h:l+k<=n.length)(h2:2<=k):Pure Tryz.prog 153 [.is (((n.drop l).take k).flatMap Di.bG) k] (.agg [.int .i64 (nn n l),.int .i64 (nn n (l+1))]):=by
 have hk:k=((n.drop l).take k).length:=by rw[zC,OS];omega
 have h3:=Qu ((n.drop l).take k) k hk (by omega)
 rwa [MF n l k 0 (by omega),MF n l k 1 (by omega)] at h3
theorem Fx(l:List Ck.Sk)(b:List Ck.Tk)(hl:l.length<=Ck.bK)(hb:b.length<=Ck.bK):Pure Tryz.prog 154 [Ck.b8 l,Ck.kY b] (.tuple [.agg [.int .i64 (shr l b).1.1,.int .i64 (shr l b).1.2],.int .i64 (shr l b).2]):=by
 have h:=Ck.Jq l b hl hb
 rwa [T7] at h
theorem zG(b:bU)(p:Di.bX)(a:Option Addr)(m c:Nat):(ov b p (.raw a m c)).map (aM (sg 6 []))=ov b p (.raw a m c):=(by simp[cI,ov,cj,bY,cD,eZ,iP,fX,bS,dc,dD,dj,dI,bL,dR,Di.bX.cells])
theorem flS(b:bU)(p:Di.bX)(um:V)(x:Ck.Sk)(c:Int)(i1 i2 i3 i4 i5:Nat):ak.cells ([.row i1 (b.au.length+1),bg i2 b.ag.length,bg i3 b.ax.length,bg i4 b.plan.length,.p (.int .i64 (b.bad:Int)),.p (.int .i64 (b.good:Int)),.row i5 (b.bH.length+1)]++p.cells.map .p++[um,.p (.bool true)]) 63=cI {b with au:=b.au++[x],bH:=b.bH++[c]} p um i1 i2 i3 i4 i5:=by
 unfold cI dR
 rw[<- me i1 b.au x,<- me i5 b.bH c]
theorem WR:VC .call 101:=by
 intro F n a m c hF hl hn
 have en:=Rx.bM hF.b.cd
 have tT:=hF.b.sk
 have sN:=hF.b.dr
 obtain⟨⟨s1,s2⟩,s3,s4⟩:=DH (bad:=(F.b.bad:Int)) (good:=(F.b.good:Int)) hF.b.cd
 refine aD.start (N:=45) Tryz.func101 rfl rfl Kn ?_
 iterate 5 refine af ?_
 refine aC.bz 26 1 [6] [([],false),([],false),([],false),([],false),([],false),([],false),([],false),([],false),([],false),([],false),([],false),([],false),([],false),([],false),([],false),([],false),([],false),([],false),([],false),([],false),([],false),([],false),([],false),([6],true),([],false),([6],true)] mixed (by kernel_rfl) (by decide) (by kernel_rfl) rfl (zG _ _ _ _ _) ?_
 refine af ?_
 refine aX.cons 10 rfl rfl rfl (fun _=>(aa.nilCheck rfl rfl)) rfl ?_
 iterate 3 refine af ?_
 refine aX.cons 14 rfl rfl rfl (fun _=>(Kl (bg 2 (F.b.ag).length))) (dc Kn) ?_
 refine af ?_
 refine aX.cons 16 rfl rfl rfl (fun _=>(aa.nilCheck rfl rfl)) rfl ?_
 iterate 3 refine af ?_
 refine aX.cons 20 rfl rfl rfl (fun _=>(Kl (.p (.int .i64 (F.b.bad:Int))))) rfl ?_
 refine af ?_
 refine aX.cons 22 rfl rfl rfl (fun _=>(aa.nilCheck rfl rfl)) rfl ?_
 iterate 3 refine af ?_
 refine aX.cons 26 rfl rfl rfl (fun _=>(Kl (.p (.int .i64 (F.b.good:Int))))) rfl ?_
 refine aX.cons 27 rfl rfl rfl (fun _=>(aa.yH 3 (Rx.HG F.b.ag F.b.bad F.b.good (Zz en (by decide))) rfl rfl rfl rfl rfl (Yz (i:=2) (xs:=[.int .i64 (F.b.bad:Int),.int .i64 (F.b.good:Int)]) rfl) ai)) rfl ?_
 refine af ?_
 refine aX.cons 28 rfl rfl rfl (fun _=>(aa.extract rfl rfl rfl)) rfl ?_
 refine aX.cons 29 rfl rfl rfl (fun _=>(aa.extract rfl rfl rfl)) rfl ?_
 refine aX.cons 30 rfl rfl rfl (fun _=>(aa.extract rfl rfl rfl)) rfl ?_
 refine aX.lay (v0:= .ptr 7 0) 6 6 rfl rfl rfl rfl rfl rfl rfl rfl (fun _=>(aa.aI rfl ai rfl)) rfl rfl rfl ?_
 refine aX.cons 5 rfl rfl rfl (fun _=>(aa.assign rfl rfl)) rfl ?_
 refine aX.put (blk:= .cells [.p (.int .i64 (Rx.iZ F.b.ag F.b.bad F.b.good).1),.p (.int .i64 (Rx.iZ F.b.ag F.b.bad F.b.good).2)] 24) 6 rfl rfl rfl rfl (fun _=>(aa.store rfl rfl rfl rfl rfl ai rfl rfl)) rfl rfl ?_
 refine aX.nil ?_
 iterate 5 refine af ?_
 refine aq.cG 32 (b:=(decide ((Rx.hY F.b.ag F.b.bad F.b.good)=0))) (kR (Rx.hY F.b.ag F.b.bad F.b.good)) (oK (Rx.hY F.b.ag F.b.bad F.b.good)) rfl rfl rfl rfl rfl rfl rfl ai (fun he=> ?_) (fun he=> ?_)
 ·have hne:Rx.hY F.b.ag F.b.bad F.b.good≠0:=Zf he
  exact e8 (e:=Rx.hY F.b.ag F.b.bad F.b.good) (by show(bp F .call n).2.2=_;unfold bp;dsimp only;rw[if_pos hne]) hne (⟨⟨_,rfl,rfl⟩,⟨ZR rfl,by intro j y h1 h2 h3;obtain rfl | rfl | rfl | rfl | rfl:j=1∨j=2∨j=3∨j=4∨j=5:=(by omega);all_goals first | exact .inl (ZB (show some ak.dead=some y from h3)).symm | exact .inr h3⟩⟩)
 have hz:¬ Rx.hY F.b.ag F.b.bad F.b.good≠0:=fun h=>h (Ze he)
 iterate 2 refine af ?_
 refine aC.az 13 mixed (by kernel_rfl) (by decide) ?_
 refine Kq (aa.aJ rfl rfl mO) ?_
 refine af ?_
 refine Kq (Kl (.p (.int .i64 (Rx.iZ F.b.ag F.b.bad F.b.good).1))) ?_
 refine Kq (aa.aJ rfl rfl lD) ?_
 refine af ?_
 refine Kq (Kl (.p (.int .i64 (Rx.iZ F.b.ag F.b.bad F.b.good).2))) ?_
 refine Kq (aa.aJ rfl rfl lD) ?_
 refine af ?_
 refine Kq (Kp (pX (Rx.oz F.b.ag F.b.bad F.b.good) (Vk hF.b.cd))) ?_
 refine Kq (aa.aJ rfl rfl Ep) ?_
 refine Kq (aa.aF rfl ai (by decide) rfl rfl rfl) ?_
 refine Kq (Kp (dJ [.str (Vb.t .call),.num (Rx.iZ F.b.ag F.b.bad F.b.good).1,.num (Rx.iZ F.b.ag F.b.bad F.b.good).2,.DT (gw (Rx.oz F.b.ag F.b.bad F.b.good))] Kn Kn (gq (by decide) (fA ⟨s1,by omega⟩ (fA ⟨s3,by omega⟩ (DU ⟨fj _,qk _⟩ gM)))))) ?_
 refine af ?_
 refine ay.nil ?_
 iterate 2 refine af ?_
 refine jt.one rfl rfl (xy (F2:=F) (r:=br (Vb.t .call) ((Rx.iZ F.b.ag F.b.bad F.b.good).1::(Rx.iZ F.b.ag F.b.bad F.b.good).2::gw (Rx.oz F.b.ag F.b.bad F.b.good))) (by unfold bp;dsimp only;rw[if_neg hz]) (by rw[fW];simp[j7,jD.w]) ⟨⟨1,2,3,4,5,by decide,rfl,rfl,rfl,rfl,rfl,rfl⟩,⟨ZR rfl,by intro j y h1 h2 h3;obtain rfl | rfl | rfl | rfl | rfl:j=1∨j=2∨j=3∨j=4∨j=5:=(by omega);all_goals first | exact .inl (ZB (show some ak.dead=some y from h3)).symm | exact .inr h3⟩⟩)
theorem Wh:VC .lF 90:=by
 intro F n a m c hF hl hn
 have en:=Rx.bM hF.b.cd
 have tT:=hF.b.sk
 have sN:=hF.b.dr
 have hl6:n.length=6:=hl
 have Z0:=hF.b.ck
 refine aD.start (N:=84) Tryz.func90 rfl rfl Kn ?_
 iterate 11 refine af ?_
 refine Kc (Kl (bg 1 F.b.au.length)) ?_
 refine Kc (aa.bJ rfl rfl ai qX) ?_
 refine af ?_
 refine aq.cG 17 (b:=_) (dQ _ 9) (dU _ 9) rfl rfl rfl rfl rfl rfl rfl ai (fun hb=> ?_) (fun hb=> ?_)
 ·exact e8 (e:=9) (by show(bp F .lF n).2.2=_;unfold bp;dsimp only;rw[if_pos (.inl (by have h:=Zf hb;omega))]) (by decide) (gv _ _ _)
 have hs8:F.b.au.length<8:=by have h:=Ze hb;omega
 iterate 4 refine af ?_
 refine aq.fT 19 (zX F.b F.aT a m c) rfl rfl rfl rfl rfl rfl rfl ai (fun y H2 jJ=> ?_) (fun v H2 jJ=> ?_)
 ·obtain⟨q1,rfl,rfl⟩:=jJ
  exact e8 (e:=9) (by show(bp F .lF n).2.2=_;unfold bp;dsimp only;rw[if_pos (.inr (by omega))]) (by decide) (gv _ _ _)
 obtain⟨hlt,rfl,rfl⟩:=jJ
 have hro:¬ (8<=F.b.au.length∨24<=F.b.ag.length):=by omega
 iterate 2 refine af ?_
 refine aC.bz 11 1 [6] [([],false),([],false),([],false),([],false),([],false),([],false),([],false),([],false),([],false),([],false),([6],true)] mixed (by kernel_rfl) (by decide) (by kernel_rfl) rfl (zG _ _ _ _ _) ?_
 refine af ?_
 refine aX.cons 21 rfl rfl rfl (fun _=>(aa.kS (l:=0) (h:=2) (r:=((n.drop 0).take 2).flatMap Di.bG) rfl rfl ai bB rfl ⟨_,rfl⟩ (by omega) (by omega) (rj n 0 2))) rfl ?_
 refine aX.cons 22 rfl rfl rfl (fun _=>(Kp (uE n 0 2 (by omega) (by omega)))) rfl ?_
 refine af ?_
 refine aX.cons 24 rfl rfl rfl (fun _=>(aa.kS (l:=2) (h:=4) (r:=((n.drop 2).take 2).flatMap Di.bG) rfl rfl ai bB ⟨_,rfl⟩ ⟨_,rfl⟩ (by omega) (by omega) (rj n 2 2))) rfl ?_
 refine aX.cons 25 rfl rfl rfl (fun _=>(Kp (uE n 2 2 (by omega) (by omega)))) rfl ?_
 refine af ?_
 refine aX.cons 27 rfl rfl rfl (fun _=>(aa.kS (l:=4) (h:=n.length) (r:=((n.drop 4).take (n.length - 4)).flatMap Di.bG) rfl rfl ai bB ⟨_,rfl⟩ rfl (by omega) (by omega) (rj n 4 (n.length - 4)))) rfl ?_
 refine aX.cons 28 rfl rfl rfl (fun _=>(Kp (uE n 4 (n.length - 4) (by omega) (by omega)))) rfl ?_
 refine aX.cons 29 rfl rfl rfl (fun _=>(aa.zp (v:= .p (.agg (fF n).cells)) rfl ai rfl rfl rfl)) rfl ?_
 refine aX.lay (v0:= .ptr 7 0) 5 6 rfl rfl rfl rfl rfl rfl rfl rfl (fun _=>(aa.aI rfl ai rfl)) rfl rfl rfl ?_
 refine aX.nil ?_
 refine Kz (aa.store (H':=[cI F.b F.aT (.raw a m c) 1 2 3 4 5,dD F.b.au,dj F.b.ag,dI F.b.ax,bL F.b.plan,bL F.b.bH,.cells ((fF n).cells.map .p) 126]) rfl rfl rfl rfl rfl ai rfl rfl) ?_
 iterate 3 refine af ?_
 refine Kc (Kl (.p (.agg (fF n).cells))) ?_
 refine Kc (aa.aF rfl ai (by decide) rfl rfl rfl) ?_
 iterate 2 refine af ?_
 refine Kc (aa.aF rfl ai (by decide) rfl rfl rfl) ?_
 refine Kc (Kp (Fx [fF n] [bf 0 1] Kn Kn)) ?_
 iterate 10 refine af ?_
 refine aq.cG 40 (b:=(decide ((shr [fF n] [bf 0 1]).2=0))) (kR (shr [fF n] [bf 0 1]).2) (oK (shr [fF n] [bf 0 1]).2) rfl rfl rfl rfl rfl rfl rfl ai (fun he=> ?_) (fun he=> ?_)
 ·have hne:(shr [fF n] [bf 0 1]).2≠0:=Zf he
  exact e8 (e:=(shr [fF n] [bf 0 1]).2) (by show(bp F .lF n).2.2=_;unfold bp;dsimp only;rw[if_neg hro,if_pos hne]) hne (⟨⟨_,rfl,rfl⟩,⟨ZR rfl,by intro j y h1 h2 h3;obtain rfl | rfl | rfl | rfl | rfl:j=1∨j=2∨j=3∨j=4∨j=5:=(by omega);all_goals first | exact .inl (ZB (show some ak.dead=some y from h3)).symm | exact .inr h3⟩⟩)
 have hz:¬ (shr [fF n] [bf 0 1]).2≠0:=fun h=>h (Ze he)
 iterate 2 refine af ?_
 refine aC.freeze 6 rfl rfl ?_
 refine aC.to (To.cut (H:=ov F.b F.aT (.raw a m c)) (ext:=[.dead,.cells [.p (.int .i64 (shr [fF n] [bf 0 1]).1.1),.p (.int .i64 (shr [fF n] [bf 0 1]).1.2)] 24]) (T2:=[(0,.ptr 0 0),(5,.p (.ip (fF n).cells 0))]) (WB _ _ _ _ _) (Zg _) KS rfl) ?_
 iterate 2 refine af ?_
 refine aq.fT 42 (zl F.b F.aT a m c 0 0) rfl rfl rfl rfl rfl rfl rfl ai (fun y H2 jJ=> ?_) (fun v H2 jJ=> ?_)
 ·exact absurd hlt jJ.1
 obtain⟨_,rfl,rfl⟩:=jJ
 iterate 3 refine af ?_
 refine aC.bz 24 2 [0,1,5,7,8] [([],false),([],false),([],false),([],false),([],false),([],false),([],false),([0],false),([],false),([],false),([7,1],true),([],false),([],false),([],false),([],false),([0],false),([],false),([],false),([8,5],true),([],false),([],false),([],false),([],false),([0,7],true)] mixed (by kernel_rfl) (by decide) (by kernel_rfl) rfl (by simp[cI,ov,cj,bY,cD,eZ,iP,fX,bS,dc,dD,dj,dI,bL,dR,Di.bX.cells]) ?_
 iterate 3 refine af ?_
 refine aX.cons 46 rfl rfl rfl (fun _=>(aa.nilCheck rfl rfl)) rfl ?_
 iterate 3 refine af ?_
 refine aX.cons 50 rfl rfl rfl (fun _=>(Kl (bg 1 (F.b.au).length))) (dc Kn) ?_
 refine aX.cons 51 rfl rfl rfl (fun _=>(Kl (.p (.agg (fF n).cells)))) rfl ?_
 refine aX.cons 52 rfl rfl rfl (fun _=>(aa.aF rfl ai (by decide) rfl rfl rfl)) rfl ?_
 refine aX.xD (blk:= .row (((F.b.au).flatMap Ck.Sk.cells).map .p++((fF n).cells).map .p) 126) (v0:= .row 9 _) 53 7 1 rfl rfl rfl rfl rfl rfl rfl rfl rfl rfl (fun _=>(aa.qN (i:=1) (len:=(F.b.au).length) (cs:=((F.b.au).flatMap Ck.Sk.cells).map .p) (ys:=((fF n).cells).map .p) (n:=1) rfl rfl rfl ai ai rfl (by rw[Zr,AF.bD (c:=6) (fun _=>rfl)];rfl) rfl (by decide) rfl ai (by decide) (by show(2*(_+1)+192)*48<=281474976710656;omega))) rfl rfl (by show ak.row (bE _ (_++_)) _=_;rw[bI,aP,aP]) ?_
 refine af ?_
 refine aX.cons 55 rfl rfl rfl (fun _=>(aa.nilCheck rfl rfl)) rfl ?_
 iterate 2 refine af ?_
 refine aX.cons 58 rfl rfl rfl (fun _=>(Kl (bg 5 (F.b.bH).length))) (dc Kn) ?_
 refine af ?_
 refine aX.cons 60 rfl rfl rfl (fun _=>(aa.aF rfl ai (by decide) rfl rfl rfl)) rfl ?_
 refine aX.xD (blk:= .row (((F.b.bH).flatMap Di.bG).map .p++(Di.bG (F.b.ag.length:Int)).map .p) 3) (v0:= .row 9 _) 61 8 5 rfl rfl rfl rfl rfl rfl rfl rfl rfl rfl (fun _=>(aa.qN (i:=5) (len:=(F.b.bH).length) (cs:=((F.b.bH).flatMap Di.bG).map .p) (ys:=(Di.bG (F.b.ag.length:Int)).map .p) (n:=1) rfl rfl rfl ai ai rfl (by rw[Zr,AF.bD (c:=1) (fun _=>rfl)];rfl) rfl (by decide) rfl ai (by decide) (by show(2*(_+1)+192)*8<=281474976710656;omega))) rfl rfl (by show ak.row (bE _ (_++_)) _=_;rw[bI,aP,aP]) ?_
 refine aX.cons 62 rfl rfl rfl (fun _=>(aa.nilCheck rfl rfl)) rfl ?_
 iterate 3 refine af ?_
 refine aX.put (blk:= .cells ([.row 7 (F.b.au.length+1),bg 6 (F.b.gz ⟨0,0⟩).ag.length,bg 3 (F.b.gz ⟨0,0⟩).ax.length,bg 4 (F.b.gz ⟨0,0⟩).plan.length,.p (.int .i64 ((F.b.gz ⟨0,0⟩).bad:Int)),.p (.int .i64 ((F.b.gz ⟨0,0⟩).good:Int)),bg 5 F.b.bH.length]++F.aT.cells.map .p++[.raw a m c,.p (.bool true)]) 63) 0 rfl rfl rfl rfl (fun _=>(aa.store rfl rfl rfl rfl rfl ai rfl rfl)) rfl (by simp[cj,bY,cD,eZ,iP,dc,Di.bX.cells,aZ,sg,wJ]) ?_
 refine aX.nil ?_
 iterate 7 refine af ?_
 refine Kc (aa.aJ rfl rfl mO) ?_
 iterate 5 refine af ?_
 refine Kc (Kl (.row 7 (F.b.au.length+1))) ?_
 refine af ?_
 refine Kc (aa.ec (m:=(F.b.au.length:Int)) rfl rfl rfl ((aA ?_).trans ?_)) ?_
 ·omega
 ·omega
 refine Kc (aa.aJ rfl rfl lD) ?_
 refine Kc (aa.aJ rfl rfl mO) ?_
 refine af ?_
 refine Kc (aa.aJ rfl rfl lD) ?_
 refine Kc (aa.aF rfl ai (by decide) rfl rfl rfl) ?_
 refine Kc (Kp (dJ [.str (Vb.t .lF),.num (F.b.au.length:Int),.str ic,.num (F.b.ag.length:Int)] Kn Kn (gq (by decide) (fA (by omega) (gq (by decide) (fA (by omega) gM)))))) ?_
 iterate 3 refine af ?_
 refine jt.one rfl rfl (xy (F2:={F with b:={F.b.gz ⟨0,0⟩ with au:=F.b.au++[fF n],bH:=F.b.bH++[(F.b.ag.length:Int)]}}) (r:=br (Vb.t .lF) [(F.b.au.length:Int)]++32::br ic [(F.b.ag.length:Int)]) (by unfold bp;dsimp only;rw[if_neg hro,if_neg hz]) (by simp[dA,br,j7,jD.w]) ?_)
 exact⟨⟨7,6,3,4,8,by decide,congrArg some (flS (F.b.gz ⟨0,0⟩) F.aT _ (fF n) (F.b.ag.length:Int) 7 6 3 4 8),congrArg some (M1 _ _),rfl,rfl,rfl,congrArg some (BC _ _)⟩,⟨ZR rfl,by intro j y h1 h2 h3;obtain rfl | rfl | rfl | rfl | rfl:j=1∨j=2∨j=3∨j=4∨j=5:=(by omega);all_goals first | exact .inl (ZB (show some ak.dead=some y from h3)).symm | exact .inr h3⟩⟩
theorem rK{n x m:Nat}(h:x<2^n):x&&& m=x&&& (m%2^n):=by
 apply Ie
 intro i
 rw[J0,J0,Nat.testBit_mod_two_pow]
 by_cases hi:i<n
 ·simp[hi]
 ·rw[WL (ZQ h (Zq (by omega) (by omega)))]
  rfl
theorem rH(y M:Nat){a m:Nat}(ha:a<2^8)(hm:m<2^8):(2^8*y+a)&&& (2^8*M+m)=2^8*(y&&& M)+(a&&& m):=by
 apply Ie
 intro i
 rw[J0,Vy _ ha,Vy _ hm,Vy _ (Nat.lt_of_le_of_lt Nat.and_le_left ha)]
 by_cases hi:i<8
 ·simp[hi]
 ·simp[hi]
theorem ab2:((List.range 256).all fun t=>decide (t&&& 85=(t%128)&&& 85)&&decide (t&&& 51=(t%64)&&& 51)&&decide (t&&& 15=t%16))=true:=by kernel_rfl
theorem Aq{t:Nat}(h:t<256):t&&& 85=(t%128)&&& 85∧t&&& 51=(t%64)&&& 51∧t&&& 15=t%16:=by
 have:=ZC.1 ab2 t (wX.2 h)
 simp only[Zo,Zl] at this
 omega
def s1(a:Nat):Nat:=(a / 2&&& 85)+(a&&& 85)
def s2(a:Nat):Nat:=(a / 4&&& 51)+(a&&& 51)
def s3(a:Nat):Nat:=(a / 16+a)&&& 15
theorem st1(y M:Nat){a:Nat}(ha:a<256):((256*y+a) / 2&&& (256*M+85))+((256*y+a)&&& (256*M+85))=256*((y / 2&&& M)+(y&&& M))+s1 a:=by
 have e:(256*y+a) / 2=256*(y / 2)+(128*(y%2)+a / 2):=by omega
 have h1:128*(y%2)+a / 2<2^8:=by omega
 have h2:=(Aq (t:=128*(y%2)+a / 2) (by omega)).1
 rw[show(128*(y%2)+a / 2)%128=a / 2 by omega] at h2
 rw[e]
 have k1:=rH (y / 2) M h1 (show 85<2^8 by decide)
 have k2:=rH y M (show a<2^8 by omega) (show 85<2^8 by decide)
 rw[h2] at k1
 rw[show(2:Nat)^8=256 by decide] at k1 k2
 rw[k1,k2]
 unfold s1
 omega
theorem st2(y M:Nat){a:Nat}(ha:a<256):((256*y+a) / 4&&& (256*M+51))+((256*y+a)&&& (256*M+51))=256*((y / 4&&& M)+(y&&& M))+s2 a:=by
 have e:(256*y+a) / 4=256*(y / 4)+(64*(y%4)+a / 4):=by omega
 have h1:64*(y%4)+a / 4<2^8:=by omega
 have h2:=(Aq (t:=64*(y%4)+a / 4) (by omega)).2.1
 rw[show(64*(y%4)+a / 4)%64=a / 4 by omega] at h2
 rw[e]
 have k1:=rH (y / 4) M h1 (show 51<2^8 by decide)
 have k2:=rH y M (show a<2^8 by omega) (show 51<2^8 by decide)
 rw[h2] at k1
 rw[show(2:Nat)^8=256 by decide] at k1 k2
 rw[k1,k2]
 unfold s2
 omega
theorem st3(y M:Nat){a:Nat}(ha:a<=68)(hy:y%16<=4):((256*y+a) / 16+(256*y+a))&&& (256*M+15)=256*((y / 16+y)&&& M)+s3 a:=by
 have e:(256*y+a) / 16+(256*y+a)=256*(y / 16+y)+(16*(y%16)+a / 16+a):=by omega
 have h1:16*(y%16)+a / 16+a<2^8:=by omega
 have h2:=(Aq (t:=16*(y%16)+a / 16+a) (by omega)).2.2
 have h3:=(Aq (t:=a / 16+a) (by omega)).2.2
 rw[e]
 have k1:=rH (y / 16+y) M h1 (show 15<2^8 by decide)
 rw[h2] at k1
 rw[show(2:Nat)^8=256 by decide] at k1
 rw[k1]
 unfold s3
 rw[h3]
 omega
def pop8(a:Nat):Nat:=((List.range 8).filter a.testBit).length
theorem JG:((List.range 256).all fun a=>decide (s1 a<256)&&decide (s2 (s1 a)<=68)&&decide (s2 (s1 a)%16<=4)&&decide (s3 (s2 (s1 a))=pop8 a)&&decide (pop8 a<=8))=true:=by kernel_rfl
theorem byte_at{a:Nat}(h:a<256):s1 a<256∧s2 (s1 a)<=68∧s2 (s1 a)%16<=4∧s3 (s2 (s1 a))=pop8 a∧pop8 a<=8:=by
 have:=ZC.1 JG a (wX.2 h)
 simp only[Zo,Zl] at this
 omega
def CN(x:Nat):Nat:=(x / 2^1&&& 6148914691236517205)+(x&&& 6148914691236517205)
def FA(x:Nat):Nat:=(CN x / 2^2&&& 3689348814741910323)+(CN x&&& 3689348814741910323)
def Ic(x:Nat):Nat:=FA x / 2^4+FA x&&& 1085102592571150095
def Ey(x:Nat):Nat:=Ic x+Ic x / 2^8
def E4(x:Nat):Nat:=Ey x+Ey x / 2^16
def H9(x:Nat):Nat:=E4 x+E4 x / 2^32
def gF(a b c:Nat):Nat:=256*(256*c+b)+a
theorem EZ{a b c:Nat}(ha:a<256)(hb:b<256)(hc:c<256):CN (gF a b c)=gF (s1 a) (s1 b) (s1 c):=by
 have hx:gF a b c<2^24:=by unfold gF;omega
 have hx2:gF a b c / 2^1<2^24:=by omega
 unfold CN
 rw[rK hx,rK hx2,show(6148914691236517205:Nat)%2^24=256*(256*85+85)+85 by decide,show(2:Nat)^1=2 by decide]
 unfold gF
 rw[st1 _ _ ha,st1 _ _ hb]
 rfl
theorem E3{a b c:Nat}(ha:a<256)(hb:b<256)(hc:c<256):FA (gF a b c)=gF (s2 (s1 a)) (s2 (s1 b)) (s2 (s1 c)):=by
 have ga:=(byte_at ha).1
 have gb:=(byte_at hb).1
 have gc:=(byte_at hc).1
 have hx:gF (s1 a) (s1 b) (s1 c)<2^24:=by unfold gF;omega
 have hx2:gF (s1 a) (s1 b) (s1 c) / 2^2<2^24:=by omega
 unfold FA
 rw[EZ ha hb hc,rK hx,rK hx2,show(3689348814741910323:Nat)%2^24=256*(256*51+51)+51 by decide,show(2:Nat)^2=4 by decide]
 unfold gF
 rw[st2 _ _ ga,st2 _ _ gb]
 rfl
theorem PG{a b c:Nat}(ha:a<256)(hb:b<256)(hc:c<256):Ic (gF a b c)=gF (pop8 a) (pop8 b) (pop8 c):=by
 obtain⟨_,ga,ga2,ga3,_⟩:=byte_at ha
 obtain⟨_,gb,gb2,gb3,_⟩:=byte_at hb
 obtain⟨_,gc,gc2,gc3,_⟩:=byte_at hc
 have hx:gF (s2 (s1 a)) (s2 (s1 b)) (s2 (s1 c)) / 2^4+gF (s2 (s1 a)) (s2 (s1 b)) (s2 (s1 c))<2^24:=by unfold gF;omega
 unfold Ic
 rw[E3 ha hb hc,rK hx,show(1085102592571150095:Nat)%2^24=256*(256*15+15)+15 by decide,show(2:Nat)^4=16 by decide]
 unfold gF
 rw[st3 _ _ ga (by omega),st3 _ _ gb gc2,ga3,gb3]
 rw[<- gc3]
 rfl
theorem Wu{a b c:Nat}(ha:a<256)(hb:b<256)(hc:c<256):H9 (gF a b c)&&& 127=pop8 a+pop8 b+pop8 c∧CN (gF a b c)<2^24∧FA (gF a b c)<2^24∧Ic (gF a b c)<2^24∧Ey (gF a b c)<2^25∧E4 (gF a b c)<2^25∧H9 (gF a b c)<2^25:=by
 obtain⟨f1,f2,_,_,pa⟩:=byte_at ha
 obtain⟨g1,g2,_,_,pb⟩:=byte_at hb
 obtain⟨h1,h2,_,_,pc⟩:=byte_at hc
 have e1:=EZ ha hb hc
 have e2:=E3 ha hb hc
 have e3:=PG ha hb hc
 have e4:Ey (gF a b c)=256*(256*pop8 c+pop8 b+pop8 c)+(pop8 a+pop8 b):=by
  unfold Ey
  rw[e3]
  unfold gF
  omega
 have e5:E4 (gF a b c)=256*(256*pop8 c+pop8 b+pop8 c)+(pop8 a+pop8 b+pop8 c):=by
  unfold E4
  rw[e4]
  omega
 have e6:H9 (gF a b c)=256*(256*pop8 c+pop8 b+pop8 c)+(pop8 a+pop8 b+pop8 c):=by
  unfold H9
  rw[e5]
  omega
 refine⟨?_,?_,?_,?_,?_,?_,?_⟩
 ·have:=Nat.and_two_pow_sub_one_eq_mod (H9 (gF a b c)) 7
  rw[show(2:Nat)^7 - 1=127 by decide] at this
  rw[this,e6]
  omega
 ·rw[e1];unfold gF;omega
 ·rw[e2];unfold gF;omega
 ·rw[e3];unfold gF;omega
 ·rw[e4];omega
 ·rw[e5];omega
 ·rw[e6];omega
theorem L7(x:Nat):((List.range 24).filter x.testBit).length=pop8 (x%256)+pop8 (x / 256%256)+pop8 (x / 65536%256):=by
 have e:∀(k i:Nat),i<8->(x / 2^k%256).testBit i=x.testBit (k+i):=fun k i hi=>by
  rw[show(256:Nat)=2^8 by decide,Nat.testBit_mod_two_pow,Nat.testBit_div_two_pow]
  simp[hi,XK]
 have h:∀ k,(((List.range 8).map (k+ ·)).filter x.testBit).length=pop8 (x / 2^k%256):=fun k=>by
  unfold pop8
  rw[List.filter_map,Zr]
  congr 1
  apply List.filter_congr
  intro i hi
  exact(e k i (wX.1 hi)).symm
 have e3:List.range 24=(List.range 8).map (0+ ·)++(List.range 8).map (8+ ·)++(List.range 8).map (16+ ·):=by decide
 rw[e3,ZbJ,ZbJ,Zc,Zc,h,h,h]
 simp
theorem abA{x:Nat}(h:x<2^24):H9 x&&& 127=((List.range 24).filter x.testBit).length∧CN x<2^24∧FA x<2^24∧Ic x<2^24∧Ey x<2^25∧E4 x<2^25∧H9 x<2^25:=by
 have ex:x=gF (x%256) (x / 256%256) (x / 65536%256):=by unfold gF;omega
 have hk:=Wu (a:=x%256) (b:=x / 256%256) (c:=x / 65536%256) (by omega) (by omega) (by omega)
 rw[<- ex] at hk
 rw[L7]
 exact hk
theorem ocS{x:Nat}(h:x<2^24):H9 x&&& 127=(gw x).length:=by
 rw[(abA h).1]
 unfold gw
 rw[Zr]
theorem TC(n k:Nat):decide (((n / 2^k&&& 1:Nat):Int)=0)= !n.testBit k:=by
 rw[Nat.testBit_eq_decide_div_mod_eq,Nat.and_one_is_mod]
 by_cases h:n / 2^k%2=1
 ·rw[h];rfl
 ·have h0:n / 2^k%2=0:=by omega
  rw[h0];rfl
theorem zf{n k:Nat}(h:n.testBit k=false):n||| 1*2^k=n+2^k:=by
 rw[ZN,<- s9 h]
theorem Qz(x:Nat)(hx:x<2^24):Pure Tryz.prog 196 [.int .u64 (x:Int)] (.int .i64 (((gw x).length:Nat):Int)):=by
 have ja:(2:Nat)^24=16777216:=by decide
 have h25:(2:Nat)^25=33554432:=by decide
 have hz:=ocS hx
 obtain⟨_,h1,h2,h3,h4,h5,h6⟩:=abA hx
 refine Kf (N:=35) Tryz.func196 ?_
 iterate 7 refine af ?_
 refine Kc (aa.xj x 1 rfl rfl rfl (by first | decide | (show _<=(9223372036854775807:Int);omega) | (show _<=(4294967295:Int);omega) | (show _<=(18446744073709551615:Int);omega) | (show _<=(255:Int);omega) | (show _<=(65535:Int);omega))) ?_
 refine Kc (aa.qi (x / 2^1) 6148914691236517205 rfl rfl rfl (by first | (show _<=(9223372036854775807:Int);omega) | (show _<=(4294967295:Int);omega) | (show _<=(18446744073709551615:Int);omega) | (show _<=(255:Int);omega) | (show _<=(65535:Int);omega)) (by first | decide | (show _<=(9223372036854775807:Int);omega) | (show _<=(4294967295:Int);omega) | (show _<=(18446744073709551615:Int);omega) | (show _<=(255:Int);omega) | (show _<=(65535:Int);omega))) ?_
 refine af ?_
 refine Kc (aa.qi x 6148914691236517205 rfl rfl rfl (by first | (show _<=(9223372036854775807:Int);omega) | (show _<=(4294967295:Int);omega) | (show _<=(18446744073709551615:Int);omega) | (show _<=(255:Int);omega) | (show _<=(65535:Int);omega)) (by first | decide | (show _<=(9223372036854775807:Int);omega) | (show _<=(4294967295:Int);omega) | (show _<=(18446744073709551615:Int);omega) | (show _<=(255:Int);omega) | (show _<=(65535:Int);omega))) ?_
 refine Kc (aa.add (m:=((CN x:Nat):Int)) rfl rfl rfl ((oo ?_).trans ?_)) ?_
 ·have e:CN x=(x / 2^1&&& 6148914691236517205)+(x&&& 6148914691236517205):=rfl;omega
 ·have e:CN x=(x / 2^1&&& 6148914691236517205)+(x&&& 6148914691236517205):=rfl;omega
 iterate 5 refine af ?_
 refine Kc (aa.xj (CN x) 2 rfl rfl rfl (by first | decide | (show _<=(9223372036854775807:Int);omega) | (show _<=(4294967295:Int);omega) | (show _<=(18446744073709551615:Int);omega) | (show _<=(255:Int);omega) | (show _<=(65535:Int);omega))) ?_
 refine Kc (aa.qi (CN x / 2^2) 3689348814741910323 rfl rfl rfl (by first | (show _<=(9223372036854775807:Int);omega) | (show _<=(4294967295:Int);omega) | (show _<=(18446744073709551615:Int);omega) | (show _<=(255:Int);omega) | (show _<=(65535:Int);omega)) (by first | decide | (show _<=(9223372036854775807:Int);omega) | (show _<=(4294967295:Int);omega) | (show _<=(18446744073709551615:Int);omega) | (show _<=(255:Int);omega) | (show _<=(65535:Int);omega))) ?_
 refine af ?_
 refine Kc (aa.qi (CN x) 3689348814741910323 rfl rfl rfl (by first | (show _<=(9223372036854775807:Int);omega) | (show _<=(4294967295:Int);omega) | (show _<=(18446744073709551615:Int);omega) | (show _<=(255:Int);omega) | (show _<=(65535:Int);omega)) (by first | decide | (show _<=(9223372036854775807:Int);omega) | (show _<=(4294967295:Int);omega) | (show _<=(18446744073709551615:Int);omega) | (show _<=(255:Int);omega) | (show _<=(65535:Int);omega))) ?_
 refine Kc (aa.add (m:=((FA x:Nat):Int)) rfl rfl rfl ((oo ?_).trans ?_)) ?_
 ·have e:FA x=(CN x / 2^2&&& 3689348814741910323)+(CN x&&& 3689348814741910323):=rfl;omega
 ·have e:FA x=(CN x / 2^2&&& 3689348814741910323)+(CN x&&& 3689348814741910323):=rfl;omega
 iterate 5 refine af ?_
 refine Kc (aa.xj (FA x) 4 rfl rfl rfl (by first | decide | (show _<=(9223372036854775807:Int);omega) | (show _<=(4294967295:Int);omega) | (show _<=(18446744073709551615:Int);omega) | (show _<=(255:Int);omega) | (show _<=(65535:Int);omega))) ?_
 refine af ?_
 refine Kc (aa.add (m:=((FA x / 2^4+FA x:Nat):Int)) rfl rfl rfl ((oo ?_).trans ?_)) ?_
 ·omega
 ·omega
 refine Kc (aa.qi (FA x / 2^4+FA x) 1085102592571150095 rfl rfl rfl (by first | (show _<=(9223372036854775807:Int);omega) | (show _<=(4294967295:Int);omega) | (show _<=(18446744073709551615:Int);omega) | (show _<=(255:Int);omega) | (show _<=(65535:Int);omega)) (by first | decide | (show _<=(9223372036854775807:Int);omega) | (show _<=(4294967295:Int);omega) | (show _<=(18446744073709551615:Int);omega) | (show _<=(255:Int);omega) | (show _<=(65535:Int);omega))) ?_
 iterate 3 refine af ?_
 refine aC.norm [] [(0,.p (.int .u64 ((Ic x:Nat):Int)))] [] rfl KS rfl ?_
 iterate 3 refine af ?_
 refine Kc (aa.xj (Ic x) 8 rfl rfl rfl (by first | decide | (show _<=(9223372036854775807:Int);omega) | (show _<=(4294967295:Int);omega) | (show _<=(18446744073709551615:Int);omega) | (show _<=(255:Int);omega) | (show _<=(65535:Int);omega))) ?_
 refine Kc (aa.add (m:=((Ey x:Nat):Int)) rfl rfl rfl ((oo ?_).trans ?_)) ?_
 ·have e:Ey x=Ic x+Ic x / 2^8:=rfl;omega
 ·have e:Ey x=Ic x+Ic x / 2^8:=rfl;omega
 iterate 6 refine af ?_
 refine Kc (aa.xj (Ey x) 16 rfl rfl rfl (by first | decide | (show _<=(9223372036854775807:Int);omega) | (show _<=(4294967295:Int);omega) | (show _<=(18446744073709551615:Int);omega) | (show _<=(255:Int);omega) | (show _<=(65535:Int);omega))) ?_
 refine Kc (aa.add (m:=((E4 x:Nat):Int)) rfl rfl rfl ((oo ?_).trans ?_)) ?_
 ·have e:E4 x=Ey x+Ey x / 2^16:=rfl;omega
 ·have e:E4 x=Ey x+Ey x / 2^16:=rfl;omega
 iterate 6 refine af ?_
 refine Kc (aa.xj (E4 x) 32 rfl rfl rfl (by first | decide | (show _<=(9223372036854775807:Int);omega) | (show _<=(4294967295:Int);omega) | (show _<=(18446744073709551615:Int);omega) | (show _<=(255:Int);omega) | (show _<=(65535:Int);omega))) ?_
 refine Kc (aa.add (m:=((H9 x:Nat):Int)) rfl rfl rfl ((oo ?_).trans ?_)) ?_
 ·have e:H9 x=E4 x+E4 x / 2^32:=rfl;omega
 ·have e:H9 x=E4 x+E4 x / 2^32:=rfl;omega
 iterate 5 refine af ?_
 refine Kc (aa.dP rfl rfl (by rw[Y0];rfl) y4 (aA ?_)) ?_
 ·omega
 refine Kc (aa.qi (H9 x) 127 rfl rfl rfl (by first | (show _<=(9223372036854775807:Int);omega) | (show _<=(4294967295:Int);omega) | (show _<=(18446744073709551615:Int);omega) | (show _<=(255:Int);omega) | (show _<=(65535:Int);omega)) (by first | decide | (show _<=(9223372036854775807:Int);omega) | (show _<=(4294967295:Int);omega) | (show _<=(18446744073709551615:Int);omega) | (show _<=(255:Int);omega) | (show _<=(65535:Int);omega))) ?_
 iterate 3 refine af ?_
 refine Fin.cY rfl rfl ?_
 rw[hz]
theorem EP(x:Nat)(hx:x<2^24):Pure Tryz.prog 157 [.int .u64 (x:Int)] (.int .i64 (((gw x).length:Nat):Int)):=by
 refine Kf (N:=8) Tryz.func157 ?_
 iterate 5 refine af ?_
 refine Ki (fun hc0=> ?_) fun hc0=> ?_
 ·cases hc0
 ·iterate 4 refine af ?_
  refine Kc (Kp (Qz x hx)) ?_
  exact mc
theorem JT(F:c7)(n:List Int)(a:Option Addr)(m c k:Nat)(hF:kK F)(hk:nn n 0=((k:Nat):Int)):aD Tryz.prog 96 [.ptr 0 0,.p (.str (sB [98,97,100])),.ptr 0 4,.p (.int .i64 ((k:Nat):Int))] (ov F.b F.aT (.raw a m c)) (XD F .bad n (.raw a m c)) (YN F .bad n (.raw a m c)):=by
 have en:=Rx.bM hF.b.cd
 have ja:(2:Nat)^24=16777216:=by decide
 have hpw:=Zq (show 0<2 by omega) en
 have hb0:=hF.b.bad
 have Uv:=hF.b.good
 have hle:=Nat.div_le_self F.b.bad (2^k)
 refine aD.start (N:=66) Tryz.func96 rfl rfl Kn ?_
 iterate 8 refine af ?_
 refine Kc (aa.ir rfl rfl rfl rfl ai (ux F.b F.aT a m c ((k:Nat):Int))) ?_
 refine aq.cG 14 (b:=_) (dQ _ 2) (dU _ 2) rfl rfl rfl rfl rfl rfl rfl ai (fun hb=> ?_) (fun hb=> ?_)
 ·have L9:dL F.b F.b.bad (nn n 0)=2:=by unfold dL;rw[hk,if_pos (by have h:=Zf hb;omega)]
  exact e8 (e:=2) (by show(bp F .bad n).2.2=_;unfold bp;dsimp only;rw[if_pos (by rw[L9];decide),L9]) (by decide) (gv _ _ _)
 have WW:k<F.b.ag.length:=by have h:=Ze hb;omega
 have hp0:=CW (show k<=24 by omega)
 iterate 5 refine af ?_
 refine Kc (Kl (.p (.int .i64 ((F.b.bad:Nat):Int)))) ?_
 refine af ?_
 refine Kc (aa.xj F.b.bad k rfl rfl rfl (by first | decide | (show _<=(9223372036854775807:Int);omega) | (show _<=(4294967295:Int);omega) | (show _<=(18446744073709551615:Int);omega) | (show _<=(255:Int);omega) | (show _<=(65535:Int);omega))) ?_
 refine Kc (aa.qi (F.b.bad / 2^k) 1 rfl rfl rfl (by first | (show _<=(9223372036854775807:Int);omega) | (show _<=(4294967295:Int);omega) | (show _<=(18446744073709551615:Int);omega) | (show _<=(255:Int);omega) | (show _<=(65535:Int);omega)) (by first | decide | (show _<=(9223372036854775807:Int);omega) | (show _<=(4294967295:Int);omega) | (show _<=(18446744073709551615:Int);omega) | (show _<=(255:Int);omega) | (show _<=(65535:Int);omega))) ?_
 refine af ?_
 rw[TC]
 refine aq.cG 22 (b:=(!F.b.bad.testBit k)) (dQ (!F.b.bad.testBit k) 5) (dU (!F.b.bad.testBit k) 5) rfl rfl rfl rfl rfl rfl rfl ai (fun iY=> ?_) (fun iY=> ?_)
 ·have Bd:F.b.bad.testBit k=true:=by simpa using iY
  have Ka:dL F.b F.b.bad (nn n 0)=5:=by unfold dL;rw[hk,if_neg (by omega),CR,Bd];rfl
  exact e8 (e:=5) (by show(bp F .bad n).2.2=_;unfold bp;dsimp only;rw[if_pos (by rw[Ka];decide),Ka]) (by decide) (gv _ _ _)
 have Bd:F.b.bad.testBit k=false:=by simpa using iY
 have hce:dL F.b F.b.bad (nn n 0)=0:=by unfold dL;rw[hk,if_neg (by omega),CR,Bd];rfl
 have Z5:¬ dL F.b F.b.bad (nn n 0)≠0:=fun h=>h hce
 have hN:F.b.bad+pow2 (nn n 0)=(F.b.bad||| 1*2^k):=by unfold pow2;rw[hk,CR];exact(zf Bd).symm
 have hkp:=Qe (show 1<2 by omega) WW
 have hBN:(F.b.bad||| 1*2^k)<16777216:=by rw[zf Bd];have h5:2^k+2^k<=2^F.b.ag.length:=(by have:=Zq (show 0<2 by omega) (show k+1<=F.b.ag.length by omega);rw[P8] at this;omega);have h6:=LO (x:=F.b.bad) (y:=2^k) (n:=F.b.ag.length) (by omega) hkp;rw[<- s9 Bd] at h6;omega
 iterate 2 refine af ?_
 refine aC.az 7 mixed (by kernel_rfl) (by decide) ?_
 refine af ?_
 refine Kq (aa.nilCheck rfl rfl) ?_
 refine Kq (Kl (.p (.int .i64 ((F.b.bad:Nat):Int)))) ?_
 refine af ?_
 refine Kq (aa.qC 1 k rfl rfl rfl (by show _<=(64:Nat);omega) (by show _<=(9223372036854775807:Int);rw[ZN];omega)) ?_
 refine Kq (aa.Xr F.b.bad (1*2^k) rfl rfl rfl (by show _<=(9223372036854775807:Int);omega) (by show _<=(9223372036854775807:Int);rw[ZN];omega) (by show _<=(9223372036854775807:Int);omega)) ?_
 refine Kq (aa.nilCheck rfl rfl) ?_
 refine ay.nil ?_
 refine Kz (aa.store (H':=[cI {F.b with bad:=(F.b.bad||| 1*2^k)} F.aT (.raw a m c) 1 2 3 4 5,dD F.b.au,dj F.b.ag,dI F.b.ax,bL F.b.plan,bL F.b.bH]) rfl rfl rfl rfl rfl ai rfl rfl) ?_
 iterate 2 refine af ?_
 refine aC.az 24 mixed (by kernel_rfl) (by decide) ?_
 refine af ?_
 refine Kq (aa.nilCheck rfl rfl) ?_
 iterate 3 refine af ?_
 refine Kq (Kl (bg 2 F.b.ag.length)) ?_
 refine af ?_
 refine Kq (aa.nilCheck rfl rfl) ?_
 iterate 3 refine af ?_
 refine Kq (Kl (.p (.int .i64 (((F.b.bad||| 1*2^k):Nat):Int)))) ?_
 refine af ?_
 refine Kq (aa.nilCheck rfl rfl) ?_
 iterate 3 refine af ?_
 refine Kq (Kl (.p (.int .i64 ((F.b.good:Nat):Int)))) ?_
 refine Kq (aa.yH 3 (Rx.qJ F.b.ag (((F.b.bad||| 1*2^k):Nat):Int) ((F.b.good:Nat):Int) (Zz en (by decide))) rfl rfl rfl rfl rfl (Yz (i:=2) (xs:=[.int .i64 (((F.b.bad||| 1*2^k):Nat):Int),.int .i64 ((F.b.good:Nat):Int)]) rfl) ai) ?_
 refine af ?_
 refine Kq (aa.extract rfl rfl rfl) ?_
 refine Kq (aa.extract rfl rfl rfl) ?_
 iterate 2 refine af ?_
 refine ay.nil ?_
 iterate 6 refine af ?_
 refine aq.cG 55 (b:=_) (dQ _ (Rx.hY F.b.ag (((F.b.bad||| 1*2^k):Nat):Int) ((F.b.good:Nat):Int))) (dU _ (Rx.hY F.b.ag (((F.b.bad||| 1*2^k):Nat):Int) ((F.b.good:Nat):Int))) rfl rfl rfl rfl rfl rfl rfl ai (fun WD=> ?_) (fun WD=> ?_)
 ·have VB:(Rx.hY F.b.ag (((F.b.bad||| 1*2^k):Nat):Int) ((F.b.good:Nat):Int))=6:=by simpa using WD
  exact e8 (e:=(Rx.hY F.b.ag (((F.b.bad||| 1*2^k):Nat):Int) ((F.b.good:Nat):Int))) (by rw[VB];show(bp F .bad n).2.2=_;unfold bp;dsimp only;rw[if_neg Z5,hN,if_pos VB]) (by rw[VB];decide) (⟨⟨_,rfl,rfl⟩,⟨ZR rfl,by intro j y h1 h2 h3;obtain rfl | rfl | rfl | rfl | rfl:j=1∨j=2∨j=3∨j=4∨j=5:=(by omega);all_goals first | exact .inl (ZB (show some ak.dead=some y from h3)).symm | exact .inr h3⟩⟩)
 have hn6:¬ (Rx.hY F.b.ag (((F.b.bad||| 1*2^k):Nat):Int) ((F.b.good:Nat):Int))=6:=by simpa using WD
 iterate 4 refine af ?_
 refine Kc (aa.aJ rfl rfl mO) ?_
 iterate 2 refine af ?_
 refine Kc (Kl (.p (.int .i64 (((F.b.bad||| 1*2^k):Nat):Int)))) ?_
 refine Kc (aa.dP rfl rfl (by rw[y4];rfl) BL (oo ?_)) ?_
 ·omega
 refine Kc (Kp (EP (F.b.bad||| 1*2^k) (by omega))) ?_
 refine Kc (aa.aJ rfl rfl lD) ?_
 refine Kc (aa.aF rfl ai (by decide) rfl rfl rfl) ?_
 refine Kc (Kp (dJ [.str (Vb.t .bad),.num ((gw (F.b.bad||| 1*2^k)).length:Int)] Kn Kn (gq (by decide) (fA (by have:=fj (F.b.bad||| 1*2^k);omega) gM)))) ?_
 iterate 3 refine af ?_
 refine jt.one rfl rfl (xy (F2:={F with b:={F.b with bad:=(F.b.bad||| 1*2^k)}}) (r:=br (Vb.t .bad) [((gw (F.b.bad||| 1*2^k)).length:Int)]) (by unfold bp;dsimp only;rw[if_neg Z5,hN,if_neg hn6]) (by rw[fW];rfl) ?_)
 exact Tt
theorem aaR:VC .bad 95:=by
 intro F n a m c hF hl hn
 have en:=Rx.bM hF.b.cd
 have tT:=hF.b.sk
 have sN:=hF.b.dr
 have q0:0<=nn n 0∧nn n 0<10000000000000:=hn _ (Di.aV 0 (show 0<n.length by rw[hl];decide))
 obtain⟨k,hk⟩:=Vo q0.1
 refine aD.start (N:=15) Tryz.func95 rfl rfl Kn ?_
 iterate 5 refine af ?_
 refine aC.az 9 mixed (by kernel_rfl) (by decide) ?_
 iterate 2 refine af ?_
 refine Kq (aa.nilCheck rfl rfl) ?_
 iterate 4 refine af ?_
 refine Kq (aa.aB (g:=Di.gt 0 n) (k:=0) (Di.av _) rfl rfl rfl ai bB rfl (fun _=>rfl) (by decide) (by rw[hl];decide)) ?_
 refine Kq (aa.load (v:= .p (.int .i64 ((k:Nat):Int))) rfl rfl ai (by rw[<- hk];rfl)) ?_
 refine ay.nil ?_
 refine aq.fT 14 (JT F n a m c k hF hk) rfl rfl rfl rfl rfl rfl rfl ai (fun y H2 jJ=> ?_) (fun v H2 jJ=> ?_)
 ·exact⟨_,rfl,jJ⟩
 exact ME
theorem GW(F:c7)(n:List Int)(a:Option Addr)(m c k:Nat)(hF:kK F)(hk:nn n 0=((k:Nat):Int)):aD Tryz.prog 96 [.ptr 0 0,.p (.str (sB [103,111,111,100])),.ptr 0 5,.p (.int .i64 ((k:Nat):Int))] (ov F.b F.aT (.raw a m c)) (XD F .good n (.raw a m c)) (YN F .good n (.raw a m c)):=by
 have en:=Rx.bM hF.b.cd
 have ja:(2:Nat)^24=16777216:=by decide
 have hpw:=Zq (show 0<2 by omega) en
 have hb0:=hF.b.bad
 have Uv:=hF.b.good
 have hle:=Nat.div_le_self F.b.good (2^k)
 refine aD.start (N:=66) Tryz.func96 rfl rfl Kn ?_
 iterate 8 refine af ?_
 refine Kc (aa.ir rfl rfl rfl rfl ai (ux F.b F.aT a m c ((k:Nat):Int))) ?_
 refine aq.cG 14 (b:=_) (dQ _ 2) (dU _ 2) rfl rfl rfl rfl rfl rfl rfl ai (fun hb=> ?_) (fun hb=> ?_)
 ·have L9:dL F.b F.b.good (nn n 0)=2:=by unfold dL;rw[hk,if_pos (by have h:=Zf hb;omega)]
  exact e8 (e:=2) (by show(bp F .good n).2.2=_;unfold bp;dsimp only;rw[if_pos (by rw[L9];decide),L9]) (by decide) (gv _ _ _)
 have WW:k<F.b.ag.length:=by have h:=Ze hb;omega
 have hp0:=CW (show k<=24 by omega)
 iterate 5 refine af ?_
 refine Kc (Kl (.p (.int .i64 ((F.b.good:Nat):Int)))) ?_
 refine af ?_
 refine Kc (aa.xj F.b.good k rfl rfl rfl (by first | decide | (show _<=(9223372036854775807:Int);omega) | (show _<=(4294967295:Int);omega) | (show _<=(18446744073709551615:Int);omega) | (show _<=(255:Int);omega) | (show _<=(65535:Int);omega))) ?_
 refine Kc (aa.qi (F.b.good / 2^k) 1 rfl rfl rfl (by first | (show _<=(9223372036854775807:Int);omega) | (show _<=(4294967295:Int);omega) | (show _<=(18446744073709551615:Int);omega) | (show _<=(255:Int);omega) | (show _<=(65535:Int);omega)) (by first | decide | (show _<=(9223372036854775807:Int);omega) | (show _<=(4294967295:Int);omega) | (show _<=(18446744073709551615:Int);omega) | (show _<=(255:Int);omega) | (show _<=(65535:Int);omega))) ?_
 refine af ?_
 rw[TC]
 refine aq.cG 22 (b:=(!F.b.good.testBit k)) (dQ (!F.b.good.testBit k) 5) (dU (!F.b.good.testBit k) 5) rfl rfl rfl rfl rfl rfl rfl ai (fun iY=> ?_) (fun iY=> ?_)
 ·have Bd:F.b.good.testBit k=true:=by simpa using iY
  have Ka:dL F.b F.b.good (nn n 0)=5:=by unfold dL;rw[hk,if_neg (by omega),CR,Bd];rfl
  exact e8 (e:=5) (by show(bp F .good n).2.2=_;unfold bp;dsimp only;rw[if_pos (by rw[Ka];decide),Ka]) (by decide) (gv _ _ _)
 have Bd:F.b.good.testBit k=false:=by simpa using iY
 have hce:dL F.b F.b.good (nn n 0)=0:=by unfold dL;rw[hk,if_neg (by omega),CR,Bd];rfl
 have Z5:¬ dL F.b F.b.good (nn n 0)≠0:=fun h=>h hce
 have hN:F.b.good+pow2 (nn n 0)=(F.b.good||| 1*2^k):=by unfold pow2;rw[hk,CR];exact(zf Bd).symm
 have hkp:=Qe (show 1<2 by omega) WW
 have hBN:(F.b.good||| 1*2^k)<16777216:=by rw[zf Bd];have h5:2^k+2^k<=2^F.b.ag.length:=(by have:=Zq (show 0<2 by omega) (show k+1<=F.b.ag.length by omega);rw[P8] at this;omega);have h6:=LO (x:=F.b.good) (y:=2^k) (n:=F.b.ag.length) (by omega) hkp;rw[<- s9 Bd] at h6;omega
 iterate 2 refine af ?_
 refine aC.az 7 mixed (by kernel_rfl) (by decide) ?_
 refine af ?_
 refine Kq (aa.nilCheck rfl rfl) ?_
 refine Kq (Kl (.p (.int .i64 ((F.b.good:Nat):Int)))) ?_
 refine af ?_
 refine Kq (aa.qC 1 k rfl rfl rfl (by show _<=(64:Nat);omega) (by show _<=(9223372036854775807:Int);rw[ZN];omega)) ?_
 refine Kq (aa.Xr F.b.good (1*2^k) rfl rfl rfl (by show _<=(9223372036854775807:Int);omega) (by show _<=(9223372036854775807:Int);rw[ZN];omega) (by show _<=(9223372036854775807:Int);omega)) ?_
 refine Kq (aa.nilCheck rfl rfl) ?_
 refine ay.nil ?_
 refine Kz (aa.store (H':=[cI {F.b with good:=(F.b.good||| 1*2^k)} F.aT (.raw a m c) 1 2 3 4 5,dD F.b.au,dj F.b.ag,dI F.b.ax,bL F.b.plan,bL F.b.bH]) rfl rfl rfl rfl rfl ai rfl rfl) ?_
 iterate 2 refine af ?_
 refine aC.az 24 mixed (by kernel_rfl) (by decide) ?_
 refine af ?_
 refine Kq (aa.nilCheck rfl rfl) ?_
 iterate 3 refine af ?_
 refine Kq (Kl (bg 2 F.b.ag.length)) ?_
 refine af ?_
 refine Kq (aa.nilCheck rfl rfl) ?_
 iterate 3 refine af ?_
 refine Kq (Kl (.p (.int .i64 ((F.b.bad:Nat):Int)))) ?_
 refine af ?_
 refine Kq (aa.nilCheck rfl rfl) ?_
 iterate 3 refine af ?_
 refine Kq (Kl (.p (.int .i64 (((F.b.good||| 1*2^k):Nat):Int)))) ?_
 refine Kq (aa.yH 3 (Rx.qJ F.b.ag ((F.b.bad:Nat):Int) (((F.b.good||| 1*2^k):Nat):Int) (Zz en (by decide))) rfl rfl rfl rfl rfl (Yz (i:=2) (xs:=[.int .i64 ((F.b.bad:Nat):Int),.int .i64 (((F.b.good||| 1*2^k):Nat):Int)]) rfl) ai) ?_
 refine af ?_
 refine Kq (aa.extract rfl rfl rfl) ?_
 refine Kq (aa.extract rfl rfl rfl) ?_
 iterate 2 refine af ?_
 refine ay.nil ?_
 iterate 6 refine af ?_
 refine aq.cG 55 (b:=_) (dQ _ (Rx.hY F.b.ag ((F.b.bad:Nat):Int) (((F.b.good||| 1*2^k):Nat):Int))) (dU _ (Rx.hY F.b.ag ((F.b.bad:Nat):Int) (((F.b.good||| 1*2^k):Nat):Int))) rfl rfl rfl rfl rfl rfl rfl ai (fun WD=> ?_) (fun WD=> ?_)
 ·have VB:(Rx.hY F.b.ag ((F.b.bad:Nat):Int) (((F.b.good||| 1*2^k):Nat):Int))=6:=by simpa using WD
  exact e8 (e:=(Rx.hY F.b.ag ((F.b.bad:Nat):Int) (((F.b.good||| 1*2^k):Nat):Int))) (by rw[VB];show(bp F .good n).2.2=_;unfold bp;dsimp only;rw[if_neg Z5,hN,if_pos VB]) (by rw[VB];decide) (⟨⟨_,rfl,rfl⟩,⟨ZR rfl,by intro j y h1 h2 h3;obtain rfl | rfl | rfl | rfl | rfl:j=1∨j=2∨j=3∨j=4∨j=5:=(by omega);all_goals first | exact .inl (ZB (show some ak.dead=some y from h3)).symm | exact .inr h3⟩⟩)
 have hn6:¬ (Rx.hY F.b.ag ((F.b.bad:Nat):Int) (((F.b.good||| 1*2^k):Nat):Int))=6:=by simpa using WD
 iterate 4 refine af ?_
 refine Kc (aa.aJ rfl rfl mO) ?_
 iterate 2 refine af ?_
 refine Kc (Kl (.p (.int .i64 (((F.b.good||| 1*2^k):Nat):Int)))) ?_
 refine Kc (aa.dP rfl rfl (by rw[y4];rfl) BL (oo ?_)) ?_
 ·omega
 refine Kc (Kp (EP (F.b.good||| 1*2^k) (by omega))) ?_
 refine Kc (aa.aJ rfl rfl lD) ?_
 refine Kc (aa.aF rfl ai (by decide) rfl rfl rfl) ?_
 refine Kc (Kp (dJ [.str (Vb.t .good),.num ((gw (F.b.good||| 1*2^k)).length:Int)] Kn Kn (gq (by decide) (fA (by have:=fj (F.b.good||| 1*2^k);omega) gM)))) ?_
 iterate 3 refine af ?_
 refine jt.one rfl rfl (xy (F2:={F with b:={F.b with good:=(F.b.good||| 1*2^k)}}) (r:=br (Vb.t .good) [((gw (F.b.good||| 1*2^k)).length:Int)]) (by unfold bp;dsimp only;rw[if_neg Z5,hN,if_neg hn6]) (by rw[fW];rfl) ?_)
 exact Tt
theorem VX:VC .good 97:=by
 intro F n a m c hF hl hn
 have en:=Rx.bM hF.b.cd
 have tT:=hF.b.sk
 have sN:=hF.b.dr
 have q0:0<=nn n 0∧nn n 0<10000000000000:=hn _ (Di.aV 0 (show 0<n.length by rw[hl];decide))
 obtain⟨k,hk⟩:=Vo q0.1
 refine aD.start (N:=15) Tryz.func97 rfl rfl Kn ?_
 iterate 5 refine af ?_
 refine aC.az 9 mixed (by kernel_rfl) (by decide) ?_
 iterate 2 refine af ?_
 refine Kq (aa.nilCheck rfl rfl) ?_
 iterate 4 refine af ?_
 refine Kq (aa.aB (g:=Di.gt 0 n) (k:=0) (Di.av _) rfl rfl rfl ai bB rfl (fun _=>rfl) (by decide) (by rw[hl];decide)) ?_
 refine Kq (aa.load (v:= .p (.int .i64 ((k:Nat):Int))) rfl rfl ai (by rw[<- hk];rfl)) ?_
 refine ay.nil ?_
 refine aq.fT 14 (GW F n a m c k hF hk) rfl rfl rfl rfl rfl rfl rfl ai (fun y H2 jJ=> ?_) (fun v H2 jJ=> ?_)
 ·exact⟨_,rfl,jJ⟩
 exact ME
theorem flL(b:bU)(p:Di.bX)(um:V)(x:Di.b7)(y:Int)(i1 i2 i3 i4 i5:Nat):ak.cells ([bg i1 b.au.length,bg i2 b.ag.length,.row i3 (b.ax.length+1),.row i4 (b.plan.length+1),.p (.int .i64 (b.bad:Int)),.p (.int .i64 (b.good:Int)),bg i5 b.bH.length]++p.cells.map .p++[um,.p (.bool true)]) 63=cI {b with ax:=b.ax++[x],plan:=b.plan++[y]} p um i1 i2 i3 i4 i5:=by
 unfold cI dR
 rw[<- me i3 b.ax x,<- me i4 b.plan y]
theorem Mr{H:List ak}{i k:Nat}{l:List Int}(h:H[i]? =some (bL l))(hk:k<l.length):di H false 1 (.ptr i (k*1))=some (.p (.int .i64 (nn l k))):=by
 simp only[di,h]
 cases l with
 | nil=>cases hk
 | cons x l=>
  show(((x::l).flatMap Di.bG).map V.p)[k*1]? =_
  rw[qH,QI,Ig,Zt,Zb hk]
  unfold nn
  rw[Di.av 0 k hk]
  rfl
theorem O7(b:bU)(p:Di.bX)(um:V)(i1 i2 i3 i4 i5:Nat)(H:List ak)(h0:H[0]? =some (cI b p um i1 i2 i3 i4 i5))(h2:H[i2]? =some (dj b.ag))(hi:i2≠0)(x y:Int)(hlt:b.ag.length<24):aE Tryz.prog 92 [.ptr 0 0,.p (.int .i64 x),.p (.int .i64 y)] H (fun v H2=>v= .p (.int .i64 (b.ag.length:Int))∧H2=(H.set i2 .dead++[dj (b.gz ⟨x,y⟩).ag]).set 0 (cI (b.gz ⟨x,y⟩) p um i1 H.length i3 i4 i5)):=
 ((M9 b p um i1 i2 i3 i4 i5 H h0 h2 hi x y).mono (Qr':=fun v H2=>v= .p (.int .i64 (b.ag.length:Int))∧H2=(H.set i2 .dead++[dj (b.gz ⟨x,y⟩).ag]).set 0 (cI (b.gz ⟨x,y⟩) p um i1 H.length i3 i4 i5)) (Qp':=fun _ _=>False) (fun v H2 ⟨_,h1,h2⟩=>⟨h1,h2⟩) (fun y H2 ⟨h1,_⟩=>h1 hlt)).toC (fun _ _ h=>h)
theorem VH:VC .lead 93:=by
 intro F n a m c hF hl hn
 have en:=Rx.bM hF.b.cd
 have tT:=hF.b.sk
 have sN:=hF.b.dr
 have hl8:n.length=8:=hl
 have Z0:=hF.b.ck
 have q0:0<=nn n 0∧nn n 0<10000000000000:=hn _ (Di.aV 0 (show 0<n.length by rw[hl];decide))
 have q1:0<=nn n 1∧nn n 1<10000000000000:=hn _ (Di.aV 0 (show 1<n.length by rw[hl];decide))
 have q2:0<=nn n 2∧nn n 2<10000000000000:=hn _ (Di.aV 0 (show 2<n.length by rw[hl];decide))
 have q3:0<=nn n 3∧nn n 3<10000000000000:=hn _ (Di.aV 0 (show 3<n.length by rw[hl];decide))
 have q4:0<=nn n 4∧nn n 4<10000000000000:=hn _ (Di.aV 0 (show 4<n.length by rw[hl];decide))
 have q5:0<=nn n 5∧nn n 5<10000000000000:=hn _ (Di.aV 0 (show 5<n.length by rw[hl];decide))
 have q6:0<=nn n 6∧nn n 6<10000000000000:=hn _ (Di.aV 0 (show 6<n.length by rw[hl];decide))
 have q7:0<=nn n 7∧nn n 7<10000000000000:=hn _ (Di.aV 0 (show 7<n.length by rw[hl];decide))
 obtain⟨⟨n1,n4⟩,_⟩:=Di.fy hF.p
 obtain⟨u0,NF⟩:=hF.b.EI
 have QG:=ia NF
 refine aD.start (N:=145) Tryz.func93 rfl rfl Kn ?_
 iterate 7 refine af ?_
 refine aq.fT 10 (zX F.b F.aT a m c) rfl rfl rfl rfl rfl rfl rfl ai (fun y H2 jJ=> ?_) (fun v H2 jJ=> ?_)
 ·obtain⟨q1,rfl,rfl⟩:=jJ
  exact e8 (e:=9) (by show(bp F .lead n).2.2=_;unfold bp;dsimp only;rw[if_pos (by omega)]) (by decide) (gv _ _ _)
 obtain⟨hlt,rfl,rfl⟩:=jJ
 have hnr:¬ 24<=F.b.ag.length:=by omega
 iterate 6 refine af ?_
 refine aC.bz 29 1 [6] [([],false),([],false),([],false),([],false),([],false),([],false),([],false),([],false),([],false),([],false),([],false),([],false),([],false),([],false),([],false),([],false),([],false),([],false),([],false),([],false),([],false),([],false),([],false),([],false),([],false),([],false),([],false),([6],true),([6],true)] mixed (by kernel_rfl) (by decide) (by kernel_rfl) rfl (zG _ _ _ _ _) ?_
 refine af ?_
 refine aX.cons 13 rfl rfl rfl (fun _=>(aa.nilCheck rfl rfl)) rfl ?_
 iterate 3 refine af ?_
 refine aX.cons 17 rfl rfl rfl (fun _=>(Kl (bg 1 (F.b.au).length))) (dc Kn) ?_
 iterate 2 refine af ?_
 refine aX.cons 20 rfl rfl rfl (fun _=>(aa.aB (g:=Di.gt 0 n) (k:=0) (Di.av _) rfl rfl rfl ai bB rfl (fun _=>rfl) (by decide) (by rw[hl];decide))) rfl ?_
 refine aX.cons 21 rfl rfl rfl (fun _=>(Kl (.p (.int .i64 (nn n 0))))) rfl ?_
 refine af ?_
 refine aX.cons 23 rfl rfl rfl (fun _=>(aa.aB (g:=Di.gt 0 n) (k:=1) (Di.av _) rfl rfl rfl ai bB rfl (fun _=>rfl) (by decide) (by rw[hl];decide))) rfl ?_
 refine aX.cons 24 rfl rfl rfl (fun _=>(Kl (.p (.int .i64 (nn n 1))))) rfl ?_
 refine aX.cons 25 rfl rfl rfl (fun _=>(aa.fT (E9 (nn n 0) (nn n 1)) rfl rfl rfl rfl (ai))) rfl ?_
 iterate 2 refine af ?_
 refine aX.cons 28 rfl rfl rfl (fun _=>(aa.aB (g:=Di.gt 0 n) (k:=2) (Di.av _) rfl rfl rfl ai bB rfl (fun _=>rfl) (by decide) (by rw[hl];decide))) rfl ?_
 refine aX.cons 29 rfl rfl rfl (fun _=>(Kl (.p (.int .i64 (nn n 2))))) rfl ?_
 refine af ?_
 refine aX.cons 31 rfl rfl rfl (fun _=>(aa.aB (g:=Di.gt 0 n) (k:=3) (Di.av _) rfl rfl rfl ai bB rfl (fun _=>rfl) (by decide) (by rw[hl];decide))) rfl ?_
 refine aX.cons 32 rfl rfl rfl (fun _=>(Kl (.p (.int .i64 (nn n 3))))) rfl ?_
 refine aX.cons 33 rfl rfl rfl (fun _=>(aa.fT (E9 (nn n 2) (nn n 3)) rfl rfl rfl rfl (ai))) rfl ?_
 refine aX.cons 34 rfl rfl rfl (fun _=>(aa.aF rfl ai (by decide) rfl rfl rfl)) rfl ?_
 refine aX.cons 35 rfl rfl rfl (fun _=>(aa.yH 3 (Fx F.b.au [bf (nn n 0) (nn n 1),bf (nn n 2) (nn n 3)] (Zz tT (by decide)) Kn) rfl rfl rfl rfl rfl (hbS (i:=1) (xs:=[Ck.kY [bf (nn n 0) (nn n 1),bf (nn n 2) (nn n 3)]]) rfl) ai)) rfl ?_
 refine af ?_
 refine aX.cons 36 rfl rfl rfl (fun _=>(aa.extract rfl rfl rfl)) rfl ?_
 refine aX.cons 37 rfl rfl rfl (fun _=>(aa.extract rfl rfl rfl)) rfl ?_
 refine aX.lay (v0:= .ptr 7 0) 6 6 rfl rfl rfl rfl rfl rfl rfl rfl (fun _=>(aa.aI rfl ai rfl)) rfl rfl rfl ?_
 refine aX.put (blk:= .cells [.p (.int .i64 (shr F.b.au [bf (nn n 0) (nn n 1),bf (nn n 2) (nn n 3)]).1.1),.p (.int .i64 (shr F.b.au [bf (nn n 0) (nn n 1),bf (nn n 2) (nn n 3)]).1.2)] 24) 6 rfl rfl rfl rfl (fun _=>(aa.store rfl rfl rfl rfl rfl ai rfl rfl)) rfl rfl ?_
 refine aX.nil ?_
 iterate 5 refine af ?_
 refine aq.cG 39 (b:=(decide ((shr F.b.au [bf (nn n 0) (nn n 1),bf (nn n 2) (nn n 3)]).2=0))) (kR (shr F.b.au [bf (nn n 0) (nn n 1),bf (nn n 2) (nn n 3)]).2) (oK (shr F.b.au [bf (nn n 0) (nn n 1),bf (nn n 2) (nn n 3)]).2) rfl rfl rfl rfl rfl rfl rfl ai (fun he=> ?_) (fun he=> ?_)
 ·have hne:(shr F.b.au [bf (nn n 0) (nn n 1),bf (nn n 2) (nn n 3)]).2≠0:=Zf he
  exact e8 (e:=(shr F.b.au [bf (nn n 0) (nn n 1),bf (nn n 2) (nn n 3)]).2) (by show(bp F .lead n).2.2=_;unfold bp;dsimp only;rw[if_neg hnr,if_pos hne]) hne (⟨⟨_,rfl,rfl⟩,⟨ZR rfl,by intro j y h1 h2 h3;obtain rfl | rfl | rfl | rfl | rfl:j=1∨j=2∨j=3∨j=4∨j=5:=(by omega);all_goals first | exact .inl (ZB (show some ak.dead=some y from h3)).symm | exact .inr h3⟩⟩)
 have wW:(shr F.b.au [bf (nn n 0) (nn n 1),bf (nn n 2) (nn n 3)]).2=0:=Ze he
 have hz:¬ (shr F.b.au [bf (nn n 0) (nn n 1),bf (nn n 2) (nn n 3)]).2≠0:=fun h=>h wW
 obtain⟨⟨i1,i2⟩,i3,i4⟩:=DP wW
 obtain⟨⟨b1,b2⟩,b3,b4⟩:=Ku F.b.au [bf (nn n 0) (nn n 1),bf (nn n 2) (nn n 3)]
 have Xe:0<=nn F.b.bH (nn n 0).toNat∧nn F.b.bH (nn n 0).toNat<(F.b.ag.length:Int):=hF.b.Nq _ (Di.aV 0 (show(nn n 0).toNat<F.b.bH.length by omega))
 have XC:0<=nn F.b.bH (nn n 2).toNat∧nn F.b.bH (nn n 2).toNat<(F.b.ag.length:Int):=hF.b.Nq _ (Di.aV 0 (show(nn n 2).toNat<F.b.bH.length by omega))
 obtain⟨k0,e0⟩:=Vo Xe.1
 obtain⟨k1,e1⟩:=Vo XC.1
 have hp0:=CW (show k0<=24 by omega)
 have hp1:=CW (show k1<=24 by omega)
 iterate 8 refine af ?_
 refine Kc (Kl (bg 3 F.b.ax.length)) ?_
 refine Kc (aa.bJ rfl rfl ai qX) ?_
 refine af ?_
 refine aq.cG 48 (b:=_) (dQ _ 9) (dU _ 9) rfl rfl rfl rfl rfl rfl rfl ai (fun hb=> ?_) (fun hb=> ?_)
 ·exact e8 (e:=9) (by show(bp F .lead n).2.2=_;unfold bp;dsimp only;rw[if_neg hnr,if_neg hz,if_pos (by have h:=Zf hb;omega)]) (by decide) (⟨⟨_,rfl,rfl⟩,⟨ZR rfl,by intro j y h1 h2 h3;obtain rfl | rfl | rfl | rfl | rfl:j=1∨j=2∨j=3∨j=4∨j=5:=(by omega);all_goals first | exact .inl (ZB (show some ak.dead=some y from h3)).symm | exact .inr h3⟩⟩)
 have UC:¬ 8<=F.b.ax.length:=by have h:=Ze hb;omega
 iterate 2 refine af ?_
 refine aC.uG (H':=[cI F.b F.aT (.raw a m c) 1 2 3 4 5,dD F.b.au,dj F.b.ag,dI F.b.ax,bL F.b.plan,bL F.b.bH,.cells [.p (.int .i64 (shr F.b.au [bf (nn n 0) (nn n 1),bf (nn n 2) (nn n 3)]).1.1),.p (.int .i64 (shr F.b.au [bf (nn n 0) (nn n 1),bf (nn n 2) (nn n 3)]).1.2)] 24]) rfl ?_
 refine aC.bz 33 2 [0,3,4,7,8] [([],false),([],false),([],false),([],false),([],false),([],false),([],false),([0],false),([],false),([],false),([],false),([],false),([],false),([],false),([],false),([],false),([7,3],true),([],false),([],false),([],false),([],false),([],false),([0],false),([],false),([],false),([],false),([],false),([8,4],true),([],false),([],false),([],false),([],false),([0,7],true)] mixed (by kernel_rfl) (by decide) (by kernel_rfl) rfl (by simp[cI,ov,cj,bY,cD,eZ,iP,fX,bS,dc,dD,dj,dI,bL,dR,Di.bX.cells]) ?_
 iterate 3 refine af ?_
 refine aX.cons 52 rfl rfl rfl (fun _=>(aa.nilCheck rfl rfl)) rfl ?_
 iterate 3 refine af ?_
 refine aX.cons 56 rfl rfl rfl (fun _=>(Kl (bg 3 (F.b.ax).length))) (dc Kn) ?_
 refine af ?_
 refine aX.cons 58 rfl rfl rfl (fun _=>(aa.aB (g:=Di.gt 0 n) (k:=5) (Di.av _) rfl rfl rfl ai bB rfl (fun _=>rfl) (by decide) (by rw[hl];decide))) rfl ?_
 refine aX.cons 59 rfl rfl rfl (fun _=>(Kl (.p (.int .i64 (nn n 5))))) rfl ?_
 refine af ?_
 refine aX.cons 61 rfl rfl rfl (fun _=>(aa.kS (l:=6) (h:=n.length) (r:=((n.drop 6).take (n.length - 6)).flatMap Di.bG) rfl rfl ai bB ⟨_,rfl⟩ rfl (by omega) (by omega) (rj n 6 (n.length - 6)))) rfl ?_
 refine aX.cons 62 rfl rfl rfl (fun _=>(Kp (uE n 6 (n.length - 6) (by omega) (by omega)))) rfl ?_
 refine aX.cons 63 rfl rfl rfl (fun _=>(aa.zp (v:= .p (.agg (⟨nn n 5,nn n 6,nn n 7⟩:Di.b7).cells)) rfl ai rfl rfl rfl)) rfl ?_
 refine aX.cons 64 rfl rfl rfl (fun _=>(aa.aF rfl ai (by decide) rfl rfl rfl)) rfl ?_
 refine aX.xD (blk:= .row (((F.b.ax).flatMap Di.b7.cells).map .p++((⟨nn n 5,nn n 6,nn n 7⟩:Di.b7).cells).map .p) 81) (v0:= .row 9 _) 65 7 3 rfl rfl rfl rfl rfl rfl rfl rfl rfl rfl (fun _=>(aa.qN (i:=3) (len:=(F.b.ax).length) (cs:=((F.b.ax).flatMap Di.b7.cells).map .p) (ys:=((⟨nn n 5,nn n 6,nn n 7⟩:Di.b7).cells).map .p) (n:=1) rfl rfl rfl ai ai rfl (by rw[Zr,AF.bD (c:=3) (fun _=>rfl)];rfl) rfl (by decide) rfl ai (by decide) (by show(2*(_+1)+192)*24<=281474976710656;omega))) rfl rfl (by show ak.row (bE _ (_++_)) _=_;rw[bI,aP,aP]) ?_
 refine af ?_
 refine aX.cons 67 rfl rfl rfl (fun _=>(aa.nilCheck rfl rfl)) rfl ?_
 iterate 3 refine af ?_
 refine aX.cons 71 rfl rfl rfl (fun _=>(Kl (bg 4 (F.b.plan).length))) (dc Kn) ?_
 refine af ?_
 refine aX.cons 73 rfl rfl rfl (fun _=>(aa.aB (g:=Di.gt 0 n) (k:=4) (Di.av _) rfl rfl rfl ai bB rfl (fun _=>rfl) (by decide) (by rw[hl];decide))) rfl ?_
 refine aX.cons 74 rfl rfl rfl (fun _=>(Kl (.p (.int .i64 (nn n 4))))) rfl ?_
 refine aX.cons 75 rfl rfl rfl (fun _=>(aa.aF rfl ai (by decide) rfl rfl rfl)) rfl ?_
 refine aX.xD (blk:= .row (((F.b.plan).flatMap Di.bG).map .p++(Di.bG (nn n 4)).map .p) 3) (v0:= .row 9 _) 76 8 4 rfl rfl rfl rfl rfl rfl rfl rfl rfl rfl (fun _=>(aa.qN (i:=4) (len:=(F.b.plan).length) (cs:=((F.b.plan).flatMap Di.bG).map .p) (ys:=(Di.bG (nn n 4)).map .p) (n:=1) rfl rfl rfl ai ai rfl (by rw[Zr,AF.bD (c:=1) (fun _=>rfl)];rfl) rfl (by decide) rfl ai (by decide) (by show(2*(_+1)+192)*8<=281474976710656;omega))) rfl rfl (by show ak.row (bE _ (_++_)) _=_;rw[bI,aP,aP]) ?_
 refine aX.cons 77 rfl rfl rfl (fun _=>(aa.nilCheck rfl rfl)) rfl ?_
 iterate 3 refine af ?_
 refine aX.put (blk:= .cells ([bg 1 F.b.au.length,bg 2 F.b.ag.length,.row 7 (F.b.ax.length+1),bg 4 F.b.plan.length,.p (.int .i64 (F.b.bad:Int)),.p (.int .i64 (F.b.good:Int)),bg 5 F.b.bH.length]++F.aT.cells.map .p++[.raw a m c,.p (.bool true)]) 63) 0 rfl rfl rfl rfl (fun _=>(aa.store rfl rfl rfl rfl rfl ai rfl rfl)) rfl (by simp[cj,bY,cD,eZ,iP,dc,Di.bX.cells,aZ,sg,wJ]) ?_
 refine aX.nil ?_
 iterate 7 refine af ?_
 refine aC.uG (H':=[cI {F.b with ax:=F.b.ax++[(⟨nn n 5,nn n 6,nn n 7⟩:Di.b7)],plan:=F.b.plan++[nn n 4]} F.aT (.raw a m c) 1 2 7 8 5,dD F.b.au,dj F.b.ag,.dead,.dead,bL F.b.bH,.cells [.p (.int .i64 (shr F.b.au [bf (nn n 0) (nn n 1),bf (nn n 2) (nn n 3)]).1.1),.p (.int .i64 (shr F.b.au [bf (nn n 0) (nn n 1),bf (nn n 2) (nn n 3)]).1.2)] 24,dI (F.b.ax++[(⟨nn n 5,nn n 6,nn n 7⟩:Di.b7)]),bL (F.b.plan++[nn n 4])]) (by rw[<- flL F.b F.aT _ _ _ 1 2 7 8 5,<- MS,<- BC];rfl) ?_
 refine aC.az 22 mixed (by kernel_rfl) (by decide) ?_
 refine af ?_
 refine Kq (aa.nilCheck rfl rfl) ?_
 refine af ?_
 refine Kq (Kl (.p (Di.ew F.aT))) ?_
 refine af ?_
 refine Kq (aa.nilCheck rfl rfl) ?_
 iterate 3 refine af ?_
 refine Kq (Kl (bg 7 (F.b.ax++[(⟨nn n 5,nn n 6,nn n 7⟩:Di.b7)]).length)) ?_
 refine af ?_
 refine Kq (aa.nilCheck rfl rfl) ?_
 iterate 3 refine af ?_
 refine Kq (Kl (bg 8 (F.b.plan++[nn n 4]).length)) ?_
 refine Kq (aa.T9 3 (Di.tv F.aT (F.b.ax++[(⟨nn n 5,nn n 6,nn n 7⟩:Di.b7)]) (F.b.plan++[nn n 4]) (Zz n4 (by decide)) (Zz (show(F.b.ax++[(⟨nn n 5,nn n 6,nn n 7⟩:Di.b7)]).length<=9 by simp;omega) (by decide)) (Zz (show(F.b.plan++[nn n 4]).length<=9 by simp;omega) (by decide))) rfl rfl rfl rfl (aaW (i:=7) (j:=8) rfl rfl) ai) ?_
 refine af ?_
 refine Kq (aa.extract rfl rfl rfl) ?_
 refine Kq (aa.extract rfl rfl rfl) ?_
 refine Kq (aa.extract rfl rfl rfl) ?_
 refine af ?_
 refine ay.nil ?_
 iterate 4 refine af ?_
 refine aq.cG 107 (b:=(decide ((Di.gf F.aT (F.b.ax++[(⟨nn n 5,nn n 6,nn n 7⟩:Di.b7)]) (F.b.plan++[nn n 4])).2.2=0))) (kR (Di.gf F.aT (F.b.ax++[(⟨nn n 5,nn n 6,nn n 7⟩:Di.b7)]) (F.b.plan++[nn n 4])).2.2) (oK (Di.gf F.aT (F.b.ax++[(⟨nn n 5,nn n 6,nn n 7⟩:Di.b7)]) (F.b.plan++[nn n 4])).2.2) rfl rfl rfl rfl rfl rfl rfl ai (fun P2=> ?_) (fun P2=> ?_)
 ·have hne:(Di.gf F.aT (F.b.ax++[(⟨nn n 5,nn n 6,nn n 7⟩:Di.b7)]) (F.b.plan++[nn n 4])).2.2≠0:=Zf P2
  exact e8 (e:=(Di.gf F.aT (F.b.ax++[(⟨nn n 5,nn n 6,nn n 7⟩:Di.b7)]) (F.b.plan++[nn n 4])).2.2) (by show(bp F .lead n).2.2=_;unfold bp;dsimp only;rw[if_neg hnr,if_neg hz,if_neg UC,if_pos hne]) hne (⟨⟨_,rfl,rfl⟩,⟨ZR rfl,by intro j y h1 h2 h3;obtain rfl | rfl | rfl | rfl | rfl:j=1∨j=2∨j=3∨j=4∨j=5:=(by omega);all_goals first | exact .inl (ZB (show some ak.dead=some y from h3)).symm | exact .inr h3⟩⟩)
 have hy:¬ (Di.gf F.aT (F.b.ax++[(⟨nn n 5,nn n 6,nn n 7⟩:Di.b7)]) (F.b.plan++[nn n 4])).2.2≠0:=fun h=>h (Ze P2)
 iterate 2 refine af ?_
 refine aC.az 24 mixed (by kernel_rfl) (by decide) ?_
 iterate 2 refine af ?_
 refine Kq (aa.nilCheck rfl rfl) ?_
 iterate 2 refine af ?_
 refine Kq (Kl (bg 5 F.b.bH.length)) ?_
 refine af ?_
 refine Kq (aa.aB (g:=Di.gt 0 n) (k:=0) (Di.av _) rfl rfl rfl ai bB rfl (fun _=>rfl) (by decide) (by rw[hl];decide)) ?_
 refine Kq (Kl (.p (.int .i64 (nn n 0)))) ?_
 refine Kq (aa.Es rfl rfl rfl ai bB q0.1 (by omega)) ?_
 refine Kq (aa.load (v:= .p (.int .i64 ((k0:Nat):Int))) rfl rfl ai (by rw[<- e0];exact Mr rfl (by omega))) ?_
 refine Kq (aa.qC 1 k0 rfl rfl rfl (by show _<=(64:Nat);omega) (by show _<=(9223372036854775807:Int);rw[ZN];omega)) ?_
 refine af ?_
 refine Kq (aa.nilCheck rfl rfl) ?_
 iterate 2 refine af ?_
 refine Kq (Kl (bg 5 F.b.bH.length)) ?_
 refine af ?_
 refine Kq (aa.aB (g:=Di.gt 0 n) (k:=2) (Di.av _) rfl rfl rfl ai bB rfl (fun _=>rfl) (by decide) (by rw[hl];decide)) ?_
 refine Kq (Kl (.p (.int .i64 (nn n 2)))) ?_
 refine Kq (aa.Es rfl rfl rfl ai bB q2.1 (by omega)) ?_
 refine Kq (aa.load (v:= .p (.int .i64 ((k1:Nat):Int))) rfl rfl ai (by rw[<- e1];exact Mr rfl (by omega))) ?_
 refine Kq (aa.qC 1 k1 rfl rfl rfl (by show _<=(64:Nat);omega) (by show _<=(9223372036854775807:Int);rw[ZN];omega)) ?_
 refine Kq (aa.Xr (1*2^k0) (1*2^k1) rfl rfl rfl (by show _<=(9223372036854775807:Int);rw[ZN];omega) (by show _<=(9223372036854775807:Int);rw[ZN];omega) (by have ho:=LO (n:=62) (x:=1*2^k0) (y:=1*2^k1) (by omega) (by omega);show _<=(9223372036854775807:Int);omega)) ?_
 refine ay.nil ?_
 refine Kc (aa.ir rfl rfl rfl rfl ai (O7 {F.b with ax:=F.b.ax++[(⟨nn n 5,nn n 6,nn n 7⟩:Di.b7)],plan:=F.b.plan++[nn n 4]} F.aT (.raw a m c) 1 2 7 8 5 _ rfl rfl (by decide) ((1*2^k0||| 1*2^k1:Nat):Int) 0 hlt)) ?_
 iterate 4 refine af ?_
 refine Kc (aa.aJ rfl rfl mO) ?_
 refine af ?_
 refine Kc (aa.aJ rfl rfl lD) ?_
 refine Kc (aa.aJ rfl rfl mO) ?_
 refine af ?_
 refine Kc (Kl (.p (.int .i64 (shr F.b.au [bf (nn n 0) (nn n 1),bf (nn n 2) (nn n 3)]).1.1))) ?_
 refine Kc (aa.aJ rfl rfl lD) ?_
 refine af ?_
 refine Kc (Kl (.p (.int .i64 (shr F.b.au [bf (nn n 0) (nn n 1),bf (nn n 2) (nn n 3)]).1.2))) ?_
 refine Kc (aa.aJ rfl rfl lD) ?_
 refine Kc (aa.aF rfl ai (by decide) rfl rfl rfl) ?_
 refine Kc (Kp (dJ [.str ic,.num (F.b.ag.length:Int),.str vh,.num (shr F.b.au [bf (nn n 0) (nn n 1),bf (nn n 2) (nn n 3)]).1.1,.num (shr F.b.au [bf (nn n 0) (nn n 1),bf (nn n 2) (nn n 3)]).1.2] Kn Kn (gq (by decide) (fA (by omega) (gq (by decide) (fA ⟨b1,b2⟩ (fA ⟨b3,b4⟩ gM))))))) ?_
 iterate 3 refine af ?_
 refine jt.one rfl rfl (xy (F2:={F with b:={F.b.gz ⟨((1*2^k0||| 1*2^k1:Nat):Int),0⟩ with ax:=(F.b.ax++[(⟨nn n 5,nn n 6,nn n 7⟩:Di.b7)]),plan:=(F.b.plan++[nn n 4])}}) (r:=br ic [(F.b.ag.length:Int)]++32::br vh [(shr F.b.au [bf (nn n 0) (nn n 1),bf (nn n 2) (nn n 3)]).1.1,(shr F.b.au [bf (nn n 0) (nn n 1),bf (nn n 2) (nn n 3)]).1.2]) (by unfold bp;dsimp only;rw[if_neg hnr,if_neg hz,if_neg UC,if_neg hy,Ex e0 e1]) (by simp[dA,br,j7,jD.w]) ?_)
 exact⟨⟨1,9,7,8,5,by decide,rfl,rfl,rfl,rfl,rfl,rfl⟩,⟨ZR rfl,by intro j y h1 h2 h3;obtain rfl | rfl | rfl | rfl | rfl:j=1∨j=2∨j=3∨j=4∨j=5:=(by omega);all_goals first | exact .inl (ZB (show some ak.dead=some y from h3)).symm | exact .inr h3⟩⟩
theorem Dv{l:List Int}{q j:Nat}{x:Int}(hq:q<l.length):Di.gt 0 (l.set q x) j=if q=j then x else Di.gt 0 l j:=by
 unfold Di.gt
 rw[Zh,Zh,Zu]
 by_cases h:q=j
 ·rw[if_pos h,if_pos h,if_pos hq];rfl
 ·rw[if_neg h,if_neg h]
theorem oM{l:List Di.b7}{i:Nat}{w:Di.b7}{r:List Di.b7}(h:w::r=l.drop i):Di.gt Di.b7.d l i=w∧r=l.drop (i+1):=by
 have h1:(l.drop i)[0]? =some w:=by rw[<- h];rfl
 rw[Rd,Il] at h1
 refine⟨?_,?_⟩
 ·unfold Di.gt
  rw[Zh,h1];rfl
 ·rw[show l.drop (i+1)=(l.drop i).drop 1 by rw[RR],<- h];rfl
theorem Ht{p:Di.bX}{b:bU}:∀(l:List Di.b7) (i:Nat) (u v:List Int) (n:Int),l=b.ax.drop i->i<=b.plan.length->u.length=p.dies.length->(∀ j,j<u.length->Di.gt 0 u j=kj b (j:Int) i)->Di.gB p b.plan i u l=(some v,n,0)->
    v.length=p.dies.length∧∀ j,j<v.length->Di.gt 0 v j=cH b (j:Int):=by
 intro l
 induction l with
 | nil=>
  intro i u v n hl hi hu hj h
  unfold Di.gB at h
  split at h
  ·cases h
  ·rename_i h2
   cases h
   have e:i=b.plan.length:=by omega
   subst e
   exact⟨hu,hj⟩
 | cons w l ih=>
  intro i u v n hl hi hu hj h
  unfold Di.gB at h
  split at h
  ·cases h
  ·rename_i h2
   split at h
   ·cases h
   ·rename_i h3
    split at h
    ·cases h
    ·rename_i h4
     obtain⟨g1,g2⟩:=oM hl
     obtain⟨k1,k2⟩:=Di.eX (by simpa using h3)
     have hq:(Di.gt 0 b.plan i).toNat<u.length:=by omega
     refine ih (i+1) _ v n g2 (by omega) (by rw[yl];exact hu) (fun j hjl=> ?_) h
     rw[yl] at hjl
     rw[Dv hq,kj,g1]
     by_cases e:(Di.gt 0 b.plan i).toNat=j
     ·rw[if_pos e,if_pos (by omega),e,hj j hjl]
     ·rw[if_neg e,if_neg (by omega),Int.add_zero,hj j hjl]
theorem Jy{p:Di.bX}{b:bU}{u:List Int}{n:Int}(h:Di.gf p b.ax b.plan=(some u,n,0)):u.length=p.dies.length∧∀ j,j<u.length->Di.gt 0 u j=cH b (j:Int):=by
 obtain⟨h1,h2⟩:=qM h
 rw[Di.iy h1 h2] at h
 refine Ht b.ax 0 (List.replicate p.dies.length 0) u n rfl (Zn _) (by rw[ZbL]) (fun j hj=> ?_) h
 rw[ZbL] at hj
 unfold Di.gt
 rw[Zh,List.getElem?_replicate,if_pos hj]
 rfl
namespace Di
theorem Dg(p:bX)(l:List b7)(plan:List Int)(hp:p.dies.length<=bK)(hl:l.length<=bK)(hn:plan.length<=bK)(w:List Int)(hf:gf p l plan=(some w,(l.length:Int),0)):aE Tryz.prog 21 ([ew p,dn l,aQ plan].map .p) [] fun v H2=>v= .tuple [.row 0 p.dies.length,.p (.int .i64 (l.length:Int)),.p (.int .i64 0)]∧H2=[.row ((w.flatMap bG).map .p) 3]:=by
 have D4:=hp
 have ug:=hl
 have hn2:=hn
 unfold bK at D4 ug hn2
 refine aE.start (N:=93) Tryz.func21 rfl rfl Kn ?_
 iterate 12 refine af ?_
 refine Kc (Kp (pR p hp)) ?_
 iterate 3 refine af ?_
 refine Ki (fun hc0=> ?_) fun hc0=> ?_
 ·have hv:dY p=false:=by simpa using hc0
  iterate 7 refine af ?_
  rw[De hv] at hf
  cases hf
 ·have hv:dY p=true:=by simpa using hc0
  obtain⟨⟨n1,n4⟩,_,hsh,CO⟩:=fy hv
  iterate 3 refine af ?_
  refine Kc (Kp (tL l hl)) ?_
  iterate 3 refine af ?_
  refine Ki (fun bw=> ?_) fun bw=> ?_
  ·have hd:jN l=false:=by simpa using bw
   iterate 7 refine af ?_
   rw[Mi hv hd] at hf
   cases hf
  ·have hd:jN l=true:=by simpa using bw
   obtain⟨hl8,NU⟩:=iz hd
   iterate 6 refine af ?_
   refine Kc (aa.makeSlice (n:=p.dies.length) (c:=p.dies.length) rfl rfl rfl ai ai (by decide) (Zg _) (by show 8*p.dies.length<=281474976710656;omega)) ?_
   iterate 4 refine af ?_
   rw[Ae]
   refine aC.norm [0] [(1,_),(2,_),(3,_),(6,.row 0 p.dies.length)] [.row (((List.replicate p.dies.length 0).flatMap bG).map .p) 3] rfl KS (by show[ak.row (bE _ (List.map V.p _)) _]=_;rw[aP]) ?_
   iterate 6 refine af ?_
   refine aC.dw [1,2,3,24,25,83,84,85,86,87,88,89,90,91,92] (fun g=>[(26,.p (.int .i64 ((g.1:Nat):Int))),(6,.row 0 p.dies.length)]) (fun g=>[.row ((g.2.flatMap bG).map .p) 3]) (fun g=>g.1<=l.length∧xJ p g.2 (1000*(g.1:Int))∧gB p plan 0 (List.replicate p.dies.length 0) l=gB p plan g.1 g.2 (l.drop g.1)) (fun g=>l.length - g.1) (0,List.replicate p.dies.length 0) ⟨Zn _,JC p,rfl⟩ (To.sub (Sub.tO (Sub.cons rfl (Sub.cons rfl (Sub.nil))))) (fun g hg=> ?_)
   obtain⟨i,u⟩:=g
   obtain⟨pQ,jM,Ct⟩:=hg
   dsimp only at pQ jM Ct ⊢
   have hul:=jM.1
   iterate 5 refine af ?_
   refine Ki (fun eG=> ?_) fun eG=> ?_
   ·have hk0:i<l.length:=by have h:(i:Int)<(l.length:Int):=Ze eG;omega
    have hW:=jU (NU _ (aV b7.d hk0))
    iterate 6 refine af ?_
    refine Kc (aa.aB (g:=gt b7.d l) (av _) rfl rfl rfl ai xg rfl (fun _=>rfl) (by decide) hk0) ?_
    refine Kc (Kl (.p (.agg (gt b7.d l i).cells))) ?_
    iterate 2 refine af ?_
    refine Kz (aa.store (H':=[.row ((u.flatMap bG).map .p) 3,.cells ((gt b7.d l i).cells.map .p) 81]) rfl rfl rfl rfl rfl ai rfl rfl) ?_
    iterate 11 refine af ?_
    refine Ki (fun gQ=> ?_) fun gQ=> ?_
    ·have hpl:(plan.length:Int)<=(i:Int):=Ze gQ
     iterate 8 refine af ?_
     rw[iy hv hd,Ct,TM hk0 hpl] at hf
     cases hf
    ·have hpl:¬ (plan.length:Int)<=(i:Int):=Zf gQ
     have Hv:i<plan.length:=by omega
     refine af ?_
     refine aC.az 11 mixed (by kernel_rfl) (by decide) ?_
     iterate 2 refine af ?_
     refine Kq (aa.aB (g:=gt 0 plan) (av _) rfl rfl rfl ai bB rfl (fun _=>rfl) (by decide) Hv) ?_
     refine Kq (Kl (.p (.int .i64 (gt 0 plan i)))) ?_
     iterate 2 refine af ?_
     refine Kq (aa.bJ rfl rfl ai rfl) ?_
     refine Kq (aa.ec rfl rfl rfl (aA ?_)) ?_
     ·omega
     refine Kq (Kp (cW _ _ _)) ?_
     refine Kq (aa.fI rfl rfl) ?_
     refine af ?_
     refine ay.nil ?_
     refine af ?_
     refine Ki (fun o3=> ?_) fun o3=> ?_
     ·have hin:gO (gt 0 plan i) 0 ((p.dies.length:Int) - 1)=false:=by simpa using o3
      iterate 8 refine af ?_
      rw[iy hv hd,Ct,TY hk0 hpl hin] at hf
      cases hf
     ·have hin:gO (gt 0 plan i) 0 ((p.dies.length:Int) - 1)=true:=by simpa using o3
      obtain⟨NR,hq1⟩:=eX hin
      have hq:(gt 0 plan i).toNat<p.dies.length:=by omega
      have xl:(gt 0 plan i).toNat<u.length:=by omega
      have hud:=jM.2 _ xl
      have He:=CO _ (aV cJ.d hq)
      iterate 6 refine af ?_
      refine Kc (aa.aB (g:=gt 0 plan) (av _) rfl rfl rfl ai bB rfl (fun _=>rfl) (by decide) Hv) ?_
      refine Kc (Kl (.p (.int .i64 (gt 0 plan i)))) ?_
      refine Kc (aa.iF rfl rfl rfl ai bB NR (by omega)) ?_
      iterate 4 refine af ?_
      refine aC.az 19 mixed (by kernel_rfl) (by decide) ?_
      iterate 3 refine af ?_
      refine Kq (aa.aB (g:=gt 0 plan) (av _) rfl rfl rfl ai bB rfl (fun _=>rfl) (by decide) Hv) ?_
      refine Kq (Kl (.p (.int .i64 (gt 0 plan i)))) ?_
      refine Kq (Kp (sZ p (gt 0 plan i) hq NR)) ?_
      refine af ?_
      refine Kq (aa.nilCheck rfl rfl) ?_
      refine Kq (aa.iN (f:=bG) (c:=1) (k:=(gt 0 plan i).toNat) (j:=0) (xs:=u) rfl rfl ai rfl rfl (by omega) (fun _=>rfl) xl (by decide) (show _=PV.int .i64 (gt 0 u (gt 0 plan i).toNat) from by rw[av 0 _ xl];rfl)) ?_
      refine af ?_
      refine Kq (aa.nilCheck rfl rfl) ?_
      refine Kq (aa.iN (f:=bG) (c:=1) (k:=(gt 0 plan i).toNat) (j:=0) (xs:=u) rfl rfl ai rfl rfl (by omega) (fun _=>rfl) xl (by decide) (show _=PV.int .i64 (gt 0 u (gt 0 plan i).toNat) from by rw[av 0 _ xl];rfl)) ?_
      iterate 2 refine af ?_
      refine Kq (aa.add (m:=(gt 0 u (gt 0 plan i).toNat+(gt b7.d l i).len)) rfl rfl rfl ((aA ?_).trans ?_)) ?_
      ·omega
      ·rfl
      iterate 2 refine af ?_
      refine Kq (Kp (Eo p (gt cJ.d p.dies (gt 0 plan i).toNat) (gt 0 u (gt 0 plan i).toNat) ((gt 0 u (gt 0 plan i).toNat)+(gt b7.d l i).len) (gt b7.d l i) hsh He (by omega) (by omega) (NU _ (aV b7.d hk0)))) ?_
      refine Kq (aa.fI rfl rfl) ?_
      refine ay.nil ?_
      refine af ?_
      refine Ki (fun tN=> ?_) fun tN=> ?_
      ·have Jb:tX p (gt cJ.d p.dies (gt 0 plan i).toNat) (gt 0 u (gt 0 plan i).toNat) (gt b7.d l i)=false:=by first | simpa only[HX] using tN | (unfold tX;simpa only[HX] using tN)
       iterate 8 refine af ?_
       rw[iy hv hd,Ct,Mz hk0 hpl hin Jb] at hf
       cases hf
      ·exact aaY
   ·have hi2:i=l.length:=by have h:¬ ((i:Int)<(l.length:Int)):=Zf eG;omega
    subst hi2
    refine aC.exit ?_
    iterate 9 refine af ?_
    refine Ki (fun A6=> ?_) fun A6=> ?_
    ·have hlt:(l.length:Int)<(plan.length:Int):=Ze A6
     iterate 9 refine af ?_
     rw[iy hv hd,Ct,AD hlt] at hf
     cases hf
    ·have hlt:¬ (l.length:Int)<(plan.length:Int):=Zf A6
     iterate 11 refine af ?_
     rw[iy hv hd,Ct,Jl hlt] at hf
     obtain rfl:u=w:=by simpa using hf
     exact⟨.inr rfl,_,fE.many (vs:=[.row 0 p.dies.length,.p (.int .i64 (l.length:Int)),.p (.int .i64 0)]) rfl ⟨_,_,rfl,rfl,⟨_,_,rfl,rfl,⟨_,_,rfl,rfl,rfl⟩⟩⟩,rfl,rfl⟩
end Di
theorem HD{σ:Nat->Option Nat}{xs:List PV}{e:TypeId}:aM σ (.row (xs.map .p) e)= .row (xs.map .p) e:=by show ak.row (bE σ _) e=_;rw[aP]
theorem Lq{H:List ak}{i k:Nat}{l:List Int}{e:TypeId}(h:H[i]? =some (.row ((l.flatMap Di.bG).map .p) e))(hk:k<l.length):di H false 1 (.ptr i (k*1))=some (.p (.int .i64 (Di.gt 0 l k))):=by
 simp only[di,h]
 show((l.flatMap Di.bG).map V.p)[k*1]? =_
 rw[qH,QI,Ig,Zt,Zb hk,Di.av 0 k hk]
 rfl
theorem Io(F:c7)(n:List Int)(a:Option Addr)(m c:Nat)(hF:kK F)(q0:0<=nn n 0∧nn n 0<10000000000000):aD Tryz.prog 104 [.ptr 0 0,.p (.int .i64 (nn n 0))] (ov F.b F.aT (.raw a m c)) (XD F .wear n (.raw a m c)) (YN F .wear n (.raw a m c)):=by
 have en:=Rx.bM hF.b.cd
 have sN:=hF.b.dr
 obtain⟨⟨n1,n4⟩,_⟩:=Di.fy hF.p
 obtain⟨u0,NF⟩:=hF.b.EI
 have QG:=ia NF
 obtain⟨hul,hug⟩:=Jy NF
 have NU:=(Di.iz (qM NF).2).2
 have hub:0<=cH F.b (nn n 0)∧cH F.b (nn n 0)<=1000*(F.b.plan.length:Int):=sD NU QG _ (Zg _)
 refine aD.start (N:=70) Tryz.func104 rfl rfl Kn ?_
 iterate 11 refine af ?_
 refine Kc (Kl (.p (.is (F.aT.dies.flatMap Di.cJ.cells) F.aT.dies.length))) ?_
 iterate 2 refine af ?_
 refine aq.cG 17 (b:=_) (dQ _ 2) (dU _ 2) rfl rfl rfl rfl rfl rfl rfl ai (fun hb=> ?_) (fun hb=> ?_)
 ·exact e8 (e:=2) (by show(bp F .wear n).2.2=_;unfold bp;dsimp only;rw[if_pos (by have h:=Zf hb;omega)]) (by decide) (gv _ _ _)
 have hj:¬ (F.aT.dies.length:Int)<=nn n 0:=by have h:=Ze hb;omega
 have hjl:(nn n 0).toNat<u0.length:=by omega
 have hue:Di.gt 0 u0 (nn n 0).toNat=cH F.b (nn n 0):=by rw[hug _ hjl,V0 q0.1]
 have hw:(!Di.gO (nn n 0) 0 ((F.aT.dies.length:Int) - 1)|| !Di.gO (cH F.b (nn n 0)) 0 8000)=false:=by unfold Di.gO;simp only[OG,Vn,Zo,Zl];omega
 have hwe:(Di.dh F.aT (nn n 0) (cH F.b (nn n 0))).2=0:=by rw[Di.uN hF.p hw]
 obtain⟨⟨x1,x2⟩,x3,x4⟩:=C2 (p:=F.aT) (j:=nn n 0) (u:=cH F.b (nn n 0))
 iterate 2 refine af ?_
 refine aC.bz 23 1 [6] [([],false),([],false),([],false),([],false),([],false),([],false),([],false),([],false),([],false),([],false),([],false),([],false),([],false),([],false),([],false),([],false),([6],true),([6],false),([6],false),([],false),([],false),([6],false),([],false)] mixed (by kernel_rfl) (by decide) (by kernel_rfl) rfl (zG _ _ _ _ _) ?_
 refine af ?_
 refine aX.cons 20 rfl rfl rfl (fun _=>(aa.nilCheck rfl rfl)) rfl ?_
 refine af ?_
 refine aX.cons 22 rfl rfl rfl (fun _=>(Kl (.p (Di.ew F.aT)))) rfl ?_
 refine af ?_
 refine aX.cons 24 rfl rfl rfl (fun _=>(aa.nilCheck rfl rfl)) rfl ?_
 iterate 3 refine af ?_
 refine aX.cons 28 rfl rfl rfl (fun _=>(Kl (bg 3 (F.b.ax).length))) (dc Kn) ?_
 refine af ?_
 refine aX.cons 30 rfl rfl rfl (fun _=>(aa.nilCheck rfl rfl)) rfl ?_
 iterate 3 refine af ?_
 refine aX.cons 34 rfl rfl rfl (fun _=>(Kl (bg 4 (F.b.plan).length))) (dc Kn) ?_
 refine aX.lay (blk:= .row ((u0.flatMap Di.bG).map .p) 3) (v:= .tuple [.row 6 F.aT.dies.length,.p (.int .i64 (F.b.ax.length:Int)),.p (.int .i64 0)]) (v0:= .tuple [.row 7 F.aT.dies.length,.p (.int .i64 (F.b.ax.length:Int)),.p (.int .i64 0)]) 35 6 rfl rfl rfl rfl rfl rfl rfl rfl (fun _=>(aa.Wd (args:=[Di.ew F.aT,Di.dn F.b.ax,Di.aQ F.b.plan]) 3 7 (Di.Dg F.aT F.b.ax F.b.plan (Zz n4 (by decide)) (Zz sN (by decide)) (Zz (show F.b.plan.length<=8 by omega) (by decide)) u0 NF) rfl (fz (f:=Di.bG) (fun _=>rfl) _) rfl rfl rfl rfl (aaW (i:=3) (j:=4) rfl rfl) ai)) rfl rfl (by show ak.row (bE _ _) _=_;rw[aP]) ?_
 refine af ?_
 refine aX.cons 36 rfl rfl rfl (fun _=>(aa.extract rfl rfl rfl)) rfl ?_
 refine aX.cons 37 rfl rfl rfl (fun _=>(aa.extract rfl rfl rfl)) rfl ?_
 refine aX.cons 38 rfl rfl rfl (fun _=>(aa.extract rfl rfl rfl)) rfl ?_
 refine aX.cons 5 rfl rfl rfl (fun _=>(aa.assign rfl rfl)) rfl ?_
 refine aX.cons 6 rfl rfl rfl (fun _=>(aa.assign rfl rfl)) rfl ?_
 refine aX.nil ?_
 iterate 5 refine af ?_
 refine Kc (Kp (kR 0 rfl)) ?_
 iterate 2 refine af ?_
 refine aC.uG (H':=[cI F.b F.aT (.raw a m c) 1 2 3 4 5,dD F.b.au,dj F.b.ag,dI F.b.ax,bL F.b.plan,bL F.b.bH,.row ((u0.flatMap Di.bG).map .p) 3]) rfl ?_
 refine aC.bz 15 1 [7] [([],false),([],false),([],false),([],false),([],false),([],false),([],false),([],false),([],false),([],false),([],false),([],false),([],false),([7],true),([7],true)] mixed (by kernel_rfl) (by decide) (by kernel_rfl) rfl (by simp[cI,ov,cj,bY,cD,eZ,iP,fX,bS,HD,dc,dD,dj,dI,bL,dR,Di.bX.cells]) ?_
 refine af ?_
 refine aX.cons 43 rfl rfl rfl (fun _=>(aa.nilCheck rfl rfl)) rfl ?_
 refine af ?_
 refine aX.cons 45 rfl rfl rfl (fun _=>(Kl (.p (Di.ew F.aT)))) rfl ?_
 iterate 3 refine af ?_
 refine aX.cons 49 rfl rfl rfl (fun _=>(aa.iF rfl rfl rfl ai bB q0.1 (by omega))) rfl ?_
 refine aX.cons 50 rfl rfl rfl (fun _=>(aa.load (v:= .p (.int .i64 (cH F.b (nn n 0)))) rfl rfl ai (by rw[<- hue];exact Lq rfl hjl))) rfl ?_
 refine aX.cons 51 rfl rfl rfl (fun _=>(Kp (Di.Qj F.aT (nn n 0) (cH F.b (nn n 0)) (Zz n4 (by decide))))) rfl ?_
 refine af ?_
 refine aX.cons 52 rfl rfl rfl (fun _=>(aa.extract rfl rfl rfl)) rfl ?_
 refine aX.cons 53 rfl rfl rfl (fun _=>(aa.extract rfl rfl rfl)) rfl ?_
 refine aX.lay (v0:= .ptr 8 0) 8 7 rfl rfl rfl rfl rfl rfl rfl rfl (fun _=>(aa.aI rfl ai rfl)) rfl rfl rfl ?_
 refine aX.put (blk:= .cells [.p (.int .i64 (Di.dh F.aT (nn n 0) (cH F.b (nn n 0))).1.1),.p (.int .i64 (Di.dh F.aT (nn n 0) (cH F.b (nn n 0))).1.2)] 24) 7 rfl rfl rfl rfl (fun _=>(aa.store rfl rfl rfl rfl rfl ai rfl rfl)) rfl rfl ?_
 refine aX.nil ?_
 iterate 5 refine af ?_
 refine Kc (Kp (kR (Di.dh F.aT (nn n 0) (cH F.b (nn n 0))).2 (by rw[hwe];rfl))) ?_
 iterate 2 refine af ?_
 refine aC.az 15 mixed (by kernel_rfl) (by decide) ?_
 refine Kq (aa.aJ rfl rfl mO) ?_
 iterate 2 refine af ?_
 refine Kq (aa.iF rfl rfl rfl ai bB q0.1 (by omega)) ?_
 refine Kq (aa.load (v:= .p (.int .i64 (cH F.b (nn n 0)))) rfl rfl ai (by rw[<- hue];exact Lq rfl hjl)) ?_
 refine Kq (aa.aJ rfl rfl lD) ?_
 refine af ?_
 refine Kq (Kl (.p (.int .i64 (Di.dh F.aT (nn n 0) (cH F.b (nn n 0))).1.1))) ?_
 refine Kq (aa.aJ rfl rfl lD) ?_
 refine af ?_
 refine Kq (Kl (.p (.int .i64 (Di.dh F.aT (nn n 0) (cH F.b (nn n 0))).1.2))) ?_
 refine Kq (aa.aJ rfl rfl lD) ?_
 refine Kq (aa.aF rfl ai (by decide) rfl rfl rfl) ?_
 refine Kq (Kp (dJ [.str (Vb.t .wear),.num (cH F.b (nn n 0)),.num (Di.dh F.aT (nn n 0) (cH F.b (nn n 0))).1.1,.num (Di.dh F.aT (nn n 0) (cH F.b (nn n 0))).1.2] Kn Kn (gq (by decide) (fA ⟨hub.1,by omega⟩ (fA ⟨x1,by omega⟩ (fA ⟨x3,by omega⟩ gM)))))) ?_
 refine af ?_
 refine ay.nil ?_
 iterate 2 refine af ?_
 refine jt.one rfl rfl (xy (F2:=F) (r:=br (Vb.t .wear) [cH F.b (nn n 0),(Di.dh F.aT (nn n 0) (cH F.b (nn n 0))).1.1,(Di.dh F.aT (nn n 0) (cH F.b (nn n 0))).1.2]) (by unfold bp;dsimp only;rw[if_neg hj]) (by rw[fW];rfl) ⟨⟨1,2,3,4,5,by decide,rfl,rfl,rfl,rfl,rfl,rfl⟩,⟨ZR rfl,by intro j y h1 h2 h3;obtain rfl | rfl | rfl | rfl | rfl:j=1∨j=2∨j=3∨j=4∨j=5:=(by omega);all_goals first | exact .inl (ZB (show some ak.dead=some y from h3)).symm | exact .inr h3⟩⟩)
theorem We:VC .wear 103:=by
 intro F n a m c hF hl hn
 have en:=Rx.bM hF.b.cd
 have tT:=hF.b.sk
 have sN:=hF.b.dr
 have q0:0<=nn n 0∧nn n 0<10000000000000:=hn _ (Di.aV 0 (show 0<n.length by rw[hl];decide))
 refine aD.start (N:=10) Tryz.func103 rfl rfl Kn ?_
 iterate 8 refine af ?_
 refine Kc (aa.aB (g:=Di.gt 0 n) (k:=0) (Di.av _) rfl rfl rfl ai bB rfl (fun _=>rfl) (by decide) (by rw[hl];decide)) ?_
 refine Kc (Kl (.p (.int .i64 (nn n 0)))) ?_
 refine aq.fT 9 (Io F n a m c hF q0) rfl rfl rfl rfl rfl rfl rfl ai (fun y H2 jJ=> ?_) (fun v H2 jJ=> ?_)
 ·exact⟨_,rfl,jJ⟩
 exact ME
end Go.Proofs.YtchiinjiflgepaaGreatDoor
end
