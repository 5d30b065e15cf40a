/-
 The program of chapter 15: what verbs do (slats, pencils; questions).
 The program of chapter 15: what verbs do (sacks, calls).
 Chapter 15, the program: how many bits a set has, as a processor counts them.
 The program of chapter 15: what verbs do (complaints).
 The program of chapter 15: what verbs do (leads).
 Chapter 15, the program: what was drawn through each die, as a plan that can be followed leaves it.
 The program of chapter 15: what verbs do (dies).
-/
import Derived.Test.YtchiinjiflgepaaGreatDoorMzQF
import Derived.Test.YtchiinjiflgepaaGreatDoorMzQA
import Derived.Test.YtchiinjiflgepaaGreatDoorMzQC
import Derived.Test.YtchiinjiflgepaaGreatDoorMzQR
import Derived.Test.YtchiinjiflgepaaGreatDoorMzQD
import Derived.Test.YtchiinjiflgepaaGreatDoorFaQF
import Derived.Test.YtchiinjiflgepaaGreatDoorMzQP
import Derived.Test.YtchiinjiflgepaaGreatDoorMzQZ
theorem RH{A:Prop}(h:A:=by
 exact⟨⟨1,6,3,4,5,by decide,rfl,rfl,rfl,rfl,rfl,rfl⟩,⟨ZS rfl,by intro j y h1 h2 h3;obtain rfl | rfl | rfl | rfl | rfl:j=1∨j=2∨j=3∨j=4∨j=5:=(by omega);all_goals first | exact .inl (Zw (show some ai.dead=some y from h3)).symm | exact .inr h3⟩⟩):A:=h
theorem V3{A:Prop}(h:A:=by
 exact⟨⟨1,2,3,4,5,by decide,rfl,rfl,rfl,rfl,rfl,rfl⟩,⟨ZS rfl,by intro j y h1 h2 h3;obtain rfl | rfl | rfl | rfl | rfl:j=1∨j=2∨j=3∨j=4∨j=5:=(by omega);all_goals first | exact .inl (Zw (show some ai.dead=some y from h3)).symm | exact .inr h3⟩⟩):A:=h
theorem Lx{A:Prop}(h:A:=by
 obtain⟨z1,rfl,z3⟩:=gJ
 iterate 3 refine af ?_
 exact iB.one rfl rfl ⟨z1,rfl,z3⟩):A:=h
theorem Pm{A:Prop}(h:A:=by
 rcases Zt.1 hp with rfl | hp
 ·exact h
 ·exact hl p hp):A:=h
set_option linter.unusedSimpArgs false
set_option linter.unusedVariables false
section
set_option maxRecDepth 100000
set_option maxHeartbeats 4000000
namespace Go.Proofs.YtchiinjiflgepaaGreatDoor
open Go.AF
def Tg(b b2:bG)(p:Di.bB)(um:V)(H:List ai):Prop:=Y1 b2 p um H∧AQ b p um H
theorem Ez(b:bG)(p:Di.bB)(um:V):Tg b b p um (mX b p um):=⟨T6 b p um,AM b p um⟩
def UR(F:cK)(v:Vb)(n:List Int)(um:V):V->List ai->Prop:=fun r H2=>(br F v n).2.2=0∧r= .p (.str (sB (br F v n).2.1))∧Tg F.b (br F v n).1.b F.aP um H2
def Wg(F:cK)(v:Vb)(n:List Int)(um:V):PV->List ai->Prop:=fun y H2=>(br F v n).2.2≠0∧y= .iface 106 (.agg [.int .i64 (br F v n).2.2])∧Tw F.b F.aP um H2
def VC(v:Vb)(g:FuncId):Prop:=∀(F:cK) (n:List Int) (a:Option Addr) (m c:Nat),mo F->n.length=v.many->(∀ x∈n,0<=x∧x<10000000000000)->
 av Tryz.prog g [.ptr 0 0,.p (Di.bI n)] (mX F.b F.aP (.raw a m c)) (UR F v n (.raw a m c)) (Wg F v n (.raw a m c))
theorem dR{F:cK}{v:Vb}{n:List Int}{um:V}{H2:List ai}{e:Int}(h:(br F v n).2.2=e)(he:e≠0)(hp:Tw F.b F.aP um H2):∃ y,V.p (.iface 106 (.agg [.int .i64 e]))= .p y∧Wg F v n um y H2:=⟨_,rfl,by rw[h];exact he,by rw[h],hp⟩
theorem wj{F:cK}{v:Vb}{n:List Int}{um:V}{H2:List ai}{r:Bs}{F2:cK}{t:Bs}(h:br F v n=(F2,r,0))(ht:t=r)(hp:Tg F.b F2.b F.aP um H2):UR F v n um (.p (.str (sB t))) H2:=by
 unfold UR
 rw[h,ht]
 exact⟨rfl,rfl,hp⟩
theorem Ow{H:List ai}{k i:Nat}{l:List Ck.Sk}(h:H[i]? =some (c5 l)):bN H (k+1) (aV i l.length)=some (Ck.dS l):=qi h fun h=>by rw[Uc.1 h];rfl
theorem Mt{H:List ai}{k i:Nat}{l:List Rx.bM}(h:H[i]? =some (cU l)):bN H (k+1) (aV i l.length)=some (Rx.fO l):=qi h fun h=>by rw[Uc.1 h];rfl
theorem Mc{H:List ai}{k i:Nat}{l:List Di.cO}(h:H[i]? =some (c7 l)):bN H (k+1) (aV i l.length)=some (Di.fJ l):=qi h fun h=>by rw[Uc.1 h];rfl
theorem Ge{H:List ai}{k i:Nat}{l:List Int}(h:H[i]? =some (bh l)):bN H (k+1) (aV i l.length)=some (Di.bI l):=qi h fun h=>by rw[Uc.1 h];rfl
theorem V8{H:List ai}{k i:Nat}{l:List Rx.bM}{xs:List PV}(h:H[i]? =some (cU l)):cQ (bN H (k+1)) (aV i l.length::xs.map .p)=some (Rx.fO l::xs):=by simp only[cQ,Mt h,ue]
theorem hbS{H:List ai}{k i:Nat}{l:List Ck.Sk}{xs:List PV}(h:H[i]? =some (c5 l)):cQ (bN H (k+1)) (aV i l.length::xs.map .p)=some (Ck.dS l::xs):=by simp only[cQ,Ow h,ue]
theorem Xk{H:List ai}{k i j:Nat}{x:PV}{l:List Di.cO}{q:List Int}(h:H[i]? =some (c7 l))(h2:H[j]? =some (bh q)):cQ (bN H (k+1)) [.p x,aV i l.length,aV j q.length]=some [x,Di.fJ l,Di.bI q]:=by simp only[cQ,Mc h,Ge h2,Ja]
theorem fu{w:Bs}{l:List iM}(h:w.length<=100)(hl:∀ p∈l,p.ok):∀ p∈iM.str w::l,p.ok:=fun p hp=>by
 exact Pm
theorem eD{k:Int}{l:List iM}(h:0<=k∧k<10000000000000)(hl:∀ p∈l,p.ok):∀ p∈iM.num k::l,p.ok:=fun p hp=>by
 exact Pm
theorem BV{q:List Int}{l:List iM}(h:q.length<=100∧∀ k∈q,0<=k∧k<10000000000000)(hl:∀ p∈l,p.ok):∀ p∈iM.BY q::l,p.ok:=fun p hp=>by
 exact Pm
theorem fS:∀ p∈([]:List iM),p.ok:=fun p hp=>by cases hp
theorem Tj:VC .slat 91:=by
 intro F n a m c hF hl hn
 have js:=Rx.cx hF.b.cd
 have sP:=hF.b.sk
 have qZ:=hF.b.dr
 refine av.start (N:=11) Tryz.func91 rfl rfl Kn ?_
 iterate 6 refine af ?_
 refine Kc (aa.aD rfl rfl lA) ?_
 refine af ?_
 refine aj.fe 7 (ya F.b F.aP a m c 0 0) rfl rfl rfl rfl rfl rfl rfl an (fun y H2 gJ=> ?_) (fun v H2 gJ=> ?_)
 ·obtain⟨q1,rfl,rfl⟩:=gJ
  exact dR (e:=9) (by show(br F .slat n).2.2=_;unfold br;dsimp only;rw[if_pos (by omega)]) (by decide) (fy _ _ _)
 obtain⟨hlt,rfl,rfl⟩:=gJ
 refine Kc (aa.aD rfl rfl jV) ?_
 refine Kc (aa.aU rfl an (by decide) rfl rfl rfl) ?_
 refine Kc (Kp (c8 [.str kz,.num (F.b.ag.length:Int)] Kn Kn (fu (by decide) (eD (by omega) fS)))) ?_
 iterate 3 refine af ?_
 refine iB.one rfl rfl (wj (F2:={F with b:=F.b.dZ ⟨0,0⟩}) (r:=aS kz [(F.b.ag.length:Int)]) (by unfold br;dsimp only;rw[if_neg (by omega)]) (by rw[fm];rfl) ?_)
 exact RH
theorem Um(b:bG)(p:Di.bB)(a:Option Addr)(m c:Nat)(x y:Int)(hlt:b.ag.length<24):ax Tryz.prog 92 [.ptr 0 0,.p (.int .i64 x),.p (.int .i64 y)] (mX b p (.raw a m c)) (fun v H2=>v= .p (.int .i64 (b.ag.length:Int))∧H2=[cv (b.dZ ⟨x,y⟩) p (.raw a m c) 1 6 3 4 5,c5 b.au,.dead,c7 b.aq,bh b.plan,bh b.b6,cU (b.dZ ⟨x,y⟩).ag]):=
 ((ya b p a m c x y).mono (WI:=fun v H2=>v= .p (.int .i64 (b.ag.length:Int))∧H2=[cv (b.dZ ⟨x,y⟩) p (.raw a m c) 1 6 3 4 5,c5 b.au,.dead,c7 b.aq,bh b.plan,bh b.b6,cU (b.dZ ⟨x,y⟩).ag]) (Vq:=fun _ _=>False) (fun v H2 ⟨_,h1,h2⟩=>⟨h1,h2⟩) (fun y H2 ⟨h1,_⟩=>h1 hlt)).toC (fun _ _ h=>h)
theorem Nk:VC .blame 98:=by
 intro F n a m c hF hl hn
 have js:=Rx.cx hF.b.cd
 have sP:=hF.b.sk
 have qZ:=hF.b.dr
 refine av.start (N:=37) Tryz.func98 rfl rfl Kn ?_
 iterate 5 refine af ?_
 refine aB.az 24 mixed (by kernel_rfl) (by decide) ?_
 refine af ?_
 refine Kq (aa.nilCheck rfl rfl) ?_
 iterate 3 refine af ?_
 refine Kq (Kl (aV 2 F.b.ag.length)) ?_
 refine af ?_
 refine Kq (aa.nilCheck rfl rfl) ?_
 iterate 3 refine af ?_
 refine Kq (Kl (.p (.int .i64 (F.b.bad:Int)))) ?_
 refine af ?_
 refine Kq (aa.nilCheck rfl rfl) ?_
 iterate 3 refine af ?_
 refine Kq (Kl (.p (.int .i64 (F.b.good:Int)))) ?_
 refine Kq (aa.xH 3 (Rx.kD F.b.ag F.b.bad F.b.good (Zz js (by decide))) rfl rfl rfl rfl rfl (V8 (i:=2) (xs:=[.int .i64 (F.b.bad:Int),.int .i64 (F.b.good:Int)]) rfl) an) ?_
 refine af ?_
 refine Kq (aa.extract rfl rfl rfl) ?_
 refine Kq (aa.extract rfl rfl rfl) ?_
 iterate 2 refine af ?_
 refine ay.nil ?_
 iterate 4 refine af ?_
 refine aj.cg 30 (b:=(decide ((Rx.fW F.b.ag F.b.bad F.b.good)=0))) (jS (Rx.fW F.b.ag F.b.bad F.b.good)) (nE (Rx.fW F.b.ag F.b.bad F.b.good)) rfl rfl rfl rfl rfl rfl rfl an (fun he=> ?_) (fun he=> ?_)
 ·have hne:Rx.fW F.b.ag F.b.bad F.b.good≠0:=Zh he
  exact dR (e:=Rx.fW F.b.ag F.b.bad F.b.good) (by show(br F .blame n).2.2=_;unfold br;dsimp only;rw[if_pos hne]) hne (fy _ _ _)
 have hz:¬ Rx.fW F.b.ag F.b.bad F.b.good≠0:=fun h=>h (Zf he)
 iterate 3 refine af ?_
 refine Kc (aa.aD rfl rfl lA) ?_
 refine af ?_
 refine Kc (Kp (oP (Rx.jg F.b.ag F.b.bad F.b.good) (Vp hF.b.cd))) ?_
 refine Kc (aa.aD rfl rfl Ec) ?_
 refine Kc (aa.aU rfl an (by decide) rfl rfl rfl) ?_
 refine Kc (Kp (c8 [.str (Vb.t .blame),.BY (fB (Rx.jg F.b.ag F.b.bad F.b.good))] Kn Kn (fu (by decide) (BV ⟨gf _,rH _⟩ fS)))) ?_
 iterate 3 refine af ?_
 refine iB.one rfl rfl (wj (F2:=F) (r:=aS (Vb.t .blame) (fB (Rx.jg F.b.ag F.b.bad F.b.good))) (by unfold br;dsimp only;rw[if_neg hz]) (by rw[fm];simp[jq,iM.w]) (Ez _ _ _))
theorem Tu:VC .from_ 102:=by
 intro F n a m c hF hl hn
 have js:=Rx.cx hF.b.cd
 have sP:=hF.b.sk
 have qZ:=hF.b.dr
 have q0:0<=nn n 0∧nn n 0<10000000000000:=hn _ (Di.bq 0 (show 0<n.length by rw[hl];decide))
 refine av.start (N:=28) Tryz.func102 rfl rfl Kn ?_
 iterate 5 refine af ?_
 refine aB.az 15 mixed (by kernel_rfl) (by decide) ?_
 refine af ?_
 refine Kq (aa.nilCheck rfl rfl) ?_
 iterate 3 refine af ?_
 refine Kq (Kl (aV 2 F.b.ag.length)) ?_
 refine af ?_
 refine Kq (aa.aJ (g:=Di.gt 0 n) (k:=0) (Di.aC _) rfl rfl rfl an dA rfl (fun _=>rfl) (by decide) (by rw[hl];decide)) ?_
 refine Kq (Kl (.p (.int .i64 (nn n 0)))) ?_
 refine Kq (aa.xH 3 (Rx.Dy F.b.ag (nn n 0) (Zz js (by decide))) rfl rfl rfl rfl rfl (V8 (i:=2) (xs:=[.int .i64 (nn n 0)]) rfl) an) ?_
 refine af ?_
 refine Kq (aa.extract rfl rfl rfl) ?_
 refine Kq (aa.extract rfl rfl rfl) ?_
 iterate 2 refine af ?_
 refine ay.nil ?_
 iterate 4 refine af ?_
 refine aj.cg 21 (b:=(decide ((Rx.dV F.b.ag (nn n 0))=0))) (jS (Rx.dV F.b.ag (nn n 0))) (nE (Rx.dV F.b.ag (nn n 0))) rfl rfl rfl rfl rfl rfl rfl an (fun he=> ?_) (fun he=> ?_)
 ·have hne:Rx.dV F.b.ag (nn n 0)≠0:=Zh he
  exact dR (e:=Rx.dV F.b.ag (nn n 0)) (by show(br F .from_ n).2.2=_;unfold br;dsimp only;rw[if_pos hne]) hne (fy _ _ _)
 have hz:¬ Rx.dV F.b.ag (nn n 0)≠0:=fun h=>h (Zf he)
 iterate 3 refine af ?_
 refine Kc (aa.aD rfl rfl lA) ?_
 refine af ?_
 refine Kc (Kp (oP (Rx.gE F.b.ag (Rx.bE F.b.ag) (nn n 0)) (NG hF.b.cd _))) ?_
 refine Kc (aa.aD rfl rfl Ec) ?_
 refine Kc (aa.aU rfl an (by decide) rfl rfl rfl) ?_
 refine Kc (Kp (c8 [.str (Vb.t .from_),.BY (fB (Rx.gE F.b.ag (Rx.bE F.b.ag) (nn n 0)))] Kn Kn (fu (by decide) (BV ⟨gf _,rH _⟩ fS)))) ?_
 iterate 3 refine af ?_
 refine iB.one rfl rfl (wj (F2:=F) (r:=aS (Vb.t .from_) (fB (Rx.gE F.b.ag (Rx.bE F.b.ag) (nn n 0)))) (by unfold br;dsimp only;rw[if_neg hz]) (by rw[fm];simp[jq,iM.w]) (Ez _ _ _))
theorem HG:VC .pencil 94:=by
 intro F n a m c hF hl hn
 have js:=Rx.cx hF.b.cd
 have sP:=hF.b.sk
 have qZ:=hF.b.dr
 have q0:0<=nn n 0∧nn n 0<10000000000000:=hn _ (Di.bq 0 (show 0<n.length by rw[hl];decide))
 have q1:0<=nn n 1∧nn n 1<10000000000000:=hn _ (Di.bq 0 (show 1<n.length by rw[hl];decide))
 have q2:0<=nn n 2∧nn n 2<10000000000000:=hn _ (Di.bq 0 (show 2<n.length by rw[hl];decide))
 obtain⟨k0,e0⟩:=UZ q0.1
 obtain⟨k1,e1⟩:=UZ q1.1
 refine av.start (N:=43) Tryz.func94 rfl rfl Kn ?_
 iterate 7 refine af ?_
 refine aj.fe 6 (ym F.b F.aP a m c) rfl rfl rfl rfl rfl rfl rfl an (fun y H2 gJ=> ?_) (fun v H2 gJ=> ?_)
 ·obtain⟨q1,rfl,rfl⟩:=gJ
  exact dR (e:=9) (by show(br F .pencil n).2.2=_;unfold br;dsimp only;rw[if_pos (by omega)]) (by decide) (fy _ _ _)
 obtain⟨hlt,rfl,rfl⟩:=gJ
 iterate 5 refine af ?_
 refine Kc (aa.aJ (g:=Di.gt 0 n) (k:=0) (Di.aC _) rfl rfl rfl an dA rfl (fun _=>rfl) (by decide) (by rw[hl];decide)) ?_
 refine Kc (Kl (.p (.int .i64 (nn n 0)))) ?_
 refine Kc (aa.gr rfl rfl rfl rfl an (tf F.b F.aP a m c (nn n 0))) ?_
 refine af ?_
 refine Kg 13 12 0 rfl (fun h=>(aa.move rfl rfl)) ?_
 refine Kg 14 12 1 rfl (fun h=>(aa.move rfl rfl)) ?_
 refine Kh 15 12 14 rfl rfl rfl rfl (fun h=>(aa.aJ (g:=Di.gt 0 n) (k:=1) (Di.aC _) rfl rfl rfl an dA rfl (fun _=>rfl) (by decide) (by rw[hl];decide))) ?_
 refine Kh 16 12 15 rfl rfl rfl rfl (fun h=>(Kl (.p (.int .i64 (nn n 1))))) ?_
 refine aj.g 17 12 rfl rfl rfl rfl rfl rfl rfl [(13,_),(16,_)] (fun h=>And.intro (.inr ⟨_,rfl,h⟩) (And.intro (.inr ⟨_,rfl,h⟩) (trivial))) (fun h=>(aa.gr rfl rfl rfl rfl an (tf F.b F.aP a m c (nn n 1)))) ?_
 refine Kc (aa.dM rfl rfl rfl ?_) ?_
 ·exact eM
 refine aj.cg 19 (b:=_) (dh _ 2) (de _ 2) rfl rfl rfl rfl rfl rfl rfl an (fun hb=> ?_) (fun hb=> ?_)
 ·exact dR (e:=2) (by show(br F .pencil n).2.2=_;unfold br;dsimp only;rw[if_neg (by omega),if_pos (by simp only[YV,TT] at hb;omega)]) (by decide) (fy _ _ _)
 have hi:¬ ((F.b.ag.length:Int)<=nn n 0∨(F.b.ag.length:Int)<=nn n 1):=by simp only[Zo,Zs] at hb;omega
 iterate 4 refine af ?_
 refine Kc (aa.aJ (g:=Di.gt 0 n) (k:=2) (Di.aC _) rfl rfl rfl an dA rfl (fun _=>rfl) (by decide) (by rw[hl];decide)) ?_
 refine Kc (Kl (.p (.int .i64 (nn n 2)))) ?_
 refine af ?_
 refine aj.cg 24 (b:=_) (dh _ 1) (de _ 1) rfl rfl rfl rfl rfl rfl rfl an (fun iq=> ?_) (fun iq=> ?_)
 ·exact dR (e:=1) (by show(br F .pencil n).2.2=_;unfold br;dsimp only;rw[if_neg (by omega),if_neg hi,if_pos (by have h:=Zh iq;omega)]) (by decide) (fy _ _ _)
 have hm:¬ 1048576<nn n 2:=by have h:=Zf iq;omega
 have hp0:=LR (show k0<=24 by omega)
 have Yy:=LR (show k1<=24 by omega)
 iterate 2 refine af ?_
 refine aB.jQ 19 ([cv (F.b.dZ ⟨((1*2^k0||| 1*2^k1:Nat):Int),nn n 2⟩) F.aP (.raw a m c) 1 6 3 4 5,c5 F.b.au,.dead,c7 F.b.aq,bh F.b.plan,bh F.b.b6,cU (F.b.dZ ⟨((1*2^k0||| 1*2^k1:Nat):Int),nn n 2⟩).ag]) mixed (by kernel_rfl) (by decide) ?_
 refine aF.cons 25 rfl rfl rfl (aa.aD rfl rfl lA) (aa.aD rfl rfl lA) ?_
 refine aF.cons 26 rfl rfl rfl (aa.move rfl rfl) (aa.move rfl rfl) ?_
 refine aF.cons 27 rfl rfl rfl (aa.move rfl rfl) (aa.move rfl rfl) ?_
 refine aF.cons 28 rfl rfl rfl (aa.aJ (g:=Di.gt 0 n) (k:=0) (Di.aC _) rfl rfl rfl an dA rfl (fun _=>rfl) (by decide) (by rw[hl];decide)) (aa.aJ (g:=Di.gt 0 n) (k:=0) (Di.aC _) rfl rfl rfl an dA rfl (fun _=>rfl) (by decide) (by rw[hl];decide)) ?_
 refine aF.cons 29 rfl rfl rfl (aa.load (v:= .p (.int .i64 ((k0:Nat):Int))) rfl rfl an (by rw[<- e0];rfl)) (aa.load (v:= .p (.int .i64 ((k0:Nat):Int))) rfl rfl an (by rw[<- e0];rfl)) ?_
 refine aF.cons 30 rfl rfl rfl (aa.qg 1 k0 rfl rfl rfl (by show _<=(64:Nat);omega) (by show _<=(9223372036854775807:Int);rw[ZN];omega)) (aa.qg 1 k0 rfl rfl rfl (by show _<=(64:Nat);omega) (by show _<=(9223372036854775807:Int);rw[ZN];omega)) ?_
 refine aF.cons 31 rfl rfl rfl (aa.move rfl rfl) (aa.move rfl rfl) ?_
 refine aF.cons 32 rfl rfl rfl (aa.aJ (g:=Di.gt 0 n) (k:=1) (Di.aC _) rfl rfl rfl an dA rfl (fun _=>rfl) (by decide) (by rw[hl];decide)) (aa.aJ (g:=Di.gt 0 n) (k:=1) (Di.aC _) rfl rfl rfl an dA rfl (fun _=>rfl) (by decide) (by rw[hl];decide)) ?_
 refine aF.cons 33 rfl rfl rfl (aa.load (v:= .p (.int .i64 ((k1:Nat):Int))) rfl rfl an (by rw[<- e1];rfl)) (aa.load (v:= .p (.int .i64 ((k1:Nat):Int))) rfl rfl an (by rw[<- e1];rfl)) ?_
 refine aF.cons 34 rfl rfl rfl (aa.qg 1 k1 rfl rfl rfl (by show _<=(64:Nat);omega) (by show _<=(9223372036854775807:Int);rw[ZN];omega)) (aa.qg 1 k1 rfl rfl rfl (by show _<=(64:Nat);omega) (by show _<=(9223372036854775807:Int);rw[ZN];omega)) ?_
 refine aF.cons 35 rfl rfl rfl (aa.UI (1*2^k0) (1*2^k1) rfl rfl rfl (by show _<=(9223372036854775807:Int);rw[ZN];omega) (by show _<=(9223372036854775807:Int);rw[ZN];omega) (by have ho:=My (n:=62) (x:=1*2^k0) (y:=1*2^k1) (by omega) (by omega);show _<=(9223372036854775807:Int);omega)) (aa.UI (1*2^k0) (1*2^k1) rfl rfl rfl (by show _<=(9223372036854775807:Int);rw[ZN];omega) (by show _<=(9223372036854775807:Int);rw[ZN];omega) (by have ho:=My (n:=62) (x:=1*2^k0) (y:=1*2^k1) (by omega) (by omega);show _<=(9223372036854775807:Int);omega)) ?_
 refine aF.cons 36 rfl rfl rfl (aa.move rfl rfl) (aa.move rfl rfl) ?_
 refine aF.cons 37 rfl rfl rfl (aa.aJ (g:=Di.gt 0 n) (k:=2) (Di.aC _) rfl rfl rfl an dA rfl (fun _=>rfl) (by decide) (by rw[hl];decide)) (aa.aJ (g:=Di.gt 0 n) (k:=2) (Di.aC _) rfl rfl rfl an dA rfl (fun _=>rfl) (by decide) (by rw[hl];decide)) ?_
 refine aF.cons 38 rfl rfl rfl (Kl (.p (.int .i64 (nn n 2)))) (Kl (.p (.int .i64 (nn n 2)))) ?_
 refine aF.lay 39 rfl rfl rfl (aa.gr rfl rfl rfl rfl an (Um F.b F.aP a m c ((1*2^k0||| 1*2^k1:Nat):Int) (nn n 2) hlt)) ?_
 refine aF.cons 40 rfl rfl rfl (aa.aD rfl rfl jV) (aa.aD rfl rfl jV) ?_
 refine aF.cons 41 rfl rfl rfl (aa.aU rfl an (by decide) rfl rfl rfl) (aa.aU rfl an (by decide) rfl rfl rfl) ?_
 refine aF.cons 42 rfl rfl rfl (Kp (c8 [.str kz,.num (F.b.ag.length:Int)] Kn Kn (fu (by decide) (eD (by omega) fS)))) (Kp (c8 [.str kz,.num (F.b.ag.length:Int)] Kn Kn (fu (by decide) (eD (by omega) fS)))) ?_
 refine aF.cons 4 rfl rfl rfl (aa.assign rfl rfl) (aa.assign rfl rfl) ?_
 refine aF.nil ?_
 iterate 2 refine af ?_
 refine iB.one rfl rfl (wj (F2:={F with b:=F.b.dZ ⟨((1*2^k0||| 1*2^k1:Nat):Int),nn n 2⟩}) (r:=aS kz [(F.b.ag.length:Int)]) (by unfold br;dsimp only;rw[if_neg (by omega),if_neg hi,if_neg hm,DT e0 e1]) (by rw[fm];rfl) ?_)
 exact RH
theorem qp(l:List Int):l.flatMap Di.cE=l.map (PV.int .i64):=by
 induction l with
 | nil=>rfl
 | cons x l ih=>rw[ZJ,ih];rfl
theorem qy(n:List Int)(l k:Nat):((n.flatMap Di.cE).drop (l*1)).take (k*1)=((n.drop l).take k).flatMap Di.cE:=by
 rw[qp,qp,Gv,Gv,List.map_take,List.map_drop]
theorem Ll(n:List Int)(l k j:Nat)(hj:j<k):nn ((n.drop l).take k) j=nn n (l+j):=by
 unfold nn Di.gt
 rw[Ze,Ze,QB hj,PM]
theorem s0(n:List Int)(l k:Nat)(h:l+k<=n.length)(h2:2<=k):Pure Tryz.prog 153 [.is (((n.drop l).take k).flatMap Di.cE) k] (.agg [.int .i64 (nn n l),.int .i64 (nn n (l+1))]):=by
 have hk:k=((n.drop l).take k).length:=by rw[ZW,Rl];omega
 have h3:=OC ((n.drop l).take k) k hk (by omega)
 rwa [Ll n l k 0 (by omega),Ll n l k 1 (by omega)] at h3
theorem EJ(l:List Ck.Sk)(b:List Ck.Tk)(hl:l.length<=Ck.cJ)(hb:b.length<=Ck.cJ):Pure Tryz.prog 154 [Ck.dS l,Ck.vH b] (.tuple [.agg [.int .i64 (shr l b).1.1,.int .i64 (shr l b).1.2],.int .i64 (shr l b).2]):=by
 have h:=Ck.IQ l b hl hb
 rwa [U3] at h
theorem yR(b:bG)(p:Di.bB)(a:Option Addr)(m c:Nat):(mX b p (.raw a m c)).map (aE (sg 6 []))=mX b p (.raw a m c):=(by simp[cv,mX,bL,bF,b8,dQ,gL,fq,bA,cP,c5,cU,c7,bh,dn,Di.bB.cells])
theorem flS(b:bG)(p:Di.bB)(um:V)(x:Ck.Sk)(c:Int)(i1 i2 i3 i4 i5:Nat):ai.cells ([.row i1 (b.au.length+1),aV i2 b.ag.length,aV i3 b.aq.length,aV i4 b.plan.length,.p (.int .i64 (b.bad:Int)),.p (.int .i64 (b.good:Int)),.row i5 (b.b6.length+1)]++p.cells.map .p++[um,.p (.bool true)]) 63=cv {b with au:=b.au++[x],b6:=b.b6++[c]} p um i1 i2 i3 i4 i5:=by
 unfold cv dn
 rw[<- kU i1 b.au x,<- kU i5 b.b6 c]
theorem R0:VC .call 101:=by
 intro F n a m c hF hl hn
 have js:=Rx.cx hF.b.cd
 have sP:=hF.b.sk
 have qZ:=hF.b.dr
 obtain⟨⟨s1,s2⟩,s3,s4⟩:=CS (bad:=(F.b.bad:Int)) (good:=(F.b.good:Int)) hF.b.cd
 refine av.start (N:=45) Tryz.func101 rfl rfl Kn ?_
 iterate 5 refine af ?_
 refine aB.bU 26 1 [6] [([],false),([],false),([],false),([],false),([],false),([],false),([],false),([],false),([],false),([],false),([],false),([],false),([],false),([],false),([],false),([],false),([],false),([],false),([],false),([],false),([],false),([],false),([],false),([6],true),([],false),([6],true)] mixed (by kernel_rfl) (by decide) (by kernel_rfl) rfl (yR _ _ _ _ _) ?_
 refine af ?_
 refine bu.cons 10 rfl rfl rfl (fun _=>(aa.nilCheck rfl rfl)) rfl ?_
 iterate 3 refine af ?_
 refine bu.cons 14 rfl rfl rfl (fun _=>(Kl (aV 2 (F.b.ag).length))) (cP Kn) ?_
 refine af ?_
 refine bu.cons 16 rfl rfl rfl (fun _=>(aa.nilCheck rfl rfl)) rfl ?_
 iterate 3 refine af ?_
 refine bu.cons 20 rfl rfl rfl (fun _=>(Kl (.p (.int .i64 (F.b.bad:Int))))) rfl ?_
 refine af ?_
 refine bu.cons 22 rfl rfl rfl (fun _=>(aa.nilCheck rfl rfl)) rfl ?_
 iterate 3 refine af ?_
 refine bu.cons 26 rfl rfl rfl (fun _=>(Kl (.p (.int .i64 (F.b.good:Int))))) rfl ?_
 refine bu.cons 27 rfl rfl rfl (fun _=>(aa.xH 3 (Rx.wV F.b.ag F.b.bad F.b.good (Zz js (by decide))) rfl rfl rfl rfl rfl (V8 (i:=2) (xs:=[.int .i64 (F.b.bad:Int),.int .i64 (F.b.good:Int)]) rfl) an)) rfl ?_
 refine af ?_
 refine bu.cons 28 rfl rfl rfl (fun _=>(aa.extract rfl rfl rfl)) rfl ?_
 refine bu.cons 29 rfl rfl rfl (fun _=>(aa.extract rfl rfl rfl)) rfl ?_
 refine bu.cons 30 rfl rfl rfl (fun _=>(aa.extract rfl rfl rfl)) rfl ?_
 refine bu.lay (v0:= .ptr 7 0) 6 6 rfl rfl rfl rfl rfl rfl rfl rfl (fun _=>(aa.aO rfl an rfl)) rfl rfl rfl ?_
 refine bu.cons 5 rfl rfl rfl (fun _=>(aa.assign rfl rfl)) rfl ?_
 refine bu.put (blk:= .cells [.p (.int .i64 (Rx.fF F.b.ag F.b.bad F.b.good).1),.p (.int .i64 (Rx.fF F.b.ag F.b.bad F.b.good).2)] 24) 6 rfl rfl rfl rfl (fun _=>(aa.store rfl rfl rfl rfl rfl an rfl rfl)) rfl rfl ?_
 refine bu.nil ?_
 iterate 5 refine af ?_
 refine aj.cg 32 (b:=(decide ((Rx.fW F.b.ag F.b.bad F.b.good)=0))) (jS (Rx.fW F.b.ag F.b.bad F.b.good)) (nE (Rx.fW F.b.ag F.b.bad F.b.good)) rfl rfl rfl rfl rfl rfl rfl an (fun he=> ?_) (fun he=> ?_)
 ·have hne:Rx.fW F.b.ag F.b.bad F.b.good≠0:=Zh he
  exact dR (e:=Rx.fW F.b.ag F.b.bad F.b.good) (by show(br F .call n).2.2=_;unfold br;dsimp only;rw[if_pos hne]) hne (⟨⟨_,rfl,rfl⟩,⟨ZS rfl,by intro j y h1 h2 h3;obtain rfl | rfl | rfl | rfl | rfl:j=1∨j=2∨j=3∨j=4∨j=5:=(by omega);all_goals first | exact .inl (Zw (show some ai.dead=some y from h3)).symm | exact .inr h3⟩⟩)
 have hz:¬ Rx.fW F.b.ag F.b.bad F.b.good≠0:=fun h=>h (Zf he)
 iterate 2 refine af ?_
 refine aB.az 13 mixed (by kernel_rfl) (by decide) ?_
 refine Kq (aa.aD rfl rfl lA) ?_
 refine af ?_
 refine Kq (Kl (.p (.int .i64 (Rx.fF F.b.ag F.b.bad F.b.good).1))) ?_
 refine Kq (aa.aD rfl rfl jV) ?_
 refine af ?_
 refine Kq (Kl (.p (.int .i64 (Rx.fF F.b.ag F.b.bad F.b.good).2))) ?_
 refine Kq (aa.aD rfl rfl jV) ?_
 refine af ?_
 refine Kq (Kp (oP (Rx.lf F.b.ag F.b.bad F.b.good) (TI hF.b.cd))) ?_
 refine Kq (aa.aD rfl rfl Ec) ?_
 refine Kq (aa.aU rfl an (by decide) rfl rfl rfl) ?_
 refine Kq (Kp (c8 [.str (Vb.t .call),.num (Rx.fF F.b.ag F.b.bad F.b.good).1,.num (Rx.fF F.b.ag F.b.bad F.b.good).2,.BY (fB (Rx.lf F.b.ag F.b.bad F.b.good))] Kn Kn (fu (by decide) (eD ⟨s1,by omega⟩ (eD ⟨s3,by omega⟩ (BV ⟨gf _,rH _⟩ fS)))))) ?_
 refine af ?_
 refine ay.nil ?_
 iterate 2 refine af ?_
 refine iB.one rfl rfl (wj (F2:=F) (r:=aS (Vb.t .call) ((Rx.fF F.b.ag F.b.bad F.b.good).1::(Rx.fF F.b.ag F.b.bad F.b.good).2::fB (Rx.lf F.b.ag F.b.bad F.b.good))) (by unfold br;dsimp only;rw[if_neg hz]) (by rw[fm];simp[jq,iM.w]) ⟨⟨1,2,3,4,5,by decide,rfl,rfl,rfl,rfl,rfl,rfl⟩,⟨ZS rfl,by intro j y h1 h2 h3;obtain rfl | rfl | rfl | rfl | rfl:j=1∨j=2∨j=3∨j=4∨j=5:=(by omega);all_goals first | exact .inl (Zw (show some ai.dead=some y from h3)).symm | exact .inr h3⟩⟩)
theorem SB:VC .oS 90:=by
 intro F n a m c hF hl hn
 have js:=Rx.cx hF.b.cd
 have sP:=hF.b.sk
 have qZ:=hF.b.dr
 have YU:n.length=6:=hl
 have YR:=hF.b.ck
 refine av.start (N:=84) Tryz.func90 rfl rfl Kn ?_
 iterate 11 refine af ?_
 refine Kc (Kl (aV 1 F.b.au.length)) ?_
 refine Kc (aa.aQ rfl rfl an o9) ?_
 refine af ?_
 refine aj.cg 17 (b:=_) (dh _ 9) (de _ 9) rfl rfl rfl rfl rfl rfl rfl an (fun hb=> ?_) (fun hb=> ?_)
 ·exact dR (e:=9) (by show(br F .oS n).2.2=_;unfold br;dsimp only;rw[if_pos (.inl (by have h:=Zh hb;omega))]) (by decide) (fy _ _ _)
 have hs8:F.b.au.length<8:=by have h:=Zf hb;omega
 iterate 4 refine af ?_
 refine aj.fe 19 (ym F.b F.aP a m c) rfl rfl rfl rfl rfl rfl rfl an (fun y H2 gJ=> ?_) (fun v H2 gJ=> ?_)
 ·obtain⟨q1,rfl,rfl⟩:=gJ
  exact dR (e:=9) (by show(br F .oS n).2.2=_;unfold br;dsimp only;rw[if_pos (.inr (by omega))]) (by decide) (fy _ _ _)
 obtain⟨hlt,rfl,rfl⟩:=gJ
 have hro:¬ (8<=F.b.au.length∨24<=F.b.ag.length):=by omega
 iterate 2 refine af ?_
 refine aB.bU 11 1 [6] [([],false),([],false),([],false),([],false),([],false),([],false),([],false),([],false),([],false),([],false),([6],true)] mixed (by kernel_rfl) (by decide) (by kernel_rfl) rfl (yR _ _ _ _ _) ?_
 refine af ?_
 refine bu.cons 21 rfl rfl rfl (fun _=>(aa.jI (l:=0) (h:=2) (r:=((n.drop 0).take 2).flatMap Di.cE) rfl rfl an dA rfl ⟨_,rfl⟩ (by omega) (by omega) (qy n 0 2))) rfl ?_
 refine bu.cons 22 rfl rfl rfl (fun _=>(Kp (s0 n 0 2 (by omega) (by omega)))) rfl ?_
 refine af ?_
 refine bu.cons 24 rfl rfl rfl (fun _=>(aa.jI (l:=2) (h:=4) (r:=((n.drop 2).take 2).flatMap Di.cE) rfl rfl an dA ⟨_,rfl⟩ ⟨_,rfl⟩ (by omega) (by omega) (qy n 2 2))) rfl ?_
 refine bu.cons 25 rfl rfl rfl (fun _=>(Kp (s0 n 2 2 (by omega) (by omega)))) rfl ?_
 refine af ?_
 refine bu.cons 27 rfl rfl rfl (fun _=>(aa.jI (l:=4) (h:=n.length) (r:=((n.drop 4).take (n.length - 4)).flatMap Di.cE) rfl rfl an dA ⟨_,rfl⟩ rfl (by omega) (by omega) (qy n 4 (n.length - 4)))) rfl ?_
 refine bu.cons 28 rfl rfl rfl (fun _=>(Kp (s0 n 4 (n.length - 4) (by omega) (by omega)))) rfl ?_
 refine bu.cons 29 rfl rfl rfl (fun _=>(aa.Ik (v:= .p (.agg (iu n).cells)) rfl an rfl rfl rfl)) rfl ?_
 refine bu.lay (v0:= .ptr 7 0) 5 6 rfl rfl rfl rfl rfl rfl rfl rfl (fun _=>(aa.aO rfl an rfl)) rfl rfl rfl ?_
 refine bu.nil ?_
 refine Kz (aa.store (H':=[cv F.b F.aP (.raw a m c) 1 2 3 4 5,c5 F.b.au,cU F.b.ag,c7 F.b.aq,bh F.b.plan,bh F.b.b6,.cells ((iu n).cells.map .p) 126]) rfl rfl rfl rfl rfl an rfl rfl) ?_
 iterate 3 refine af ?_
 refine Kc (Kl (.p (.agg (iu n).cells))) ?_
 refine Kc (aa.aU rfl an (by decide) rfl rfl rfl) ?_
 iterate 2 refine af ?_
 refine Kc (aa.aU rfl an (by decide) rfl rfl rfl) ?_
 refine Kc (Kp (EJ [iu n] [bW 0 1] Kn Kn)) ?_
 iterate 10 refine af ?_
 refine aj.cg 40 (b:=(decide ((shr [iu n] [bW 0 1]).2=0))) (jS (shr [iu n] [bW 0 1]).2) (nE (shr [iu n] [bW 0 1]).2) rfl rfl rfl rfl rfl rfl rfl an (fun he=> ?_) (fun he=> ?_)
 ·have hne:(shr [iu n] [bW 0 1]).2≠0:=Zh he
  exact dR (e:=(shr [iu n] [bW 0 1]).2) (by show(br F .oS n).2.2=_;unfold br;dsimp only;rw[if_neg hro,if_pos hne]) hne (⟨⟨_,rfl,rfl⟩,⟨ZS rfl,by intro j y h1 h2 h3;obtain rfl | rfl | rfl | rfl | rfl:j=1∨j=2∨j=3∨j=4∨j=5:=(by omega);all_goals first | exact .inl (Zw (show some ai.dead=some y from h3)).symm | exact .inr h3⟩⟩)
 have hz:¬ (shr [iu n] [bW 0 1]).2≠0:=fun h=>h (Zf he)
 iterate 2 refine af ?_
 refine aB.freeze 6 rfl rfl ?_
 refine aB.to (To.cut (H:=mX F.b F.aP (.raw a m c)) (ext:=[.dead,.cells [.p (.int .i64 (shr [iu n] [bW 0 1]).1.1),.p (.int .i64 (shr [iu n] [bW 0 1]).1.2)] 24]) (T2:=[(0,.ptr 0 0),(5,.p (.ip (iu n).cells 0))]) (Ug _ _ _ _ _) (Zg _) KS rfl) ?_
 iterate 2 refine af ?_
 refine aj.fe 42 (ya F.b F.aP a m c 0 0) rfl rfl rfl rfl rfl rfl rfl an (fun y H2 gJ=> ?_) (fun v H2 gJ=> ?_)
 ·exact absurd hlt gJ.1
 obtain⟨_,rfl,rfl⟩:=gJ
 iterate 3 refine af ?_
 refine aB.bU 24 2 [0,1,5,7,8] [([],false),([],false),([],false),([],false),([],false),([],false),([],false),([0],false),([],false),([],false),([7,1],true),([],false),([],false),([],false),([],false),([0],false),([],false),([],false),([8,5],true),([],false),([],false),([],false),([],false),([0,7],true)] mixed (by kernel_rfl) (by decide) (by kernel_rfl) rfl (by simp[cv,mX,bL,bF,b8,dQ,gL,fq,bA,cP,c5,cU,c7,bh,dn,Di.bB.cells]) ?_
 iterate 3 refine af ?_
 refine bu.cons 46 rfl rfl rfl (fun _=>(aa.nilCheck rfl rfl)) rfl ?_
 iterate 3 refine af ?_
 refine bu.cons 50 rfl rfl rfl (fun _=>(Kl (aV 1 (F.b.au).length))) (cP Kn) ?_
 refine bu.cons 51 rfl rfl rfl (fun _=>(Kl (.p (.agg (iu n).cells)))) rfl ?_
 refine bu.cons 52 rfl rfl rfl (fun _=>(aa.aU rfl an (by decide) rfl rfl rfl)) rfl ?_
 refine bu.JD (blk:= .row (((F.b.au).flatMap Ck.Sk.cells).map .p++((iu n).cells).map .p) 126) (v0:= .row 9 _) 53 7 1 rfl rfl rfl rfl rfl rfl rfl rfl rfl rfl (fun _=>(aa.pZ (i:=1) (len:=(F.b.au).length) (cs:=((F.b.au).flatMap Ck.Sk.cells).map .p) (ys:=((iu n).cells).map .p) (n:=1) rfl rfl rfl an an rfl (by rw[Zq,AF.ct (c:=6) (fun _=>rfl)];rfl) rfl (by decide) rfl an (by decide) (by show(2*(_+1)+192)*48<=281474976710656;omega))) rfl rfl (by show ai.row (bn _ (_++_)) _=_;rw[bD,aY,aY]) ?_
 refine af ?_
 refine bu.cons 55 rfl rfl rfl (fun _=>(aa.nilCheck rfl rfl)) rfl ?_
 iterate 2 refine af ?_
 refine bu.cons 58 rfl rfl rfl (fun _=>(Kl (aV 5 (F.b.b6).length))) (cP Kn) ?_
 refine af ?_
 refine bu.cons 60 rfl rfl rfl (fun _=>(aa.aU rfl an (by decide) rfl rfl rfl)) rfl ?_
 refine bu.JD (blk:= .row (((F.b.b6).flatMap Di.cE).map .p++(Di.cE (F.b.ag.length:Int)).map .p) 3) (v0:= .row 9 _) 61 8 5 rfl rfl rfl rfl rfl rfl rfl rfl rfl rfl (fun _=>(aa.pZ (i:=5) (len:=(F.b.b6).length) (cs:=((F.b.b6).flatMap Di.cE).map .p) (ys:=(Di.cE (F.b.ag.length:Int)).map .p) (n:=1) rfl rfl rfl an an rfl (by rw[Zq,AF.ct (c:=1) (fun _=>rfl)];rfl) rfl (by decide) rfl an (by decide) (by show(2*(_+1)+192)*8<=281474976710656;omega))) rfl rfl (by show ai.row (bn _ (_++_)) _=_;rw[bD,aY,aY]) ?_
 refine bu.cons 62 rfl rfl rfl (fun _=>(aa.nilCheck rfl rfl)) rfl ?_
 iterate 3 refine af ?_
 refine bu.put (blk:= .cells ([.row 7 (F.b.au.length+1),aV 6 (F.b.dZ ⟨0,0⟩).ag.length,aV 3 (F.b.dZ ⟨0,0⟩).aq.length,aV 4 (F.b.dZ ⟨0,0⟩).plan.length,.p (.int .i64 ((F.b.dZ ⟨0,0⟩).bad:Int)),.p (.int .i64 ((F.b.dZ ⟨0,0⟩).good:Int)),aV 5 F.b.b6.length]++F.aP.cells.map .p++[.raw a m c,.p (.bool true)]) 63) 0 rfl rfl rfl rfl (fun _=>(aa.store rfl rfl rfl rfl rfl an rfl rfl)) rfl (by simp[bL,bF,b8,dQ,gL,cP,Di.bB.cells,aX,sg,uS]) ?_
 refine bu.nil ?_
 iterate 7 refine af ?_
 refine Kc (aa.aD rfl rfl lA) ?_
 iterate 5 refine af ?_
 refine Kc (Kl (.row 7 (F.b.au.length+1))) ?_
 refine af ?_
 refine Kc (aa.iC (m:=(F.b.au.length:Int)) rfl rfl rfl ((aH ?_).trans ?_)) ?_
 ·omega
 ·omega
 refine Kc (aa.aD rfl rfl jV) ?_
 refine Kc (aa.aD rfl rfl lA) ?_
 refine af ?_
 refine Kc (aa.aD rfl rfl jV) ?_
 refine Kc (aa.aU rfl an (by decide) rfl rfl rfl) ?_
 refine Kc (Kp (c8 [.str (Vb.t .oS),.num (F.b.au.length:Int),.str kz,.num (F.b.ag.length:Int)] Kn Kn (fu (by decide) (eD (by omega) (fu (by decide) (eD (by omega) fS)))))) ?_
 iterate 3 refine af ?_
 refine iB.one rfl rfl (wj (F2:={F with b:={F.b.dZ ⟨0,0⟩ with au:=F.b.au++[iu n],b6:=F.b.b6++[(F.b.ag.length:Int)]}}) (r:=aS (Vb.t .oS) [(F.b.au.length:Int)]++32::aS kz [(F.b.ag.length:Int)]) (by unfold br;dsimp only;rw[if_neg hro,if_neg hz]) (by simp[c4,aS,jq,iM.w]) ?_)
 exact⟨⟨7,6,3,4,8,by decide,congrArg some (flS (F.b.dZ ⟨0,0⟩) F.aP _ (iu n) (F.b.ag.length:Int) 7 6 3 4 8),congrArg some (LA _ _),rfl,rfl,rfl,congrArg some (zQ _ _)⟩,⟨ZS rfl,by intro j y h1 h2 h3;obtain rfl | rfl | rfl | rfl | rfl:j=1∨j=2∨j=3∨j=4∨j=5:=(by omega);all_goals first | exact .inl (Zw (show some ai.dead=some y from h3)).symm | exact .inr h3⟩⟩
theorem pF{n x m:Nat}(h:x<2^n):x&&& m=x&&& (m%2^n):=by
 apply GD
 intro i
 rw[Gw,Gw,Nat.testBit_mod_two_pow]
 by_cases hi:i<n
 ·simp[hi]
 ·rw[Tf (ZM h (Zy (by omega) (by omega)))]
  rfl
theorem o5(y M:Nat){a m:Nat}(ha:a<2^8)(hm:m<2^8):(2^8*y+a)&&& (2^8*M+m)=2^8*(y&&& M)+(a&&& m):=by
 apply GD
 intro i
 rw[Gw,TK _ ha,TK _ hm,TK _ (Nat.lt_of_le_of_lt Nat.and_le_left ha)]
 by_cases hi:i<8
 ·simp[hi]
 ·simp[hi]
theorem aaI:((List.range 256).all fun t=>decide (t&&& 85=(t%128)&&& 85)&&decide (t&&& 51=(t%64)&&& 51)&&decide (t&&& 15=t%16))=true:=by kernel_rfl
theorem zo{t:Nat}(h:t<256):t&&& 85=(t%128)&&& 85∧t&&& 51=(t%64)&&& 51∧t&&& 15=t%16:=by
 have:=ZA.1 aaI t (ZY.2 h)
 simp only[Zo,Zs] at this
 omega
def s1(a:Nat):Nat:=(a / 2&&& 85)+(a&&& 85)
def s2(a:Nat):Nat:=(a / 4&&& 51)+(a&&& 51)
def s3(a:Nat):Nat:=(a / 16+a)&&& 15
theorem st1(y M:Nat){a:Nat}(ha:a<256):((256*y+a) / 2&&& (256*M+85))+((256*y+a)&&& (256*M+85))=256*((y / 2&&& M)+(y&&& M))+s1 a:=by
 have e:(256*y+a) / 2=256*(y / 2)+(128*(y%2)+a / 2):=by omega
 have h1:128*(y%2)+a / 2<2^8:=by omega
 have h2:=(zo (t:=128*(y%2)+a / 2) (by omega)).1
 rw[show(128*(y%2)+a / 2)%128=a / 2 by omega] at h2
 rw[e]
 have k1:=o5 (y / 2) M h1 (show 85<2^8 by decide)
 have k2:=o5 y M (show a<2^8 by omega) (show 85<2^8 by decide)
 rw[h2] at k1
 rw[show(2:Nat)^8=256 by decide] at k1 k2
 rw[k1,k2]
 unfold s1
 omega
theorem st2(y M:Nat){a:Nat}(ha:a<256):((256*y+a) / 4&&& (256*M+51))+((256*y+a)&&& (256*M+51))=256*((y / 4&&& M)+(y&&& M))+s2 a:=by
 have e:(256*y+a) / 4=256*(y / 4)+(64*(y%4)+a / 4):=by omega
 have h1:64*(y%4)+a / 4<2^8:=by omega
 have h2:=(zo (t:=64*(y%4)+a / 4) (by omega)).2.1
 rw[show(64*(y%4)+a / 4)%64=a / 4 by omega] at h2
 rw[e]
 have k1:=o5 (y / 4) M h1 (show 51<2^8 by decide)
 have k2:=o5 y M (show a<2^8 by omega) (show 51<2^8 by decide)
 rw[h2] at k1
 rw[show(2:Nat)^8=256 by decide] at k1 k2
 rw[k1,k2]
 unfold s2
 omega
theorem st3(y M:Nat){a:Nat}(ha:a<=68)(hy:y%16<=4):((256*y+a) / 16+(256*y+a))&&& (256*M+15)=256*((y / 16+y)&&& M)+s3 a:=by
 have e:(256*y+a) / 16+(256*y+a)=256*(y / 16+y)+(16*(y%16)+a / 16+a):=by omega
 have h1:16*(y%16)+a / 16+a<2^8:=by omega
 have h2:=(zo (t:=16*(y%16)+a / 16+a) (by omega)).2.2
 have h3:=(zo (t:=a / 16+a) (by omega)).2.2
 rw[e]
 have k1:=o5 (y / 16+y) M h1 (show 15<2^8 by decide)
 rw[h2] at k1
 rw[show(2:Nat)^8=256 by decide] at k1
 rw[k1]
 unfold s3
 rw[h3]
 omega
def pop8(a:Nat):Nat:=((List.range 8).filter a.testBit).length
theorem Lo:((List.range 256).all fun a=>decide (s1 a<256)&&decide (s2 (s1 a)<=68)&&decide (s2 (s1 a)%16<=4)&&decide (s3 (s2 (s1 a))=pop8 a)&&decide (pop8 a<=8))=true:=by kernel_rfl
theorem byte_at{a:Nat}(h:a<256):s1 a<256∧s2 (s1 a)<=68∧s2 (s1 a)%16<=4∧s3 (s2 (s1 a))=pop8 a∧pop8 a<=8:=by
 have:=ZA.1 Lo a (ZY.2 h)
 simp only[Zo,Zs] at this
 omega
def BM(x:Nat):Nat:=(x / 2^1&&& 6148914691236517205)+(x&&& 6148914691236517205)
def D6(x:Nat):Nat:=(BM x / 2^2&&& 3689348814741910323)+(BM x&&& 3689348814741910323)
def GJ(x:Nat):Nat:=D6 x / 2^4+D6 x&&& 1085102592571150095
def D1(x:Nat):Nat:=GJ x+GJ x / 2^8
def EC(x:Nat):Nat:=D1 x+D1 x / 2^16
def GA(x:Nat):Nat:=EC x+EC x / 2^32
def fC(a b c:Nat):Nat:=256*(256*c+b)+a
theorem Ea{a b c:Nat}(ha:a<256)(hb:b<256)(hc:c<256):BM (fC a b c)=fC (s1 a) (s1 b) (s1 c):=by
 have hx:fC a b c<2^24:=by unfold fC;omega
 have hx2:fC a b c / 2^1<2^24:=by omega
 unfold BM
 rw[pF hx,pF hx2,show(6148914691236517205:Nat)%2^24=256*(256*85+85)+85 by decide,show(2:Nat)^1=2 by decide]
 unfold fC
 rw[st1 _ _ ha,st1 _ _ hb]
 rfl
theorem EK{a b c:Nat}(ha:a<256)(hb:b<256)(hc:c<256):D6 (fC a b c)=fC (s2 (s1 a)) (s2 (s1 b)) (s2 (s1 c)):=by
 have ga:=(byte_at ha).1
 have gb:=(byte_at hb).1
 have gc:=(byte_at hc).1
 have hx:fC (s1 a) (s1 b) (s1 c)<2^24:=by unfold fC;omega
 have hx2:fC (s1 a) (s1 b) (s1 c) / 2^2<2^24:=by omega
 unfold D6
 rw[Ea ha hb hc,pF hx,pF hx2,show(3689348814741910323:Nat)%2^24=256*(256*51+51)+51 by decide,show(2:Nat)^2=4 by decide]
 unfold fC
 rw[st2 _ _ ga,st2 _ _ gb]
 rfl
theorem NN{a b c:Nat}(ha:a<256)(hb:b<256)(hc:c<256):GJ (fC a b c)=fC (pop8 a) (pop8 b) (pop8 c):=by
 obtain⟨_,ga,ga2,ga3,_⟩:=byte_at ha
 obtain⟨_,gb,gb2,gb3,_⟩:=byte_at hb
 obtain⟨_,gc,gc2,gc3,_⟩:=byte_at hc
 have hx:fC (s2 (s1 a)) (s2 (s1 b)) (s2 (s1 c)) / 2^4+fC (s2 (s1 a)) (s2 (s1 b)) (s2 (s1 c))<2^24:=by unfold fC;omega
 unfold GJ
 rw[EK ha hb hc,pF hx,show(1085102592571150095:Nat)%2^24=256*(256*15+15)+15 by decide,show(2:Nat)^4=16 by decide]
 unfold fC
 rw[st3 _ _ ga (by omega),st3 _ _ gb gc2,ga3,gb3]
 rw[<- gc3]
 rfl
theorem Ut{a b c:Nat}(ha:a<256)(hb:b<256)(hc:c<256):GA (fC a b c)&&& 127=pop8 a+pop8 b+pop8 c∧BM (fC a b c)<2^24∧D6 (fC a b c)<2^24∧GJ (fC a b c)<2^24∧D1 (fC a b c)<2^25∧EC (fC a b c)<2^25∧GA (fC a b c)<2^25:=by
 obtain⟨f1,f2,_,_,pa⟩:=byte_at ha
 obtain⟨g1,g2,_,_,pb⟩:=byte_at hb
 obtain⟨h1,h2,_,_,pc⟩:=byte_at hc
 have e1:=Ea ha hb hc
 have e2:=EK ha hb hc
 have e3:=NN ha hb hc
 have e4:D1 (fC a b c)=256*(256*pop8 c+pop8 b+pop8 c)+(pop8 a+pop8 b):=by
  unfold D1
  rw[e3]
  unfold fC
  omega
 have e5:EC (fC a b c)=256*(256*pop8 c+pop8 b+pop8 c)+(pop8 a+pop8 b+pop8 c):=by
  unfold EC
  rw[e4]
  omega
 have e6:GA (fC a b c)=256*(256*pop8 c+pop8 b+pop8 c)+(pop8 a+pop8 b+pop8 c):=by
  unfold GA
  rw[e5]
  omega
 refine⟨?_,?_,?_,?_,?_,?_,?_⟩
 ·have:=Nat.and_two_pow_sub_one_eq_mod (GA (fC a b c)) 7
  rw[show(2:Nat)^7 - 1=127 by decide] at this
  rw[this,e6]
  omega
 ·rw[e1];unfold fC;omega
 ·rw[e2];unfold fC;omega
 ·rw[e3];unfold fC;omega
 ·rw[e4];omega
 ·rw[e5];omega
 ·rw[e6];omega
theorem Lw(x:Nat):((List.range 24).filter x.testBit).length=pop8 (x%256)+pop8 (x / 256%256)+pop8 (x / 65536%256):=by
 have e:∀(k i:Nat),i<8->(x / 2^k%256).testBit i=x.testBit (k+i):=fun k i hi=>by
  rw[show(256:Nat)=2^8 by decide,Nat.testBit_mod_two_pow,Nat.testBit_div_two_pow]
  simp[hi,UG]
 have h:∀ k,(((List.range 8).map (k+ ·)).filter x.testBit).length=pop8 (x / 2^k%256):=fun k=>by
  unfold pop8
  rw[List.filter_map,Zq]
  congr 1
  apply List.filter_congr
  intro i hi
  exact(e k i (ZY.1 hi)).symm
 have e3:List.range 24=(List.range 8).map (0+ ·)++(List.range 8).map (8+ ·)++(List.range 8).map (16+ ·):=by decide
 rw[e3,List.filter_append,List.filter_append,Zb,Zb,h,h,h]
 simp
theorem Vz{x:Nat}(h:x<2^24):GA x&&& 127=((List.range 24).filter x.testBit).length∧BM x<2^24∧D6 x<2^24∧GJ x<2^24∧D1 x<2^25∧EC x<2^25∧GA x<2^25:=by
 have ex:x=fC (x%256) (x / 256%256) (x / 65536%256):=by unfold fC;omega
 have hk:=Ut (a:=x%256) (b:=x / 256%256) (c:=x / 65536%256) (by omega) (by omega) (by omega)
 rw[<- ex] at hk
 rw[Lw]
 exact hk
theorem ocS{x:Nat}(h:x<2^24):GA x&&& 127=(fB x).length:=by
 rw[(Vz h).1]
 unfold fB
 rw[Zq]
theorem Rd(n k:Nat):decide (((n / 2^k&&& 1:Nat):Int)=0)= !n.testBit k:=by
 rw[Nat.testBit_eq_decide_div_mod_eq,Nat.and_one_is_mod]
 by_cases h:n / 2^k%2=1
 ·rw[h];rfl
 ·have h0:n / 2^k%2=0:=by omega
  rw[h0];rfl
theorem zi{n k:Nat}(h:n.testBit k=false):n||| 1*2^k=n+2^k:=by
 rw[ZN,<- rS h]
theorem Og(x:Nat)(hx:x<2^24):Pure Tryz.prog 196 [.int .u64 (x:Int)] (.int .i64 (((fB x).length:Nat):Int)):=by
 have mC:(2:Nat)^24=16777216:=by decide
 have h25:(2:Nat)^25=33554432:=by decide
 have hz:=ocS hx
 obtain⟨_,h1,h2,h3,h4,h5,h6⟩:=Vz hx
 refine Kf (N:=35) Tryz.func196 ?_
 iterate 7 refine af ?_
 refine Kc (aa.vQ x 1 rfl rfl rfl (by first | decide | (show _<=(9223372036854775807:Int);omega) | (show _<=(4294967295:Int);omega) | (show _<=(18446744073709551615:Int);omega) | (show _<=(255:Int);omega) | (show _<=(65535:Int);omega))) ?_
 refine Kc (aa.nh (x / 2^1) 6148914691236517205 rfl rfl rfl (by first | (show _<=(9223372036854775807:Int);omega) | (show _<=(4294967295:Int);omega) | (show _<=(18446744073709551615:Int);omega) | (show _<=(255:Int);omega) | (show _<=(65535:Int);omega)) (by first | decide | (show _<=(9223372036854775807:Int);omega) | (show _<=(4294967295:Int);omega) | (show _<=(18446744073709551615:Int);omega) | (show _<=(255:Int);omega) | (show _<=(65535:Int);omega))) ?_
 refine af ?_
 refine Kc (aa.nh x 6148914691236517205 rfl rfl rfl (by first | (show _<=(9223372036854775807:Int);omega) | (show _<=(4294967295:Int);omega) | (show _<=(18446744073709551615:Int);omega) | (show _<=(255:Int);omega) | (show _<=(65535:Int);omega)) (by first | decide | (show _<=(9223372036854775807:Int);omega) | (show _<=(4294967295:Int);omega) | (show _<=(18446744073709551615:Int);omega) | (show _<=(255:Int);omega) | (show _<=(65535:Int);omega))) ?_
 refine Kc (aa.add (m:=((BM x:Nat):Int)) rfl rfl rfl ((mT ?_).trans ?_)) ?_
 ·have e:BM x=(x / 2^1&&& 6148914691236517205)+(x&&& 6148914691236517205):=rfl;omega
 ·have e:BM x=(x / 2^1&&& 6148914691236517205)+(x&&& 6148914691236517205):=rfl;omega
 iterate 5 refine af ?_
 refine Kc (aa.vQ (BM x) 2 rfl rfl rfl (by first | decide | (show _<=(9223372036854775807:Int);omega) | (show _<=(4294967295:Int);omega) | (show _<=(18446744073709551615:Int);omega) | (show _<=(255:Int);omega) | (show _<=(65535:Int);omega))) ?_
 refine Kc (aa.nh (BM x / 2^2) 3689348814741910323 rfl rfl rfl (by first | (show _<=(9223372036854775807:Int);omega) | (show _<=(4294967295:Int);omega) | (show _<=(18446744073709551615:Int);omega) | (show _<=(255:Int);omega) | (show _<=(65535:Int);omega)) (by first | decide | (show _<=(9223372036854775807:Int);omega) | (show _<=(4294967295:Int);omega) | (show _<=(18446744073709551615:Int);omega) | (show _<=(255:Int);omega) | (show _<=(65535:Int);omega))) ?_
 refine af ?_
 refine Kc (aa.nh (BM x) 3689348814741910323 rfl rfl rfl (by first | (show _<=(9223372036854775807:Int);omega) | (show _<=(4294967295:Int);omega) | (show _<=(18446744073709551615:Int);omega) | (show _<=(255:Int);omega) | (show _<=(65535:Int);omega)) (by first | decide | (show _<=(9223372036854775807:Int);omega) | (show _<=(4294967295:Int);omega) | (show _<=(18446744073709551615:Int);omega) | (show _<=(255:Int);omega) | (show _<=(65535:Int);omega))) ?_
 refine Kc (aa.add (m:=((D6 x:Nat):Int)) rfl rfl rfl ((mT ?_).trans ?_)) ?_
 ·have e:D6 x=(BM x / 2^2&&& 3689348814741910323)+(BM x&&& 3689348814741910323):=rfl;omega
 ·have e:D6 x=(BM x / 2^2&&& 3689348814741910323)+(BM x&&& 3689348814741910323):=rfl;omega
 iterate 5 refine af ?_
 refine Kc (aa.vQ (D6 x) 4 rfl rfl rfl (by first | decide | (show _<=(9223372036854775807:Int);omega) | (show _<=(4294967295:Int);omega) | (show _<=(18446744073709551615:Int);omega) | (show _<=(255:Int);omega) | (show _<=(65535:Int);omega))) ?_
 refine af ?_
 refine Kc (aa.add (m:=((D6 x / 2^4+D6 x:Nat):Int)) rfl rfl rfl ((mT ?_).trans ?_)) ?_
 ·omega
 ·omega
 refine Kc (aa.nh (D6 x / 2^4+D6 x) 1085102592571150095 rfl rfl rfl (by first | (show _<=(9223372036854775807:Int);omega) | (show _<=(4294967295:Int);omega) | (show _<=(18446744073709551615:Int);omega) | (show _<=(255:Int);omega) | (show _<=(65535:Int);omega)) (by first | decide | (show _<=(9223372036854775807:Int);omega) | (show _<=(4294967295:Int);omega) | (show _<=(18446744073709551615:Int);omega) | (show _<=(255:Int);omega) | (show _<=(65535:Int);omega))) ?_
 iterate 3 refine af ?_
 refine aB.norm [] [(0,.p (.int .u64 ((GJ x:Nat):Int)))] [] rfl KS rfl ?_
 iterate 3 refine af ?_
 refine Kc (aa.vQ (GJ x) 8 rfl rfl rfl (by first | decide | (show _<=(9223372036854775807:Int);omega) | (show _<=(4294967295:Int);omega) | (show _<=(18446744073709551615:Int);omega) | (show _<=(255:Int);omega) | (show _<=(65535:Int);omega))) ?_
 refine Kc (aa.add (m:=((D1 x:Nat):Int)) rfl rfl rfl ((mT ?_).trans ?_)) ?_
 ·have e:D1 x=GJ x+GJ x / 2^8:=rfl;omega
 ·have e:D1 x=GJ x+GJ x / 2^8:=rfl;omega
 iterate 6 refine af ?_
 refine Kc (aa.vQ (D1 x) 16 rfl rfl rfl (by first | decide | (show _<=(9223372036854775807:Int);omega) | (show _<=(4294967295:Int);omega) | (show _<=(18446744073709551615:Int);omega) | (show _<=(255:Int);omega) | (show _<=(65535:Int);omega))) ?_
 refine Kc (aa.add (m:=((EC x:Nat):Int)) rfl rfl rfl ((mT ?_).trans ?_)) ?_
 ·have e:EC x=D1 x+D1 x / 2^16:=rfl;omega
 ·have e:EC x=D1 x+D1 x / 2^16:=rfl;omega
 iterate 6 refine af ?_
 refine Kc (aa.vQ (EC x) 32 rfl rfl rfl (by first | decide | (show _<=(9223372036854775807:Int);omega) | (show _<=(4294967295:Int);omega) | (show _<=(18446744073709551615:Int);omega) | (show _<=(255:Int);omega) | (show _<=(65535:Int);omega))) ?_
 refine Kc (aa.add (m:=((GA x:Nat):Int)) rfl rfl rfl ((mT ?_).trans ?_)) ?_
 ·have e:GA x=EC x+EC x / 2^32:=rfl;omega
 ·have e:GA x=EC x+EC x / 2^32:=rfl;omega
 iterate 5 refine af ?_
 refine Kc (aa.di rfl rfl (by rw[Xx];rfl) yj (aH ?_)) ?_
 ·omega
 refine Kc (aa.nh (GA x) 127 rfl rfl rfl (by first | (show _<=(9223372036854775807:Int);omega) | (show _<=(4294967295:Int);omega) | (show _<=(18446744073709551615:Int);omega) | (show _<=(255:Int);omega) | (show _<=(65535:Int);omega)) (by first | decide | (show _<=(9223372036854775807:Int);omega) | (show _<=(4294967295:Int);omega) | (show _<=(18446744073709551615:Int);omega) | (show _<=(255:Int);omega) | (show _<=(65535:Int);omega))) ?_
 iterate 3 refine af ?_
 refine Fin.gw rfl rfl ?_
 rw[hz]
theorem Eg(x:Nat)(hx:x<2^24):Pure Tryz.prog 157 [.int .u64 (x:Int)] (.int .i64 (((fB x).length:Nat):Int)):=by
 refine Kf (N:=8) Tryz.func157 ?_
 iterate 5 refine af ?_
 refine Ki (fun hc0=> ?_) fun hc0=> ?_
 ·cases hc0
 ·iterate 4 refine af ?_
  refine Kc (Kp (Og x hx)) ?_
  exact kL
theorem KB(F:cK)(n:List Int)(a:Option Addr)(m c k:Nat)(hF:mo F)(hk:nn n 0=((k:Nat):Int)):av Tryz.prog 96 [.ptr 0 0,.p (.str (sB [98,97,100])),.ptr 0 4,.p (.int .i64 ((k:Nat):Int))] (mX F.b F.aP (.raw a m c)) (UR F .bad n (.raw a m c)) (Wg F .bad n (.raw a m c)):=by
 have js:=Rx.cx hF.b.cd
 have mC:(2:Nat)^24=16777216:=by decide
 have hpw:=Zy (show 0<2 by omega) js
 have hb0:=hF.b.bad
 have S8:=hF.b.good
 have hle:=Nat.div_le_self F.b.bad (2^k)
 refine av.start (N:=66) Tryz.func96 rfl rfl Kn ?_
 iterate 8 refine af ?_
 refine Kc (aa.gr rfl rfl rfl rfl an (tf F.b F.aP a m c ((k:Nat):Int))) ?_
 refine aj.cg 14 (b:=_) (dh _ 2) (de _ 2) rfl rfl rfl rfl rfl rfl rfl an (fun hb=> ?_) (fun hb=> ?_)
 ·have IE:fD F.b F.b.bad (nn n 0)=2:=by unfold fD;rw[hk,if_pos (by have h:=Zh hb;omega)]
  exact dR (e:=2) (by show(br F .bad n).2.2=_;unfold br;dsimp only;rw[if_pos (by rw[IE];decide),IE]) (by decide) (fy _ _ _)
 have T8:k<F.b.ag.length:=by have h:=Zf hb;omega
 have hp0:=LR (show k<=24 by omega)
 iterate 5 refine af ?_
 refine Kc (Kl (.p (.int .i64 ((F.b.bad:Nat):Int)))) ?_
 refine af ?_
 refine Kc (aa.vQ F.b.bad k rfl rfl rfl (by first | decide | (show _<=(9223372036854775807:Int);omega) | (show _<=(4294967295:Int);omega) | (show _<=(18446744073709551615:Int);omega) | (show _<=(255:Int);omega) | (show _<=(65535:Int);omega))) ?_
 refine Kc (aa.nh (F.b.bad / 2^k) 1 rfl rfl rfl (by first | (show _<=(9223372036854775807:Int);omega) | (show _<=(4294967295:Int);omega) | (show _<=(18446744073709551615:Int);omega) | (show _<=(255:Int);omega) | (show _<=(65535:Int);omega)) (by first | decide | (show _<=(9223372036854775807:Int);omega) | (show _<=(4294967295:Int);omega) | (show _<=(18446744073709551615:Int);omega) | (show _<=(255:Int);omega) | (show _<=(65535:Int);omega))) ?_
 refine af ?_
 rw[Rd]
 refine aj.cg 22 (b:=(!F.b.bad.testBit k)) (dh (!F.b.bad.testBit k) 5) (de (!F.b.bad.testBit k) 5) rfl rfl rfl rfl rfl rfl rfl an (fun iq=> ?_) (fun iq=> ?_)
 ·have Bg:F.b.bad.testBit k=true:=by simpa using iq
  have Ip:fD F.b F.b.bad (nn n 0)=5:=by unfold fD;rw[hk,if_neg (by omega),BN,Bg];rfl
  exact dR (e:=5) (by show(br F .bad n).2.2=_;unfold br;dsimp only;rw[if_pos (by rw[Ip];decide),Ip]) (by decide) (fy _ _ _)
 have Bg:F.b.bad.testBit k=false:=by simpa using iq
 have hce:fD F.b F.b.bad (nn n 0)=0:=by unfold fD;rw[hk,if_neg (by omega),BN,Bg];rfl
 have XD:¬ fD F.b F.b.bad (nn n 0)≠0:=fun h=>h hce
 have hN:F.b.bad+pow2 (nn n 0)=(F.b.bad||| 1*2^k):=by unfold pow2;rw[hk,BN];exact(zi Bg).symm
 have hkp:=Q3 (show 1<2 by omega) T8
 have hBN:(F.b.bad||| 1*2^k)<16777216:=by rw[zi Bg];have h5:2^k+2^k<=2^F.b.ag.length:=(by have:=Zy (show 0<2 by omega) (show k+1<=F.b.ag.length by omega);rw[UM] at this;omega);have h6:=My (x:=F.b.bad) (y:=2^k) (n:=F.b.ag.length) (by omega) hkp;rw[<- rS Bg] at h6;omega
 iterate 2 refine af ?_
 refine aB.az 7 mixed (by kernel_rfl) (by decide) ?_
 refine af ?_
 refine Kq (aa.nilCheck rfl rfl) ?_
 refine Kq (Kl (.p (.int .i64 ((F.b.bad:Nat):Int)))) ?_
 refine af ?_
 refine Kq (aa.qg 1 k rfl rfl rfl (by show _<=(64:Nat);omega) (by show _<=(9223372036854775807:Int);rw[ZN];omega)) ?_
 refine Kq (aa.UI F.b.bad (1*2^k) rfl rfl rfl (by show _<=(9223372036854775807:Int);omega) (by show _<=(9223372036854775807:Int);rw[ZN];omega) (by show _<=(9223372036854775807:Int);omega)) ?_
 refine Kq (aa.nilCheck rfl rfl) ?_
 refine ay.nil ?_
 refine Kz (aa.store (H':=[cv {F.b with bad:=(F.b.bad||| 1*2^k)} F.aP (.raw a m c) 1 2 3 4 5,c5 F.b.au,cU F.b.ag,c7 F.b.aq,bh F.b.plan,bh F.b.b6]) rfl rfl rfl rfl rfl an rfl rfl) ?_
 iterate 2 refine af ?_
 refine aB.az 24 mixed (by kernel_rfl) (by decide) ?_
 refine af ?_
 refine Kq (aa.nilCheck rfl rfl) ?_
 iterate 3 refine af ?_
 refine Kq (Kl (aV 2 F.b.ag.length)) ?_
 refine af ?_
 refine Kq (aa.nilCheck rfl rfl) ?_
 iterate 3 refine af ?_
 refine Kq (Kl (.p (.int .i64 (((F.b.bad||| 1*2^k):Nat):Int)))) ?_
 refine af ?_
 refine Kq (aa.nilCheck rfl rfl) ?_
 iterate 3 refine af ?_
 refine Kq (Kl (.p (.int .i64 ((F.b.good:Nat):Int)))) ?_
 refine Kq (aa.xH 3 (Rx.kD F.b.ag (((F.b.bad||| 1*2^k):Nat):Int) ((F.b.good:Nat):Int) (Zz js (by decide))) rfl rfl rfl rfl rfl (V8 (i:=2) (xs:=[.int .i64 (((F.b.bad||| 1*2^k):Nat):Int),.int .i64 ((F.b.good:Nat):Int)]) rfl) an) ?_
 refine af ?_
 refine Kq (aa.extract rfl rfl rfl) ?_
 refine Kq (aa.extract rfl rfl rfl) ?_
 iterate 2 refine af ?_
 refine ay.nil ?_
 iterate 6 refine af ?_
 refine aj.cg 55 (b:=_) (dh _ (Rx.fW F.b.ag (((F.b.bad||| 1*2^k):Nat):Int) ((F.b.good:Nat):Int))) (de _ (Rx.fW F.b.ag (((F.b.bad||| 1*2^k):Nat):Int) ((F.b.good:Nat):Int))) rfl rfl rfl rfl rfl rfl rfl an (fun SX=> ?_) (fun SX=> ?_)
 ·have SE:(Rx.fW F.b.ag (((F.b.bad||| 1*2^k):Nat):Int) ((F.b.good:Nat):Int))=6:=by simpa using SX
  exact dR (e:=(Rx.fW F.b.ag (((F.b.bad||| 1*2^k):Nat):Int) ((F.b.good:Nat):Int))) (by rw[SE];show(br F .bad n).2.2=_;unfold br;dsimp only;rw[if_neg XD,hN,if_pos SE]) (by rw[SE];decide) (⟨⟨_,rfl,rfl⟩,⟨ZS rfl,by intro j y h1 h2 h3;obtain rfl | rfl | rfl | rfl | rfl:j=1∨j=2∨j=3∨j=4∨j=5:=(by omega);all_goals first | exact .inl (Zw (show some ai.dead=some y from h3)).symm | exact .inr h3⟩⟩)
 have hn6:¬ (Rx.fW F.b.ag (((F.b.bad||| 1*2^k):Nat):Int) ((F.b.good:Nat):Int))=6:=by simpa using SX
 iterate 4 refine af ?_
 refine Kc (aa.aD rfl rfl lA) ?_
 iterate 2 refine af ?_
 refine Kc (Kl (.p (.int .i64 (((F.b.bad||| 1*2^k):Nat):Int)))) ?_
 refine Kc (aa.di rfl rfl (by rw[yj];rfl) zY (mT ?_)) ?_
 ·omega
 refine Kc (Kp (Eg (F.b.bad||| 1*2^k) (by omega))) ?_
 refine Kc (aa.aD rfl rfl jV) ?_
 refine Kc (aa.aU rfl an (by decide) rfl rfl rfl) ?_
 refine Kc (Kp (c8 [.str (Vb.t .bad),.num ((fB (F.b.bad||| 1*2^k)).length:Int)] Kn Kn (fu (by decide) (eD (by have:=gf (F.b.bad||| 1*2^k);omega) fS)))) ?_
 iterate 3 refine af ?_
 refine iB.one rfl rfl (wj (F2:={F with b:={F.b with bad:=(F.b.bad||| 1*2^k)}}) (r:=aS (Vb.t .bad) [((fB (F.b.bad||| 1*2^k)).length:Int)]) (by unfold br;dsimp only;rw[if_neg XD,hN,if_neg hn6]) (by rw[fm];rfl) ?_)
 exact V3
theorem Xa:VC .bad 95:=by
 intro F n a m c hF hl hn
 have js:=Rx.cx hF.b.cd
 have sP:=hF.b.sk
 have qZ:=hF.b.dr
 have q0:0<=nn n 0∧nn n 0<10000000000000:=hn _ (Di.bq 0 (show 0<n.length by rw[hl];decide))
 obtain⟨k,hk⟩:=UZ q0.1
 refine av.start (N:=15) Tryz.func95 rfl rfl Kn ?_
 iterate 5 refine af ?_
 refine aB.az 9 mixed (by kernel_rfl) (by decide) ?_
 iterate 2 refine af ?_
 refine Kq (aa.nilCheck rfl rfl) ?_
 iterate 4 refine af ?_
 refine Kq (aa.aJ (g:=Di.gt 0 n) (k:=0) (Di.aC _) rfl rfl rfl an dA rfl (fun _=>rfl) (by decide) (by rw[hl];decide)) ?_
 refine Kq (aa.load (v:= .p (.int .i64 ((k:Nat):Int))) rfl rfl an (by rw[<- hk];rfl)) ?_
 refine ay.nil ?_
 refine aj.fe 14 (KB F n a m c k hF hk) rfl rfl rfl rfl rfl rfl rfl an (fun y H2 gJ=> ?_) (fun v H2 gJ=> ?_)
 ·exact⟨_,rfl,gJ⟩
 exact Lx
theorem E8(F:cK)(n:List Int)(a:Option Addr)(m c k:Nat)(hF:mo F)(hk:nn n 0=((k:Nat):Int)):av Tryz.prog 96 [.ptr 0 0,.p (.str (sB [103,111,111,100])),.ptr 0 5,.p (.int .i64 ((k:Nat):Int))] (mX F.b F.aP (.raw a m c)) (UR F .good n (.raw a m c)) (Wg F .good n (.raw a m c)):=by
 have js:=Rx.cx hF.b.cd
 have mC:(2:Nat)^24=16777216:=by decide
 have hpw:=Zy (show 0<2 by omega) js
 have hb0:=hF.b.bad
 have S8:=hF.b.good
 have hle:=Nat.div_le_self F.b.good (2^k)
 refine av.start (N:=66) Tryz.func96 rfl rfl Kn ?_
 iterate 8 refine af ?_
 refine Kc (aa.gr rfl rfl rfl rfl an (tf F.b F.aP a m c ((k:Nat):Int))) ?_
 refine aj.cg 14 (b:=_) (dh _ 2) (de _ 2) rfl rfl rfl rfl rfl rfl rfl an (fun hb=> ?_) (fun hb=> ?_)
 ·have IE:fD F.b F.b.good (nn n 0)=2:=by unfold fD;rw[hk,if_pos (by have h:=Zh hb;omega)]
  exact dR (e:=2) (by show(br F .good n).2.2=_;unfold br;dsimp only;rw[if_pos (by rw[IE];decide),IE]) (by decide) (fy _ _ _)
 have T8:k<F.b.ag.length:=by have h:=Zf hb;omega
 have hp0:=LR (show k<=24 by omega)
 iterate 5 refine af ?_
 refine Kc (Kl (.p (.int .i64 ((F.b.good:Nat):Int)))) ?_
 refine af ?_
 refine Kc (aa.vQ F.b.good k rfl rfl rfl (by first | decide | (show _<=(9223372036854775807:Int);omega) | (show _<=(4294967295:Int);omega) | (show _<=(18446744073709551615:Int);omega) | (show _<=(255:Int);omega) | (show _<=(65535:Int);omega))) ?_
 refine Kc (aa.nh (F.b.good / 2^k) 1 rfl rfl rfl (by first | (show _<=(9223372036854775807:Int);omega) | (show _<=(4294967295:Int);omega) | (show _<=(18446744073709551615:Int);omega) | (show _<=(255:Int);omega) | (show _<=(65535:Int);omega)) (by first | decide | (show _<=(9223372036854775807:Int);omega) | (show _<=(4294967295:Int);omega) | (show _<=(18446744073709551615:Int);omega) | (show _<=(255:Int);omega) | (show _<=(65535:Int);omega))) ?_
 refine af ?_
 rw[Rd]
 refine aj.cg 22 (b:=(!F.b.good.testBit k)) (dh (!F.b.good.testBit k) 5) (de (!F.b.good.testBit k) 5) rfl rfl rfl rfl rfl rfl rfl an (fun iq=> ?_) (fun iq=> ?_)
 ·have Bg:F.b.good.testBit k=true:=by simpa using iq
  have Ip:fD F.b F.b.good (nn n 0)=5:=by unfold fD;rw[hk,if_neg (by omega),BN,Bg];rfl
  exact dR (e:=5) (by show(br F .good n).2.2=_;unfold br;dsimp only;rw[if_pos (by rw[Ip];decide),Ip]) (by decide) (fy _ _ _)
 have Bg:F.b.good.testBit k=false:=by simpa using iq
 have hce:fD F.b F.b.good (nn n 0)=0:=by unfold fD;rw[hk,if_neg (by omega),BN,Bg];rfl
 have XD:¬ fD F.b F.b.good (nn n 0)≠0:=fun h=>h hce
 have hN:F.b.good+pow2 (nn n 0)=(F.b.good||| 1*2^k):=by unfold pow2;rw[hk,BN];exact(zi Bg).symm
 have hkp:=Q3 (show 1<2 by omega) T8
 have hBN:(F.b.good||| 1*2^k)<16777216:=by rw[zi Bg];have h5:2^k+2^k<=2^F.b.ag.length:=(by have:=Zy (show 0<2 by omega) (show k+1<=F.b.ag.length by omega);rw[UM] at this;omega);have h6:=My (x:=F.b.good) (y:=2^k) (n:=F.b.ag.length) (by omega) hkp;rw[<- rS Bg] at h6;omega
 iterate 2 refine af ?_
 refine aB.az 7 mixed (by kernel_rfl) (by decide) ?_
 refine af ?_
 refine Kq (aa.nilCheck rfl rfl) ?_
 refine Kq (Kl (.p (.int .i64 ((F.b.good:Nat):Int)))) ?_
 refine af ?_
 refine Kq (aa.qg 1 k rfl rfl rfl (by show _<=(64:Nat);omega) (by show _<=(9223372036854775807:Int);rw[ZN];omega)) ?_
 refine Kq (aa.UI F.b.good (1*2^k) rfl rfl rfl (by show _<=(9223372036854775807:Int);omega) (by show _<=(9223372036854775807:Int);rw[ZN];omega) (by show _<=(9223372036854775807:Int);omega)) ?_
 refine Kq (aa.nilCheck rfl rfl) ?_
 refine ay.nil ?_
 refine Kz (aa.store (H':=[cv {F.b with good:=(F.b.good||| 1*2^k)} F.aP (.raw a m c) 1 2 3 4 5,c5 F.b.au,cU F.b.ag,c7 F.b.aq,bh F.b.plan,bh F.b.b6]) rfl rfl rfl rfl rfl an rfl rfl) ?_
 iterate 2 refine af ?_
 refine aB.az 24 mixed (by kernel_rfl) (by decide) ?_
 refine af ?_
 refine Kq (aa.nilCheck rfl rfl) ?_
 iterate 3 refine af ?_
 refine Kq (Kl (aV 2 F.b.ag.length)) ?_
 refine af ?_
 refine Kq (aa.nilCheck rfl rfl) ?_
 iterate 3 refine af ?_
 refine Kq (Kl (.p (.int .i64 ((F.b.bad:Nat):Int)))) ?_
 refine af ?_
 refine Kq (aa.nilCheck rfl rfl) ?_
 iterate 3 refine af ?_
 refine Kq (Kl (.p (.int .i64 (((F.b.good||| 1*2^k):Nat):Int)))) ?_
 refine Kq (aa.xH 3 (Rx.kD F.b.ag ((F.b.bad:Nat):Int) (((F.b.good||| 1*2^k):Nat):Int) (Zz js (by decide))) rfl rfl rfl rfl rfl (V8 (i:=2) (xs:=[.int .i64 ((F.b.bad:Nat):Int),.int .i64 (((F.b.good||| 1*2^k):Nat):Int)]) rfl) an) ?_
 refine af ?_
 refine Kq (aa.extract rfl rfl rfl) ?_
 refine Kq (aa.extract rfl rfl rfl) ?_
 iterate 2 refine af ?_
 refine ay.nil ?_
 iterate 6 refine af ?_
 refine aj.cg 55 (b:=_) (dh _ (Rx.fW F.b.ag ((F.b.bad:Nat):Int) (((F.b.good||| 1*2^k):Nat):Int))) (de _ (Rx.fW F.b.ag ((F.b.bad:Nat):Int) (((F.b.good||| 1*2^k):Nat):Int))) rfl rfl rfl rfl rfl rfl rfl an (fun SX=> ?_) (fun SX=> ?_)
 ·have SE:(Rx.fW F.b.ag ((F.b.bad:Nat):Int) (((F.b.good||| 1*2^k):Nat):Int))=6:=by simpa using SX
  exact dR (e:=(Rx.fW F.b.ag ((F.b.bad:Nat):Int) (((F.b.good||| 1*2^k):Nat):Int))) (by rw[SE];show(br F .good n).2.2=_;unfold br;dsimp only;rw[if_neg XD,hN,if_pos SE]) (by rw[SE];decide) (⟨⟨_,rfl,rfl⟩,⟨ZS rfl,by intro j y h1 h2 h3;obtain rfl | rfl | rfl | rfl | rfl:j=1∨j=2∨j=3∨j=4∨j=5:=(by omega);all_goals first | exact .inl (Zw (show some ai.dead=some y from h3)).symm | exact .inr h3⟩⟩)
 have hn6:¬ (Rx.fW F.b.ag ((F.b.bad:Nat):Int) (((F.b.good||| 1*2^k):Nat):Int))=6:=by simpa using SX
 iterate 4 refine af ?_
 refine Kc (aa.aD rfl rfl lA) ?_
 iterate 2 refine af ?_
 refine Kc (Kl (.p (.int .i64 (((F.b.good||| 1*2^k):Nat):Int)))) ?_
 refine Kc (aa.di rfl rfl (by rw[yj];rfl) zY (mT ?_)) ?_
 ·omega
 refine Kc (Kp (Eg (F.b.good||| 1*2^k) (by omega))) ?_
 refine Kc (aa.aD rfl rfl jV) ?_
 refine Kc (aa.aU rfl an (by decide) rfl rfl rfl) ?_
 refine Kc (Kp (c8 [.str (Vb.t .good),.num ((fB (F.b.good||| 1*2^k)).length:Int)] Kn Kn (fu (by decide) (eD (by have:=gf (F.b.good||| 1*2^k);omega) fS)))) ?_
 iterate 3 refine af ?_
 refine iB.one rfl rfl (wj (F2:={F with b:={F.b with good:=(F.b.good||| 1*2^k)}}) (r:=aS (Vb.t .good) [((fB (F.b.good||| 1*2^k)).length:Int)]) (by unfold br;dsimp only;rw[if_neg XD,hN,if_neg hn6]) (by rw[fm];rfl) ?_)
 exact V3
theorem SU:VC .good 97:=by
 intro F n a m c hF hl hn
 have js:=Rx.cx hF.b.cd
 have sP:=hF.b.sk
 have qZ:=hF.b.dr
 have q0:0<=nn n 0∧nn n 0<10000000000000:=hn _ (Di.bq 0 (show 0<n.length by rw[hl];decide))
 obtain⟨k,hk⟩:=UZ q0.1
 refine av.start (N:=15) Tryz.func97 rfl rfl Kn ?_
 iterate 5 refine af ?_
 refine aB.az 9 mixed (by kernel_rfl) (by decide) ?_
 iterate 2 refine af ?_
 refine Kq (aa.nilCheck rfl rfl) ?_
 iterate 4 refine af ?_
 refine Kq (aa.aJ (g:=Di.gt 0 n) (k:=0) (Di.aC _) rfl rfl rfl an dA rfl (fun _=>rfl) (by decide) (by rw[hl];decide)) ?_
 refine Kq (aa.load (v:= .p (.int .i64 ((k:Nat):Int))) rfl rfl an (by rw[<- hk];rfl)) ?_
 refine ay.nil ?_
 refine aj.fe 14 (E8 F n a m c k hF hk) rfl rfl rfl rfl rfl rfl rfl an (fun y H2 gJ=> ?_) (fun v H2 gJ=> ?_)
 ·exact⟨_,rfl,gJ⟩
 exact Lx
theorem flL(b:bG)(p:Di.bB)(um:V)(x:Di.cO)(y:Int)(i1 i2 i3 i4 i5:Nat):ai.cells ([aV i1 b.au.length,aV i2 b.ag.length,.row i3 (b.aq.length+1),.row i4 (b.plan.length+1),.p (.int .i64 (b.bad:Int)),.p (.int .i64 (b.good:Int)),aV i5 b.b6.length]++p.cells.map .p++[um,.p (.bool true)]) 63=cv {b with aq:=b.aq++[x],plan:=b.plan++[y]} p um i1 i2 i3 i4 i5:=by
 unfold cv dn
 rw[<- kU i3 b.aq x,<- kU i4 b.plan y]
theorem JG{H:List ai}{i k:Nat}{l:List Int}(h:H[i]? =some (bh l))(hk:k<l.length):cW H false 1 (.ptr i (k*1))=some (.p (.int .i64 (nn l k))):=by
 simp only[cW,h]
 cases l with
 | nil=>cases hk
 | cons x l=>
  show(((x::l).flatMap Di.cE).map V.p)[k*1]? =_
  rw[qp,Ob,Gv,Zu,Zd hk]
  unfold nn
  rw[Di.aC 0 k hk]
  rfl
theorem Mf(b:bG)(p:Di.bB)(um:V)(i1 i2 i3 i4 i5:Nat)(H:List ai)(h0:H[0]? =some (cv b p um i1 i2 i3 i4 i5))(h2:H[i2]? =some (cU b.ag))(hi:i2≠0)(x y:Int)(hlt:b.ag.length<24):ax Tryz.prog 92 [.ptr 0 0,.p (.int .i64 x),.p (.int .i64 y)] H (fun v H2=>v= .p (.int .i64 (b.ag.length:Int))∧H2=(H.set i2 .dead++[cU (b.dZ ⟨x,y⟩).ag]).set 0 (cv (b.dZ ⟨x,y⟩) p um i1 H.length i3 i4 i5)):=
 ((Ia b p um i1 i2 i3 i4 i5 H h0 h2 hi x y).mono (WI:=fun v H2=>v= .p (.int .i64 (b.ag.length:Int))∧H2=(H.set i2 .dead++[cU (b.dZ ⟨x,y⟩).ag]).set 0 (cv (b.dZ ⟨x,y⟩) p um i1 H.length i3 i4 i5)) (Vq:=fun _ _=>False) (fun v H2 ⟨_,h1,h2⟩=>⟨h1,h2⟩) (fun y H2 ⟨h1,_⟩=>h1 hlt)).toC (fun _ _ h=>h)
theorem S3:VC .lead 93:=by
 intro F n a m c hF hl hn
 have js:=Rx.cx hF.b.cd
 have sP:=hF.b.sk
 have qZ:=hF.b.dr
 have hl8:n.length=8:=hl
 have YR:=hF.b.ck
 have q0:0<=nn n 0∧nn n 0<10000000000000:=hn _ (Di.bq 0 (show 0<n.length by rw[hl];decide))
 have q1:0<=nn n 1∧nn n 1<10000000000000:=hn _ (Di.bq 0 (show 1<n.length by rw[hl];decide))
 have q2:0<=nn n 2∧nn n 2<10000000000000:=hn _ (Di.bq 0 (show 2<n.length by rw[hl];decide))
 have q3:0<=nn n 3∧nn n 3<10000000000000:=hn _ (Di.bq 0 (show 3<n.length by rw[hl];decide))
 have q4:0<=nn n 4∧nn n 4<10000000000000:=hn _ (Di.bq 0 (show 4<n.length by rw[hl];decide))
 have q5:0<=nn n 5∧nn n 5<10000000000000:=hn _ (Di.bq 0 (show 5<n.length by rw[hl];decide))
 have q6:0<=nn n 6∧nn n 6<10000000000000:=hn _ (Di.bq 0 (show 6<n.length by rw[hl];decide))
 have q7:0<=nn n 7∧nn n 7<10000000000000:=hn _ (Di.bq 0 (show 7<n.length by rw[hl];decide))
 obtain⟨⟨n1,n4⟩,_⟩:=Di.gY hF.p
 obtain⟨u0,LS⟩:=hF.b.Dd
 have Nq:=ew LS
 refine av.start (N:=145) Tryz.func93 rfl rfl Kn ?_
 iterate 7 refine af ?_
 refine aj.fe 10 (ym F.b F.aP a m c) rfl rfl rfl rfl rfl rfl rfl an (fun y H2 gJ=> ?_) (fun v H2 gJ=> ?_)
 ·obtain⟨q1,rfl,rfl⟩:=gJ
  exact dR (e:=9) (by show(br F .lead n).2.2=_;unfold br;dsimp only;rw[if_pos (by omega)]) (by decide) (fy _ _ _)
 obtain⟨hlt,rfl,rfl⟩:=gJ
 have Y6:¬ 24<=F.b.ag.length:=by omega
 iterate 6 refine af ?_
 refine aB.bU 29 1 [6] [([],false),([],false),([],false),([],false),([],false),([],false),([],false),([],false),([],false),([],false),([],false),([],false),([],false),([],false),([],false),([],false),([],false),([],false),([],false),([],false),([],false),([],false),([],false),([],false),([],false),([],false),([],false),([6],true),([6],true)] mixed (by kernel_rfl) (by decide) (by kernel_rfl) rfl (yR _ _ _ _ _) ?_
 refine af ?_
 refine bu.cons 13 rfl rfl rfl (fun _=>(aa.nilCheck rfl rfl)) rfl ?_
 iterate 3 refine af ?_
 refine bu.cons 17 rfl rfl rfl (fun _=>(Kl (aV 1 (F.b.au).length))) (cP Kn) ?_
 iterate 2 refine af ?_
 refine bu.cons 20 rfl rfl rfl (fun _=>(aa.aJ (g:=Di.gt 0 n) (k:=0) (Di.aC _) rfl rfl rfl an dA rfl (fun _=>rfl) (by decide) (by rw[hl];decide))) rfl ?_
 refine bu.cons 21 rfl rfl rfl (fun _=>(Kl (.p (.int .i64 (nn n 0))))) rfl ?_
 refine af ?_
 refine bu.cons 23 rfl rfl rfl (fun _=>(aa.aJ (g:=Di.gt 0 n) (k:=1) (Di.aC _) rfl rfl rfl an dA rfl (fun _=>rfl) (by decide) (by rw[hl];decide))) rfl ?_
 refine bu.cons 24 rfl rfl rfl (fun _=>(Kl (.p (.int .i64 (nn n 1))))) rfl ?_
 refine bu.cons 25 rfl rfl rfl (fun _=>(aa.fe (DC (nn n 0) (nn n 1)) rfl rfl rfl rfl (an))) rfl ?_
 iterate 2 refine af ?_
 refine bu.cons 28 rfl rfl rfl (fun _=>(aa.aJ (g:=Di.gt 0 n) (k:=2) (Di.aC _) rfl rfl rfl an dA rfl (fun _=>rfl) (by decide) (by rw[hl];decide))) rfl ?_
 refine bu.cons 29 rfl rfl rfl (fun _=>(Kl (.p (.int .i64 (nn n 2))))) rfl ?_
 refine af ?_
 refine bu.cons 31 rfl rfl rfl (fun _=>(aa.aJ (g:=Di.gt 0 n) (k:=3) (Di.aC _) rfl rfl rfl an dA rfl (fun _=>rfl) (by decide) (by rw[hl];decide))) rfl ?_
 refine bu.cons 32 rfl rfl rfl (fun _=>(Kl (.p (.int .i64 (nn n 3))))) rfl ?_
 refine bu.cons 33 rfl rfl rfl (fun _=>(aa.fe (DC (nn n 2) (nn n 3)) rfl rfl rfl rfl (an))) rfl ?_
 refine bu.cons 34 rfl rfl rfl (fun _=>(aa.aU rfl an (by decide) rfl rfl rfl)) rfl ?_
 refine bu.cons 35 rfl rfl rfl (fun _=>(aa.xH 3 (EJ F.b.au [bW (nn n 0) (nn n 1),bW (nn n 2) (nn n 3)] (Zz sP (by decide)) Kn) rfl rfl rfl rfl rfl (hbS (i:=1) (xs:=[Ck.vH [bW (nn n 0) (nn n 1),bW (nn n 2) (nn n 3)]]) rfl) an)) rfl ?_
 refine af ?_
 refine bu.cons 36 rfl rfl rfl (fun _=>(aa.extract rfl rfl rfl)) rfl ?_
 refine bu.cons 37 rfl rfl rfl (fun _=>(aa.extract rfl rfl rfl)) rfl ?_
 refine bu.lay (v0:= .ptr 7 0) 6 6 rfl rfl rfl rfl rfl rfl rfl rfl (fun _=>(aa.aO rfl an rfl)) rfl rfl rfl ?_
 refine bu.put (blk:= .cells [.p (.int .i64 (shr F.b.au [bW (nn n 0) (nn n 1),bW (nn n 2) (nn n 3)]).1.1),.p (.int .i64 (shr F.b.au [bW (nn n 0) (nn n 1),bW (nn n 2) (nn n 3)]).1.2)] 24) 6 rfl rfl rfl rfl (fun _=>(aa.store rfl rfl rfl rfl rfl an rfl rfl)) rfl rfl ?_
 refine bu.nil ?_
 iterate 5 refine af ?_
 refine aj.cg 39 (b:=(decide ((shr F.b.au [bW (nn n 0) (nn n 1),bW (nn n 2) (nn n 3)]).2=0))) (jS (shr F.b.au [bW (nn n 0) (nn n 1),bW (nn n 2) (nn n 3)]).2) (nE (shr F.b.au [bW (nn n 0) (nn n 1),bW (nn n 2) (nn n 3)]).2) rfl rfl rfl rfl rfl rfl rfl an (fun he=> ?_) (fun he=> ?_)
 ·have hne:(shr F.b.au [bW (nn n 0) (nn n 1),bW (nn n 2) (nn n 3)]).2≠0:=Zh he
  exact dR (e:=(shr F.b.au [bW (nn n 0) (nn n 1),bW (nn n 2) (nn n 3)]).2) (by show(br F .lead n).2.2=_;unfold br;dsimp only;rw[if_neg Y6,if_pos hne]) hne (⟨⟨_,rfl,rfl⟩,⟨ZS rfl,by intro j y h1 h2 h3;obtain rfl | rfl | rfl | rfl | rfl:j=1∨j=2∨j=3∨j=4∨j=5:=(by omega);all_goals first | exact .inl (Zw (show some ai.dead=some y from h3)).symm | exact .inr h3⟩⟩)
 have sR:(shr F.b.au [bW (nn n 0) (nn n 1),bW (nn n 2) (nn n 3)]).2=0:=Zf he
 have hz:¬ (shr F.b.au [bW (nn n 0) (nn n 1),bW (nn n 2) (nn n 3)]).2≠0:=fun h=>h sR
 obtain⟨⟨i1,i2⟩,i3,i4⟩:=HW sR
 obtain⟨⟨b1,b2⟩,b3,b4⟩:=Qc F.b.au [bW (nn n 0) (nn n 1),bW (nn n 2) (nn n 3)]
 have ck1:0<=nn F.b.b6 (nn n 0).toNat∧nn F.b.b6 (nn n 0).toNat<(F.b.ag.length:Int):=hF.b.Mm _ (Di.bq 0 (show(nn n 0).toNat<F.b.b6.length by omega))
 have ck2:0<=nn F.b.b6 (nn n 2).toNat∧nn F.b.b6 (nn n 2).toNat<(F.b.ag.length:Int):=hF.b.Mm _ (Di.bq 0 (show(nn n 2).toNat<F.b.b6.length by omega))
 obtain⟨k0,e0⟩:=UZ ck1.1
 obtain⟨k1,e1⟩:=UZ ck2.1
 have hp0:=LR (show k0<=24 by omega)
 have Yy:=LR (show k1<=24 by omega)
 iterate 8 refine af ?_
 refine Kc (Kl (aV 3 F.b.aq.length)) ?_
 refine Kc (aa.aQ rfl rfl an o9) ?_
 refine af ?_
 refine aj.cg 48 (b:=_) (dh _ 9) (de _ 9) rfl rfl rfl rfl rfl rfl rfl an (fun hb=> ?_) (fun hb=> ?_)
 ·exact dR (e:=9) (by show(br F .lead n).2.2=_;unfold br;dsimp only;rw[if_neg Y6,if_neg hz,if_pos (by have h:=Zh hb;omega)]) (by decide) (⟨⟨_,rfl,rfl⟩,⟨ZS rfl,by intro j y h1 h2 h3;obtain rfl | rfl | rfl | rfl | rfl:j=1∨j=2∨j=3∨j=4∨j=5:=(by omega);all_goals first | exact .inl (Zw (show some ai.dead=some y from h3)).symm | exact .inr h3⟩⟩)
 have Yc:¬ 8<=F.b.aq.length:=by have h:=Zf hb;omega
 iterate 2 refine af ?_
 refine aB.wg (H':=[cv F.b F.aP (.raw a m c) 1 2 3 4 5,c5 F.b.au,cU F.b.ag,c7 F.b.aq,bh F.b.plan,bh F.b.b6,.cells [.p (.int .i64 (shr F.b.au [bW (nn n 0) (nn n 1),bW (nn n 2) (nn n 3)]).1.1),.p (.int .i64 (shr F.b.au [bW (nn n 0) (nn n 1),bW (nn n 2) (nn n 3)]).1.2)] 24]) rfl ?_
 refine aB.bU 33 2 [0,3,4,7,8] [([],false),([],false),([],false),([],false),([],false),([],false),([],false),([0],false),([],false),([],false),([],false),([],false),([],false),([],false),([],false),([],false),([7,3],true),([],false),([],false),([],false),([],false),([],false),([0],false),([],false),([],false),([],false),([],false),([8,4],true),([],false),([],false),([],false),([],false),([0,7],true)] mixed (by kernel_rfl) (by decide) (by kernel_rfl) rfl (by simp[cv,mX,bL,bF,b8,dQ,gL,fq,bA,cP,c5,cU,c7,bh,dn,Di.bB.cells]) ?_
 iterate 3 refine af ?_
 refine bu.cons 52 rfl rfl rfl (fun _=>(aa.nilCheck rfl rfl)) rfl ?_
 iterate 3 refine af ?_
 refine bu.cons 56 rfl rfl rfl (fun _=>(Kl (aV 3 (F.b.aq).length))) (cP Kn) ?_
 refine af ?_
 refine bu.cons 58 rfl rfl rfl (fun _=>(aa.aJ (g:=Di.gt 0 n) (k:=5) (Di.aC _) rfl rfl rfl an dA rfl (fun _=>rfl) (by decide) (by rw[hl];decide))) rfl ?_
 refine bu.cons 59 rfl rfl rfl (fun _=>(Kl (.p (.int .i64 (nn n 5))))) rfl ?_
 refine af ?_
 refine bu.cons 61 rfl rfl rfl (fun _=>(aa.jI (l:=6) (h:=n.length) (r:=((n.drop 6).take (n.length - 6)).flatMap Di.cE) rfl rfl an dA ⟨_,rfl⟩ rfl (by omega) (by omega) (qy n 6 (n.length - 6)))) rfl ?_
 refine bu.cons 62 rfl rfl rfl (fun _=>(Kp (s0 n 6 (n.length - 6) (by omega) (by omega)))) rfl ?_
 refine bu.cons 63 rfl rfl rfl (fun _=>(aa.Ik (v:= .p (.agg (⟨nn n 5,nn n 6,nn n 7⟩:Di.cO).cells)) rfl an rfl rfl rfl)) rfl ?_
 refine bu.cons 64 rfl rfl rfl (fun _=>(aa.aU rfl an (by decide) rfl rfl rfl)) rfl ?_
 refine bu.JD (blk:= .row (((F.b.aq).flatMap Di.cO.cells).map .p++((⟨nn n 5,nn n 6,nn n 7⟩:Di.cO).cells).map .p) 81) (v0:= .row 9 _) 65 7 3 rfl rfl rfl rfl rfl rfl rfl rfl rfl rfl (fun _=>(aa.pZ (i:=3) (len:=(F.b.aq).length) (cs:=((F.b.aq).flatMap Di.cO.cells).map .p) (ys:=((⟨nn n 5,nn n 6,nn n 7⟩:Di.cO).cells).map .p) (n:=1) rfl rfl rfl an an rfl (by rw[Zq,AF.ct (c:=3) (fun _=>rfl)];rfl) rfl (by decide) rfl an (by decide) (by show(2*(_+1)+192)*24<=281474976710656;omega))) rfl rfl (by show ai.row (bn _ (_++_)) _=_;rw[bD,aY,aY]) ?_
 refine af ?_
 refine bu.cons 67 rfl rfl rfl (fun _=>(aa.nilCheck rfl rfl)) rfl ?_
 iterate 3 refine af ?_
 refine bu.cons 71 rfl rfl rfl (fun _=>(Kl (aV 4 (F.b.plan).length))) (cP Kn) ?_
 refine af ?_
 refine bu.cons 73 rfl rfl rfl (fun _=>(aa.aJ (g:=Di.gt 0 n) (k:=4) (Di.aC _) rfl rfl rfl an dA rfl (fun _=>rfl) (by decide) (by rw[hl];decide))) rfl ?_
 refine bu.cons 74 rfl rfl rfl (fun _=>(Kl (.p (.int .i64 (nn n 4))))) rfl ?_
 refine bu.cons 75 rfl rfl rfl (fun _=>(aa.aU rfl an (by decide) rfl rfl rfl)) rfl ?_
 refine bu.JD (blk:= .row (((F.b.plan).flatMap Di.cE).map .p++(Di.cE (nn n 4)).map .p) 3) (v0:= .row 9 _) 76 8 4 rfl rfl rfl rfl rfl rfl rfl rfl rfl rfl (fun _=>(aa.pZ (i:=4) (len:=(F.b.plan).length) (cs:=((F.b.plan).flatMap Di.cE).map .p) (ys:=(Di.cE (nn n 4)).map .p) (n:=1) rfl rfl rfl an an rfl (by rw[Zq,AF.ct (c:=1) (fun _=>rfl)];rfl) rfl (by decide) rfl an (by decide) (by show(2*(_+1)+192)*8<=281474976710656;omega))) rfl rfl (by show ai.row (bn _ (_++_)) _=_;rw[bD,aY,aY]) ?_
 refine bu.cons 77 rfl rfl rfl (fun _=>(aa.nilCheck rfl rfl)) rfl ?_
 iterate 3 refine af ?_
 refine bu.put (blk:= .cells ([aV 1 F.b.au.length,aV 2 F.b.ag.length,.row 7 (F.b.aq.length+1),aV 4 F.b.plan.length,.p (.int .i64 (F.b.bad:Int)),.p (.int .i64 (F.b.good:Int)),aV 5 F.b.b6.length]++F.aP.cells.map .p++[.raw a m c,.p (.bool true)]) 63) 0 rfl rfl rfl rfl (fun _=>(aa.store rfl rfl rfl rfl rfl an rfl rfl)) rfl (by simp[bL,bF,b8,dQ,gL,cP,Di.bB.cells,aX,sg,uS]) ?_
 refine bu.nil ?_
 iterate 7 refine af ?_
 refine aB.wg (H':=[cv {F.b with aq:=F.b.aq++[(⟨nn n 5,nn n 6,nn n 7⟩:Di.cO)],plan:=F.b.plan++[nn n 4]} F.aP (.raw a m c) 1 2 7 8 5,c5 F.b.au,cU F.b.ag,.dead,.dead,bh F.b.b6,.cells [.p (.int .i64 (shr F.b.au [bW (nn n 0) (nn n 1),bW (nn n 2) (nn n 3)]).1.1),.p (.int .i64 (shr F.b.au [bW (nn n 0) (nn n 1),bW (nn n 2) (nn n 3)]).1.2)] 24,c7 (F.b.aq++[(⟨nn n 5,nn n 6,nn n 7⟩:Di.cO)]),bh (F.b.plan++[nn n 4])]) (by rw[<- flL F.b F.aP _ _ _ 1 2 7 8 5,<- Ir,<- zQ];rfl) ?_
 refine aB.az 22 mixed (by kernel_rfl) (by decide) ?_
 refine af ?_
 refine Kq (aa.nilCheck rfl rfl) ?_
 refine af ?_
 refine Kq (Kl (.p (Di.bO F.aP))) ?_
 refine af ?_
 refine Kq (aa.nilCheck rfl rfl) ?_
 iterate 3 refine af ?_
 refine Kq (Kl (aV 7 (F.b.aq++[(⟨nn n 5,nn n 6,nn n 7⟩:Di.cO)]).length)) ?_
 refine af ?_
 refine Kq (aa.nilCheck rfl rfl) ?_
 iterate 3 refine af ?_
 refine Kq (Kl (aV 8 (F.b.plan++[nn n 4]).length)) ?_
 refine Kq (aa.SF 3 (Di.kT F.aP (F.b.aq++[(⟨nn n 5,nn n 6,nn n 7⟩:Di.cO)]) (F.b.plan++[nn n 4]) (Zz n4 (by decide)) (Zz (show(F.b.aq++[(⟨nn n 5,nn n 6,nn n 7⟩:Di.cO)]).length<=9 by simp;omega) (by decide)) (Zz (show(F.b.plan++[nn n 4]).length<=9 by simp;omega) (by decide))) rfl rfl rfl rfl (Xk (i:=7) (j:=8) rfl rfl) an) ?_
 refine af ?_
 refine Kq (aa.extract rfl rfl rfl) ?_
 refine Kq (aa.extract rfl rfl rfl) ?_
 refine Kq (aa.extract rfl rfl rfl) ?_
 refine af ?_
 refine ay.nil ?_
 iterate 4 refine af ?_
 refine aj.cg 107 (b:=(decide ((Di.fR F.aP (F.b.aq++[(⟨nn n 5,nn n 6,nn n 7⟩:Di.cO)]) (F.b.plan++[nn n 4])).2.2=0))) (jS (Di.fR F.aP (F.b.aq++[(⟨nn n 5,nn n 6,nn n 7⟩:Di.cO)]) (F.b.plan++[nn n 4])).2.2) (nE (Di.fR F.aP (F.b.aq++[(⟨nn n 5,nn n 6,nn n 7⟩:Di.cO)]) (F.b.plan++[nn n 4])).2.2) rfl rfl rfl rfl rfl rfl rfl an (fun Nn=> ?_) (fun Nn=> ?_)
 ·have hne:(Di.fR F.aP (F.b.aq++[(⟨nn n 5,nn n 6,nn n 7⟩:Di.cO)]) (F.b.plan++[nn n 4])).2.2≠0:=Zh Nn
  exact dR (e:=(Di.fR F.aP (F.b.aq++[(⟨nn n 5,nn n 6,nn n 7⟩:Di.cO)]) (F.b.plan++[nn n 4])).2.2) (by show(br F .lead n).2.2=_;unfold br;dsimp only;rw[if_neg Y6,if_neg hz,if_neg Yc,if_pos hne]) hne (⟨⟨_,rfl,rfl⟩,⟨ZS rfl,by intro j y h1 h2 h3;obtain rfl | rfl | rfl | rfl | rfl:j=1∨j=2∨j=3∨j=4∨j=5:=(by omega);all_goals first | exact .inl (Zw (show some ai.dead=some y from h3)).symm | exact .inr h3⟩⟩)
 have hy:¬ (Di.fR F.aP (F.b.aq++[(⟨nn n 5,nn n 6,nn n 7⟩:Di.cO)]) (F.b.plan++[nn n 4])).2.2≠0:=fun h=>h (Zf Nn)
 iterate 2 refine af ?_
 refine aB.az 24 mixed (by kernel_rfl) (by decide) ?_
 iterate 2 refine af ?_
 refine Kq (aa.nilCheck rfl rfl) ?_
 iterate 2 refine af ?_
 refine Kq (Kl (aV 5 F.b.b6.length)) ?_
 refine af ?_
 refine Kq (aa.aJ (g:=Di.gt 0 n) (k:=0) (Di.aC _) rfl rfl rfl an dA rfl (fun _=>rfl) (by decide) (by rw[hl];decide)) ?_
 refine Kq (Kl (.p (.int .i64 (nn n 0)))) ?_
 refine Kq (aa.DQ rfl rfl rfl an dA q0.1 (by omega)) ?_
 refine Kq (aa.load (v:= .p (.int .i64 ((k0:Nat):Int))) rfl rfl an (by rw[<- e0];exact JG rfl (by omega))) ?_
 refine Kq (aa.qg 1 k0 rfl rfl rfl (by show _<=(64:Nat);omega) (by show _<=(9223372036854775807:Int);rw[ZN];omega)) ?_
 refine af ?_
 refine Kq (aa.nilCheck rfl rfl) ?_
 iterate 2 refine af ?_
 refine Kq (Kl (aV 5 F.b.b6.length)) ?_
 refine af ?_
 refine Kq (aa.aJ (g:=Di.gt 0 n) (k:=2) (Di.aC _) rfl rfl rfl an dA rfl (fun _=>rfl) (by decide) (by rw[hl];decide)) ?_
 refine Kq (Kl (.p (.int .i64 (nn n 2)))) ?_
 refine Kq (aa.DQ rfl rfl rfl an dA q2.1 (by omega)) ?_
 refine Kq (aa.load (v:= .p (.int .i64 ((k1:Nat):Int))) rfl rfl an (by rw[<- e1];exact JG rfl (by omega))) ?_
 refine Kq (aa.qg 1 k1 rfl rfl rfl (by show _<=(64:Nat);omega) (by show _<=(9223372036854775807:Int);rw[ZN];omega)) ?_
 refine Kq (aa.UI (1*2^k0) (1*2^k1) rfl rfl rfl (by show _<=(9223372036854775807:Int);rw[ZN];omega) (by show _<=(9223372036854775807:Int);rw[ZN];omega) (by have ho:=My (n:=62) (x:=1*2^k0) (y:=1*2^k1) (by omega) (by omega);show _<=(9223372036854775807:Int);omega)) ?_
 refine ay.nil ?_
 refine Kc (aa.gr rfl rfl rfl rfl an (Mf {F.b with aq:=F.b.aq++[(⟨nn n 5,nn n 6,nn n 7⟩:Di.cO)],plan:=F.b.plan++[nn n 4]} F.aP (.raw a m c) 1 2 7 8 5 _ rfl rfl (by decide) ((1*2^k0||| 1*2^k1:Nat):Int) 0 hlt)) ?_
 iterate 4 refine af ?_
 refine Kc (aa.aD rfl rfl lA) ?_
 refine af ?_
 refine Kc (aa.aD rfl rfl jV) ?_
 refine Kc (aa.aD rfl rfl lA) ?_
 refine af ?_
 refine Kc (Kl (.p (.int .i64 (shr F.b.au [bW (nn n 0) (nn n 1),bW (nn n 2) (nn n 3)]).1.1))) ?_
 refine Kc (aa.aD rfl rfl jV) ?_
 refine af ?_
 refine Kc (Kl (.p (.int .i64 (shr F.b.au [bW (nn n 0) (nn n 1),bW (nn n 2) (nn n 3)]).1.2))) ?_
 refine Kc (aa.aD rfl rfl jV) ?_
 refine Kc (aa.aU rfl an (by decide) rfl rfl rfl) ?_
 refine Kc (Kp (c8 [.str kz,.num (F.b.ag.length:Int),.str C0,.num (shr F.b.au [bW (nn n 0) (nn n 1),bW (nn n 2) (nn n 3)]).1.1,.num (shr F.b.au [bW (nn n 0) (nn n 1),bW (nn n 2) (nn n 3)]).1.2] Kn Kn (fu (by decide) (eD (by omega) (fu (by decide) (eD ⟨b1,b2⟩ (eD ⟨b3,b4⟩ fS))))))) ?_
 iterate 3 refine af ?_
 refine iB.one rfl rfl (wj (F2:={F with b:={F.b.dZ ⟨((1*2^k0||| 1*2^k1:Nat):Int),0⟩ with aq:=(F.b.aq++[(⟨nn n 5,nn n 6,nn n 7⟩:Di.cO)]),plan:=(F.b.plan++[nn n 4])}}) (r:=aS kz [(F.b.ag.length:Int)]++32::aS C0 [(shr F.b.au [bW (nn n 0) (nn n 1),bW (nn n 2) (nn n 3)]).1.1,(shr F.b.au [bW (nn n 0) (nn n 1),bW (nn n 2) (nn n 3)]).1.2]) (by unfold br;dsimp only;rw[if_neg Y6,if_neg hz,if_neg Yc,if_neg hy,DT e0 e1]) (by simp[c4,aS,jq,iM.w]) ?_)
 exact⟨⟨1,9,7,8,5,by decide,rfl,rfl,rfl,rfl,rfl,rfl⟩,⟨ZS rfl,by intro j y h1 h2 h3;obtain rfl | rfl | rfl | rfl | rfl:j=1∨j=2∨j=3∨j=4∨j=5:=(by omega);all_goals first | exact .inl (Zw (show some ai.dead=some y from h3)).symm | exact .inr h3⟩⟩
theorem Cf{l:List Int}{q j:Nat}{x:Int}(hq:q<l.length):Di.gt 0 (l.set q x) j=if q=j then x else Di.gt 0 l j:=by
 unfold Di.gt
 rw[Ze,Ze,Zv]
 by_cases h:q=j
 ·rw[if_pos h,if_pos h,if_pos hq];rfl
 ·rw[if_neg h,if_neg h]
theorem nN{l:List Di.cO}{i:Nat}{w:Di.cO}{r:List Di.cO}(h:w::r=l.drop i):Di.gt Di.cO.d l i=w∧r=l.drop (i+1):=by
 have h1:(l.drop i)[0]? =some w:=by rw[<- h];rfl
 rw[PM,Gy] at h1
 refine⟨?_,?_⟩
 ·unfold Di.gt
  rw[Ze,h1];rfl
 ·rw[show l.drop (i+1)=(l.drop i).drop 1 by rw[LQ],<- h];rfl
theorem FW{p:Di.bB}{b:bG}:∀(l:List Di.cO) (i:Nat) (u v:List Int) (n:Int),l=b.aq.drop i->i<=b.plan.length->u.length=p.dies.length->(∀ j,j<u.length->Di.gt 0 u j=ur b (j:Int) i)->Di.fM p b.plan i u l=(some v,n,0)->
    v.length=p.dies.length∧∀ j,j<v.length->Di.gt 0 v j=dU b (j:Int):=by
 intro l
 induction l with
 | nil=>
  intro i u v n hl hi hu hj h
  unfold Di.fM at h
  split at h
  ·cases h
  ·rename_i h2
   cases h
   have e:i=b.plan.length:=by omega
   subst e
   exact⟨hu,hj⟩
 | cons w l ih=>
  intro i u v n hl hi hu hj h
  unfold Di.fM at h
  split at h
  ·cases h
  ·rename_i h2
   split at h
   ·cases h
   ·rename_i h3
    split at h
    ·cases h
    ·rename_i h4
     obtain⟨g1,g2⟩:=nN hl
     obtain⟨k1,k2⟩:=Di.fH (by simpa using h3)
     have hq:(Di.gt 0 b.plan i).toNat<u.length:=by omega
     refine ih (i+1) _ v n g2 (by omega) (by rw[wS];exact hu) (fun j hjl=> ?_) h
     rw[wS] at hjl
     rw[Cf hq,ur,g1]
     by_cases e:(Di.gt 0 b.plan i).toNat=j
     ·rw[if_pos e,if_pos (by omega),e,hj j hjl]
     ·rw[if_neg e,if_neg (by omega),Int.add_zero,hj j hjl]
theorem tR{p:Di.bB}{b:bG}{u:List Int}{n:Int}(h:Di.fR p b.aq b.plan=(some u,n,0)):u.length=p.dies.length∧∀ j,j<u.length->Di.gt 0 u j=dU b (j:Int):=by
 obtain⟨h1,h2⟩:=pI h
 rw[Di.gB h1 h2] at h
 refine FW b.aq 0 (List.replicate p.dies.length 0) u n rfl (Zl _) (by rw[YA]) (fun j hj=> ?_) h
 rw[YA] at hj
 unfold Di.gt
 rw[Ze,List.getElem?_replicate,if_pos hj]
 rfl
namespace Di
theorem CY(p:bB)(l:List cO)(plan:List Int)(hp:p.dies.length<=cJ)(hl:l.length<=cJ)(hn:plan.length<=cJ)(w:List Int)(hf:fR p l plan=(some w,(l.length:Int),0)):ax Tryz.prog 21 ([bO p,fJ l,bI plan].map .p) [] fun v H2=>v= .tuple [.row 0 p.dies.length,.p (.int .i64 (l.length:Int)),.p (.int .i64 0)]∧H2=[.row ((w.flatMap cE).map .p) 3]:=by
 have O4:=hp
 have rG:=hl
 have hn2:=hn
 unfold cJ at O4 rG hn2
 refine ax.start (N:=93) Tryz.func21 rfl rfl Kn ?_
 iterate 12 refine af ?_
 refine Kc (Kp (oT p hp)) ?_
 iterate 3 refine af ?_
 refine Ki (fun hc0=> ?_) fun hc0=> ?_
 ·have hv:dH p=false:=by simpa using hc0
  iterate 7 refine af ?_
  rw[CF hv] at hf
  cases hf
 ·have hv:dH p=true:=by simpa using hc0
  obtain⟨⟨n1,n4⟩,_,hsh,MM⟩:=gY hv
  iterate 3 refine af ?_
  refine Kc (Kp (sr l hl)) ?_
  iterate 3 refine af ?_
  refine Ki (fun cF=> ?_) fun cF=> ?_
  ·have hd:kg l=false:=by simpa using cF
   iterate 7 refine af ?_
   rw[GO hv hd] at hf
   cases hf
  ·have hd:kg l=true:=by simpa using cF
   obtain⟨hl8,St⟩:=jy hd
   iterate 6 refine af ?_
   refine Kc (aa.makeSlice (n:=p.dies.length) (c:=p.dies.length) rfl rfl rfl an an (by decide) (Zg _) (by show 8*p.dies.length<=281474976710656;omega)) ?_
   iterate 4 refine af ?_
   rw[DK]
   refine aB.norm [0] [(1,_),(2,_),(3,_),(6,.row 0 p.dies.length)] [.row (((List.replicate p.dies.length 0).flatMap cE).map .p) 3] rfl KS (by show[ai.row (bn _ (List.map V.p _)) _]=_;rw[aY]) ?_
   iterate 6 refine af ?_
   refine aB.cR [1,2,3,24,25,83,84,85,86,87,88,89,90,91,92] (fun g=>[(26,.p (.int .i64 ((g.1:Nat):Int))),(6,.row 0 p.dies.length)]) (fun g=>[.row ((g.2.flatMap cE).map .p) 3]) (fun g=>g.1<=l.length∧As p g.2 (1000*(g.1:Int))∧fM p plan 0 (List.replicate p.dies.length 0) l=fM p plan g.1 g.2 (l.drop g.1)) (fun g=>l.length - g.1) (0,List.replicate p.dies.length 0) ⟨Zl _,Qj p,rfl⟩ (To.sub (Sub.xx (Sub.cons rfl (Sub.cons rfl (Sub.nil))))) (fun g hg=> ?_)
   obtain⟨i,u⟩:=g
   obtain⟨zF,ou,DL⟩:=hg
   dsimp only at zF ou DL ⊢
   have YS:=ou.1
   iterate 5 refine af ?_
   refine Ki (fun gW=> ?_) fun gW=> ?_
   ·have hk0:i<l.length:=by have h:(i:Int)<(l.length:Int):=Zf gW;omega
    have hW:=nA (St _ (bq cO.d hk0))
    iterate 6 refine af ?_
    refine Kc (aa.aJ (g:=gt cO.d l) (aC _) rfl rfl rfl an Iv rfl (fun _=>rfl) (by decide) hk0) ?_
    refine Kc (Kl (.p (.agg (gt cO.d l i).cells))) ?_
    iterate 2 refine af ?_
    refine Kz (aa.store (H':=[.row ((u.flatMap cE).map .p) 3,.cells ((gt cO.d l i).cells.map .p) 81]) rfl rfl rfl rfl rfl an rfl rfl) ?_
    iterate 11 refine af ?_
    refine Ki (fun mc=> ?_) fun mc=> ?_
    ·have hpl:(plan.length:Int)<=(i:Int):=Zf mc
     iterate 8 refine af ?_
     rw[gB hv hd,DL,O1 hk0 hpl] at hf
     cases hf
    ·have hpl:¬ (plan.length:Int)<=(i:Int):=Zh mc
     have TX:i<plan.length:=by omega
     refine af ?_
     refine aB.az 11 mixed (by kernel_rfl) (by decide) ?_
     iterate 2 refine af ?_
     refine Kq (aa.aJ (g:=gt 0 plan) (aC _) rfl rfl rfl an dA rfl (fun _=>rfl) (by decide) TX) ?_
     refine Kq (Kl (.p (.int .i64 (gt 0 plan i)))) ?_
     iterate 2 refine af ?_
     refine Kq (aa.aQ rfl rfl an rfl) ?_
     refine Kq (aa.iC rfl rfl rfl (aH ?_)) ?_
     ·omega
     refine Kq (Kp (cM _ _ _)) ?_
     refine Kq (aa.iZ rfl rfl) ?_
     refine af ?_
     refine ay.nil ?_
     refine af ?_
     refine Ki (fun zI=> ?_) fun zI=> ?_
     ·have hin:iL (gt 0 plan i) 0 ((p.dies.length:Int) - 1)=false:=by simpa using zI
      iterate 8 refine af ?_
      rw[gB hv hd,DL,QO hk0 hpl hin] at hf
      cases hf
     ·have hin:iL (gt 0 plan i) 0 ((p.dies.length:Int) - 1)=true:=by simpa using zI
      obtain⟨Va,hq1⟩:=fH hin
      have hq:(gt 0 plan i).toNat<p.dies.length:=by omega
      have C4:(gt 0 plan i).toNat<u.length:=by omega
      have hud:=ou.2 _ C4
      have RZ:=MM _ (bq dY.d hq)
      iterate 6 refine af ?_
      refine Kc (aa.aJ (g:=gt 0 plan) (aC _) rfl rfl rfl an dA rfl (fun _=>rfl) (by decide) TX) ?_
      refine Kc (Kl (.p (.int .i64 (gt 0 plan i)))) ?_
      refine Kc (aa.ko rfl rfl rfl an dA Va (by omega)) ?_
      iterate 4 refine af ?_
      refine aB.az 19 mixed (by kernel_rfl) (by decide) ?_
      iterate 3 refine af ?_
      refine Kq (aa.aJ (g:=gt 0 plan) (aC _) rfl rfl rfl an dA rfl (fun _=>rfl) (by decide) TX) ?_
      refine Kq (Kl (.p (.int .i64 (gt 0 plan i)))) ?_
      refine Kq (Kp (rF p (gt 0 plan i) hq Va)) ?_
      refine af ?_
      refine Kq (aa.nilCheck rfl rfl) ?_
      refine Kq (aa.kR (f:=cE) (c:=1) (k:=(gt 0 plan i).toNat) (j:=0) (xs:=u) rfl rfl an rfl rfl (by omega) (fun _=>rfl) C4 (by decide) (show _=PV.int .i64 (gt 0 u (gt 0 plan i).toNat) from by rw[aC 0 _ C4];rfl)) ?_
      refine af ?_
      refine Kq (aa.nilCheck rfl rfl) ?_
      refine Kq (aa.kR (f:=cE) (c:=1) (k:=(gt 0 plan i).toNat) (j:=0) (xs:=u) rfl rfl an rfl rfl (by omega) (fun _=>rfl) C4 (by decide) (show _=PV.int .i64 (gt 0 u (gt 0 plan i).toNat) from by rw[aC 0 _ C4];rfl)) ?_
      iterate 2 refine af ?_
      refine Kq (aa.add (m:=(gt 0 u (gt 0 plan i).toNat+(gt cO.d l i).len)) rfl rfl rfl ((aH ?_).trans ?_)) ?_
      ·omega
      ·rfl
      iterate 2 refine af ?_
      refine Kq (Kp (Ed p (gt dY.d p.dies (gt 0 plan i).toNat) (gt 0 u (gt 0 plan i).toNat) ((gt 0 u (gt 0 plan i).toNat)+(gt cO.d l i).len) (gt cO.d l i) hsh RZ (by omega) (by omega) (St _ (bq cO.d hk0)))) ?_
      refine Kq (aa.iZ rfl rfl) ?_
      refine ay.nil ?_
      refine af ?_
      refine Ki (fun xg=> ?_) fun xg=> ?_
      ·have M8:zb p (gt dY.d p.dies (gt 0 plan i).toNat) (gt 0 u (gt 0 plan i).toNat) (gt cO.d l i)=false:=by first | simpa only[D0] using xg | (unfold zb;simpa only[D0] using xg)
       iterate 8 refine af ?_
       rw[gB hv hd,DL,Js hk0 hpl hin M8] at hf
       cases hf
      ·exact TD
   ·have hi2:i=l.length:=by have h:¬ ((i:Int)<(l.length:Int)):=Zh gW;omega
    subst hi2
    refine aB.exit ?_
    iterate 9 refine af ?_
    refine Ki (fun wO=> ?_) fun wO=> ?_
    ·have hlt:(l.length:Int)<(plan.length:Int):=Zf wO
     iterate 9 refine af ?_
     rw[gB hv hd,DL,BB hlt] at hf
     cases hf
    ·have hlt:¬ (l.length:Int)<(plan.length:Int):=Zh wO
     iterate 11 refine af ?_
     rw[gB hv hd,DL,Jv hlt] at hf
     obtain rfl:u=w:=by simpa using hf
     exact⟨.inr rfl,_,eK.many (vs:=[.row 0 p.dies.length,.p (.int .i64 (l.length:Int)),.p (.int .i64 0)]) rfl ⟨_,_,rfl,rfl,⟨_,_,rfl,rfl,⟨_,_,rfl,rfl,rfl⟩⟩⟩,rfl,rfl⟩
end Di
theorem FJ{σ:Nat->Option Nat}{xs:List PV}{e:TypeId}:aE σ (.row (xs.map .p) e)= .row (xs.map .p) e:=by show ai.row (bn σ _) e=_;rw[aY]
theorem KV{H:List ai}{i k:Nat}{l:List Int}{e:TypeId}(h:H[i]? =some (.row ((l.flatMap Di.cE).map .p) e))(hk:k<l.length):cW H false 1 (.ptr i (k*1))=some (.p (.int .i64 (Di.gt 0 l k))):=by
 simp only[cW,h]
 show((l.flatMap Di.cE).map V.p)[k*1]? =_
 rw[qp,Ob,Gv,Zu,Zd hk,Di.aC 0 k hk]
 rfl
theorem JA(F:cK)(n:List Int)(a:Option Addr)(m c:Nat)(hF:mo F)(q0:0<=nn n 0∧nn n 0<10000000000000):av Tryz.prog 104 [.ptr 0 0,.p (.int .i64 (nn n 0))] (mX F.b F.aP (.raw a m c)) (UR F .wear n (.raw a m c)) (Wg F .wear n (.raw a m c)):=by
 have js:=Rx.cx hF.b.cd
 have qZ:=hF.b.dr
 obtain⟨⟨n1,n4⟩,_⟩:=Di.gY hF.p
 obtain⟨u0,LS⟩:=hF.b.Dd
 have Nq:=ew LS
 obtain⟨YS,hug⟩:=tR LS
 have St:=(Di.jy (pI LS).2).2
 have hub:0<=dU F.b (nn n 0)∧dU F.b (nn n 0)<=1000*(F.b.plan.length:Int):=yo St Nq _ (Zg _)
 refine av.start (N:=70) Tryz.func104 rfl rfl Kn ?_
 iterate 11 refine af ?_
 refine Kc (Kl (.p (.is (F.aP.dies.flatMap Di.dY.cells) F.aP.dies.length))) ?_
 iterate 2 refine af ?_
 refine aj.cg 17 (b:=_) (dh _ 2) (de _ 2) rfl rfl rfl rfl rfl rfl rfl an (fun hb=> ?_) (fun hb=> ?_)
 ·exact dR (e:=2) (by show(br F .wear n).2.2=_;unfold br;dsimp only;rw[if_pos (by have h:=Zh hb;omega)]) (by decide) (fy _ _ _)
 have hj:¬ (F.aP.dies.length:Int)<=nn n 0:=by have h:=Zf hb;omega
 have hjl:(nn n 0).toNat<u0.length:=by omega
 have YY:Di.gt 0 u0 (nn n 0).toNat=dU F.b (nn n 0):=by rw[hug _ hjl,Wl q0.1]
 have hw:(!Di.iL (nn n 0) 0 ((F.aP.dies.length:Int) - 1)|| !Di.iL (dU F.b (nn n 0)) 0 8000)=false:=by unfold Di.iL;simp only[Vr,Bool.not_eq_false',Zo,Zs];omega
 have hwe:(Di.bT F.aP (nn n 0) (dU F.b (nn n 0))).2=0:=by rw[Di.A8 hF.p hw]
 obtain⟨⟨x1,x2⟩,x3,x4⟩:=CT (p:=F.aP) (j:=nn n 0) (u:=dU F.b (nn n 0))
 iterate 2 refine af ?_
 refine aB.bU 23 1 [6] [([],false),([],false),([],false),([],false),([],false),([],false),([],false),([],false),([],false),([],false),([],false),([],false),([],false),([],false),([],false),([],false),([6],true),([6],false),([6],false),([],false),([],false),([6],false),([],false)] mixed (by kernel_rfl) (by decide) (by kernel_rfl) rfl (yR _ _ _ _ _) ?_
 refine af ?_
 refine bu.cons 20 rfl rfl rfl (fun _=>(aa.nilCheck rfl rfl)) rfl ?_
 refine af ?_
 refine bu.cons 22 rfl rfl rfl (fun _=>(Kl (.p (Di.bO F.aP)))) rfl ?_
 refine af ?_
 refine bu.cons 24 rfl rfl rfl (fun _=>(aa.nilCheck rfl rfl)) rfl ?_
 iterate 3 refine af ?_
 refine bu.cons 28 rfl rfl rfl (fun _=>(Kl (aV 3 (F.b.aq).length))) (cP Kn) ?_
 refine af ?_
 refine bu.cons 30 rfl rfl rfl (fun _=>(aa.nilCheck rfl rfl)) rfl ?_
 iterate 3 refine af ?_
 refine bu.cons 34 rfl rfl rfl (fun _=>(Kl (aV 4 (F.b.plan).length))) (cP Kn) ?_
 refine bu.lay (blk:= .row ((u0.flatMap Di.cE).map .p) 3) (v:= .tuple [.row 6 F.aP.dies.length,.p (.int .i64 (F.b.aq.length:Int)),.p (.int .i64 0)]) (v0:= .tuple [.row 7 F.aP.dies.length,.p (.int .i64 (F.b.aq.length:Int)),.p (.int .i64 0)]) 35 6 rfl rfl rfl rfl rfl rfl rfl rfl (fun _=>(aa.SD (args:=[Di.bO F.aP,Di.fJ F.b.aq,Di.bI F.b.plan]) 3 7 (Di.CY F.aP F.b.aq F.b.plan (Zz n4 (by decide)) (Zz qZ (by decide)) (Zz (show F.b.plan.length<=8 by omega) (by decide)) u0 LS) rfl (eB (f:=Di.cE) (fun _=>rfl) _) rfl rfl rfl rfl (Xk (i:=3) (j:=4) rfl rfl) an)) rfl rfl (by show ai.row (bn _ _) _=_;rw[aY]) ?_
 refine af ?_
 refine bu.cons 36 rfl rfl rfl (fun _=>(aa.extract rfl rfl rfl)) rfl ?_
 refine bu.cons 37 rfl rfl rfl (fun _=>(aa.extract rfl rfl rfl)) rfl ?_
 refine bu.cons 38 rfl rfl rfl (fun _=>(aa.extract rfl rfl rfl)) rfl ?_
 refine bu.cons 5 rfl rfl rfl (fun _=>(aa.assign rfl rfl)) rfl ?_
 refine bu.cons 6 rfl rfl rfl (fun _=>(aa.assign rfl rfl)) rfl ?_
 refine bu.nil ?_
 iterate 5 refine af ?_
 refine Kc (Kp (jS 0 rfl)) ?_
 iterate 2 refine af ?_
 refine aB.wg (H':=[cv F.b F.aP (.raw a m c) 1 2 3 4 5,c5 F.b.au,cU F.b.ag,c7 F.b.aq,bh F.b.plan,bh F.b.b6,.row ((u0.flatMap Di.cE).map .p) 3]) rfl ?_
 refine aB.bU 15 1 [7] [([],false),([],false),([],false),([],false),([],false),([],false),([],false),([],false),([],false),([],false),([],false),([],false),([],false),([7],true),([7],true)] mixed (by kernel_rfl) (by decide) (by kernel_rfl) rfl (by simp[cv,mX,bL,bF,b8,dQ,gL,fq,bA,FJ,cP,c5,cU,c7,bh,dn,Di.bB.cells]) ?_
 refine af ?_
 refine bu.cons 43 rfl rfl rfl (fun _=>(aa.nilCheck rfl rfl)) rfl ?_
 refine af ?_
 refine bu.cons 45 rfl rfl rfl (fun _=>(Kl (.p (Di.bO F.aP)))) rfl ?_
 iterate 3 refine af ?_
 refine bu.cons 49 rfl rfl rfl (fun _=>(aa.ko rfl rfl rfl an dA q0.1 (by omega))) rfl ?_
 refine bu.cons 50 rfl rfl rfl (fun _=>(aa.load (v:= .p (.int .i64 (dU F.b (nn n 0)))) rfl rfl an (by rw[<- YY];exact KV rfl hjl))) rfl ?_
 refine bu.cons 51 rfl rfl rfl (fun _=>(Kp (Di.tn F.aP (nn n 0) (dU F.b (nn n 0)) (Zz n4 (by decide))))) rfl ?_
 refine af ?_
 refine bu.cons 52 rfl rfl rfl (fun _=>(aa.extract rfl rfl rfl)) rfl ?_
 refine bu.cons 53 rfl rfl rfl (fun _=>(aa.extract rfl rfl rfl)) rfl ?_
 refine bu.lay (v0:= .ptr 8 0) 8 7 rfl rfl rfl rfl rfl rfl rfl rfl (fun _=>(aa.aO rfl an rfl)) rfl rfl rfl ?_
 refine bu.put (blk:= .cells [.p (.int .i64 (Di.bT F.aP (nn n 0) (dU F.b (nn n 0))).1.1),.p (.int .i64 (Di.bT F.aP (nn n 0) (dU F.b (nn n 0))).1.2)] 24) 7 rfl rfl rfl rfl (fun _=>(aa.store rfl rfl rfl rfl rfl an rfl rfl)) rfl rfl ?_
 refine bu.nil ?_
 iterate 5 refine af ?_
 refine Kc (Kp (jS (Di.bT F.aP (nn n 0) (dU F.b (nn n 0))).2 (by rw[hwe];rfl))) ?_
 iterate 2 refine af ?_
 refine aB.az 15 mixed (by kernel_rfl) (by decide) ?_
 refine Kq (aa.aD rfl rfl lA) ?_
 iterate 2 refine af ?_
 refine Kq (aa.ko rfl rfl rfl an dA q0.1 (by omega)) ?_
 refine Kq (aa.load (v:= .p (.int .i64 (dU F.b (nn n 0)))) rfl rfl an (by rw[<- YY];exact KV rfl hjl)) ?_
 refine Kq (aa.aD rfl rfl jV) ?_
 refine af ?_
 refine Kq (Kl (.p (.int .i64 (Di.bT F.aP (nn n 0) (dU F.b (nn n 0))).1.1))) ?_
 refine Kq (aa.aD rfl rfl jV) ?_
 refine af ?_
 refine Kq (Kl (.p (.int .i64 (Di.bT F.aP (nn n 0) (dU F.b (nn n 0))).1.2))) ?_
 refine Kq (aa.aD rfl rfl jV) ?_
 refine Kq (aa.aU rfl an (by decide) rfl rfl rfl) ?_
 refine Kq (Kp (c8 [.str (Vb.t .wear),.num (dU F.b (nn n 0)),.num (Di.bT F.aP (nn n 0) (dU F.b (nn n 0))).1.1,.num (Di.bT F.aP (nn n 0) (dU F.b (nn n 0))).1.2] Kn Kn (fu (by decide) (eD ⟨hub.1,by omega⟩ (eD ⟨x1,by omega⟩ (eD ⟨x3,by omega⟩ fS)))))) ?_
 refine af ?_
 refine ay.nil ?_
 iterate 2 refine af ?_
 refine iB.one rfl rfl (wj (F2:=F) (r:=aS (Vb.t .wear) [dU F.b (nn n 0),(Di.bT F.aP (nn n 0) (dU F.b (nn n 0))).1.1,(Di.bT F.aP (nn n 0) (dU F.b (nn n 0))).1.2]) (by unfold br;dsimp only;rw[if_neg hj]) (by rw[fm];rfl) ⟨⟨1,2,3,4,5,by decide,rfl,rfl,rfl,rfl,rfl,rfl⟩,⟨ZS rfl,by intro j y h1 h2 h3;obtain rfl | rfl | rfl | rfl | rfl:j=1∨j=2∨j=3∨j=4∨j=5:=(by omega);all_goals first | exact .inl (Zw (show some ai.dead=some y from h3)).symm | exact .inr h3⟩⟩)
theorem Rs:VC .wear 103:=by
 intro F n a m c hF hl hn
 have js:=Rx.cx hF.b.cd
 have sP:=hF.b.sk
 have qZ:=hF.b.dr
 have q0:0<=nn n 0∧nn n 0<10000000000000:=hn _ (Di.bq 0 (show 0<n.length by rw[hl];decide))
 refine av.start (N:=10) Tryz.func103 rfl rfl Kn ?_
 iterate 8 refine af ?_
 refine Kc (aa.aJ (g:=Di.gt 0 n) (k:=0) (Di.aC _) rfl rfl rfl an dA rfl (fun _=>rfl) (by decide) (by rw[hl];decide)) ?_
 refine Kc (Kl (.p (.int .i64 (nn n 0)))) ?_
 refine aj.fe 9 (JA F n a m c hF q0) rfl rfl rfl rfl rfl rfl rfl an (fun y H2 gJ=> ?_) (fun v H2 gJ=> ?_)
 ·exact⟨_,rfl,gJ⟩
 exact Lx
end Go.Proofs.YtchiinjiflgepaaGreatDoor
end
