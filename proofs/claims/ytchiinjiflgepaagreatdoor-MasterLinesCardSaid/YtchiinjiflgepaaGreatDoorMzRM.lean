/-
 The reference of chapter 15: numbers and words.
 The reference of chapter 15: sets, complaints, what a line says.
 The reference of chapter 15: what a line does.
-/
import Derived.Test.YtchiinjiflgepaaGreatDoorMzRF
import Derived.Test.YtchiinjiflgepaaGreatDoorMzRR
import Derived.Test.YtchiinjiflgepaaGreatDoorMzRC
import Derived.Test.YtchiinjiflgepaaGreatDoorMzRD
import Derived.Test.YtchiinjiflgepaaGreatDoorMzRP
import Derived.Test.YtchiinjiflgepaaGreatDoorMzRZ
theorem D8{A:Prop}(h:A:=by
 refine af ?_
 exact Rz):A:=h
theorem Rz{A:Prop}(h:A:=by
 refine Ki (fun tN=> ?_) fun tN=> ?_
 ·iterate 5 refine af ?_
  exact ac1
 ·iterate 3 refine af ?_
  refine Kc (aa.aK s (Vb.t .bad) rfl rfl rfl) ?_
  iterate 2 refine af ?_
  refine Ki (fun A6=> ?_) fun A6=> ?_
  ·refine af ?_
   exact Iu
  ·iterate 2 refine af ?_
   refine Kc (aa.aK s (Vb.t .good) rfl rfl rfl) ?_
   iterate 2 refine af ?_
   refine Ki (fun XM=> ?_) fun XM=> ?_
   ·refine af ?_
    exact Iu
   ·iterate 2 refine af ?_
    refine Kc (aa.aK s (Vb.t .from_) rfl rfl rfl) ?_
    iterate 2 refine af ?_
    refine Ki (fun hc8=> ?_) fun hc8=> ?_
    ·refine af ?_
     exact Iu
    ·refine af ?_
     refine Kc (aa.aK s (Vb.t .wear) rfl rfl rfl) ?_
     iterate 2 refine af ?_
     exact Iu):A:=h
theorem Jz{A:Prop}(h:A:=by
 iterate 5 refine af ?_
 refine Fin.cY rfl rfl ?_
 simp only[Zl,ZP] at*
 first | contradiction | (subst_vars;rfl) | exact congrArg (PV.int .i64) (tn fun v=>by cases v <;> (intro e;exact absurd e.symm (by assumption))).symm):A:=h
theorem Iu{A:Prop}(h:A:=by
 refine Ki (fun Yu=> ?_) fun Yu=> ?_
 ·exact Jz
 ·iterate 2 refine af ?_
  refine Kc (aa.aK s (Vb.t .pencil) rfl rfl rfl) ?_
  iterate 2 refine af ?_
  refine Ki (fun acP=> ?_) fun acP=> ?_
  ·exact Jz
  ·iterate 2 refine af ?_
   refine Kc (aa.aK s (Vb.t .lF) rfl rfl rfl) ?_
   iterate 2 refine af ?_
   refine Ki (fun Lr=> ?_) fun Lr=> ?_
   ·exact Jz
   ·iterate 2 refine af ?_
    refine Kc (aa.aK s (Vb.t .lead) rfl rfl rfl) ?_
    iterate 2 refine af ?_
    refine Ki (fun Iq=> ?_) fun Iq=> ?_
    ·exact Jz
    ·iterate 6 refine af ?_
     refine Fin.cY rfl rfl ?_
     simp only[Zl,ZP] at*
     first | contradiction | (subst_vars;rfl) | exact congrArg (PV.int .i64) (tn fun v=>by cases v <;> (intro e;exact absurd e.symm (by assumption))).symm):A:=h
theorem ac1{A:Prop}(h:A:=by
 refine Fin.cY rfl rfl ?_
 simp only[Zl,ZP] at*
 first | contradiction | (subst_vars;rfl) | exact congrArg (PV.int .i64) (tn fun v=>by cases v <;> (intro e;exact absurd e.symm (by assumption))).symm):A:=h
theorem UD{A:Prop}(h:A:=by
 iterate 2 refine af ?_
 refine Kc (Kl (.p (.agg (de F)))) ?_
 iterate 6 refine af ?_
 refine Fin.bq (xs:=[.agg (de F),.str (sB ([])),.int .i64 (Rx.hY F.b.ag F.b.bad F.b.good)]) rfl ⟨_,_,rfl,⟨_,_,_,rfl,ai,rfl⟩,⟨_,_,rfl,rfl,⟨_,_,rfl,rfl,rfl⟩⟩⟩ rfl ?_
 unfold bp
 dsimp only
 rw[if_pos he]):A:=h
theorem Z3{A:Prop}(h:A:=by
 iterate 6 refine af ?_
 refine Fin.bq (xs:=[.int .i64 0,.bool false]) rfl ⟨_,_,rfl,rfl,⟨_,_,rfl,rfl,rfl⟩⟩ rfl ?_
 unfold gh rP
 rw[hno]
 rfl):A:=h
set_option linter.unusedSimpArgs false
set_option linter.unusedVariables false
section
set_option maxRecDepth 100000
set_option maxHeartbeats 4000000
namespace Go.Proofs.YtchiinjiflgepaaGreatDoor
open Go.AF
theorem HT(n:Nat):n<10000000000000->Pure Tryz.prog 47 [.int .i64 (n:Int)] (.str (sB (Lib.decDigits n))):=by
 refine Nat.strongRecOn n (fun n ih hn=> ?_)
 have hdl:=xT (n / 10) (by omega)
 refine Kf (N:=18) Tryz.func47 ?_
 iterate 10 refine af ?_
 refine Ki (fun hc0=> ?_) fun hc0=> ?_
 ·have hs:n<10:=by have h:=Ze hc0;omega
  iterate 3 refine af ?_
  refine Kc (aa.add (m:=((48+n:Nat):Int)) rfl rfl rfl ((aA ?_).trans ?_)) ?_
  ·omega
  ·omega
  refine Kc (aa.dP rfl rfl (by rw[y4];rfl) N8 (RW ?_)) ?_
  ·omega
  refine Kc (aa.EH (48+n) rfl rfl (by rw[N8];rfl) ai (by omega)) ?_
  iterate 3 refine af ?_
  refine Fin.cY rfl rfl ?_
  rw[sG hs]
 ·have hs:10<=n:=by have h:=Zf hc0;omega
  iterate 4 refine af ?_
  refine Kc (aa.quo (m:=((n / 10:Nat):Int)) rfl rfl rfl (by decide) ((aA (by show _<=((n / 10:Nat):Int)∧((n / 10:Nat):Int)<=_;omega)).trans rfl)) ?_
  refine Kc (Kp (ih (n / 10) (by omega) (by omega))) ?_
  refine af ?_
  refine Kc (aa.rem (m:=((n%10:Nat):Int)) rfl rfl rfl ?_ ?_) ?_
  ·decide
  ·rfl
  refine Kc (aa.add (m:=((48+n%10:Nat):Int)) rfl rfl rfl ((aA ?_).trans ?_)) ?_
  ·omega
  ·omega
  refine Kc (aa.dP rfl rfl (by rw[y4];rfl) N8 (RW ?_)) ?_
  ·omega
  refine Kc (aa.EH (48+n%10) rfl rfl (by rw[N8];rfl) ai (by omega)) ?_
  refine Kc (aa.jE _ _ rfl rfl rfl ?_) ?_
  ·show _+1<_;omega
  iterate 3 refine af ?_
  refine Fin.cY rfl rfl ?_
  rw[E8 hs]
theorem Ax(n:Int)(h0:0<=n)(h1:n<10000000000000):Pure Tryz.prog 47 [.int .i64 n] (.str (sB (Lib.itoa n))):=by
 obtain⟨u,rfl⟩:=Vo h0
 rw[G4]
 exact HT u (by omega)
theorem dM(w:Bs)(l:List Int)(hw:w.length<=1000)(hl:l.length<=1000)(hn:∀ n∈l,0<=n∧n<10000000000000):Pure Tryz.prog 116 [.str (sB w),Di.aQ l] (.str (sB (br w l))):=by
 refine Kf (N:=21) Tryz.func116 ?_
 iterate 10 refine af ?_
 refine aC.dw [1,4,20] (fun g=>[(5,.p (.int .i64 ((g:Nat):Int))),(0,.p (.str (sB (br w (l.take g)))))]) (fun g=>[]) (fun g=>g<=l.length) (fun g=>l.length - g) 0 (Zn _) (To.sub (Sub.tO (Sub.cons rfl (Sub.cons (by show _=some (V.p (.str (sB (w++[]))));rw[ZY];rfl) Sub.nil)))) (fun i hg=> ?_)
 iterate 8 refine af ?_
 refine Ki (fun hc0=> ?_) fun hc0=> ?_
 ·have hk0:i<l.length:=by have h:(i:Int)<(l.length:Int):=Ze hc0;omega
  have hni:=hn _ (Di.aV 0 hk0)
  have hli:=kg (w:=w) (l:=l.take i) (fun n hx=>hn n (Xw hx))
  rw[zC] at hli
  have hil:=lT hni.1 hni.2
  iterate 5 refine af ?_
  refine Kc (aa.jE _ [32] rfl rfl rfl ?_) ?_
  ·show _+1<_;omega
  iterate 2 refine af ?_
  refine Kc (aa.aB (g:=Di.gt 0 l) (Di.av _) rfl rfl rfl ai bB rfl (fun _=>rfl) (by decide) hk0) ?_
  refine Kc (Kl (.p (.int .i64 (Di.gt 0 l i)))) ?_
  refine Kc (Kp (Ax _ hni.1 hni.2)) ?_
  refine Kc (aa.jE _ _ rfl rfl rfl ?_) ?_
  ·rw[Zc];show _+1+_<_;omega
  iterate 4 refine af ?_
  refine Kc (aa.add rfl rfl rfl (aA ?_)) ?_
  ·omega
  iterate 2 refine af ?_
  refine⟨i+1,?_,?_,?_⟩
  ·exact hk0
  ·omega
  rw[<- GX w l i hk0]
  exact Bz
 ·have hi2:i=l.length:=by have h:¬ ((i:Int)<(l.length:Int)):=Zf hc0;omega
  subst hi2
  refine aC.exit ?_
  iterate 6 refine af ?_
  refine Fin.cY rfl rfl ?_
  rw[ZT]
theorem Df(s:Bs)(hs:s.length<=1000000):Pure Tryz.prog 114 [.str (sB s)] (.tuple [.int .i64 (gh s),.bool (rP s)]):=by
 refine Kf (N:=49) Tryz.func114 ?_
 iterate 9 refine af ?_
 refine Kc (aa.eF rfl rfl w9) ?_
 iterate 2 refine af ?_
 refine Kg 10 9 0 rfl (fun h=>(aa.move rfl rfl)) ?_
 refine Kh 11 9 10 rfl rfl rfl rfl (fun h=>(aa.eF rfl rfl w9)) ?_
 refine Kh 12 9 11 rfl rfl rfl rfl (fun h=>(aa.gtr rfl rfl rfl)) ?_
 refine Kc (aa.lE rfl rfl rfl ?_) ?_
 ·exact fO
 refine af ?_
 refine Kg 15 14 0 rfl (fun h=>(aa.move rfl rfl)) ?_
 refine Kh 16 14 15 rfl rfl rfl rfl (fun h=>(aa.eF rfl rfl w9)) ?_
 refine Kh 17 14 16 rfl rfl rfl rfl (fun h=>(aa.gtr rfl rfl rfl)) ?_
 refine Kh 18 14 17 rfl rfl rfl rfl (fun h=>(aa.move rfl rfl)) ?_
 refine Kg 19 18 0 rfl (fun h=>(aa.move rfl rfl)) ?_
 refine Kh 20 18 19 rfl rfl rfl rfl (fun h=>(aa.vZ s 0 (Di.gt 0 s 0) rfl rfl rfl ai (by have h2:1<s.length:=(by have h3:=Ze (eq_of_beq (Bool.and_eq_true_iff.1 h).2);rw[cF] at h3;omega);rw[Zb (by omega),Di.av 0 _ (by omega)]))) ?_
 refine Kh 21 18 20 rfl rfl rfl rfl (fun h=>(aa.eql rfl rfl rfl)) ?_
 refine aq.g 22 14 rfl rfl rfl rfl rfl rfl rfl [(18,_),(21,_)] (fun h=>And.intro (.inr ⟨_,rfl,h⟩) (And.intro (.inl rfl) (trivial))) (fun h=>(aa.gy rfl rfl rfl ?_)) ?_
 ·exact fO
 refine Kc (aa.lE rfl rfl rfl ?_) ?_
 ·exact fO
 refine af ?_
 refine Ki (fun hc0=> ?_) fun hc0=> ?_
 ·have hno:=Aj ((RL (s:=s) hc0).1 rfl)
  exact Z3
 ·have hy:=(RL (s:=s) hc0).2 rfl
  have Xm:=hy.2.1
  iterate 11 refine af ?_
  refine aC.dw [0,48] (fun g=>[(5,.p (.int .i64 ((g:Nat):Int))),(4,.p (.int .i64 ((mQ (s.take g):Nat):Int)))]) (fun g=>[]) (fun g=>g<=s.length∧∀ j,j<g->qw (Di.gt 0 s j)=true) (fun g=>s.length - g) 0 ⟨Zn _,fun j hj=>absurd hj (by omega)⟩ (To.sub (Sub.tO (Sub.cons rfl (Sub.cons rfl (Sub.nil))))) (fun i ⟨pQ,jM⟩=> ?_)
  iterate 5 refine af ?_
  refine Kc (aa.eF rfl rfl w9) ?_
  iterate 2 refine af ?_
  refine Ki (fun bw=> ?_) fun bw=> ?_
  ·have hk0:i<s.length:=by have h:=Ze bw;rw[cF] at h;omega
   have hb:=(Di.gt 0 s i).toNat_lt
   iterate 8 refine af ?_
   refine Kc (aa.vZ s i (Di.gt 0 s i) rfl rfl rfl ai (by rw[Zb hk0,Di.av 0 i hk0])) ?_
   iterate 2 refine af ?_
   refine Kg 35 34 0 rfl (fun h=>(aa.move rfl rfl)) ?_
   refine Kg 36 34 5 rfl (fun h=>(aa.move rfl rfl)) ?_
   refine aq.g 37 34 rfl rfl rfl rfl rfl rfl rfl [(35,_),(36,_)] (fun h=>And.intro (.inr ⟨_,rfl,h⟩) (And.intro (.inr ⟨_,rfl,h⟩) (trivial))) (fun h=>(aa.vZ s i (Di.gt 0 s i) rfl rfl rfl ai (by rw[Zb hk0,Di.av 0 i hk0]))) ?_
   refine Kh 38 34 37 rfl rfl rfl rfl (fun h=>(aa.gtr rfl rfl rfl)) ?_
   refine Kc (aa.lE rfl rfl rfl ?_) ?_
   ·exact fO
   refine af ?_
   refine Ki (fun eG=> ?_) fun eG=> ?_
   ·have hno:=Aj (EC hk0 (by unfold qw;simp only[CK,Zl] at eG;rw[YQ];simp only[ZP];omega))
    exact Z3
   ·have XF:qw (Di.gt 0 s i)=true:=by unfold qw;simp only[OG,ZP] at eG;rw[Zo];simp only[Zl];omega
    have hdd:=vW XF
    have hvs:=vJ hk0
    have hv:=vN (s:=s) (i:=i) (by omega) Xm jM
    iterate 3 refine af ?_
    refine Kc (aa.mul (m:=((10*mQ (s.take i):Nat):Int)) rfl rfl rfl ((aA ?_).trans ?_)) ?_
    ·omega
    ·omega
    iterate 2 refine af ?_
    refine Kc (aa.vZ s i (Di.gt 0 s i) rfl rfl rfl ai (by rw[Zb hk0,Di.av 0 i hk0])) ?_
    refine Kc (aa.ec (m:=(((Di.gt 0 s i).toNat - 48:Nat):Int)) rfl rfl rfl ((aaZ ?_).trans ?_)) ?_
    ·omega
    ·omega
    refine Kc (aa.dP rfl rfl (by rw[un5];rfl) y4 (aA ?_)) ?_
    ·omega
    refine Kc (aa.add (m:=((mQ (s.take (i+1)):Nat):Int)) rfl rfl rfl ((aA ?_).trans ?_)) ?_
    ·omega
    ·omega
    iterate 4 refine af ?_
    refine Kc (aa.add rfl rfl rfl (aA ?_)) ?_
    ·omega
    iterate 2 refine af ?_
    refine⟨i+1,?_,?_,?_⟩
    ·exact TI
    ·omega
    exact To.done [] rfl KS rfl
  ·have hi2:i=s.length:=by have h:=Zf bw;rw[cF] at h;omega
   subst hi2
   have hyes:=uh (Ma hy jM)
   refine aC.exit ?_
   iterate 7 refine af ?_
   refine Fin.bq (xs:=[.int .i64 ((mQ (s.take s.length):Nat):Int),.bool true]) rfl ⟨_,_,rfl,rfl,⟨_,_,rfl,rfl,rfl⟩⟩ rfl ?_
   unfold gh rP
   rw[hyes,ZT]
   rfl
theorem EF(s:Bs)(c:UInt8)(hs:s.length<=200000):Pure Tryz.prog 46 [.str (sB s),.int .u8 (c.toNat:Int)] (fS (cU c [] s)):=by
 refine Kf (N:=35) Tryz.func46 ?_
 iterate 18 refine af ?_
 refine aC.dw [0,1,4,34] (fun(g:Nat×Nat×List Bs)=>[(7,.p (.int .i64 ((g.1:Nat):Int))),(6,.p (.int .i64 ((g.2.1:Nat):Int))),(5,gP 0 g.2.2.length)]) (fun(g:Nat×Nat×List Bs)=>[dG ((g.2.2.flatMap jB).map .p) 9 g.2.2.length]) (fun(g:Nat×Nat×List Bs)=>g.2.2.length<=g.1∧((g.1<=s.length∧g.2.1<=g.1∧cU c [] s=g.2.2++cU c ((s.drop g.2.1).take (g.1 - g.2.1)) (s.drop g.1))∨(g.1=s.length+1∧g.2.2=cU c [] s))) (fun(g:Nat×Nat×List Bs)=>s.length+1 - g.1) (0,0,[]) ⟨Zg _,.inl ⟨Zn _,Zg _,rfl⟩⟩ (To.pad.trans (To.sub (Sub.tO (Sub.cons rfl (Sub.cons rfl (Sub.cons rfl Sub.nil)))))) (fun g hg=> ?_)
 obtain⟨i,f,out⟩:=g
 obtain⟨hol,hI⟩:=hg
 dsimp only at hol hI ⊢
 iterate 5 refine af ?_
 refine Kc (aa.eF rfl rfl w9) ?_
 iterate 2 refine af ?_
 refine Ki (fun hc0=> ?_) fun hc0=> ?_
 ·have hil:i<=s.length:=by have h:=Ze hc0;rw[cF] at h;omega
  obtain⟨_,V5,hI⟩:=hI.resolve_right (fun h=>by omega)
  iterate 7 refine af ?_
  refine Kc (aa.eF rfl rfl w9) ?_
  iterate 2 refine af ?_
  refine Kg 19 18 0 rfl (fun h=>(aa.move rfl rfl)) ?_
  refine Kg 20 18 7 rfl (fun h=>(aa.move rfl rfl)) ?_
  refine aq.g 21 18 rfl rfl rfl rfl rfl rfl rfl [(19,_),(20,_)] (fun h=>And.intro (.inr ⟨_,rfl,h⟩) (And.intro (.inr ⟨_,rfl,h⟩) (trivial))) (fun h=>(aa.vZ s i (Di.gt 0 s i) rfl rfl rfl ai (by have h2:¬ (i:Int)=(s.length:Int):=Zf (eq_of_beq h);rw[Zb (by omega),Di.av 0 i (by omega)]))) ?_
  refine Kg 22 18 1 rfl (fun h=>(aa.move rfl rfl)) ?_
  refine aq.g 23 18 rfl rfl rfl rfl rfl rfl rfl [(21,_),(22,_)] (fun h=>And.intro (.inr ⟨_,rfl,h⟩) (And.intro (.inr ⟨_,rfl,h⟩) (trivial))) (fun h=>(aa.eql rfl rfl rfl)) ?_
  refine Kc (aa.lE rfl rfl rfl ?_) ?_
  ·exact fO
  refine af ?_
  refine Ki (fun bw=> ?_) fun bw=> ?_
  ·iterate 6 refine af ?_
   refine Kc (aa.L3 s f i rfl rfl ai ⟨_,rfl⟩ ⟨_,rfl⟩ V5 (by omega)) ?_
   refine Kc (aa.aF rfl ai (by decide) rfl rfl rfl) ?_
   refine Kc (aa.fV rfl rfl rfl ai ai rfl ?_ rfl (by decide) rfl ai (by decide) ?_) ?_
   ·exact xY
   ·show(2*(out.length+1)+192)*16<=281474976710656;omega
   iterate 4 refine af ?_
   refine Kc (aa.add (m:=((i+1:Nat):Int)) rfl rfl rfl ((aA ?_).trans ?_)) ?_
   ·omega
   ·omega
   iterate 4 refine af ?_
   refine Kc (aa.add (m:=((i+1:Nat):Int)) rfl rfl rfl ((aA ?_).trans ?_)) ?_
   ·omega
   ·omega
   iterate 2 refine af ?_
   refine⟨(i+1,i+1,out++[(s.drop f).take (i - f)]),?_,?_,?_⟩
   ·refine⟨by rw[Zc];show out.length+1<=i+1;omega,?_⟩
    rcases ZS i s.length with h | h
    ·exact .inl ⟨h,Zg _,PN h V5 (by rcases Yt (s:=s) bw with h2 | h2;exact absurd h2 (by omega);exact h2) hI⟩
    ·obtain rfl:i=s.length:=by omega
     exact .inr ⟨rfl,(NZ hI).symm⟩
   ·show s.length+1 - (i+1)<s.length+1 - i
    omega
   have WX:(out++[(s.drop f).take (i - f)]).length=out.length+1:=by rw[Zc];rfl
   have eL:(out++[(s.drop f).take (i - f)]).flatMap jB=out.flatMap jB++jB ((s.drop f).take (i - f)):=by rw[ZX];simp
   dsimp only
   exact EA
  ·iterate 3 refine af ?_
   refine Kc (aa.add (m:=((i+1:Nat):Int)) rfl rfl rfl ((aA ?_).trans ?_)) ?_
   ·omega
   ·omega
   iterate 2 refine af ?_
   refine⟨(i+1,f,out),?_,?_,?_⟩
   ·obtain⟨n1,n2⟩:=Xa (s:=s) bw
    exact⟨by show out.length<=i+1;omega,.inl ⟨by show i+1<=s.length;omega,by show f<=i+1;omega,WS (by omega) V5 n2 hI⟩⟩
   ·show s.length+1 - (i+1)<s.length+1 - i
    omega
   exact To.sub KS
 ·have hil:¬ i<=s.length:=by have h:=Zf hc0;rw[cF] at h;omega
  obtain⟨_,hI⟩:=hI.resolve_left (fun h=>hil h.1)
  refine aC.to (To.MX 5 0 out.length (xs:=out.flatMap jB) rfl rfl (fun h=>by rw[Kd.1 h];rfl)) ?_
  subst hI
  exact Is
theorem HP(s:Bs):Pure Tryz.prog 113 [.str (sB s)] (.int .i64 (manyN s)):=by
 refine Kf (N:=22) Tryz.func113 ?_
 iterate 13 refine af ?_
 refine Kc (aa.aK s (Vb.t .slat) rfl rfl rfl) ?_
 iterate 2 refine af ?_
 refine Ki (fun hc0=> ?_) fun hc0=> ?_
 ·exact D8
 ·iterate 2 refine af ?_
  refine Kc (aa.aK s (Vb.t .blame) rfl rfl rfl) ?_
  iterate 2 refine af ?_
  refine Ki (fun bw=> ?_) fun bw=> ?_
  ·exact D8
  ·iterate 2 refine af ?_
   refine Kc (aa.aK s (Vb.t .call) rfl rfl rfl) ?_
   iterate 2 refine af ?_
   refine Ki (fun eG=> ?_) fun eG=> ?_
   ·exact D8
   ·iterate 2 refine af ?_
    refine Kc (aa.aK s (Vb.t .mark) rfl rfl rfl) ?_
    iterate 2 refine af ?_
    refine Ki (fun gQ=> ?_) fun gQ=> ?_
    ·exact D8
    ·iterate 2 refine af ?_
     refine Kc (aa.aK s (Vb.t .back) rfl rfl rfl) ?_
     iterate 2 refine af ?_
     refine Ki (fun o3=> ?_) fun o3=> ?_
     ·exact D8
     ·refine af ?_
      refine Kc (aa.aK s (Vb.t .keep) rfl rfl rfl) ?_
      iterate 2 refine af ?_
      exact Rz
theorem QF(n:Nat)(hn:n<=62):Pure Tryz.prog 124 [.int .i64 (n:Int)] (.int .i64 ((2^n:Nat):Int)):=by
 refine Kf (N:=13) Tryz.func124 ?_
 iterate 14 refine af ?_
 refine aC.nu [3,4,5,6,7,8,9,10,11] (fun g=>[(4,.p (.int .i64 ((g:Nat):Int))),(3,.p (.int .i64 ((2^g:Nat):Int)))]) (fun g=>[]) (fun g=>g<=n) (fun g=>n - g) 0 (Zn _) (To.sub (Sub.L8 (Sub.cons rfl (Sub.cons rfl (Sub.nil))))) (fun i hg=> ?_)
 iterate 7 refine af ?_
 refine Ki (fun hc0=> ?_) fun hc0=> ?_
 ·have hk0:i<n:=by have h:=Ze hc0;omega
  have hp:=Zq (show 0<2 by omega) (show i+1<=62 by omega)
  have hps:=P8 2 i
  iterate 5 refine af ?_
  refine Kc (aa.mul (m:=((2^(i+1):Nat):Int)) rfl rfl rfl ((aA ?_).trans ?_)) ?_
  ·omega
  ·omega
  exact Tz
 ·have hi2:i=n:=by have h:=Zf hc0;omega
  subst hi2
  exact Is
theorem ou(n:Int)(h0:0<=n)(h1:n<=62):Pure Tryz.prog 124 [.int .i64 n] (.int .i64 ((pow2 n:Nat):Int)):=by
 have h:=QF n.toNat (by omega)
 rwa [V0 h0] at h
theorem zR(b:bU)(n:Int)(h0:0<=n):Pure Tryz.prog 122 [.agg (cg b),.int .i64 n] (.bool (decide (n<(b.ag.length:Int)))):=by
 refine Kf (N:=14) Tryz.func122 ?_
 iterate 10 refine af ?_
 refine Kg 8 7 1 rfl (fun h=>(aa.move rfl rfl)) ?_
 refine Kg 9 7 2 rfl (fun h=>(aa.fieldAddr rfl rfl ai rfl)) ?_
 refine Kh 10 7 9 rfl rfl rfl rfl (fun h=>(Kl (.p (Rx.cz b.ag)))) ?_
 refine Kh 11 7 10 rfl rfl rfl rfl (fun h=>(aa.bJ rfl rfl ai rfl)) ?_
 refine aq.g 12 7 rfl rfl rfl rfl rfl rfl rfl [(8,_),(11,_)] (fun h=>And.intro (.inr ⟨_,rfl,h⟩) (And.intro (.inr ⟨_,rfl,h⟩) (trivial))) (fun h=>(aa.lss rfl rfl rfl)) ?_
 refine Kc (aa.gy rfl rfl rfl ?_) ?_
 ·exact fO
 iterate 3 refine af ?_
 refine Fin.cY rfl rfl ?_
 rw[show decide (n>=0)=true from decide_eq_true h0]
 rfl
theorem Ba(a b:Int)(ha:0<=a∧a<=40)(hb:0<=b∧b<=40):Pure Tryz.prog 121 [.int .i64 a,.int .i64 b] (.int .i64 (both a b)):=by
 have p1:pow2 a<=2^40:=Zq (by omega) (by omega)
 have p2:pow2 b<=2^40:=Zq (by omega) (by omega)
 have p3:(2:Nat)^40=1099511627776:=by decide
 refine Kf (N:=15) Tryz.func121 ?_
 iterate 11 refine af ?_
 refine Ki (fun hc0=> ?_) fun hc0=> ?_
 ·iterate 3 refine af ?_
  refine Kc (Kp (ou a (by omega) (by omega))) ?_
  iterate 3 refine af ?_
  refine Fin.cY rfl rfl ?_
  unfold both
  rw[if_pos (Ze hc0)]
 ·iterate 4 refine af ?_
  refine Kc (Kp (ou a (by omega) (by omega))) ?_
  refine af ?_
  refine Kc (Kp (ou b (by omega) (by omega))) ?_
  refine Kc (aa.add (m:=((pow2 a+pow2 b:Nat):Int)) rfl rfl rfl ((aA ?_).trans ?_)) ?_
  ·omega
  ·omega
  iterate 3 refine af ?_
  refine Fin.cY rfl rfl ?_
  unfold both
  rw[if_neg (Zf hc0)]
theorem IQ(s:Nat)(x:Int)(hs:s<=4611686018427387904)(h0:0<=x)(hb:x<=62):Pure Tryz.prog 163 [.int .i64 (s:Int),.int .i64 x] (.bool (s.testBit x.toNat)):=by
 have h:=Rx.iw s x.toNat hs (by omega)
 rwa [V0 h0] at h
theorem Cg(b:bU)(set:Nat)(x:Int)(hs:set<=2^40)(hx:0<=x)(hl:b.ag.length<=40):Pure Tryz.prog 123 [.agg (cg b),.int .i64 (set:Int),.int .i64 x] (.int .i64 (dL b set x)):=by
 have p3:(2:Nat)^40=1099511627776:=by decide
 refine Kf (N:=14) Tryz.func123 ?_
 iterate 8 refine af ?_
 refine Kc (Kl (.p (.agg (cg b)))) ?_
 refine af ?_
 refine Kc (Kp (zR b x hx)) ?_
 iterate 2 refine af ?_
 refine Ki (fun hc0=> ?_) fun hc0=> ?_
 ·have hn:(b.ag.length:Int)<=x:=by simpa using hc0
  iterate 5 refine af ?_
  refine Fin.cY rfl rfl ?_
  unfold dL
  rw[if_pos hn]
 ·have hn:x<(b.ag.length:Int):=by simpa using hc0
  iterate 6 refine af ?_
  refine Kc (Kp (IQ set x (by omega) hx (by omega))) ?_
  refine af ?_
  refine Ki (fun bw=> ?_) fun bw=> ?_
  ·iterate 5 refine af ?_
   refine Fin.cY rfl rfl ?_
   unfold dL
   rw[if_neg (by omega),if_pos bw]
  ·iterate 6 refine af ?_
   refine Fin.cY rfl rfl ?_
   unfold dL
   rw[if_neg (by omega),if_neg (by rw[bw];decide)]
theorem oI(n:Int):Pure Tryz.prog 119 [.int .i64 n] (.agg [.int .i64 n,.int .i64 n]):=by
 refine Kf (N:=6) Tryz.func119 ?_
 iterate 12 refine af ?_
 exact B0
theorem mh(n:Nat)(hn:n<=4611686018427387904):Pure Tryz.prog 126 [.int .i64 (n:Int)] (Di.aQ (gw n)):=by
 refine Kf (N:=17) Tryz.func126 ?_
 iterate 14 refine af ?_
 refine aC.dw [0,2,16] (fun g=>[(4,.p (.int .i64 ((g:Nat):Int))),(3,gP 0 (mH n g).length)]) (fun g=>[dG (((mH n g).flatMap Di.bG).map .p) 3 (mH n g).length]) (fun g=>g<=24) (fun g=>24 - g) 0 (Zn _) (To.pad.trans (To.sub (Sub.tO (Sub.cons rfl (Sub.cons rfl Sub.nil))))) (fun i hg=> ?_)
 iterate 6 refine af ?_
 refine Ki (fun hc0=> ?_) fun hc0=> ?_
 ·have hk0:i<24:=by have h:=Ze hc0;omega
  have pE:=nS n i
  iterate 7 refine af ?_
  refine Kc (Kp (Rx.iw n i (by omega) (by omega))) ?_
  refine af ?_
  refine Ki (fun bw=> ?_) fun bw=> ?_
  ·iterate 3 refine af ?_
   refine Kc (aa.aF rfl ai (by decide) rfl rfl rfl) ?_
   refine Kc (aa.fV rfl rfl rfl ai ai rfl ?_ rfl (by decide) rfl ai (by decide) ?_) ?_
   ·exact xY
   ·show(2*((mH n i).length+1)+192)*8<=281474976710656;omega
   iterate 4 refine af ?_
   refine Kc (aa.add rfl rfl rfl (aA ?_)) ?_
   ·omega
   iterate 2 refine af ?_
   refine⟨i+1,?_,?_,?_⟩
   ·exact hk0
   ·omega
   rw[Lv bw]
   have WX:(mH n i++[(i:Int)]).length=(mH n i).length+1:=by rw[Zc];rfl
   have eL:(mH n i++[(i:Int)]).flatMap Di.bG=(mH n i).flatMap Di.bG++[.int .i64 (i:Int)]:=by rw[ZX];rfl
   exact EA
  ·iterate 3 refine af ?_
   refine Kc (aa.add rfl rfl rfl (aA ?_)) ?_
   ·omega
   iterate 2 refine af ?_
   refine⟨i+1,?_,?_,?_⟩
   ·exact hk0
   ·omega
   rw[QE bw]
   exact To.sub KS
 ·have hi2:i=24:=by have h:=Zf hc0;omega
  subst hi2
  refine aC.to (To.MX 3 0 (mH n 24).length (xs:=(mH n 24).flatMap Di.bG) rfl rfl (fun h=>by rw[Kd.1 h];rfl)) ?_
  refine aC.exit ?_
  iterate 6 refine af ?_
  refine Fin.cY rfl rfl ?_
  rw[Lw]
  rfl
theorem G6(s:Bs)(hs:s.length<=200000):Pure Tryz.prog 56 [.str (sB s)] (.tuple [.agg (Nk (bW s)),.bool (ri (bW s) ((bW s).length - 1))]):=by
 refine Kf (N:=50) Tryz.func56 ?_
 iterate 8 refine af ?_
 refine Kc (Kp (EF s 32 hs)) ?_
 have ab5:∀ x∈bW s,x.length<=1000000:=fun x hx=>by have h:x.length<=0+s.length:=nc 32 s [] x hx;omega
 have hwp:=o7 s
 have C4:=(ig 32 s []).2
 show aq _ _ _ _ _ _ _ ((11,.p (fS (bW s)))::_) _
 have hwb:=ab5
 generalize hwe:bW s=w at hwp hwb ⊢
 have C4:w.length<=s.length+1:=by rw[<- hwe];exact C4
 iterate 5 refine af ?_
 refine Kc (aa.aB (g:=Di.gt [] w) (k:=0) (Di.av _) rfl rfl rfl ai nY rfl (fun _=>rfl) (by decide) hwp) ?_
 refine Kc (Kl (.p (.str (sB (Di.gt [] w 0))))) ?_
 iterate 7 refine af ?_
 refine Kc (aa.aB (g:=Di.gt [] w) (k:=0) (Di.av _) rfl rfl rfl ai nY rfl (fun _=>rfl) (by decide) hwp) ?_
 refine Kc (Kl (.p (.str (sB (Di.gt [] w 0))))) ?_
 refine Kc (Kp (HP (Di.gt [] w 0))) ?_
 iterate 2 refine af ?_
 refine Kc (aa.ec rfl rfl rfl (aA ?_)) ?_
 ·omega
 iterate 9 refine af ?_
 refine aC.dw [2,3,4,5,48,49] (fun g=>[(7,.p (.int .i64 ((g+1:Nat):Int))),(6,.p (.bool (ri w g)))]) (fun g=>[.cells [.p (.str (sB [])),.p .nilSlice] 121,.cells [.p (.str (sB (Di.gt [] w 0))),gP 2 (jG w g).length] 121,dG (((jG w g).flatMap Di.bG).map .p) 3 (jG w g).length]) (fun g=>g+1<=w.length) (fun g=>w.length - g) 0 hwp (To.pad.trans (To.sub (Sub.tO (Sub.cons rfl (Sub.cons (by show some _=some _;unfold ri;rw[JP];simp) Sub.nil))))) (fun i hg=> ?_)
 iterate 8 refine af ?_
 refine Ki (fun hc0=> ?_) fun hc0=> ?_
 ·have hk0:i+1<w.length:=by have h:((i+1:Nat):Int)<(w.length:Int):=Ze hc0;omega
  have hpl:=AE (w:=w) (g:=i) (by omega)
  iterate 7 refine af ?_
  refine Kc (aa.aB (g:=Di.gt [] w) (k:=(i+1)) (Di.av _) rfl rfl rfl ai nY rfl (fun _=>rfl) (by decide) hk0) ?_
  refine Kc (Kl (.p (.str (sB (Di.gt [] w (i+1)))))) ?_
  refine Kc (Kp (Df (Di.gt [] w (i+1)) (hwb _ (Di.aV [] hk0)))) ?_
  iterate 10 refine af ?_
  refine Kg 40 39 9 rfl (fun h=>(aa.move rfl rfl)) ?_
  refine Kc (aa.gy rfl rfl rfl ?_) ?_
  ·exact fO
  iterate 4 refine af ?_
  refine Kc (Kl (gP 2 (jG w i).length)) ?_
  refine af ?_
  refine Kc (aa.aF rfl ai (by decide) rfl rfl rfl) ?_
  refine Kc (aa.fV rfl rfl rfl ai ai rfl ?_ rfl (by decide) rfl ai (by decide) ?_) ?_
  ·exact xY
  ·show(2*((jG w i).length+1)+192)*8<=281474976710656;omega
  refine af ?_
  refine Kz (aa.LX (H':=[.cells [.p (.str (sB [])),.p .nilSlice] 121,.cells [.p (.str (sB (Di.gt [] w 0))),gP 3 ((jG w i).length+1)] 121,.dead,dG (((jG w i).flatMap Di.bG).map .p++[.p (.int .i64 (gh (Di.gt [] w (i+1))))]) 3 ((jG w i).length+1)]) rfl rfl rfl ai rfl) ?_
  iterate 3 refine af ?_
  refine Kc (aa.add (m:=((i+1+1:Nat):Int)) rfl rfl rfl ((aA ?_).trans ?_)) ?_
  ·omega
  ·omega
  iterate 2 refine af ?_
  refine⟨i+1,?_,?_,?_⟩
  ·exact hk0
  ·omega
  rw[<- Hi hk0]
  have eL:(jG w (i+1)).length=(jG w i).length+1:=by rw[yh hk0,Zc];rfl
  have eC:(jG w (i+1)).flatMap Di.bG=(jG w i).flatMap Di.bG++[.int .i64 (gh (Di.gt [] w (i+1)))]:=by rw[yh hk0,ZX];rfl
  rw[eL,eC]
  refine To.done [0,1,3] rfl KS ?_
  show[_,ak.cells [_,aZ _ (gP 3 _)] _,ak.row (bE _ (_++_)) _]=[_,_,ak.row _ _]
  rw[bI,aP,Zy]
  rfl
 ·have hi2:i=w.length - 1:=by have h:¬ ((i+1:Nat):Int)<(w.length:Int):=Zf hc0;omega
  subst hi2
  refine aC.to (To.abv 2 1 (xs:=(jG w (w.length - 1)).flatMap Di.bG) (n:=(jG w (w.length - 1)).length) (a:=[.str (sB (Di.gt [] w 0))]) (b:=[]) [(2,.ptr 0 0),(5,.ptr 1 0),(6,.p (.bool (ri w (w.length - 1))))] (by decide) rfl rfl (fun h=>by rw[Kd.1 h];rfl) rfl rfl KS KS) ?_
  refine aC.exit ?_
  iterate 2 refine af ?_
  refine Kc (Kl (.p (.agg (Nk w)))) ?_
  iterate 5 refine af ?_
  refine Fin.bq (xs:=[.agg (Nk w),.bool (ri w (w.length - 1))]) rfl ⟨_,_,rfl,⟨_,_,_,rfl,ai,rfl⟩,⟨_,_,rfl,rfl,rfl⟩⟩ rfl ?_
  rfl
theorem vu{α:Type}(f:α->List PV)(l:List α)(h:∀ x,((f x).map V.p).all jT=true):((l.flatMap f).map V.p).all jT=true:=by
 induction l with
 | nil=>rfl
 | cons x l ih=>rw[ZJ,Zy,List.all_append,h x,ih];rfl
theorem MY(l:List Rx.bF)(x:Rx.bF):PV.is (l.flatMap Rx.bF.cells++x.cells) (0+l.length+1)=Rx.cz (l++[x]):=by
 unfold Rx.cz
 exact EK
theorem qK(b:bU)(x:Rx.bF)(hl:b.ag.length<=40):Pure Tryz.prog 117 [.agg (cg b),.agg x.cells] (.agg (cg (b.gz x))):=by
 refine Kf (N:=14) Tryz.func117 ?_
 iterate 2 refine af ?_
 refine Kc (aa.cP rfl rfl rfl) ?_
 iterate 4 refine af ?_
 refine aC.bz 6 2 [2,3] [([2],true),([],false),([0],false),([3,2],true),([],false),([],false)] mixed (by kernel_rfl) (by decide) (by kernel_rfl) rfl rfl ?_
 refine aX.lay (v0:= .row 4 _) 5 2 rfl rfl rfl rfl rfl rfl rfl rfl (fun _=>(aa.jA rfl ai (by decide) rfl rfl)) rfl rfl rfl ?_
 refine af ?_
 refine aX.cons 7 rfl rfl rfl (fun _=>(Kl (.p (Rx.cz b.ag)))) rfl ?_
 refine aX.xD (v0:= .row 4 _) 8 3 2 rfl rfl rfl rfl rfl rfl rfl rfl rfl rfl (fun _=>(aa.c6 (i:=2) (len:=0) (cs:=[]) rfl rfl rfl ai ai rfl ?_ (iW (xs:=(b.ag.flatMap Rx.bF.cells)) (n:=b.ag.length) (sz:=2) (AF.bD (c:=2) (fun _=>rfl) b.ag)) (vu Rx.bF.cells b.ag (fun _=>rfl)) ai (by decide) ?_)) rfl rfl (congrArg (fun z=>ak.row z 128) (aP _ ((b.ag.flatMap Rx.bF.cells)))) ?_
 ·rfl
 ·show(2*(0+b.ag.length)+192)*16<=281474976710656;omega
 refine aX.cons 9 rfl rfl rfl (fun _=>(Kl (.p (.agg x.cells)))) rfl ?_
 refine aX.cons 10 rfl rfl rfl (fun _=>(aa.aF rfl ai (by decide) rfl rfl rfl)) rfl ?_
 refine aX.nil ?_
 refine Kc (aa.c6 (i:=3) (len:=0+b.ag.length) (cs:=[]++((b.ag.flatMap Rx.bF.cells)).map .p) (ys:=(x.cells).map .p) (n:=1) rfl rfl rfl ai ai rfl ?_ rfl rfl ai (by decide) ?_) ?_
 ·rw[FF,Zr,AF.bD (c:=2) (fun _=>rfl),tZ];rfl
 ·show(2*(0+b.ag.length+1)+192)*16<=281474976710656;omega
 refine aq.freeze 4 rfl (lZ ((b.ag.flatMap Rx.bF.cells)) (x.cells)) ?_
 refine af ?_
 refine Kz (aa.store (H':=[.cells [.p (Ck.b8 b.au),.p (.is ((b.ag.flatMap Rx.bF.cells)++x.cells) (0+b.ag.length+1)),.p (Di.dn b.ax),.p (Di.aQ b.plan),.p (.int .i64 (b.bad:Int)),.p (.int .i64 (b.good:Int))] 41,.cells [.p .nilSlice,.p .nilSlice,.p .nilSlice,.p .nilSlice,.p (.int .i64 0),.p (.int .i64 0)] 41,.dead,.dead,.dead]) rfl rfl rfl rfl rfl ai rfl rfl) ?_
 iterate 7 refine af ?_
 refine Fin.cY rfl ⟨_,_,_,rfl,ai,rfl⟩ ?_
 show PV.agg [_,PV.is _ _,_,_,_,_]=_
 rw[MY]
 rfl
theorem MW(F:c7)(n:List Int)(hF:kK F)(hl:n.length=0)(hn:∀ x∈n,0<=x∧x<10000000000000):Pure Tryz.prog 57 [.agg (de F),.agg [.str (sB (Vb.t .slat)),Di.aQ n]] (.tuple [.agg (de (bp F .slat n).1),.str (sB (bp F .slat n).2.1),.int .i64 (bp F .slat n).2.2]):=by
 have en:=Rx.bM hF.b.cd
 have hnb:=hn
 refine Kf (N:=496) Tryz.func57 ?_
 iterate 2 refine af ?_
 refine Kc (aa.cP rfl rfl rfl) ?_
 iterate 6 refine af ?_
 refine aC.bN 7 mixed (by kernel_rfl) (by decide) ?_
 refine ah.cons 29 rfl rfl rfl (aa.fieldAddr rfl rfl ai rfl) (fun _=>(aa.fieldAddr rfl rfl ai rfl)) ?_
 refine ah.cons 30 rfl rfl rfl (aa.load rfl rfl ai rfl) (fun _=>(aa.load rfl rfl ai rfl)) ?_
 refine ah.cons 31 rfl rfl rfl (aa.fieldAddr rfl rfl ai rfl) (fun _=>(aa.fieldAddr rfl rfl ai rfl)) ?_
 refine ah.cons 32 rfl rfl rfl (Kl (.p (.agg (cg F.b)))) (fun _=>(Kl (.p (.agg (cg F.b))))) ?_
 refine ah.lay 8 rfl rfl rfl (aa.aI rfl ai rfl) ?_
 refine ah.cons 7 rfl rfl rfl (aa.assign rfl rfl) (fun _=>(aa.assign rfl rfl)) ?_
 refine ah.put rfl rfl (by decide) (aa.store rfl rfl rfl rfl rfl ai rfl rfl) rfl ?_
 refine ah.nil ?_
 iterate 4 refine af ?_
 refine Kc (Kl (.p (Rx.cz F.b.ag))) ?_
 iterate 12 refine af ?_
 refine Kc (aa.aK _ _ rfl rfl rfl) ?_
 iterate 2 refine af ?_
 refine aC.aU rfl ?_
 iterate 2 refine af ?_
 refine Kc (aa.aK _ _ rfl rfl rfl) ?_
 iterate 2 refine af ?_
 refine aC.iC rfl ?_
 iterate 6 refine af ?_
 refine Ki (fun o3=> ?_) fun o3=> ?_
 ·have Ff:24<=F.b.ag.length:=by have h:=Ze o3;omega
  iterate 8 refine af ?_
  exact Sa
 ·have Ff:¬ 24<=F.b.ag.length:=by have h:=Zf o3;omega
  iterate 3 refine af ?_
  refine Kc (Kl (.p (.agg (cg F.b)))) ?_
  refine af ?_
  refine Kc (Kp (qK F.b ⟨0,0⟩ (by omega))) ?_
  iterate 4 refine af ?_
  refine aC.az 4 mixed (by kernel_rfl) (by decide) ?_
  iterate 2 refine af ?_
  refine Kq (aa.aF rfl ai (by decide) rfl rfl rfl) ?_
  refine Kq (Kp (dM ic [(F.b.ag.length:Int)] (by decide) (by show 1<=_;decide) (fun x hx=>by rw[Zw.1 hx];omega))) ?_
  refine ay.nil ?_
  iterate 5 refine af ?_
  refine Fin.bq (xs:=[.agg (de {F with b:=F.b.gz ⟨0,0⟩}),.str (sB (br ic [(F.b.ag.length:Int)])),.int .i64 0]) rfl ⟨_,_,rfl,⟨_,_,_,rfl,ai,rfl⟩,⟨_,_,rfl,rfl,⟨_,_,rfl,rfl,rfl⟩⟩⟩ rfl ?_
  unfold bp
  dsimp only
  rw[if_neg Ff]
theorem DZ(F:c7)(n:List Int)(hF:kK F)(hl:n.length=3)(hn:∀ x∈n,0<=x∧x<10000000000000):Pure Tryz.prog 57 [.agg (de F),.agg [.str (sB (Vb.t .pencil)),Di.aQ n]] (.tuple [.agg (de (bp F .pencil n).1),.str (sB (bp F .pencil n).2.1),.int .i64 (bp F .pencil n).2.2]):=by
 have en:=Rx.bM hF.b.cd
 have hnb:=hn
 have q0:0<=nn n 0∧nn n 0<10000000000000:=hn _ (Di.aV 0 (show 0<n.length by omega))
 have q1:0<=nn n 1∧nn n 1<10000000000000:=hn _ (Di.aV 0 (show 1<n.length by omega))
 have q2:0<=nn n 2∧nn n 2<10000000000000:=hn _ (Di.aV 0 (show 2<n.length by omega))
 refine Kf (N:=496) Tryz.func57 ?_
 iterate 2 refine af ?_
 refine Kc (aa.cP rfl rfl rfl) ?_
 iterate 6 refine af ?_
 refine aC.bN 7 mixed (by kernel_rfl) (by decide) ?_
 refine ah.cons 29 rfl rfl rfl (aa.fieldAddr rfl rfl ai rfl) (fun _=>(aa.fieldAddr rfl rfl ai rfl)) ?_
 refine ah.cons 30 rfl rfl rfl (aa.load rfl rfl ai rfl) (fun _=>(aa.load rfl rfl ai rfl)) ?_
 refine ah.cons 31 rfl rfl rfl (aa.fieldAddr rfl rfl ai rfl) (fun _=>(aa.fieldAddr rfl rfl ai rfl)) ?_
 refine ah.cons 32 rfl rfl rfl (Kl (.p (.agg (cg F.b)))) (fun _=>(Kl (.p (.agg (cg F.b))))) ?_
 refine ah.lay 8 rfl rfl rfl (aa.aI rfl ai rfl) ?_
 refine ah.cons 7 rfl rfl rfl (aa.assign rfl rfl) (fun _=>(aa.assign rfl rfl)) ?_
 refine ah.put rfl rfl (by decide) (aa.store rfl rfl rfl rfl rfl ai rfl rfl) rfl ?_
 refine ah.nil ?_
 iterate 4 refine af ?_
 refine Kc (Kl (.p (Rx.cz F.b.ag))) ?_
 iterate 12 refine af ?_
 refine Kc (aa.aK _ _ rfl rfl rfl) ?_
 iterate 2 refine af ?_
 refine aC.aU rfl ?_
 iterate 2 refine af ?_
 refine Kc (aa.aK _ _ rfl rfl rfl) ?_
 iterate 2 refine af ?_
 refine aC.aU rfl ?_
 iterate 2 refine af ?_
 refine Kc (aa.aK _ _ rfl rfl rfl) ?_
 iterate 2 refine af ?_
 refine aC.aU rfl ?_
 iterate 2 refine af ?_
 refine Kc (aa.aK _ _ rfl rfl rfl) ?_
 iterate 2 refine af ?_
 refine aC.iC rfl ?_
 iterate 6 refine af ?_
 refine Ki (fun Lr=> ?_) fun Lr=> ?_
 ·have Ff:24<=F.b.ag.length:=by have h:=Ze Lr;omega
  exact RG
 ·have Ff:¬ 24<=F.b.ag.length:=by have h:=Zf Lr;omega
  iterate 3 refine af ?_
  refine aC.az 14 mixed (by kernel_rfl) (by decide) ?_
  refine Kq (Kl (.p (.agg (cg F.b)))) ?_
  refine af ?_
  refine Kq (aa.aB (g:=Di.gt 0 n) (k:=0) (Di.av _) rfl rfl rfl ai bB rfl (fun _=>rfl) (by decide) (by omega)) ?_
  refine Kq (Kl (.p (.int .i64 (nn n 0)))) ?_
  refine Kq (Kp (zR F.b (nn n 0) q0.1)) ?_
  refine Kq (aa.fI rfl rfl) ?_
  refine af ?_
  refine ay.guard 245 244 rfl rfl rfl rfl rfl rfl rfl [(8,_)] (fun h=>And.intro (.inl rfl) (trivial)) (fun h=>(Kl (.p (.agg (cg F.b))))) ?_
  refine ay.guard 246 244 rfl rfl rfl rfl rfl rfl rfl [(7,_)] (fun h=>And.intro (.inl rfl) (trivial)) (fun h=>(aa.move rfl rfl)) ?_
  refine ay.guard 247 244 rfl rfl rfl rfl rfl rfl rfl [(246,_)] (fun h=>And.intro (.inr ⟨_,rfl,h⟩) (trivial)) (fun h=>(aa.aB (g:=Di.gt 0 n) (k:=1) (Di.av _) rfl rfl rfl ai bB rfl (fun _=>rfl) (by decide) (by omega))) ?_
  refine ay.guard 248 244 rfl rfl rfl rfl rfl rfl rfl [(247,_)] (fun h=>And.intro (.inr ⟨_,rfl,h⟩) (trivial)) (fun h=>(Kl (.p (.int .i64 (nn n 1))))) ?_
  refine ay.guard 249 244 rfl rfl rfl rfl rfl rfl rfl [(245,_),(248,_)] (fun h=>And.intro (.inr ⟨_,rfl,h⟩) (And.intro (.inr ⟨_,rfl,h⟩) (trivial))) (fun h=>(Kp (zR F.b (nn n 1) q1.1))) ?_
  refine ay.guard 250 244 rfl rfl rfl rfl rfl rfl rfl [(249,_)] (fun h=>And.intro (.inr ⟨_,rfl,h⟩) (trivial)) (fun h=>(aa.fI rfl rfl)) ?_
  refine Kq (aa.lE rfl rfl rfl ?_) ?_
  ·exact fO
  refine ay.nil ?_
  refine af ?_
  refine Ki (fun Iq=> ?_) fun Iq=> ?_
  ·have hr:(F.b.ag.length:Int)<=nn n 0∨(F.b.ag.length:Int)<=nn n 1:=by simpa using Iq
   iterate 2 refine af ?_
   refine Kc (Kl (.p (.agg (de F)))) ?_
   iterate 5 refine af ?_
   refine Fin.bq (xs:=[.agg (de F),.str (sB ([])),.int .i64 2]) rfl ⟨_,_,rfl,⟨_,_,_,rfl,ai,rfl⟩,⟨_,_,rfl,rfl,⟨_,_,rfl,rfl,rfl⟩⟩⟩ rfl ?_
   unfold bp
   dsimp only
   rw[if_neg Ff,if_pos hr]
  ·have hr:¬ ((F.b.ag.length:Int)<=nn n 0∨(F.b.ag.length:Int)<=nn n 1):=by simpa using Iq
   iterate 5 refine af ?_
   refine Kc (aa.aB (g:=Di.gt 0 n) (k:=2) (Di.av _) rfl rfl rfl ai bB rfl (fun _=>rfl) (by decide) (by omega)) ?_
   refine Kc (Kl (.p (.int .i64 (nn n 2)))) ?_
   iterate 2 refine af ?_
   refine Ki (fun V4=> ?_) fun V4=> ?_
   ·have hm:1048576<nn n 2:=by have h:=Ze V4;omega
    iterate 2 refine af ?_
    refine Kc (Kl (.p (.agg (de F)))) ?_
    iterate 5 refine af ?_
    refine Fin.bq (xs:=[.agg (de F),.str (sB ([])),.int .i64 1]) rfl ⟨_,_,rfl,⟨_,_,_,rfl,ai,rfl⟩,⟨_,_,rfl,rfl,⟨_,_,rfl,rfl,rfl⟩⟩⟩ rfl ?_
    unfold bp
    dsimp only
    rw[if_neg Ff,if_neg hr,if_pos hm]
   ·have hm:¬ 1048576<nn n 2:=by have h:=Zf V4;omega
    iterate 2 refine af ?_
    refine aC.az 14 mixed (by kernel_rfl) (by decide) ?_
    refine Kq (Kl (.p (.agg (cg F.b)))) ?_
    refine af ?_
    refine Kq (aa.aB (g:=Di.gt 0 n) (k:=0) (Di.av _) rfl rfl rfl ai bB rfl (fun _=>rfl) (by decide) (by omega)) ?_
    refine Kq (Kl (.p (.int .i64 (nn n 0)))) ?_
    refine af ?_
    refine Kq (aa.aB (g:=Di.gt 0 n) (k:=1) (Di.av _) rfl rfl rfl ai bB rfl (fun _=>rfl) (by decide) (by omega)) ?_
    refine Kq (Kl (.p (.int .i64 (nn n 1)))) ?_
    refine Kq (Kp (Ba (nn n 0) (nn n 1) (by omega) (by omega))) ?_
    refine af ?_
    refine Kq (aa.aB (g:=Di.gt 0 n) (k:=2) (Di.av _) rfl rfl rfl ai bB rfl (fun _=>rfl) (by decide) (by omega)) ?_
    refine Kq (Kl (.p (.int .i64 (nn n 2)))) ?_
    refine Kq (aa.build rfl ai rfl rfl) ?_
    refine Kq (Kp (qK F.b ⟨both (nn n 0) (nn n 1),nn n 2⟩ (by omega))) ?_
    refine af ?_
    refine ay.nil ?_
    iterate 3 refine af ?_
    refine aC.az 4 mixed (by kernel_rfl) (by decide) ?_
    iterate 2 refine af ?_
    refine Kq (aa.aF rfl ai (by decide) rfl rfl rfl) ?_
    refine Kq (Kp (dM ic [(F.b.ag.length:Int)] (by decide) (by show 1<=_;decide) (fun x hx=>by rw[Zw.1 hx];omega))) ?_
    refine ay.nil ?_
    iterate 5 refine af ?_
    refine Fin.bq (xs:=[.agg (de {F with b:=F.b.gz ⟨both (nn n 0) (nn n 1),nn n 2⟩}),.str (sB (br ic [(F.b.ag.length:Int)])),.int .i64 0]) rfl ⟨_,_,rfl,⟨_,_,_,rfl,ai,rfl⟩,⟨_,_,rfl,rfl,⟨_,_,rfl,rfl,rfl⟩⟩⟩ rfl ?_
    unfold bp
    dsimp only
    rw[if_neg Ff,if_neg hr,if_neg hm]
theorem Ge(F:c7)(n:List Int)(hF:kK F)(hl:n.length=0)(hn:∀ x∈n,0<=x∧x<10000000000000):Pure Tryz.prog 57 [.agg (de F),.agg [.str (sB (Vb.t .blame)),Di.aQ n]] (.tuple [.agg (de (bp F .blame n).1),.str (sB (bp F .blame n).2.1),.int .i64 (bp F .blame n).2.2]):=by
 have en:=Rx.bM hF.b.cd
 have hnb:=hn
 refine Kf (N:=496) Tryz.func57 ?_
 iterate 2 refine af ?_
 refine Kc (aa.cP rfl rfl rfl) ?_
 iterate 6 refine af ?_
 refine aC.bN 7 mixed (by kernel_rfl) (by decide) ?_
 refine ah.cons 29 rfl rfl rfl (aa.fieldAddr rfl rfl ai rfl) (fun _=>(aa.fieldAddr rfl rfl ai rfl)) ?_
 refine ah.cons 30 rfl rfl rfl (aa.load rfl rfl ai rfl) (fun _=>(aa.load rfl rfl ai rfl)) ?_
 refine ah.cons 31 rfl rfl rfl (aa.fieldAddr rfl rfl ai rfl) (fun _=>(aa.fieldAddr rfl rfl ai rfl)) ?_
 refine ah.cons 32 rfl rfl rfl (Kl (.p (.agg (cg F.b)))) (fun _=>(Kl (.p (.agg (cg F.b))))) ?_
 refine ah.lay 8 rfl rfl rfl (aa.aI rfl ai rfl) ?_
 refine ah.cons 7 rfl rfl rfl (aa.assign rfl rfl) (fun _=>(aa.assign rfl rfl)) ?_
 refine ah.put rfl rfl (by decide) (aa.store rfl rfl rfl rfl rfl ai rfl rfl) rfl ?_
 refine ah.nil ?_
 iterate 4 refine af ?_
 refine Kc (Kl (.p (Rx.cz F.b.ag))) ?_
 iterate 12 refine af ?_
 refine Kc (aa.aK _ _ rfl rfl rfl) ?_
 iterate 2 refine af ?_
 refine aC.aU rfl ?_
 iterate 2 refine af ?_
 refine Kc (aa.aK _ _ rfl rfl rfl) ?_
 iterate 2 refine af ?_
 refine aC.aU rfl ?_
 iterate 2 refine af ?_
 refine Kc (aa.aK _ _ rfl rfl rfl) ?_
 iterate 2 refine af ?_
 refine aC.aU rfl ?_
 iterate 2 refine af ?_
 refine Kc (aa.aK _ _ rfl rfl rfl) ?_
 iterate 2 refine af ?_
 refine aC.aU rfl ?_
 iterate 3 refine af ?_
 refine Kc (aa.aK _ _ rfl rfl rfl) ?_
 iterate 2 refine af ?_
 refine aC.aU rfl ?_
 refine af ?_
 refine Kc (aa.aK _ _ rfl rfl rfl) ?_
 iterate 2 refine af ?_
 refine aC.aU rfl ?_
 iterate 2 refine af ?_
 refine Kc (aa.aK _ _ rfl rfl rfl) ?_
 iterate 2 refine af ?_
 refine aC.iC rfl ?_
 iterate 3 refine af ?_
 refine Kc (Kl (.p (Rx.cz F.b.ag))) ?_
 refine af ?_
 refine Kc (Kl (.p (.int .i64 (F.b.bad:Int)))) ?_
 refine af ?_
 refine Kc (Kl (.p (.int .i64 (F.b.good:Int)))) ?_
 refine Kc (Kp (Rx.o6 F.b.ag F.b.bad F.b.good (Zz en (by decide)))) ?_
 iterate 12 refine af ?_
 refine Ki (fun WI=> ?_) fun WI=> ?_
 ·have he:Rx.hY F.b.ag F.b.bad F.b.good≠0:=by simpa using WI
  exact UD
 ·have he:¬ Rx.hY F.b.ag F.b.bad F.b.good≠0:=by simpa using WI
  iterate 2 refine af ?_
  refine aC.az 4 mixed (by kernel_rfl) (by decide) ?_
  refine Kq (Kl (.p (.agg (de F)))) ?_
  refine af ?_
  refine Kq (Kp (mh (Rx.kB F.b.ag F.b.bad F.b.good) (Zz (abV hF.b.cd) (by decide)))) ?_
  refine Kq (Kp (dM (Vb.t .blame) (gw (Rx.kB F.b.ag F.b.bad F.b.good)) (by decide) (Zz (nS _ 24) (by decide)) (fun x hx=>by have:=Aa _ x hx;omega))) ?_
  refine ay.nil ?_
  iterate 5 refine af ?_
  refine Fin.bq (xs:=[.agg (de F),.str (sB (br (Vb.t .blame) (gw (Rx.kB F.b.ag F.b.bad F.b.good)))),.int .i64 0]) rfl ⟨_,_,rfl,⟨_,_,_,rfl,ai,rfl⟩,⟨_,_,rfl,rfl,⟨_,_,rfl,rfl,rfl⟩⟩⟩ rfl ?_
  unfold bp
  dsimp only
  rw[if_neg he]
theorem M5(F:c7)(n:List Int)(hF:kK F)(hl:n.length=1)(hn:∀ x∈n,0<=x∧x<10000000000000):Pure Tryz.prog 57 [.agg (de F),.agg [.str (sB (Vb.t .from_)),Di.aQ n]] (.tuple [.agg (de (bp F .from_ n).1),.str (sB (bp F .from_ n).2.1),.int .i64 (bp F .from_ n).2.2]):=by
 have en:=Rx.bM hF.b.cd
 have hnb:=hn
 have q0:0<=nn n 0∧nn n 0<10000000000000:=hn _ (Di.aV 0 (show 0<n.length by omega))
 refine Kf (N:=496) Tryz.func57 ?_
 iterate 2 refine af ?_
 refine Kc (aa.cP rfl rfl rfl) ?_
 iterate 6 refine af ?_
 refine aC.bN 7 mixed (by kernel_rfl) (by decide) ?_
 refine ah.cons 29 rfl rfl rfl (aa.fieldAddr rfl rfl ai rfl) (fun _=>(aa.fieldAddr rfl rfl ai rfl)) ?_
 refine ah.cons 30 rfl rfl rfl (aa.load rfl rfl ai rfl) (fun _=>(aa.load rfl rfl ai rfl)) ?_
 refine ah.cons 31 rfl rfl rfl (aa.fieldAddr rfl rfl ai rfl) (fun _=>(aa.fieldAddr rfl rfl ai rfl)) ?_
 refine ah.cons 32 rfl rfl rfl (Kl (.p (.agg (cg F.b)))) (fun _=>(Kl (.p (.agg (cg F.b))))) ?_
 refine ah.lay 8 rfl rfl rfl (aa.aI rfl ai rfl) ?_
 refine ah.cons 7 rfl rfl rfl (aa.assign rfl rfl) (fun _=>(aa.assign rfl rfl)) ?_
 refine ah.put rfl rfl (by decide) (aa.store rfl rfl rfl rfl rfl ai rfl rfl) rfl ?_
 refine ah.nil ?_
 iterate 4 refine af ?_
 refine Kc (Kl (.p (Rx.cz F.b.ag))) ?_
 iterate 12 refine af ?_
 refine Kc (aa.aK _ _ rfl rfl rfl) ?_
 iterate 2 refine af ?_
 refine aC.aU rfl ?_
 iterate 2 refine af ?_
 refine Kc (aa.aK _ _ rfl rfl rfl) ?_
 iterate 2 refine af ?_
 refine aC.aU rfl ?_
 iterate 2 refine af ?_
 refine Kc (aa.aK _ _ rfl rfl rfl) ?_
 iterate 2 refine af ?_
 refine aC.aU rfl ?_
 iterate 2 refine af ?_
 refine Kc (aa.aK _ _ rfl rfl rfl) ?_
 iterate 2 refine af ?_
 refine aC.aU rfl ?_
 iterate 3 refine af ?_
 refine Kc (aa.aK _ _ rfl rfl rfl) ?_
 iterate 2 refine af ?_
 refine aC.aU rfl ?_
 refine af ?_
 refine Kc (aa.aK _ _ rfl rfl rfl) ?_
 iterate 2 refine af ?_
 refine aC.aU rfl ?_
 iterate 2 refine af ?_
 refine Kc (aa.aK _ _ rfl rfl rfl) ?_
 iterate 2 refine af ?_
 refine aC.aU rfl ?_
 iterate 2 refine af ?_
 refine Kc (aa.aK _ _ rfl rfl rfl) ?_
 iterate 2 refine af ?_
 refine aC.aU rfl ?_
 iterate 2 refine af ?_
 refine Kc (aa.aK _ _ rfl rfl rfl) ?_
 iterate 2 refine af ?_
 refine aC.iC rfl ?_
 refine af ?_
 refine aC.az 11 mixed (by kernel_rfl) (by decide) ?_
 refine af ?_
 refine Kq (Kl (.p (Rx.cz F.b.ag))) ?_
 refine af ?_
 refine Kq (aa.aB (g:=Di.gt 0 n) (k:=0) (Di.av _) rfl rfl rfl ai bB rfl (fun _=>rfl) (by decide) (by omega)) ?_
 refine Kq (Kl (.p (.int .i64 (nn n 0)))) ?_
 refine Kq (Kp (Rx.Ix F.b.ag (nn n 0) (Zz en (by decide)))) ?_
 refine af ?_
 refine Kq (aa.extract rfl rfl rfl) ?_
 refine Kq (aa.extract rfl rfl rfl) ?_
 iterate 2 refine af ?_
 refine ay.nil ?_
 iterate 7 refine af ?_
 refine Ki (fun U3=> ?_) fun U3=> ?_
 ·have he:Rx.fH F.b.ag (nn n 0)≠0:=by simpa using U3
  iterate 2 refine af ?_
  refine Kc (Kl (.p (.agg (de F)))) ?_
  iterate 6 refine af ?_
  refine Fin.bq (xs:=[.agg (de F),.str (sB ([])),.int .i64 (Rx.fH F.b.ag (nn n 0))]) rfl ⟨_,_,rfl,⟨_,_,_,rfl,ai,rfl⟩,⟨_,_,rfl,rfl,⟨_,_,rfl,rfl,rfl⟩⟩⟩ rfl ?_
  exact GU
 ·have he:¬ Rx.fH F.b.ag (nn n 0)≠0:=by simpa using U3
  iterate 2 refine af ?_
  refine aC.az 4 mixed (by kernel_rfl) (by decide) ?_
  refine Kq (Kl (.p (.agg (de F)))) ?_
  refine af ?_
  refine Kq (Kp (mh (Rx.jb F.b.ag (Rx.bn F.b.ag) (nn n 0)) (Zz (UH hF.b.cd _) (by decide)))) ?_
  refine Kq (Kp (dM (Vb.t .from_) (gw (Rx.jb F.b.ag (Rx.bn F.b.ag) (nn n 0))) (by decide) (Zz (nS _ 24) (by decide)) (fun x hx=>by have:=Aa _ x hx;omega))) ?_
  refine ay.nil ?_
  iterate 5 refine af ?_
  refine Fin.bq (xs:=[.agg (de F),.str (sB (br (Vb.t .from_) (gw (Rx.jb F.b.ag (Rx.bn F.b.ag) (nn n 0))))),.int .i64 0]) rfl ⟨_,_,rfl,⟨_,_,_,rfl,ai,rfl⟩,⟨_,_,rfl,rfl,⟨_,_,rfl,rfl,rfl⟩⟩⟩ rfl ?_
  unfold bp
  dsimp only
  rw[if_neg he]
theorem I8(F:c7)(n:List Int)(hF:kK F)(hl:n.length=0)(hn:∀ x∈n,0<=x∧x<10000000000000):Pure Tryz.prog 57 [.agg (de F),.agg [.str (sB (Vb.t .call)),Di.aQ n]] (.tuple [.agg (de (bp F .call n).1),.str (sB (bp F .call n).2.1),.int .i64 (bp F .call n).2.2]):=by
 have en:=Rx.bM hF.b.cd
 have hnb:=hn
 refine Kf (N:=496) Tryz.func57 ?_
 iterate 2 refine af ?_
 refine Kc (aa.cP rfl rfl rfl) ?_
 iterate 6 refine af ?_
 refine aC.bN 7 mixed (by kernel_rfl) (by decide) ?_
 refine ah.cons 29 rfl rfl rfl (aa.fieldAddr rfl rfl ai rfl) (fun _=>(aa.fieldAddr rfl rfl ai rfl)) ?_
 refine ah.cons 30 rfl rfl rfl (aa.load rfl rfl ai rfl) (fun _=>(aa.load rfl rfl ai rfl)) ?_
 refine ah.cons 31 rfl rfl rfl (aa.fieldAddr rfl rfl ai rfl) (fun _=>(aa.fieldAddr rfl rfl ai rfl)) ?_
 refine ah.cons 32 rfl rfl rfl (Kl (.p (.agg (cg F.b)))) (fun _=>(Kl (.p (.agg (cg F.b))))) ?_
 refine ah.lay 8 rfl rfl rfl (aa.aI rfl ai rfl) ?_
 refine ah.cons 7 rfl rfl rfl (aa.assign rfl rfl) (fun _=>(aa.assign rfl rfl)) ?_
 refine ah.put rfl rfl (by decide) (aa.store rfl rfl rfl rfl rfl ai rfl rfl) rfl ?_
 refine ah.nil ?_
 iterate 4 refine af ?_
 refine Kc (Kl (.p (Rx.cz F.b.ag))) ?_
 iterate 12 refine af ?_
 refine Kc (aa.aK _ _ rfl rfl rfl) ?_
 iterate 2 refine af ?_
 refine aC.aU rfl ?_
 iterate 2 refine af ?_
 refine Kc (aa.aK _ _ rfl rfl rfl) ?_
 iterate 2 refine af ?_
 refine aC.aU rfl ?_
 iterate 2 refine af ?_
 refine Kc (aa.aK _ _ rfl rfl rfl) ?_
 iterate 2 refine af ?_
 refine aC.aU rfl ?_
 iterate 2 refine af ?_
 refine Kc (aa.aK _ _ rfl rfl rfl) ?_
 iterate 2 refine af ?_
 refine aC.aU rfl ?_
 iterate 3 refine af ?_
 refine Kc (aa.aK _ _ rfl rfl rfl) ?_
 iterate 2 refine af ?_
 refine aC.aU rfl ?_
 refine af ?_
 refine Kc (aa.aK _ _ rfl rfl rfl) ?_
 iterate 2 refine af ?_
 refine aC.aU rfl ?_
 iterate 2 refine af ?_
 refine Kc (aa.aK _ _ rfl rfl rfl) ?_
 iterate 2 refine af ?_
 refine aC.aU rfl ?_
 iterate 2 refine af ?_
 refine Kc (aa.aK _ _ rfl rfl rfl) ?_
 iterate 2 refine af ?_
 refine aC.iC rfl ?_
 iterate 3 refine af ?_
 refine Kc (Kl (.p (Rx.cz F.b.ag))) ?_
 refine af ?_
 refine Kc (Kl (.p (.int .i64 (F.b.bad:Int)))) ?_
 refine af ?_
 refine Kc (Kl (.p (.int .i64 (F.b.good:Int)))) ?_
 refine Kc (Kp (Rx.Dd F.b.ag F.b.bad F.b.good (Zz en (by decide)))) ?_
 iterate 15 refine af ?_
 refine Ki (fun UP=> ?_) fun UP=> ?_
 ·have he:Rx.hY F.b.ag F.b.bad F.b.good≠0:=by simpa using UP
  exact UD
 ·have he:¬ Rx.hY F.b.ag F.b.bad F.b.good≠0:=by simpa using UP
  obtain⟨⟨s1,s2⟩,s3,s4⟩:=DH (bad:=F.b.bad) (good:=F.b.good) hF.b.cd
  iterate 2 refine af ?_
  refine aC.bz 12 0 [1] [([0],false),([],false),([3],false),([],false),([3],false),([],false),([],false),([],false),([],false),([],false),([],false),([1],true)] mixed (by kernel_rfl) (by decide) (by kernel_rfl) rfl rfl ?_
  refine aX.cons 370 rfl rfl rfl (fun _=>(Kl (.p (.agg (de F))))) rfl ?_
  refine af ?_
  refine aX.cons 372 rfl rfl rfl (fun _=>(Kl (.p (.int .i64 (Rx.iZ F.b.ag F.b.bad F.b.good).1)))) rfl ?_
  refine af ?_
  refine aX.cons 374 rfl rfl rfl (fun _=>(Kl (.p (.int .i64 (Rx.iZ F.b.ag F.b.bad F.b.good).2)))) rfl ?_
  refine aX.cons 375 rfl rfl rfl (fun _=>(aa.aF rfl ai (by decide) rfl rfl rfl)) rfl ?_
  refine aX.cons 376 rfl rfl rfl (fun _=>(Kp (dM (Vb.t .call) [(Rx.iZ F.b.ag F.b.bad F.b.good).1,(Rx.iZ F.b.ag F.b.bad F.b.good).2] (by decide) (by show 2<=_;decide) (fun x hx=>by rcases Zv.1 hx with rfl | hx;omega;rw[Zw.1 hx];omega)))) rfl ?_
  refine af ?_
  refine aX.cons 378 rfl rfl rfl (fun _=>(Kp (mh (Rx.oz F.b.ag F.b.bad F.b.good) (Zz (Z4 hF.b.cd) (by decide))))) rfl ?_
  refine aX.cons 379 rfl rfl rfl (fun _=>(Kp (dM [] (gw (Rx.oz F.b.ag F.b.bad F.b.good)) (by decide) (Zz (nS _ 24) (by decide)) (fun x hx=>by have:=Aa _ x hx;omega)))) rfl ?_
  refine aX.cons 380 rfl rfl rfl (fun _=>(aa.jE _ _ rfl rfl rfl ?_)) rfl ?_
  ·exact zy (by decide) (by decide) (by show 2<=100;decide) (fj _) (Bq (by omega) (by omega)) (qk _)
  refine aX.put 1 rfl rfl rfl rfl (fun _=>(aa.store rfl rfl rfl rfl rfl ai rfl rfl)) rfl rfl ?_
  refine aX.nil ?_
  iterate 4 refine af ?_
  refine Fin.bq (xs:=[.agg (de F),.str (sB (br (Vb.t .call) [(Rx.iZ F.b.ag F.b.bad F.b.good).1,(Rx.iZ F.b.ag F.b.bad F.b.good).2]++br [] (gw (Rx.oz F.b.ag F.b.bad F.b.good)))),.int .i64 0]) rfl ⟨_,_,rfl,⟨_,_,_,rfl,ai,rfl⟩,⟨_,_,rfl,rfl,⟨_,_,rfl,rfl,rfl⟩⟩⟩ rfl ?_
  unfold bp
  dsimp only
  rw[if_neg he]
  rw[Km]
  rfl
end Go.Proofs.YtchiinjiflgepaaGreatDoor
end
