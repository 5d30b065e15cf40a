/-
 The reference of chapter 15: numbers and words.
 The reference of chapter 15: sets, complaints, what a line says.
 The reference of chapter 15: what a line does.
 The reference of chapter 15: books are the same.
-/
import Derived.Test.YtibffijhebobmaaGreatDoorMzSF
import Derived.Test.YtibffijhebobmaaGreatDoorMzSR
import Derived.Test.YtibffijhebobmaaGreatDoorMzSC
import Derived.Test.YtibffijhebobmaaGreatDoorMzSD
import Derived.Test.YtibffijhebobmaaGreatDoorMzSP
import Derived.Test.YtibffijhebobmaaGreatDoorMzSZ
theorem nR{A:Prop}(h:A:=by
 refine af ?_
 exact CS):A:=h
theorem CS{A:Prop}(h:A:=by
 refine Ki (fun uk=> ?_) fun uk=> ?_
 ·iterate 5 refine af ?_
  exact Ok
 ·iterate 3 refine af ?_
  refine Kc (aa.dJ s (Vb.t .bad) rfl rfl rfl) ?_
  iterate 2 refine af ?_
  refine Ki (fun xQ=> ?_) fun xQ=> ?_
  ·refine af ?_
   exact qJ
  ·iterate 2 refine af ?_
   refine Kc (aa.dJ s (Vb.t .good) rfl rfl rfl) ?_
   iterate 2 refine af ?_
   refine Ki (fun Rb=> ?_) fun Rb=> ?_
   ·refine af ?_
    exact qJ
   ·iterate 2 refine af ?_
    refine Kc (aa.dJ s (Vb.t .from_) rfl rfl rfl) ?_
    iterate 2 refine af ?_
    refine Ki (fun Rl=> ?_) fun Rl=> ?_
    ·refine af ?_
     exact qJ
    ·refine af ?_
     refine Kc (aa.dJ s (Vb.t .wear) rfl rfl rfl) ?_
     iterate 2 refine af ?_
     exact qJ):A:=h
theorem qY{A:Prop}(h:A:=by
 iterate 5 refine af ?_
 refine Fin.gL rfl rfl ?_
 simp only[Zn,ZY] at*
 first | contradiction | (subst_vars;rfl) | exact congrArg (PV.int .i64) (sR fun v=>by cases v <;> (intro e;exact absurd e.symm (by assumption))).symm):A:=h
theorem qJ{A:Prop}(h:A:=by
 refine Ki (fun XB=> ?_) fun XB=> ?_
 ·exact qY
 ·iterate 2 refine af ?_
  refine Kc (aa.dJ s (Vb.t .pencil) rfl rfl rfl) ?_
  iterate 2 refine af ?_
  refine Ki (fun JH=> ?_) fun JH=> ?_
  ·exact qY
  ·iterate 2 refine af ?_
   refine Kc (aa.dJ s (Vb.t .kJ) rfl rfl rfl) ?_
   iterate 2 refine af ?_
   refine Ki (fun Oq=> ?_) fun Oq=> ?_
   ·exact qY
   ·iterate 2 refine af ?_
    refine Kc (aa.dJ s (Vb.t .lead) rfl rfl rfl) ?_
    iterate 2 refine af ?_
    refine Ki (fun QE=> ?_) fun QE=> ?_
    ·exact qY
    ·iterate 6 refine af ?_
     refine Fin.gL rfl rfl ?_
     simp only[Zn,ZY] at*
     first | contradiction | (subst_vars;rfl) | exact congrArg (PV.int .i64) (sR fun v=>by cases v <;> (intro e;exact absurd e.symm (by assumption))).symm):A:=h
theorem Ok{A:Prop}(h:A:=by
 refine Fin.gL rfl rfl ?_
 simp only[Zn,ZY] at*
 first | contradiction | (subst_vars;rfl) | exact congrArg (PV.int .i64) (sR fun v=>by cases v <;> (intro e;exact absurd e.symm (by assumption))).symm):A:=h
theorem rJ{A:Prop}(h:A:=by
 iterate 3 refine af ?_
 refine Kc (aa.add (m:=((i+1:Nat):Int)) rfl rfl rfl ((aI ?_).trans ?_)) ?_
 ·omega
 ·omega
 iterate 2 refine af ?_
 refine⟨i+1,?_,?_,?_⟩
 ·exact hk0
 ·omega
 exact To.sub KS):A:=h
theorem A4{A:Prop}(h:A:=by
 iterate 6 refine af ?_
 refine Fin.dI (xs:=[.int .i64 0,.bool false]) rfl ⟨_,_,rfl,rfl,⟨_,_,rfl,rfl,rfl⟩⟩ rfl ?_
 unfold fJ rB
 rw[hno]
 rfl):A:=h
set_option linter.unusedSimpArgs false
set_option linter.unusedVariables false
section
set_option maxRecDepth 100000
set_option maxHeartbeats 4000000
namespace Go.Proofs.YtibffijhebobmaaGreatDoor
open Go.AF
theorem FZ(s:Bs)(hs:s.length<=1000000):Pure Tryz.prog 46 [.str (sB s)] (.tuple [.int .i64 (fJ s),.bool (rB s)]):=by
 refine Kf (N:=49) Tryz.func46 ?_
 iterate 9 refine af ?_
 refine Kc (aa.gw rfl rfl EV) ?_
 iterate 2 refine af ?_
 refine Kg 10 9 0 rfl (fun h=>(aa.move rfl rfl)) ?_
 refine Kh 11 9 10 rfl rfl rfl rfl (fun h=>(aa.gw rfl rfl EV)) ?_
 refine Kh 12 9 11 rfl rfl rfl rfl (fun h=>(aa.gtr rfl rfl rfl)) ?_
 refine Kc (aa.kA rfl rfl rfl ?_) ?_
 ·exact ax
 refine af ?_
 refine Kg 15 14 0 rfl (fun h=>(aa.move rfl rfl)) ?_
 refine Kh 16 14 15 rfl rfl rfl rfl (fun h=>(aa.gw rfl rfl EV)) ?_
 refine Kh 17 14 16 rfl rfl rfl rfl (fun h=>(aa.gtr rfl rfl rfl)) ?_
 refine Kh 18 14 17 rfl rfl rfl rfl (fun h=>(aa.move rfl rfl)) ?_
 refine Kg 19 18 0 rfl (fun h=>(aa.move rfl rfl)) ?_
 refine Kh 20 18 19 rfl rfl rfl rfl (fun h=>(aa.yf s 0 (Di.gt 0 s 0) rfl rfl rfl an (by have h2:1<s.length:=(by have h3:=Zg (eq_of_beq (Bool.and_eq_true_iff.1 h).2);rw[cU] at h3;omega);rw[Zb (by omega),Di.aE 0 _ (by omega)]))) ?_
 refine Kh 21 18 20 rfl rfl rfl rfl (fun h=>(aa.eql rfl rfl rfl)) ?_
 refine aj.g 22 14 rfl rfl rfl rfl rfl rfl rfl [(18,_),(21,_)] (fun h=>And.intro (.inr ⟨_,rfl,h⟩) (And.intro (.inl rfl) (trivial))) (fun h=>(aa.ec rfl rfl rfl ?_)) ?_
 ·exact ax
 refine Kc (aa.kA rfl rfl rfl ?_) ?_
 ·exact ax
 refine af ?_
 refine Ki (fun hc0=> ?_) fun hc0=> ?_
 ·have hno:=zZ ((St (s:=s) hc0).1 rfl)
  exact A4
 ·have hy:=(St (s:=s) hc0).2 rfl
  have Wd:=hy.2.1
  iterate 11 refine af ?_
  refine aF.eU [0,48] (fun g=>[(5,.p (.int .i64 ((g:Nat):Int))),(4,.p (.int .i64 ((mj (s.take g):Nat):Int)))]) (fun g=>[]) (fun g=>g<=s.length∧∀ j,j<g->pF (Di.gt 0 s j)=true) (fun g=>s.length - g) 0 ⟨Zp _,fun j hj=>absurd hj (by omega)⟩ (To.sub (Sub.zY (Sub.cons rfl (Sub.cons rfl (Sub.nil))))) (fun i ⟨zE,nk⟩=> ?_)
  iterate 5 refine af ?_
  refine Kc (aa.gw rfl rfl EV) ?_
  iterate 2 refine af ?_
  refine Ki (fun cK=> ?_) fun cK=> ?_
  ·have hk0:i<s.length:=by have h:=Zg cK;rw[cU] at h;omega
   have hb:=(Di.gt 0 s i).toNat_lt
   iterate 8 refine af ?_
   refine Kc (aa.yf s i (Di.gt 0 s i) rfl rfl rfl an (by rw[Zb hk0,Di.aE 0 i hk0])) ?_
   iterate 2 refine af ?_
   refine Kg 35 34 0 rfl (fun h=>(aa.move rfl rfl)) ?_
   refine Kg 36 34 5 rfl (fun h=>(aa.move rfl rfl)) ?_
   refine aj.g 37 34 rfl rfl rfl rfl rfl rfl rfl [(35,_),(36,_)] (fun h=>And.intro (.inr ⟨_,rfl,h⟩) (And.intro (.inr ⟨_,rfl,h⟩) (trivial))) (fun h=>(aa.yf s i (Di.gt 0 s i) rfl rfl rfl an (by rw[Zb hk0,Di.aE 0 i hk0]))) ?_
   refine Kh 38 34 37 rfl rfl rfl rfl (fun h=>(aa.gtr rfl rfl rfl)) ?_
   refine Kc (aa.kA rfl rfl rfl ?_) ?_
   ·exact ax
   refine af ?_
   refine Ki (fun jb=> ?_) fun jb=> ?_
   ·have hno:=zZ (GA hk0 (by unfold pF;simp only[Fc,Zn] at jb;rw[Yd];simp only[ZY];omega))
    exact A4
   ·have Wx:pF (Di.gt 0 s i)=true:=by unfold pF;simp only[PF,ZY] at jb;rw[Zm];simp only[Zn];omega
    have hdd:=vi Wx
    have hvs:=xx hk0
    have hv:=wN (s:=s) (i:=i) (by omega) Wd nk
    iterate 3 refine af ?_
    refine Kc (aa.mul (m:=((10*mj (s.take i):Nat):Int)) rfl rfl rfl ((aI ?_).trans ?_)) ?_
    ·omega
    ·omega
    iterate 2 refine af ?_
    refine Kc (aa.yf s i (Di.gt 0 s i) rfl rfl rfl an (by rw[Zb hk0,Di.aE 0 i hk0])) ?_
    refine Kc (aa.fN (m:=(((Di.gt 0 s i).toNat - 48:Nat):Int)) rfl rfl rfl ((Z4 ?_).trans ?_)) ?_
    ·omega
    ·omega
    refine Kc (aa.dS rfl rfl (by rw[un5];rfl) B0 (aI ?_)) ?_
    ·omega
    refine Kc (aa.add (m:=((mj (s.take (i+1)):Nat):Int)) rfl rfl rfl ((aI ?_).trans ?_)) ?_
    ·omega
    ·omega
    iterate 4 refine af ?_
    refine Kc (aa.add rfl rfl rfl (aI ?_)) ?_
    ·omega
    iterate 2 refine af ?_
    refine⟨i+1,?_,?_,?_⟩
    ·exact Eu
    ·omega
    exact To.done [] rfl KS rfl
  ·have hi2:i=s.length:=by have h:=Zk cK;rw[cU] at h;omega
   subst hi2
   have hyes:=ux (K4 hy nk)
   refine aF.exit ?_
   iterate 7 refine af ?_
   refine Fin.dI (xs:=[.int .i64 ((mj (s.take s.length):Nat):Int),.bool true]) rfl ⟨_,_,rfl,rfl,⟨_,_,rfl,rfl,rfl⟩⟩ rfl ?_
   unfold fJ rB
   rw[hyes,ZV]
   rfl
theorem Pn(s:Bs)(c:UInt8)(hs:s.length<=200000):Pure Tryz.prog 44 [.str (sB s),.int .u8 (c.toNat:Int)] (cz (c5 c [] s)):=by
 refine Kf (N:=35) Tryz.func44 ?_
 iterate 18 refine af ?_
 refine aF.eU [0,1,4,34] (fun(g:Nat×Nat×List Bs)=>[(7,.p (.int .i64 ((g.1:Nat):Int))),(6,.p (.int .i64 ((g.2.1:Nat):Int))),(5,hO 0 g.2.2.length)]) (fun(g:Nat×Nat×List Bs)=>[dA ((g.2.2.flatMap je).map .p) 9 g.2.2.length]) (fun(g:Nat×Nat×List Bs)=>g.2.2.length<=g.1∧((g.1<=s.length∧g.2.1<=g.1∧c5 c [] s=g.2.2++c5 c ((s.drop g.2.1).take (g.1 - g.2.1)) (s.drop g.1))∨(g.1=s.length+1∧g.2.2=c5 c [] s))) (fun(g:Nat×Nat×List Bs)=>s.length+1 - g.1) (0,0,[]) ⟨Zf _,.inl ⟨Zp _,Zf _,rfl⟩⟩ (To.pad.trans (To.sub (Sub.zY (Sub.cons rfl (Sub.cons rfl (Sub.cons rfl Sub.nil)))))) (fun g hg=> ?_)
 obtain⟨i,f,out⟩:=g
 obtain⟨hol,hI⟩:=hg
 dsimp only at hol hI ⊢
 iterate 5 refine af ?_
 refine Kc (aa.gw rfl rfl EV) ?_
 iterate 2 refine af ?_
 refine Ki (fun hc0=> ?_) fun hc0=> ?_
 ·have hil:i<=s.length:=by have h:=Zg hc0;rw[cU] at h;omega
  obtain⟨_,hfi,hI⟩:=hI.resolve_right (fun h=>by omega)
  iterate 7 refine af ?_
  refine Kc (aa.gw rfl rfl EV) ?_
  iterate 2 refine af ?_
  refine Kg 19 18 0 rfl (fun h=>(aa.move rfl rfl)) ?_
  refine Kg 20 18 7 rfl (fun h=>(aa.move rfl rfl)) ?_
  refine aj.g 21 18 rfl rfl rfl rfl rfl rfl rfl [(19,_),(20,_)] (fun h=>And.intro (.inr ⟨_,rfl,h⟩) (And.intro (.inr ⟨_,rfl,h⟩) (trivial))) (fun h=>(aa.yf s i (Di.gt 0 s i) rfl rfl rfl an (by have h2:¬ (i:Int)=(s.length:Int):=Zk (eq_of_beq h);rw[Zb (by omega),Di.aE 0 i (by omega)]))) ?_
  refine Kg 22 18 1 rfl (fun h=>(aa.move rfl rfl)) ?_
  refine aj.g 23 18 rfl rfl rfl rfl rfl rfl rfl [(21,_),(22,_)] (fun h=>And.intro (.inr ⟨_,rfl,h⟩) (And.intro (.inr ⟨_,rfl,h⟩) (trivial))) (fun h=>(aa.eql rfl rfl rfl)) ?_
  refine Kc (aa.kA rfl rfl rfl ?_) ?_
  ·exact ax
  refine af ?_
  refine Ki (fun cK=> ?_) fun cK=> ?_
  ·iterate 6 refine af ?_
   refine Kc (aa.OD s f i rfl rfl an ⟨_,rfl⟩ ⟨_,rfl⟩ hfi (by omega)) ?_
   refine Kc (aa.aR rfl an (by decide) rfl rfl rfl) ?_
   refine Kc (aa.iG rfl rfl rfl an an rfl ?_ rfl (by decide) rfl an (by decide) ?_) ?_
   ·exact kB
   ·show(2*(out.length+1)+192)*16<=281474976710656;omega
   iterate 4 refine af ?_
   refine Kc (aa.add (m:=((i+1:Nat):Int)) rfl rfl rfl ((aI ?_).trans ?_)) ?_
   ·omega
   ·omega
   iterate 4 refine af ?_
   refine Kc (aa.add (m:=((i+1:Nat):Int)) rfl rfl rfl ((aI ?_).trans ?_)) ?_
   ·omega
   ·omega
   iterate 2 refine af ?_
   refine⟨(i+1,i+1,out++[(s.drop f).take (i - f)]),?_,?_,?_⟩
   ·refine⟨by rw[Zc];show out.length+1<=i+1;omega,?_⟩
    rcases ZM i s.length with h | h
    ·exact .inl ⟨h,Zf _,RE h hfi (by rcases WY (s:=s) cK with h2 | h2;exact absurd h2 (by omega);exact h2) hI⟩
    ·obtain rfl:i=s.length:=by omega
     exact .inr ⟨rfl,(Q5 hI).symm⟩
   ·show s.length+1 - (i+1)<s.length+1 - i
    omega
   have Wu:(out++[(s.drop f).take (i - f)]).length=out.length+1:=by rw[Zc];rfl
   have eL:(out++[(s.drop f).take (i - f)]).flatMap je=out.flatMap je++je ((s.drop f).take (i - f)):=by rw[Hp];simp
   dsimp only
   exact rH
  ·iterate 3 refine af ?_
   refine Kc (aa.add (m:=((i+1:Nat):Int)) rfl rfl rfl ((aI ?_).trans ?_)) ?_
   ·omega
   ·omega
   iterate 2 refine af ?_
   refine⟨(i+1,f,out),?_,?_,?_⟩
   ·obtain⟨n1,n2⟩:=Th (s:=s) cK
    exact⟨by show out.length<=i+1;omega,.inl ⟨by show i+1<=s.length;omega,by show f<=i+1;omega,UY (by omega) hfi n2 hI⟩⟩
   ·show s.length+1 - (i+1)<s.length+1 - i
    omega
   exact To.sub KS
 ·have hil:¬ i<=s.length:=by have h:=Zk hc0;rw[cU] at h;omega
  obtain⟨_,hI⟩:=hI.resolve_left (fun h=>hil h.1)
  refine aF.to (To.U6 5 0 out.length (xs:=out.flatMap je) rfl rfl (fun h=>by rw[KJ.1 h];rfl)) ?_
  subst hI
  refine aF.exit ?_
  iterate 6 refine af ?_
  exact kU
theorem JX(s:Bs):Pure Tryz.prog 45 [.str (sB s)] (.int .i64 (manyN s)):=by
 refine Kf (N:=22) Tryz.func45 ?_
 iterate 13 refine af ?_
 refine Kc (aa.dJ s (Vb.t .slat) rfl rfl rfl) ?_
 iterate 2 refine af ?_
 refine Ki (fun hc0=> ?_) fun hc0=> ?_
 ·exact nR
 ·iterate 2 refine af ?_
  refine Kc (aa.dJ s (Vb.t .blame) rfl rfl rfl) ?_
  iterate 2 refine af ?_
  refine Ki (fun cK=> ?_) fun cK=> ?_
  ·exact nR
  ·iterate 2 refine af ?_
   refine Kc (aa.dJ s (Vb.t .call) rfl rfl rfl) ?_
   iterate 2 refine af ?_
   refine Ki (fun jb=> ?_) fun jb=> ?_
   ·exact nR
   ·iterate 2 refine af ?_
    refine Kc (aa.dJ s (Vb.t .mark) rfl rfl rfl) ?_
    iterate 2 refine af ?_
    refine Ki (fun mc=> ?_) fun mc=> ?_
    ·exact nR
    ·iterate 2 refine af ?_
     refine Kc (aa.dJ s (Vb.t .back) rfl rfl rfl) ?_
     iterate 2 refine af ?_
     refine Ki (fun tY=> ?_) fun tY=> ?_
     ·exact nR
     ·refine af ?_
      refine Kc (aa.dJ s (Vb.t .keep) rfl rfl rfl) ?_
      iterate 2 refine af ?_
      exact CS
theorem JG(s:Bs)(hs:s.length<=200000):Pure Tryz.prog 15 [.str (sB s)] (.tuple [.agg (Fp (bf s)),.bool (mq (bf s) ((bf s).length - 1))]):=by
 refine Kf (N:=50) Tryz.func15 ?_
 iterate 8 refine af ?_
 refine Kc (Kp (Pn s 32 hs)) ?_
 have aah:∀ x∈bf s,x.length<=1000000:=fun x hx=>by have h:x.length<=0+s.length:=lY 32 s [] x hx;omega
 have hwp:=ou s
 have nA:=(iH 32 s []).2
 show aj _ _ _ _ _ _ _ ((11,.p (cz (bf s)))::_) _
 have hwb:=aah
 generalize hwe:bf s=w at hwp hwb ⊢
 have nA:w.length<=s.length+1:=by rw[<- hwe];exact nA
 iterate 5 refine af ?_
 refine Kc (aa.aP (g:=Di.gt [] w) (k:=0) (Di.aE _) rfl rfl rfl an qh rfl (fun _=>rfl) (by decide) hwp) ?_
 refine Kc (Kl (.p (.str (sB (Di.gt [] w 0))))) ?_
 iterate 7 refine af ?_
 refine Kc (aa.aP (g:=Di.gt [] w) (k:=0) (Di.aE _) rfl rfl rfl an qh rfl (fun _=>rfl) (by decide) hwp) ?_
 refine Kc (Kl (.p (.str (sB (Di.gt [] w 0))))) ?_
 refine Kc (Kp (JX (Di.gt [] w 0))) ?_
 iterate 2 refine af ?_
 refine Kc (aa.fN rfl rfl rfl (aI ?_)) ?_
 ·omega
 iterate 9 refine af ?_
 refine aF.eU [2,3,4,5,48,49] (fun g=>[(7,.p (.int .i64 ((g+1:Nat):Int))),(6,.p (.bool (mq w g)))]) (fun g=>[.cells [.p (.str (sB [])),.p .nilSlice] 47,.cells [.p (.str (sB (Di.gt [] w 0))),hO 2 (iX w g).length] 47,dA (((iX w g).flatMap Di.bZ).map .p) 3 (iX w g).length]) (fun g=>g+1<=w.length) (fun g=>w.length - g) 0 hwp (To.pad.trans (To.sub (Sub.zY (Sub.cons rfl (Sub.cons (by show some _=some _;unfold mq;rw[Mq];simp) Sub.nil))))) (fun i hg=> ?_)
 iterate 8 refine af ?_
 refine Ki (fun hc0=> ?_) fun hc0=> ?_
 ·have hk0:i+1<w.length:=by have h:((i+1:Nat):Int)<(w.length:Int):=Zg hc0;omega
  have hpl:=Ct (w:=w) (g:=i) (by omega)
  iterate 7 refine af ?_
  refine Kc (aa.aP (g:=Di.gt [] w) (k:=(i+1)) (Di.aE _) rfl rfl rfl an qh rfl (fun _=>rfl) (by decide) hk0) ?_
  refine Kc (Kl (.p (.str (sB (Di.gt [] w (i+1)))))) ?_
  refine Kc (Kp (FZ (Di.gt [] w (i+1)) (hwb _ (Di.bN [] hk0)))) ?_
  iterate 10 refine af ?_
  refine Kg 40 39 9 rfl (fun h=>(aa.move rfl rfl)) ?_
  refine Kc (aa.ec rfl rfl rfl ?_) ?_
  ·exact ax
  iterate 4 refine af ?_
  refine Kc (Kl (hO 2 (iX w i).length)) ?_
  refine af ?_
  refine Kc (aa.aR rfl an (by decide) rfl rfl rfl) ?_
  refine Kc (aa.iG rfl rfl rfl an an rfl ?_ rfl (by decide) rfl an (by decide) ?_) ?_
  ·exact kB
  ·show(2*((iX w i).length+1)+192)*8<=281474976710656;omega
  refine af ?_
  refine Kz (aa.Mk (H':=[.cells [.p (.str (sB [])),.p .nilSlice] 47,.cells [.p (.str (sB (Di.gt [] w 0))),hO 3 ((iX w i).length+1)] 47,.dead,dA (((iX w i).flatMap Di.bZ).map .p++[.p (.int .i64 (fJ (Di.gt [] w (i+1))))]) 3 ((iX w i).length+1)]) rfl rfl rfl an rfl) ?_
  iterate 3 refine af ?_
  refine Kc (aa.add (m:=((i+1+1:Nat):Int)) rfl rfl rfl ((aI ?_).trans ?_)) ?_
  ·omega
  ·omega
  iterate 2 refine af ?_
  refine⟨i+1,?_,?_,?_⟩
  ·exact hk0
  ·omega
  rw[<- I6 hk0]
  have eL:(iX w (i+1)).length=(iX w i).length+1:=by rw[yT hk0,Zc];rfl
  have eC:(iX w (i+1)).flatMap Di.bZ=(iX w i).flatMap Di.bZ++[.int .i64 (fJ (Di.gt [] w (i+1)))]:=by rw[yT hk0,Hp];rfl
  rw[eL,eC]
  refine To.done [0,1,3] rfl KS ?_
  show[_,ai.cells [_,aY _ (hO 3 _)] _,ai.row (bw _ (_++_)) _]=[_,_,ai.row _ _]
  rw[bF,aX,ZC]
  rfl
 ·have hi2:i=w.length - 1:=by have h:¬ ((i+1:Nat):Int)<(w.length:Int):=Zk hc0;omega
  subst hi2
  refine aF.to (To.Z1 2 1 (xs:=(iX w (w.length - 1)).flatMap Di.bZ) (n:=(iX w (w.length - 1)).length) (a:=[.str (sB (Di.gt [] w 0))]) (b:=[]) [(2,.ptr 0 0),(5,.ptr 1 0),(6,.p (.bool (mq w (w.length - 1))))] (by decide) rfl rfl (fun h=>by rw[KJ.1 h];rfl) rfl rfl KS KS) ?_
  refine aF.exit ?_
  iterate 2 refine af ?_
  refine Kc (Kl (.p (.agg (Fp w)))) ?_
  iterate 5 refine af ?_
  refine Fin.dI (xs:=[.agg (Fp w),.bool (mq w (w.length - 1))]) rfl ⟨_,_,rfl,⟨_,_,_,rfl,an,rfl⟩,⟨_,_,rfl,rfl,rfl⟩⟩ rfl ?_
  rfl
theorem MG{α:Type}(f:α->List PV)(l:List α)(h:∀ x,((f x).map V.p).all jj=true):((l.flatMap f).map V.p).all jj=true:=by
 induction l with
 | nil=>rfl
 | cons x l ih=>rw[ZI,ZC,List.all_append,h x,ih];rfl
theorem KK(l:List Int)(hl:l.length<=1000000):Pure Tryz.prog 30 [Di.bh l,Di.bh l] (.bool true):=by
 refine Kf (N:=26) Tryz.func30 ?_
 iterate 13 refine af ?_
 refine Ki (fun hc0=> ?_) fun hc0=> ?_
 ·simp at hc0
 ·iterate 7 refine af ?_
  refine aF.eU [0,1] (fun g=>[(5,.p (.int .i64 ((g:Nat):Int)))]) (fun g=>[]) (fun g=>g<=l.length) (fun g=>l.length - g) 0 (Zp _) (To.sub (Sub.zY (Sub.cons rfl (Sub.nil)))) (fun i hg=> ?_)
  iterate 8 refine af ?_
  refine Ki (fun cK=> ?_) fun cK=> ?_
  ·have hk0:i<l.length:=by have h:(i:Int)<(l.length:Int):=Zg cK;omega
   iterate 4 refine af ?_
   refine aF.aB 9 mixed (by kernel_rfl) (by decide) ?_
   iterate 2 refine af ?_
   refine Kq (aa.aP (g:=Di.gt 0 l) (Di.aE _) rfl rfl rfl an dF rfl (fun _=>rfl) (by decide) hk0) ?_
   refine Kq (Kl (.p (.int .i64 (Di.gt 0 l i)))) ?_
   iterate 2 refine af ?_
   refine Kq (aa.aP (g:=Di.gt 0 l) (Di.aE _) rfl rfl rfl an dF rfl (fun _=>rfl) (by decide) hk0) ?_
   refine Kq (Kl (.p (.int .i64 (Di.gt 0 l i)))) ?_
   refine Kq (aa.neq rfl rfl rfl) ?_
   refine av.nil ?_
   refine af ?_
   refine Ki (fun jb=> ?_) fun jb=> ?_
   ·simp at jb
   ·exact rJ
  ·have hi2:i=l.length:=by have h:¬ ((i:Int)<(l.length:Int)):=Zk cK;omega
   subst hi2
   refine aF.exit ?_
   iterate 5 refine af ?_
   exact kU
theorem ia(b:bI)(h1:b.aq.length<=1000)(h2:b.ag.length<=1000)(h3:b.au.length<=1000)(h4:b.plan.length<=1000):Pure Tryz.prog 12 [.agg (cH b),.agg (cH b)] (.bool true):=by
 refine Kf (N:=109) Tryz.func12 ?_
 iterate 2 refine af ?_
 refine Kc (aa.jf rfl rfl rfl) ?_
 refine Kc (aa.jf rfl rfl rfl) ?_
 iterate 6 refine af ?_
 refine Kc (Kl (.p (Ck.cM b.aq))) ?_
 iterate 2 refine af ?_
 refine Kc (Kl (.p (Ck.cM b.aq))) ?_
 iterate 3 refine af ?_
 refine Kg 16 15 2 rfl (fun h=>(aa.fieldAddr rfl rfl an rfl)) ?_
 refine Kh 17 15 16 rfl rfl rfl rfl (fun h=>(Kl (.p (Rx.fF b.ag)))) ?_
 refine Kh 18 15 17 rfl rfl rfl rfl (fun h=>(aa.bD rfl rfl an rfl)) ?_
 refine Kg 19 15 3 rfl (fun h=>(aa.fieldAddr rfl rfl an rfl)) ?_
 refine Kh 20 15 19 rfl rfl rfl rfl (fun h=>(Kl (.p (Rx.fF b.ag)))) ?_
 refine Kh 21 15 20 rfl rfl rfl rfl (fun h=>(aa.bD rfl rfl an rfl)) ?_
 refine aj.g 22 15 rfl rfl rfl rfl rfl rfl rfl [(18,_),(21,_)] (fun h=>And.intro (.inr ⟨_,rfl,h⟩) (And.intro (.inr ⟨_,rfl,h⟩) (trivial))) (fun h=>(aa.neq rfl rfl rfl)) ?_
 refine Kc (aa.kA rfl rfl rfl ?_) ?_
 ·exact ax
 refine af ?_
 refine Kg 25 24 2 rfl (fun h=>(aa.fieldAddr rfl rfl an rfl)) ?_
 refine Kh 26 24 25 rfl rfl rfl rfl (fun h=>(aa.load rfl rfl an rfl)) ?_
 refine Kh 27 24 26 rfl rfl rfl rfl (fun h=>(aa.bD rfl rfl an rfl)) ?_
 refine Kg 28 24 3 rfl (fun h=>(aa.fieldAddr rfl rfl an rfl)) ?_
 refine Kh 29 24 28 rfl rfl rfl rfl (fun h=>(aa.load rfl rfl an rfl)) ?_
 refine Kh 30 24 29 rfl rfl rfl rfl (fun h=>(aa.bD rfl rfl an rfl)) ?_
 refine aj.g 31 24 rfl rfl rfl rfl rfl rfl rfl [(27,_),(30,_)] (fun h=>And.intro (.inr ⟨_,rfl,h⟩) (And.intro (.inr ⟨_,rfl,h⟩) (trivial))) (fun h=>(aa.neq rfl rfl rfl)) ?_
 refine Kc (aa.kA rfl rfl rfl ?_) ?_
 ·exact ax
 refine af ?_
 refine Kg 34 33 2 rfl (fun h=>(aa.fieldAddr rfl rfl an rfl)) ?_
 refine Kh 35 33 34 rfl rfl rfl rfl (fun h=>(Kl (.p (Di.bh b.plan)))) ?_
 refine Kg 36 33 3 rfl (fun h=>(aa.fieldAddr rfl rfl an rfl)) ?_
 refine Kh 37 33 36 rfl rfl rfl rfl (fun h=>(Kl (.p (Di.bh b.plan)))) ?_
 refine aj.g 38 33 rfl rfl rfl rfl rfl rfl rfl [(35,_),(37,_)] (fun h=>And.intro (.inr ⟨_,rfl,h⟩) (And.intro (.inr ⟨_,rfl,h⟩) (trivial))) (fun h=>(Kp (KK b.plan (by omega)))) ?_
 refine Kh 39 33 38 rfl rfl rfl rfl (fun h=>(aa.gW rfl rfl)) ?_
 refine Kc (aa.kA rfl rfl rfl ?_) ?_
 ·exact ax
 refine af ?_
 refine Kg 42 41 2 rfl (fun h=>(aa.fieldAddr rfl rfl an rfl)) ?_
 refine Kh 43 41 42 rfl rfl rfl rfl (fun h=>(Kl (.p (.int .i64 (b.bad:Int))))) ?_
 refine Kg 44 41 3 rfl (fun h=>(aa.fieldAddr rfl rfl an rfl)) ?_
 refine Kh 45 41 44 rfl rfl rfl rfl (fun h=>(Kl (.p (.int .i64 (b.bad:Int))))) ?_
 refine aj.g 46 41 rfl rfl rfl rfl rfl rfl rfl [(43,_),(45,_)] (fun h=>And.intro (.inr ⟨_,rfl,h⟩) (And.intro (.inr ⟨_,rfl,h⟩) (trivial))) (fun h=>(aa.neq rfl rfl rfl)) ?_
 refine Kc (aa.kA rfl rfl rfl ?_) ?_
 ·exact ax
 refine af ?_
 refine Kg 49 48 2 rfl (fun h=>(aa.fieldAddr rfl rfl an rfl)) ?_
 refine Kh 50 48 49 rfl rfl rfl rfl (fun h=>(Kl (.p (.int .i64 (b.good:Int))))) ?_
 refine Kg 51 48 3 rfl (fun h=>(aa.fieldAddr rfl rfl an rfl)) ?_
 refine Kh 52 48 51 rfl rfl rfl rfl (fun h=>(Kl (.p (.int .i64 (b.good:Int))))) ?_
 refine aj.g 53 48 rfl rfl rfl rfl rfl rfl rfl [(50,_),(52,_)] (fun h=>And.intro (.inr ⟨_,rfl,h⟩) (And.intro (.inr ⟨_,rfl,h⟩) (trivial))) (fun h=>(aa.neq rfl rfl rfl)) ?_
 refine Kc (aa.kA rfl rfl rfl ?_) ?_
 ·exact ax
 refine af ?_
 refine Ki (fun hc0=> ?_) fun hc0=> ?_
 ·simp at hc0
 ·iterate 7 refine af ?_
  refine aF.eU [2,3,6,7,73,74,75,76,77,78,79,80,81,82,83,84,85,86,87,88,89,90,91,92,93,94,95,96,97,98,99,100,101,102,103,104,105,106,107,108] (fun g=>[(5,.p (.int .i64 ((g:Nat):Int)))]) (fun g=>[.cells ((cH b).map .p) 37,.cells ((cH b).map .p) 37]) (fun g=>g<=b.aq.length) (fun g=>b.aq.length - g) 0 (Zp _) (To.sub (Sub.zY (Sub.cons rfl (Sub.nil)))) (fun i hg=> ?_)
  iterate 5 refine af ?_
  refine Kc (Kl (.p (Ck.cM b.aq))) ?_
  iterate 3 refine af ?_
  refine Ki (fun cK=> ?_) fun cK=> ?_
  ·have hk0:i<b.aq.length:=by have h:(i:Int)<(b.aq.length:Int):=Zg cK;omega
   iterate 4 refine af ?_
   refine aF.aB 11 mixed (by kernel_rfl) (by decide) ?_
   refine af ?_
   refine Kq (Kl (.p (Ck.cM b.aq))) ?_
   refine af ?_
   refine Kq (aa.aP (g:=(Di.gt (⟨⟨0,0⟩,⟨0,0⟩,⟨0,0⟩⟩:Ck.Sk) b.aq)) (Di.aE _) rfl rfl rfl an OT rfl (fun _=>rfl) (by decide) hk0) ?_
   refine Kq (Kl (.p (.agg (Di.gt (⟨⟨0,0⟩,⟨0,0⟩,⟨0,0⟩⟩:Ck.Sk) b.aq i).cells))) ?_
   refine af ?_
   refine Kq (Kl (.p (Ck.cM b.aq))) ?_
   refine af ?_
   refine Kq (aa.aP (g:=(Di.gt (⟨⟨0,0⟩,⟨0,0⟩,⟨0,0⟩⟩:Ck.Sk) b.aq)) (Di.aE _) rfl rfl rfl an OT rfl (fun _=>rfl) (by decide) hk0) ?_
   refine Kq (Kl (.p (.agg (Di.gt (⟨⟨0,0⟩,⟨0,0⟩,⟨0,0⟩⟩:Ck.Sk) b.aq i).cells))) ?_
   refine Kq (aa.Lx (d:=8) rfl (.inr rfl) rfl rfl (by decide) aak an rfl aaF rfl) ?_
   refine av.nil ?_
   refine af ?_
   refine Ki (fun jb=> ?_) fun jb=> ?_
   ·rw[if_neg (by decide)] at jb
    simp at jb
   ·exact rJ
  ·have hi2:i=b.aq.length:=by have h:¬ ((i:Int)<(b.aq.length:Int)):=Zk cK;omega
   subst hi2
   refine aF.exit ?_
   iterate 6 refine af ?_
   refine aF.eU [2,3,7,91,92,93,94,95,96,97,98,99,100,101,102,103,104,105,106,107,108] (fun g=>[(6,.p (.int .i64 ((g:Nat):Int)))]) (fun g=>[.cells ((cH b).map .p) 37,.cells ((cH b).map .p) 37]) (fun g=>g<=b.ag.length) (fun g=>b.ag.length - g) 0 (Zp _) (To.sub (Sub.zY (Sub.cons rfl (Sub.nil)))) (fun i hg=> ?_)
   iterate 5 refine af ?_
   refine Kc (Kl (.p (Rx.fF b.ag))) ?_
   iterate 3 refine af ?_
   refine Ki (fun mc=> ?_) fun mc=> ?_
   ·have hk0:i<b.ag.length:=by have h:(i:Int)<(b.ag.length:Int):=Zg mc;omega
    iterate 4 refine af ?_
    refine aF.aB 11 mixed (by kernel_rfl) (by decide) ?_
    refine af ?_
    refine Kq (Kl (.p (Rx.fF b.ag))) ?_
    refine af ?_
    refine Kq (aa.aP (g:=(Di.gt (⟨0,0⟩:Rx.bY) b.ag)) (Di.aE _) rfl rfl rfl an Gd rfl (fun _=>rfl) (by decide) hk0) ?_
    refine Kq (Kl (.p (.agg (Di.gt (⟨0,0⟩:Rx.bY) b.ag i).cells))) ?_
    refine af ?_
    refine Kq (Kl (.p (Rx.fF b.ag))) ?_
    refine af ?_
    refine Kq (aa.aP (g:=(Di.gt (⟨0,0⟩:Rx.bY) b.ag)) (Di.aE _) rfl rfl rfl an Gd rfl (fun _=>rfl) (by decide) hk0) ?_
    refine Kq (Kl (.p (.agg (Di.gt (⟨0,0⟩:Rx.bY) b.ag i).cells))) ?_
    refine Kq (aa.Lx (d:=8) rfl (.inr rfl) rfl rfl (by decide) aaN an rfl aaS rfl) ?_
    refine av.nil ?_
    refine af ?_
    refine Ki (fun tY=> ?_) fun tY=> ?_
    ·rw[if_neg (by decide)] at tY
     simp at tY
    ·exact rJ
   ·have hi2:i=b.ag.length:=by have h:¬ ((i:Int)<(b.ag.length:Int)):=Zk mc;omega
    subst hi2
    refine aF.exit ?_
    iterate 6 refine af ?_
    refine aF.eU [2,3] (fun g=>[(7,.p (.int .i64 ((g:Nat):Int)))]) (fun g=>[.cells ((cH b).map .p) 37,.cells ((cH b).map .p) 37]) (fun g=>g<=b.au.length) (fun g=>b.au.length - g) 0 (Zp _) (To.sub (Sub.zY (Sub.cons rfl (Sub.nil)))) (fun i hg=> ?_)
    iterate 5 refine af ?_
    refine Kc (Kl (.p (Di.eY b.au))) ?_
    iterate 3 refine af ?_
    refine Ki (fun uk=> ?_) fun uk=> ?_
    ·have hk0:i<b.au.length:=by have h:(i:Int)<(b.au.length:Int):=Zg uk;omega
     iterate 4 refine af ?_
     refine aF.aB 11 mixed (by kernel_rfl) (by decide) ?_
     refine af ?_
     refine Kq (Kl (.p (Di.eY b.au))) ?_
     refine af ?_
     refine Kq (aa.aP (g:=(Di.gt Di.cO.d b.au)) (Di.aE _) rfl rfl rfl an Fy rfl (fun _=>rfl) (by decide) hk0) ?_
     refine Kq (Kl (.p (.agg (Di.gt Di.cO.d b.au i).cells))) ?_
     refine af ?_
     refine Kq (Kl (.p (Di.eY b.au))) ?_
     refine af ?_
     refine Kq (aa.aP (g:=(Di.gt Di.cO.d b.au)) (Di.aE _) rfl rfl rfl an Fy rfl (fun _=>rfl) (by decide) hk0) ?_
     refine Kq (Kl (.p (.agg (Di.gt Di.cO.d b.au i).cells))) ?_
     refine Kq (aa.Lx (d:=8) rfl (.inr rfl) rfl rfl (by decide) aa9 an rfl aaq rfl) ?_
     refine av.nil ?_
     refine af ?_
     refine Ki (fun xQ=> ?_) fun xQ=> ?_
     ·rw[if_neg (by decide)] at xQ
      simp at xQ
     ·exact rJ
    ·have hi2:i=b.au.length:=by have h:¬ ((i:Int)<(b.au.length:Int)):=Zk uk;omega
     subst hi2
     refine aF.exit ?_
     iterate 5 refine af ?_
     exact kU
end Go.Proofs.YtibffijhebobmaaGreatDoor
end
