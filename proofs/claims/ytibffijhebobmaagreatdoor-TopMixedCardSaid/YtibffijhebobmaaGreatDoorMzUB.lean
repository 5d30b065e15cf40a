/-
 Chapter 15, the program: how many bits a set has, as a processor counts them.
 Chapter 15, the program: what was drawn through each die, as a plan that can be followed leaves it.
 The program of chapter 15: what verbs do (slats, pencils; questions).
 The program of chapter 15: what verbs do (sacks, calls).
 The program of chapter 15: what verbs do (complaints).
 The program of chapter 15: what verbs do (leads).
 The program of chapter 15: what verbs do (dies).
-/
import Derived.Test.YtibffijhebobmaaGreatDoorMzUP
import Derived.Test.YtibffijhebobmaaGreatDoorMzUF
import Derived.Test.YtibffijhebobmaaGreatDoorMzUA
import Derived.Test.YtibffijhebobmaaGreatDoorMzUC
import Derived.Test.YtibffijhebobmaaGreatDoorMzUR
import Derived.Test.YtibffijhebobmaaGreatDoorMzUD
import Derived.Test.YtibffijhebobmaaGreatDoorFaUF
import Derived.Test.YtibffijhebobmaaGreatDoorMzUZ
theorem Ci{A:Prop}(h:A:=by
 exact⟨⟨1,6,3,4,5,by decide,rfl,rfl,rfl,rfl,rfl,rfl⟩,⟨ZP rfl,by intro j y h1 h2 h3;obtain rfl | rfl | rfl | rfl | rfl:j=1∨j=2∨j=3∨j=4∨j=5:=(by omega);all_goals first | exact .inl (ZB (show some ai.dead=some y from h3)).symm | exact .inr h3⟩⟩):A:=h
theorem Ei{A:Prop}(h:A:=by
 exact⟨⟨1,2,3,4,5,by decide,rfl,rfl,rfl,rfl,rfl,rfl⟩,⟨ZP rfl,by intro j y h1 h2 h3;obtain rfl | rfl | rfl | rfl | rfl:j=1∨j=2∨j=3∨j=4∨j=5:=(by omega);all_goals first | exact .inl (ZB (show some ai.dead=some y from h3)).symm | exact .inr h3⟩⟩):A:=h
theorem uv{A:Prop}(h:A:=by
 obtain⟨z1,rfl,z3⟩:=iH
 iterate 3 refine af ?_
 exact iy.one rfl rfl ⟨z1,rfl,z3⟩):A:=h
theorem u7{A:Prop}(h:A:=by
 rcases Zr.1 hp with rfl | hp
 ·exact h
 ·exact hl p hp):A:=h
set_option linter.unusedSimpArgs false
set_option linter.unusedVariables false
section
namespace Go.Proofs.YtibffijhebobmaaGreatDoor
open Go.AF
theorem pX{n x m:Nat}(h:x<2^n):x&&& m=x&&& (m%2^n):=by
 apply Ky
 intro i
 rw[N8,N8,Nat.testBit_mod_two_pow]
 by_cases hi:i<n
 ·simp[hi]
 ·rw[TG (ZR h (Zy (by omega) (by omega)))]
  rfl
theorem qA(y M:Nat){a m:Nat}(ha:a<2^8)(hm:m<2^8):(2^8*y+a)&&& (2^8*M+m)=2^8*(y&&& M)+(a&&& m):=by
 apply Ky
 intro i
 rw[N8,Ti _ ha,Ti _ hm,Ti _ (Yg Nat.and_le_left ha)]
 by_cases hi:i<8
 ·simp[hi]
 ·simp[hi]
theorem aa7:((List.range 256).all fun t=>decide (t&&& 85=(t%128)&&& 85)&&decide (t&&& 51=(t%64)&&& 51)&&decide (t&&& 15=t%16))=true:=by kernel_rfl
theorem zH{t:Nat}(h:t<256):t&&& 85=(t%128)&&& 85∧t&&& 51=(t%64)&&& 51∧t&&& 15=t%16:=by
 have:=Zz.1 aa7 t (xe.2 h)
 simp only[Zk,Zj] at this
 omega
def s1(a:Nat):Nat:=(a / 2&&& 85)+(a&&& 85)
def s2(a:Nat):Nat:=(a / 4&&& 51)+(a&&& 51)
def s3(a:Nat):Nat:=(a / 16+a)&&& 15
theorem st1(y M:Nat){a:Nat}(ha:a<256):((256*y+a) / 2&&& (256*M+85))+((256*y+a)&&& (256*M+85))=256*((y / 2&&& M)+(y&&& M))+s1 a:=by
 have e:(256*y+a) / 2=256*(y / 2)+(128*(y%2)+a / 2):=by omega
 have h1:128*(y%2)+a / 2<2^8:=by omega
 have h2:=(zH (t:=128*(y%2)+a / 2) (by omega)).1
 rw[show(128*(y%2)+a / 2)%128=a / 2 by omega] at h2
 rw[e]
 have k1:=qA (y / 2) M h1 (show 85<2^8 by decide)
 have k2:=qA y M (show a<2^8 by omega) (show 85<2^8 by decide)
 rw[h2] at k1
 rw[show(2:Nat)^8=256 by decide] at k1 k2
 rw[k1,k2]
 unfold s1
 omega
theorem st2(y M:Nat){a:Nat}(ha:a<256):((256*y+a) / 4&&& (256*M+51))+((256*y+a)&&& (256*M+51))=256*((y / 4&&& M)+(y&&& M))+s2 a:=by
 have e:(256*y+a) / 4=256*(y / 4)+(64*(y%4)+a / 4):=by omega
 have h1:64*(y%4)+a / 4<2^8:=by omega
 have h2:=(zH (t:=64*(y%4)+a / 4) (by omega)).2.1
 rw[show(64*(y%4)+a / 4)%64=a / 4 by omega] at h2
 rw[e]
 have k1:=qA (y / 4) M h1 (show 51<2^8 by decide)
 have k2:=qA y M (show a<2^8 by omega) (show 51<2^8 by decide)
 rw[h2] at k1
 rw[show(2:Nat)^8=256 by decide] at k1 k2
 rw[k1,k2]
 unfold s2
 omega
theorem st3(y M:Nat){a:Nat}(ha:a<=68)(hy:y%16<=4):((256*y+a) / 16+(256*y+a))&&& (256*M+15)=256*((y / 16+y)&&& M)+s3 a:=by
 have e:(256*y+a) / 16+(256*y+a)=256*(y / 16+y)+(16*(y%16)+a / 16+a):=by omega
 have h1:16*(y%16)+a / 16+a<2^8:=by omega
 have h2:=(zH (t:=16*(y%16)+a / 16+a) (by omega)).2.2
 have h3:=(zH (t:=a / 16+a) (by omega)).2.2
 rw[e]
 have k1:=qA (y / 16+y) M h1 (show 15<2^8 by decide)
 rw[h2] at k1
 rw[show(2:Nat)^8=256 by decide] at k1
 rw[k1]
 unfold s3
 rw[h3]
 omega
def pop8(a:Nat):Nat:=((List.range 8).filter a.testBit).length
theorem NO:((List.range 256).all fun a=>decide (s1 a<256)&&decide (s2 (s1 a)<=68)&&decide (s2 (s1 a)%16<=4)&&decide (s3 (s2 (s1 a))=pop8 a)&&decide (pop8 a<=8))=true:=by kernel_rfl
theorem byte_at{a:Nat}(h:a<256):s1 a<256∧s2 (s1 a)<=68∧s2 (s1 a)%16<=4∧s3 (s2 (s1 a))=pop8 a∧pop8 a<=8:=by
 have:=Zz.1 NO a (xe.2 h)
 simp only[Zk,Zj] at this
 omega
def ET(x:Nat):Nat:=(x / 2^1&&& 6148914691236517205)+(x&&& 6148914691236517205)
def HE(x:Nat):Nat:=(ET x / 2^2&&& 3689348814741910323)+(ET x&&& 3689348814741910323)
def KA(x:Nat):Nat:=HE x / 2^4+HE x&&& 1085102592571150095
def Hv(x:Nat):Nat:=KA x+KA x / 2^8
def G7(x:Nat):Nat:=Hv x+Hv x / 2^16
def Kd(x:Nat):Nat:=G7 x+G7 x / 2^32
def fD(a b c:Nat):Nat:=256*(256*c+b)+a
theorem Ht{a b c:Nat}(ha:a<256)(hb:b<256)(hc:c<256):ET (fD a b c)=fD (s1 a) (s1 b) (s1 c):=by
 have hx:fD a b c<2^24:=by unfold fD;omega
 have hx2:fD a b c / 2^1<2^24:=by omega
 unfold ET
 rw[pX hx,pX hx2,show(6148914691236517205:Nat)%2^24=256*(256*85+85)+85 by decide,show(2:Nat)^1=2 by decide]
 unfold fD
 rw[st1 _ _ ha,st1 _ _ hb]
 rfl
theorem HO{a b c:Nat}(ha:a<256)(hb:b<256)(hc:c<256):HE (fD a b c)=fD (s2 (s1 a)) (s2 (s1 b)) (s2 (s1 c)):=by
 have ga:=(byte_at ha).1
 have gb:=(byte_at hb).1
 have gc:=(byte_at hc).1
 have hx:fD (s1 a) (s1 b) (s1 c)<2^24:=by unfold fD;omega
 have hx2:fD (s1 a) (s1 b) (s1 c) / 2^2<2^24:=by omega
 unfold HE
 rw[Ht ha hb hc,pX hx,pX hx2,show(3689348814741910323:Nat)%2^24=256*(256*51+51)+51 by decide,show(2:Nat)^2=4 by decide]
 unfold fD
 rw[st2 _ _ ga,st2 _ _ gb]
 rfl
theorem QI{a b c:Nat}(ha:a<256)(hb:b<256)(hc:c<256):KA (fD a b c)=fD (pop8 a) (pop8 b) (pop8 c):=by
 obtain⟨_,ga,ga2,ga3,_⟩:=byte_at ha
 obtain⟨_,gb,gb2,gb3,_⟩:=byte_at hb
 obtain⟨_,gc,gc2,gc3,_⟩:=byte_at hc
 have hx:fD (s2 (s1 a)) (s2 (s1 b)) (s2 (s1 c)) / 2^4+fD (s2 (s1 a)) (s2 (s1 b)) (s2 (s1 c))<2^24:=by unfold fD;omega
 unfold KA
 rw[HO ha hb hc,pX hx,show(1085102592571150095:Nat)%2^24=256*(256*15+15)+15 by decide,show(2:Nat)^4=16 by decide]
 unfold fD
 rw[st3 _ _ ga (by omega),st3 _ _ gb gc2,ga3,gb3]
 rw[<- gc3]
 rfl
theorem St{a b c:Nat}(ha:a<256)(hb:b<256)(hc:c<256):Kd (fD a b c)&&& 127=pop8 a+pop8 b+pop8 c∧ET (fD a b c)<2^24∧HE (fD a b c)<2^24∧KA (fD a b c)<2^24∧Hv (fD a b c)<2^25∧G7 (fD a b c)<2^25∧Kd (fD a b c)<2^25:=by
 obtain⟨f1,f2,_,_,pa⟩:=byte_at ha
 obtain⟨g1,g2,_,_,pb⟩:=byte_at hb
 obtain⟨h1,h2,_,_,pc⟩:=byte_at hc
 have e1:=Ht ha hb hc
 have e2:=HO ha hb hc
 have e3:=QI ha hb hc
 have e4:Hv (fD a b c)=256*(256*pop8 c+pop8 b+pop8 c)+(pop8 a+pop8 b):=by
  unfold Hv
  rw[e3]
  unfold fD
  omega
 have e5:G7 (fD a b c)=256*(256*pop8 c+pop8 b+pop8 c)+(pop8 a+pop8 b+pop8 c):=by
  unfold G7
  rw[e4]
  omega
 have e6:Kd (fD a b c)=256*(256*pop8 c+pop8 b+pop8 c)+(pop8 a+pop8 b+pop8 c):=by
  unfold Kd
  rw[e5]
  omega
 refine⟨?_,?_,?_,?_,?_,?_,?_⟩
 ·have:=Nat.and_two_pow_sub_one_eq_mod (Kd (fD a b c)) 7
  rw[show(2:Nat)^7 - 1=127 by decide] at this
  rw[this,e6]
  omega
 ·rw[e1];unfold fD;omega
 ·rw[e2];unfold fD;omega
 ·rw[e3];unfold fD;omega
 ·rw[e4];omega
 ·rw[e5];omega
 ·rw[e6];omega
theorem N0(x:Nat):((List.range 24).filter x.testBit).length=pop8 (x%256)+pop8 (x / 256%256)+pop8 (x / 65536%256):=by
 have e:∀(k i:Nat),i<8->(x / 2^k%256).testBit i=x.testBit (k+i):=fun k i hi=>by
  rw[show(256:Nat)=2^8 by decide,Nat.testBit_mod_two_pow,Nat.testBit_div_two_pow]
  simp[hi,Nat.add_comm]
 have h:∀ k,(((List.range 8).map (k+ ·)).filter x.testBit).length=pop8 (x / 2^k%256):=fun k=>by
  unfold pop8
  rw[List.filter_map,Zo]
  congr 1
  apply List.filter_congr
  intro i hi
  exact(e k i (xe.1 hi)).symm
 have e3:List.range 24=(List.range 8).map (0+ ·)++(List.range 8).map (8+ ·)++(List.range 8).map (16+ ·):=by decide
 rw[e3,List.filter_append,List.filter_append,Zd,Zd,h,h,h]
 simp
theorem Wm{x:Nat}(h:x<2^24):Kd x&&& 127=((List.range 24).filter x.testBit).length∧ET x<2^24∧HE x<2^24∧KA x<2^24∧Hv x<2^25∧G7 x<2^25∧Kd x<2^25:=by
 have ex:x=fD (x%256) (x / 256%256) (x / 65536%256):=by unfold fD;omega
 have hk:=St (a:=x%256) (b:=x / 256%256) (c:=x / 65536%256) (by omega) (by omega) (by omega)
 rw[<- ex] at hk
 rw[N0]
 exact hk
theorem ocS{x:Nat}(h:x<2^24):Kd x&&& 127=(iO x).length:=by
 rw[(Wm h).1]
 unfold iO
 rw[Zo]
theorem Rw(n k:Nat):decide (((n / 2^k&&& 1:Nat):Int)=0)= !n.testBit k:=by
 rw[Nat.testBit_eq_decide_div_mod_eq,Nat.and_one_is_mod]
 by_cases h:n / 2^k%2=1
 ·rw[h];rfl
 ·have h0:n / 2^k%2=0:=by omega
  rw[h0];rfl
theorem zZ{n k:Nat}(h:n.testBit k=false):n||| 1*2^k=n+2^k:=by
 rw[ZM,<- rB h]
theorem E5{l:List Int}{q j:Nat}{x:Int}(hq:q<l.length):Di.gt 0 (l.set q x) j=if q=j then x else Di.gt 0 l j:=by
 unfold Di.gt
 rw[Zf,Zf,Zu]
 by_cases h:q=j
 ·rw[if_pos h,if_pos h,if_pos hq];rfl
 ·rw[if_neg h,if_neg h]
theorem nZ{l:List Di.cU}{i:Nat}{w:Di.cU}{r:List Di.cU}(h:w::r=l.drop i):Di.gt Di.cU.d l i=w∧r=l.drop (i+1):=by
 have h1:(l.drop i)[0]? =some w:=by rw[<- h];rfl
 rw[R8,Kk] at h1
 refine⟨?_,?_⟩
 ·unfold Di.gt
  rw[Zf,h1];rfl
 ·rw[show l.drop (i+1)=(l.drop i).drop 1 by rw[OI],<- h];rfl
theorem Jd{p:Di.bO}{b:bK}:∀(l:List Di.cU) (i:Nat) (u v:List Int) (n:Int),l=b.av.drop i->i<=b.plan.length->u.length=p.dies.length->(∀ j,j<u.length->Di.gt 0 u j=uh b (j:Int) i)->Di.fH p b.plan i u l=(some v,n,0)->
    v.length=p.dies.length∧∀ j,j<v.length->Di.gt 0 v j=eG b (j:Int):=by
 intro l
 induction l with
 | nil=>
  intro i u v n hl hi hu hj h
  unfold Di.fH at h
  split at h
  ·cases h
  ·rename_i h2
   cases h
   have e:i=b.plan.length:=by omega
   subst e
   exact⟨hu,hj⟩
 | cons w l ih=>
  intro i u v n hl hi hu hj h
  unfold Di.fH at h
  split at h
  ·cases h
  ·rename_i h2
   split at h
   ·cases h
   ·rename_i h3
    split at h
    ·cases h
    ·rename_i h4
     obtain⟨g1,g2⟩:=nZ hl
     obtain⟨k1,k2⟩:=Di.fz (by simpa using h3)
     have hq:(Di.gt 0 b.plan i).toNat<u.length:=by omega
     refine ih (i+1) _ v n g2 (by omega) (by rw[yd];exact hu) (fun j hjl=> ?_) h
     rw[yd] at hjl
     rw[E5 hq,uh,g1]
     by_cases e:(Di.gt 0 b.plan i).toNat=j
     ·rw[if_pos e,if_pos (by omega),e,hj j hjl]
     ·rw[if_neg e,if_neg (by omega),Vg,hj j hjl]
theorem ND{p:Di.bO}{b:bK}{u:List Int}{n:Int}(h:Di.fO p b.av b.plan=(some u,n,0)):u.length=p.dies.length∧∀ j,j<u.length->Di.gt 0 u j=eG b (j:Int):=by
 obtain⟨h1,h2⟩:=tE h
 rw[Di.gw h1 h2] at h
 refine Jd b.av 0 (List.replicate p.dies.length 0) u n rfl (Zv _) (by rw[UX]) (fun j hj=> ?_) h
 rw[UX] at hj
 unfold Di.gt
 rw[Zf,List.getElem?_replicate,if_pos hj]
 rfl
set_option maxRecDepth 100000
set_option maxHeartbeats 4000000
def Um(b b2:bK)(p:Di.bO)(um:V)(H:List ai):Prop:=YT b2 p um H∧CL b p um H
theorem GD(b:bK)(p:Di.bO)(um:V):Um b b p um (nA b p um):=⟨Tv b p um,Cx b p um⟩
def Vm(F:cT)(v:Vb)(n:List Int)(um:V):V->List ai->Prop:=fun r H2=>(bG F v n).2.2=0∧r= .p (.str (sB (bG F v n).2.1))∧Um F.b (bG F v n).1.b F.aV um H2
def Yh(F:cT)(v:Vb)(n:List Int)(um:V):PV->List ai->Prop:=fun y H2=>(bG F v n).2.2≠0∧y= .iface 94 (.agg [.int .i64 (bG F v n).2.2])∧TP F.b F.aV um H2
def VC(v:Vb)(g:FuncId):Prop:=∀(F:cT) (n:List Int) (a:Option Addr) (m c:Nat),oN F->n.length=v.many->(∀ x∈n,0<=x∧x<10000000000000)->
 au Tryz.prog g [.ptr 0 0,.p (Di.cg n)] (nA F.b F.aV (.raw a m c)) (Vm F v n (.raw a m c)) (Yh F v n (.raw a m c))
theorem dU{F:cT}{v:Vb}{n:List Int}{um:V}{H2:List ai}{e:Int}(h:(bG F v n).2.2=e)(he:e≠0)(hp:TP F.b F.aV um H2):∃ y,V.p (.iface 94 (.agg [.int .i64 e]))= .p y∧Yh F v n um y H2:=⟨_,rfl,by rw[h];exact he,by rw[h],hp⟩
theorem xq{F:cT}{v:Vb}{n:List Int}{um:V}{H2:List ai}{r:Bs}{F2:cT}{t:Bs}(h:bG F v n=(F2,r,0))(ht:t=r)(hp:Um F.b F2.b F.aV um H2):Vm F v n um (.p (.str (sB t))) H2:=by
 unfold Vm
 rw[h,ht]
 exact⟨rfl,rfl,hp⟩
theorem Xh{H:List ai}{k i:Nat}{l:List Ck.Sk}(h:H[i]? =some (dh l)):dy H (k+1) (aY i l.length)=some (Ck.bZ l):=qf h fun h=>by rw[US.1 h];rfl
theorem V9{H:List ai}{k i:Nat}{l:List Rx.b6}(h:H[i]? =some (cY l)):dy H (k+1) (aY i l.length)=some (Rx.jX l):=qf h fun h=>by rw[US.1 h];rfl
theorem Wk{H:List ai}{k i:Nat}{l:List Di.cU}(h:H[i]? =some (dj l)):dy H (k+1) (aY i l.length)=some (Di.mg l):=qf h fun h=>by rw[US.1 h];rfl
theorem SR{H:List ai}{k i:Nat}{l:List Int}(h:H[i]? =some (bw l)):dy H (k+1) (aY i l.length)=some (Di.cg l):=qf h fun h=>by rw[US.1 h];rfl
theorem WT{H:List ai}{k i:Nat}{l:List Rx.b6}{xs:List PV}(h:H[i]? =some (cY l)):fN (dy H (k+1)) (aY i l.length::xs.map .p)=some (Rx.jX l::xs):=by simp only[fN,V9 h,zj]
theorem hbS{H:List ai}{k i:Nat}{l:List Ck.Sk}{xs:List PV}(h:H[i]? =some (dh l)):fN (dy H (k+1)) (aY i l.length::xs.map .p)=some (Ck.bZ l::xs):=by simp only[fN,Xh h,zj]
theorem WH{H:List ai}{k i j:Nat}{x:PV}{l:List Di.cU}{q:List Int}(h:H[i]? =some (dj l))(h2:H[j]? =some (bw q)):fN (dy H (k+1)) [.p x,aY i l.length,aY j q.length]=some [x,Di.mg l,Di.cg q]:=by simp only[fN,Wk h,SR h2,WJ]
theorem fk{w:Bs}{l:List iI}(h:w.length<=100)(hl:∀ p∈l,p.ok):∀ p∈iI.str w::l,p.ok:=fun p hp=>by
 exact u7
theorem eC{k:Int}{l:List iI}(h:0<=k∧k<10000000000000)(hl:∀ p∈l,p.ok):∀ p∈iI.num k::l,p.ok:=fun p hp=>by
 exact u7
theorem FP{q:List Int}{l:List iI}(h:q.length<=100∧∀ k∈q,0<=k∧k<10000000000000)(hl:∀ p∈l,p.ok):∀ p∈iI.Fy q::l,p.ok:=fun p hp=>by
 exact u7
theorem fR:∀ p∈([]:List iI),p.ok:=fun p hp=>by cases hp
theorem UU:VC .slat 86:=by
 intro F n a m c hF hl hn
 have jr:=Rx.c6 hF.b.cd
 have tC:=hF.b.sk
 have ry:=hF.b.dr
 refine au.start (N:=11) Tryz.func86 rfl rfl Kn ?_
 iterate 6 refine af ?_
 refine Kc (aa.aA rfl rfl lI) ?_
 refine af ?_
 refine aj.e8 7 (Ab F.b F.aV a m c 0 0) rfl rfl rfl rfl rfl rfl rfl an (fun y H2 iH=> ?_) (fun v H2 iH=> ?_)
 ·obtain⟨q1,rfl,rfl⟩:=iH
  exact dU (e:=9) (by show(bG F .slat n).2.2=_;unfold bG;dsimp only;rw[if_pos (by omega)]) (by decide) (fq _ _ _)
 obtain⟨hlt,rfl,rfl⟩:=iH
 refine Kc (aa.aA rfl rfl j3) ?_
 refine Kc (aa.aQ rfl an (by decide) rfl rfl rfl) ?_
 refine Kc (Kp (c9 [.str dA,.num (F.b.ah.length:Int)] Kn Kn (fk (by decide) (eC (by omega) fR)))) ?_
 iterate 3 refine af ?_
 refine iy.one rfl rfl (xq (F2:={F with b:=F.b.fh ⟨0,0⟩}) (r:=aH dA [(F.b.ah.length:Int)]) (by unfold bG;dsimp only;rw[if_neg (by omega)]) (by rw[eD];rfl) ?_)
 exact Ci
theorem SY(b:bK)(p:Di.bO)(a:Option Addr)(m c:Nat)(x y:Int)(hlt:b.ah.length<24):ax Tryz.prog 87 [.ptr 0 0,.p (.int .i64 x),.p (.int .i64 y)] (nA b p (.raw a m c)) (fun v H2=>v= .p (.int .i64 (b.ah.length:Int))∧H2=[cz (b.fh ⟨x,y⟩) p (.raw a m c) 1 6 3 4 5,dh b.aq,.dead,dj b.av,bw b.plan,bw b.bX,cY (b.fh ⟨x,y⟩).ah]):=
 ((Ab b p a m c x y).mono (Vu:=fun v H2=>v= .p (.int .i64 (b.ah.length:Int))∧H2=[cz (b.fh ⟨x,y⟩) p (.raw a m c) 1 6 3 4 5,dh b.aq,.dead,dj b.av,bw b.plan,bw b.bX,cY (b.fh ⟨x,y⟩).ah]) (XD:=fun _ _=>False) (fun v H2 ⟨_,h1,h2⟩=>⟨h1,h2⟩) (fun y H2 ⟨h1,_⟩=>h1 hlt)).toC (fun _ _ h=>h)
theorem QY:VC .blame 93:=by
 intro F n a m c hF hl hn
 have jr:=Rx.c6 hF.b.cd
 have tC:=hF.b.sk
 have ry:=hF.b.dr
 refine au.start (N:=37) Tryz.func93 rfl rfl Kn ?_
 iterate 5 refine af ?_
 refine aI.aB 24 mixed (by kernel_rfl) (by decide) ?_
 refine af ?_
 refine Kq (aa.nilCheck rfl rfl) ?_
 iterate 3 refine af ?_
 refine Kq (Kl (aY 2 F.b.ah.length)) ?_
 refine af ?_
 refine Kq (aa.nilCheck rfl rfl) ?_
 iterate 3 refine af ?_
 refine Kq (Kl (.p (.int .i64 (F.b.bad:Int)))) ?_
 refine af ?_
 refine Kq (aa.nilCheck rfl rfl) ?_
 iterate 3 refine af ?_
 refine Kq (Kl (.p (.int .i64 (F.b.good:Int)))) ?_
 refine Kq (aa.yP 3 (Rx.pI F.b.ah F.b.bad F.b.good (ZT jr (by decide))) rfl rfl rfl rfl rfl (WT (i:=2) (xs:=[.int .i64 (F.b.bad:Int),.int .i64 (F.b.good:Int)]) rfl) an) ?_
 refine af ?_
 refine Kq (aa.extract rfl rfl rfl) ?_
 refine Kq (aa.extract rfl rfl rfl) ?_
 iterate 2 refine af ?_
 refine aE.nil ?_
 iterate 4 refine af ?_
 refine aj.ct 30 (b:=(decide ((Rx.iS F.b.ah F.b.bad F.b.good)=0))) (jV (Rx.iS F.b.ah F.b.bad F.b.good)) (nJ (Rx.iS F.b.ah F.b.bad F.b.good)) rfl rfl rfl rfl rfl rfl rfl an (fun he=> ?_) (fun he=> ?_)
 ·have hne:Rx.iS F.b.ah F.b.bad F.b.good≠0:=Zs he
  exact dU (e:=Rx.iS F.b.ah F.b.bad F.b.good) (by show(bG F .blame n).2.2=_;unfold bG;dsimp only;rw[if_pos hne]) hne (fq _ _ _)
 have hz:¬ Rx.iS F.b.ah F.b.bad F.b.good≠0:=fun h=>h (Zm he)
 iterate 3 refine af ?_
 refine Kc (aa.aA rfl rfl lI) ?_
 refine af ?_
 refine Kc (Kp (o9 (Rx.lz F.b.ah F.b.bad F.b.good) (W1 hF.b.cd))) ?_
 refine Kc (aa.aA rfl rfl Gx) ?_
 refine Kc (aa.aQ rfl an (by decide) rfl rfl rfl) ?_
 refine Kc (Kp (c9 [.str (Vb.t .blame),.Fy (iO (Rx.lz F.b.ah F.b.bad F.b.good))] Kn Kn (fk (by decide) (FP ⟨fW _,sH _⟩ fR)))) ?_
 iterate 3 refine af ?_
 refine iy.one rfl rfl (xq (F2:=F) (r:=aH (Vb.t .blame) (iO (Rx.lz F.b.ah F.b.bad F.b.good))) (by unfold bG;dsimp only;rw[if_neg hz]) (by rw[eD];simp[jk,iI.w]) (GD _ _ _))
theorem Sr:VC .from_ 99:=by
 intro F n a m c hF hl hn
 have jr:=Rx.c6 hF.b.cd
 have tC:=hF.b.sk
 have ry:=hF.b.dr
 have q0:0<=nn n 0∧nn n 0<10000000000000:=hn _ (Di.bH 0 (show 0<n.length by rw[hl];decide))
 refine au.start (N:=28) Tryz.func99 rfl rfl Kn ?_
 iterate 5 refine af ?_
 refine aI.aB 15 mixed (by kernel_rfl) (by decide) ?_
 refine af ?_
 refine Kq (aa.nilCheck rfl rfl) ?_
 iterate 3 refine af ?_
 refine Kq (Kl (aY 2 F.b.ah.length)) ?_
 refine af ?_
 refine Kq (aa.bg (g:=Di.gt 0 n) (k:=0) (Di.aL _) rfl rfl rfl an dX rfl (fun _=>rfl) (by decide) (by rw[hl];decide)) ?_
 refine Kq (Kl (.p (.int .i64 (nn n 0)))) ?_
 refine Kq (aa.yP 3 (Rx.PF F.b.ah (nn n 0) (ZT jr (by decide))) rfl rfl rfl rfl rfl (WT (i:=2) (xs:=[.int .i64 (nn n 0)]) rfl) an) ?_
 refine af ?_
 refine Kq (aa.extract rfl rfl rfl) ?_
 refine Kq (aa.extract rfl rfl rfl) ?_
 iterate 2 refine af ?_
 refine aE.nil ?_
 iterate 4 refine af ?_
 refine aj.ct 21 (b:=(decide ((Rx.fy F.b.ah (nn n 0))=0))) (jV (Rx.fy F.b.ah (nn n 0))) (nJ (Rx.fy F.b.ah (nn n 0))) rfl rfl rfl rfl rfl rfl rfl an (fun he=> ?_) (fun he=> ?_)
 ·have hne:Rx.fy F.b.ah (nn n 0)≠0:=Zs he
  exact dU (e:=Rx.fy F.b.ah (nn n 0)) (by show(bG F .from_ n).2.2=_;unfold bG;dsimp only;rw[if_pos hne]) hne (fq _ _ _)
 have hz:¬ Rx.fy F.b.ah (nn n 0)≠0:=fun h=>h (Zm he)
 iterate 3 refine af ?_
 refine Kc (aa.aA rfl rfl lI) ?_
 refine af ?_
 refine Kc (Kp (o9 (Rx.kz F.b.ah (Rx.bS F.b.ah) (nn n 0)) (O2 hF.b.cd _))) ?_
 refine Kc (aa.aA rfl rfl Gx) ?_
 refine Kc (aa.aQ rfl an (by decide) rfl rfl rfl) ?_
 refine Kc (Kp (c9 [.str (Vb.t .from_),.Fy (iO (Rx.kz F.b.ah (Rx.bS F.b.ah) (nn n 0)))] Kn Kn (fk (by decide) (FP ⟨fW _,sH _⟩ fR)))) ?_
 iterate 3 refine af ?_
 refine iy.one rfl rfl (xq (F2:=F) (r:=aH (Vb.t .from_) (iO (Rx.kz F.b.ah (Rx.bS F.b.ah) (nn n 0)))) (by unfold bG;dsimp only;rw[if_neg hz]) (by rw[eD];simp[jk,iI.w]) (GD _ _ _))
theorem MB:VC .pencil 89:=by
 intro F n a m c hF hl hn
 have jr:=Rx.c6 hF.b.cd
 have tC:=hF.b.sk
 have ry:=hF.b.dr
 have q0:0<=nn n 0∧nn n 0<10000000000000:=hn _ (Di.bH 0 (show 0<n.length by rw[hl];decide))
 have q1:0<=nn n 1∧nn n 1<10000000000000:=hn _ (Di.bH 0 (show 1<n.length by rw[hl];decide))
 have q2:0<=nn n 2∧nn n 2<10000000000000:=hn _ (Di.bH 0 (show 2<n.length by rw[hl];decide))
 obtain⟨k0,e0⟩:=U7 q0.1
 obtain⟨k1,e1⟩:=U7 q1.1
 refine au.start (N:=43) Tryz.func89 rfl rfl Kn ?_
 iterate 7 refine af ?_
 refine aj.e8 6 (Ap F.b F.aV a m c) rfl rfl rfl rfl rfl rfl rfl an (fun y H2 iH=> ?_) (fun v H2 iH=> ?_)
 ·obtain⟨q1,rfl,rfl⟩:=iH
  exact dU (e:=9) (by show(bG F .pencil n).2.2=_;unfold bG;dsimp only;rw[if_pos (by omega)]) (by decide) (fq _ _ _)
 obtain⟨hlt,rfl,rfl⟩:=iH
 iterate 5 refine af ?_
 refine Kc (aa.bg (g:=Di.gt 0 n) (k:=0) (Di.aL _) rfl rfl rfl an dX rfl (fun _=>rfl) (by decide) (by rw[hl];decide)) ?_
 refine Kc (Kl (.p (.int .i64 (nn n 0)))) ?_
 refine Kc (aa.gq rfl rfl rfl rfl an (tJ F.b F.aV a m c (nn n 0))) ?_
 refine af ?_
 refine Kg 13 12 0 rfl (fun h=>(aa.move rfl rfl)) ?_
 refine Kg 14 12 1 rfl (fun h=>(aa.move rfl rfl)) ?_
 refine Kh 15 12 14 rfl rfl rfl rfl (fun h=>(aa.bg (g:=Di.gt 0 n) (k:=1) (Di.aL _) rfl rfl rfl an dX rfl (fun _=>rfl) (by decide) (by rw[hl];decide))) ?_
 refine Kh 16 12 15 rfl rfl rfl rfl (fun h=>(Kl (.p (.int .i64 (nn n 1))))) ?_
 refine aj.g 17 12 rfl rfl rfl rfl rfl rfl rfl [(13,_),(16,_)] (fun h=>And.intro (.inr ⟨_,rfl,h⟩) (And.intro (.inr ⟨_,rfl,h⟩) (trivial))) (fun h=>(aa.gq rfl rfl rfl rfl an (tJ F.b F.aV a m c (nn n 1)))) ?_
 refine Kc (aa.gG rfl rfl rfl ?_) ?_
 ·exact aC
 refine aj.ct 19 (b:=_) (de _ 2) (dc _ 2) rfl rfl rfl rfl rfl rfl rfl an (fun hb=> ?_) (fun hb=> ?_)
 ·exact dU (e:=2) (by show(bG F .pencil n).2.2=_;unfold bG;dsimp only;rw[if_neg (by omega),if_pos (by simp only[Bool.and_eq_false_iff,UL] at hb;omega)]) (by decide) (fq _ _ _)
 have hi:¬ ((F.b.ah.length:Int)<=nn n 0∨(F.b.ah.length:Int)<=nn n 1):=by simp only[Zk,Zj] at hb;omega
 iterate 4 refine af ?_
 refine Kc (aa.bg (g:=Di.gt 0 n) (k:=2) (Di.aL _) rfl rfl rfl an dX rfl (fun _=>rfl) (by decide) (by rw[hl];decide)) ?_
 refine Kc (Kl (.p (.int .i64 (nn n 2)))) ?_
 refine af ?_
 refine aj.ct 24 (b:=_) (de _ 1) (dc _ 1) rfl rfl rfl rfl rfl rfl rfl an (fun gZ=> ?_) (fun gZ=> ?_)
 ·exact dU (e:=1) (by show(bG F .pencil n).2.2=_;unfold bG;dsimp only;rw[if_neg (by omega),if_neg hi,if_pos (by have h:=Zs gZ;omega)]) (by decide) (fq _ _ _)
 have hm:¬ 1048576<nn n 2:=by have h:=Zm gZ;omega
 have hp0:=UY (show k0<=24 by omega)
 have YR:=UY (show k1<=24 by omega)
 iterate 2 refine af ?_
 refine aI.jO 19 ([cz (F.b.fh ⟨((1*2^k0||| 1*2^k1:Nat):Int),nn n 2⟩) F.aV (.raw a m c) 1 6 3 4 5,dh F.b.aq,.dead,dj F.b.av,bw F.b.plan,bw F.b.bX,cY (F.b.fh ⟨((1*2^k0||| 1*2^k1:Nat):Int),nn n 2⟩).ah]) mixed (by kernel_rfl) (by decide) ?_
 refine ay.cons 25 rfl rfl rfl (aa.aA rfl rfl lI) (aa.aA rfl rfl lI) ?_
 refine ay.cons 26 rfl rfl rfl (aa.move rfl rfl) (aa.move rfl rfl) ?_
 refine ay.cons 27 rfl rfl rfl (aa.move rfl rfl) (aa.move rfl rfl) ?_
 refine ay.cons 28 rfl rfl rfl (aa.bg (g:=Di.gt 0 n) (k:=0) (Di.aL _) rfl rfl rfl an dX rfl (fun _=>rfl) (by decide) (by rw[hl];decide)) (aa.bg (g:=Di.gt 0 n) (k:=0) (Di.aL _) rfl rfl rfl an dX rfl (fun _=>rfl) (by decide) (by rw[hl];decide)) ?_
 refine ay.cons 29 rfl rfl rfl (aa.load (v:= .p (.int .i64 ((k0:Nat):Int))) rfl rfl an (by rw[<- e0];rfl)) (aa.load (v:= .p (.int .i64 ((k0:Nat):Int))) rfl rfl an (by rw[<- e0];rfl)) ?_
 refine ay.cons 30 rfl rfl rfl (aa.qH 1 k0 rfl rfl rfl (by show _<=(64:Nat);omega) (by show _<=(9223372036854775807:Int);rw[ZM];omega)) (aa.qH 1 k0 rfl rfl rfl (by show _<=(64:Nat);omega) (by show _<=(9223372036854775807:Int);rw[ZM];omega)) ?_
 refine ay.cons 31 rfl rfl rfl (aa.move rfl rfl) (aa.move rfl rfl) ?_
 refine ay.cons 32 rfl rfl rfl (aa.bg (g:=Di.gt 0 n) (k:=1) (Di.aL _) rfl rfl rfl an dX rfl (fun _=>rfl) (by decide) (by rw[hl];decide)) (aa.bg (g:=Di.gt 0 n) (k:=1) (Di.aL _) rfl rfl rfl an dX rfl (fun _=>rfl) (by decide) (by rw[hl];decide)) ?_
 refine ay.cons 33 rfl rfl rfl (aa.load (v:= .p (.int .i64 ((k1:Nat):Int))) rfl rfl an (by rw[<- e1];rfl)) (aa.load (v:= .p (.int .i64 ((k1:Nat):Int))) rfl rfl an (by rw[<- e1];rfl)) ?_
 refine ay.cons 34 rfl rfl rfl (aa.qH 1 k1 rfl rfl rfl (by show _<=(64:Nat);omega) (by show _<=(9223372036854775807:Int);rw[ZM];omega)) (aa.qH 1 k1 rfl rfl rfl (by show _<=(64:Nat);omega) (by show _<=(9223372036854775807:Int);rw[ZM];omega)) ?_
 refine ay.cons 35 rfl rfl rfl (aa.Ve (1*2^k0) (1*2^k1) rfl rfl rfl (by show _<=(9223372036854775807:Int);rw[ZM];omega) (by show _<=(9223372036854775807:Int);rw[ZM];omega) (by have ho:=Qu (n:=62) (x:=1*2^k0) (y:=1*2^k1) (by omega) (by omega);show _<=(9223372036854775807:Int);omega)) (aa.Ve (1*2^k0) (1*2^k1) rfl rfl rfl (by show _<=(9223372036854775807:Int);rw[ZM];omega) (by show _<=(9223372036854775807:Int);rw[ZM];omega) (by have ho:=Qu (n:=62) (x:=1*2^k0) (y:=1*2^k1) (by omega) (by omega);show _<=(9223372036854775807:Int);omega)) ?_
 refine ay.cons 36 rfl rfl rfl (aa.move rfl rfl) (aa.move rfl rfl) ?_
 refine ay.cons 37 rfl rfl rfl (aa.bg (g:=Di.gt 0 n) (k:=2) (Di.aL _) rfl rfl rfl an dX rfl (fun _=>rfl) (by decide) (by rw[hl];decide)) (aa.bg (g:=Di.gt 0 n) (k:=2) (Di.aL _) rfl rfl rfl an dX rfl (fun _=>rfl) (by decide) (by rw[hl];decide)) ?_
 refine ay.cons 38 rfl rfl rfl (Kl (.p (.int .i64 (nn n 2)))) (Kl (.p (.int .i64 (nn n 2)))) ?_
 refine ay.lay 39 rfl rfl rfl (aa.gq rfl rfl rfl rfl an (SY F.b F.aV a m c ((1*2^k0||| 1*2^k1:Nat):Int) (nn n 2) hlt)) ?_
 refine ay.cons 40 rfl rfl rfl (aa.aA rfl rfl j3) (aa.aA rfl rfl j3) ?_
 refine ay.cons 41 rfl rfl rfl (aa.aQ rfl an (by decide) rfl rfl rfl) (aa.aQ rfl an (by decide) rfl rfl rfl) ?_
 refine ay.cons 42 rfl rfl rfl (Kp (c9 [.str dA,.num (F.b.ah.length:Int)] Kn Kn (fk (by decide) (eC (by omega) fR)))) (Kp (c9 [.str dA,.num (F.b.ah.length:Int)] Kn Kn (fk (by decide) (eC (by omega) fR)))) ?_
 refine ay.cons 4 rfl rfl rfl (aa.assign rfl rfl) (aa.assign rfl rfl) ?_
 refine ay.nil ?_
 iterate 2 refine af ?_
 refine iy.one rfl rfl (xq (F2:={F with b:=F.b.fh ⟨((1*2^k0||| 1*2^k1:Nat):Int),nn n 2⟩}) (r:=aH dA [(F.b.ah.length:Int)]) (by unfold bG;dsimp only;rw[if_neg (by omega),if_neg hi,if_neg hm,Ij e0 e1]) (by rw[eD];rfl) ?_)
 exact Ci
theorem qg(l:List Int):l.flatMap Di.cK=l.map (PV.int .i64):=by
 induction l with
 | nil=>rfl
 | cons x l ih=>rw[ZL,ih];rfl
theorem qP(n:List Int)(l k:Nat):((n.flatMap Di.cK).drop (l*1)).take (k*1)=((n.drop l).take k).flatMap Di.cK:=by
 rw[qg,qg,Ku,Ku,List.map_take,List.map_drop]
theorem Mp(n:List Int)(l k j:Nat)(hj:j<k):nn ((n.drop l).take k) j=nn n (l+j):=by
 unfold nn Di.gt
 rw[Zf,Zf,RU hj,R8]
theorem tY(n:List Int)(l k:Nat)(h:l+k<=n.length)(h2:2<=k):Pure Tryz.prog 140 [.is (((n.drop l).take k).flatMap Di.cK) k] (.agg [.int .i64 (nn n l),.int .i64 (nn n (l+1))]):=by
 have hk:k=((n.drop l).take k).length:=by rw[x7,R0];omega
 have h3:=QB ((n.drop l).take k) k hk (by omega)
 rwa [Mp n l k 0 (by omega),Mp n l k 1 (by omega)] at h3
theorem Ii(l:List Ck.Sk)(b:List Ck.Tk)(hl:l.length<=Ck.cj)(hb:b.length<=Ck.cj):Pure Tryz.prog 141 [Ck.bZ l,Ck.vS b] (.tuple [.agg [.int .i64 (shr l b).1.1,.int .i64 (shr l b).1.2],.int .i64 (shr l b).2]):=by
 have h:=Ck.NQ l b hl hb
 rwa [Vz] at h
theorem y8(b:bK)(p:Di.bO)(a:Option Addr)(m c:Nat):(nA b p (.raw a m c)).map (aD (sg 6 []))=nA b p (.raw a m c):=(by simp[cz,nA,bL,bF,b8,dS,gT,fc,bz,cM,dh,cY,dj,bw,dn,Di.bO.cells])
theorem flS(b:bK)(p:Di.bO)(um:V)(x:Ck.Sk)(c:Int)(i1 i2 i3 i4 i5:Nat):ai.cells ([.row i1 (b.aq.length+1),aY i2 b.ah.length,aY i3 b.av.length,aY i4 b.plan.length,.p (.int .i64 (b.bad:Int)),.p (.int .i64 (b.good:Int)),.row i5 (b.bX.length+1)]++p.cells.map .p++[um,.p (.bool true)]) 87=cz {b with aq:=b.aq++[x],bX:=b.bX++[c]} p um i1 i2 i3 i4 i5:=by
 unfold cz dn
 rw[<- kY i1 b.aq x,<- kY i5 b.bX c]
theorem Tb:VC .call 97:=by
 intro F n a m c hF hl hn
 have jr:=Rx.c6 hF.b.cd
 have tC:=hF.b.sk
 have ry:=hF.b.dr
 obtain⟨⟨s1,s2⟩,s3,s4⟩:=NW (bad:=(F.b.bad:Int)) (good:=(F.b.good:Int)) hF.b.cd
 refine au.start (N:=45) Tryz.func97 rfl rfl Kn ?_
 iterate 5 refine af ?_
 refine aI.bN 26 1 [6] [([],false),([],false),([],false),([],false),([],false),([],false),([],false),([],false),([],false),([],false),([],false),([],false),([],false),([],false),([],false),([],false),([],false),([],false),([],false),([],false),([],false),([],false),([],false),([6],true),([],false),([6],true)] mixed (by kernel_rfl) (by decide) (by kernel_rfl) rfl (y8 _ _ _ _ _) ?_
 refine af ?_
 refine bu.cons 10 rfl rfl rfl (fun _=>(aa.nilCheck rfl rfl)) rfl ?_
 iterate 3 refine af ?_
 refine bu.cons 14 rfl rfl rfl (fun _=>(Kl (aY 2 (F.b.ah).length))) (cM Kn) ?_
 refine af ?_
 refine bu.cons 16 rfl rfl rfl (fun _=>(aa.nilCheck rfl rfl)) rfl ?_
 iterate 3 refine af ?_
 refine bu.cons 20 rfl rfl rfl (fun _=>(Kl (.p (.int .i64 (F.b.bad:Int))))) rfl ?_
 refine af ?_
 refine bu.cons 22 rfl rfl rfl (fun _=>(aa.nilCheck rfl rfl)) rfl ?_
 iterate 3 refine af ?_
 refine bu.cons 26 rfl rfl rfl (fun _=>(Kl (.p (.int .i64 (F.b.good:Int))))) rfl ?_
 refine bu.cons 27 rfl rfl rfl (fun _=>(aa.yP 3 (Rx.IM F.b.ah F.b.bad F.b.good (ZT jr (by decide))) rfl rfl rfl rfl rfl (WT (i:=2) (xs:=[.int .i64 (F.b.bad:Int),.int .i64 (F.b.good:Int)]) rfl) an)) rfl ?_
 refine af ?_
 refine bu.cons 28 rfl rfl rfl (fun _=>(aa.extract rfl rfl rfl)) rfl ?_
 refine bu.cons 29 rfl rfl rfl (fun _=>(aa.extract rfl rfl rfl)) rfl ?_
 refine bu.cons 30 rfl rfl rfl (fun _=>(aa.extract rfl rfl rfl)) rfl ?_
 refine bu.lay (v0:= .ptr 7 0) 6 6 rfl rfl rfl rfl rfl rfl rfl rfl (fun _=>(aa.aO rfl an rfl)) rfl rfl rfl ?_
 refine bu.cons 5 rfl rfl rfl (fun _=>(aa.assign rfl rfl)) rfl ?_
 refine bu.put (blk:= .cells [.p (.int .i64 (Rx.lZ F.b.ah F.b.bad F.b.good).1),.p (.int .i64 (Rx.lZ F.b.ah F.b.bad F.b.good).2)] 24) 6 rfl rfl rfl rfl (fun _=>(aa.store rfl rfl rfl rfl rfl an rfl rfl)) rfl rfl ?_
 refine bu.nil ?_
 iterate 5 refine af ?_
 refine aj.ct 32 (b:=(decide ((Rx.iS F.b.ah F.b.bad F.b.good)=0))) (jV (Rx.iS F.b.ah F.b.bad F.b.good)) (nJ (Rx.iS F.b.ah F.b.bad F.b.good)) rfl rfl rfl rfl rfl rfl rfl an (fun he=> ?_) (fun he=> ?_)
 ·have hne:Rx.iS F.b.ah F.b.bad F.b.good≠0:=Zs he
  exact dU (e:=Rx.iS F.b.ah F.b.bad F.b.good) (by show(bG F .call n).2.2=_;unfold bG;dsimp only;rw[if_pos hne]) hne (⟨⟨_,rfl,rfl⟩,⟨ZP rfl,by intro j y h1 h2 h3;obtain rfl | rfl | rfl | rfl | rfl:j=1∨j=2∨j=3∨j=4∨j=5:=(by omega);all_goals first | exact .inl (ZB (show some ai.dead=some y from h3)).symm | exact .inr h3⟩⟩)
 have hz:¬ Rx.iS F.b.ah F.b.bad F.b.good≠0:=fun h=>h (Zm he)
 iterate 2 refine af ?_
 refine aI.aB 13 mixed (by kernel_rfl) (by decide) ?_
 refine Kq (aa.aA rfl rfl lI) ?_
 refine af ?_
 refine Kq (Kl (.p (.int .i64 (Rx.lZ F.b.ah F.b.bad F.b.good).1))) ?_
 refine Kq (aa.aA rfl rfl j3) ?_
 refine af ?_
 refine Kq (Kl (.p (.int .i64 (Rx.lZ F.b.ah F.b.bad F.b.good).2))) ?_
 refine Kq (aa.aA rfl rfl j3) ?_
 refine af ?_
 refine Kq (Kp (o9 (Rx.xA F.b.ah F.b.bad F.b.good) (UC hF.b.cd))) ?_
 refine Kq (aa.aA rfl rfl Gx) ?_
 refine Kq (aa.aQ rfl an (by decide) rfl rfl rfl) ?_
 refine Kq (Kp (c9 [.str (Vb.t .call),.num (Rx.lZ F.b.ah F.b.bad F.b.good).1,.num (Rx.lZ F.b.ah F.b.bad F.b.good).2,.Fy (iO (Rx.xA F.b.ah F.b.bad F.b.good))] Kn Kn (fk (by decide) (eC ⟨s1,by omega⟩ (eC ⟨s3,by omega⟩ (FP ⟨fW _,sH _⟩ fR)))))) ?_
 refine af ?_
 refine aE.nil ?_
 iterate 2 refine af ?_
 refine iy.one rfl rfl (xq (F2:=F) (r:=aH (Vb.t .call) ((Rx.lZ F.b.ah F.b.bad F.b.good).1::(Rx.lZ F.b.ah F.b.bad F.b.good).2::iO (Rx.xA F.b.ah F.b.bad F.b.good))) (by unfold bG;dsimp only;rw[if_neg hz]) (by rw[eD];simp[jk,iI.w]) ⟨⟨1,2,3,4,5,by decide,rfl,rfl,rfl,rfl,rfl,rfl⟩,⟨ZP rfl,by intro j y h1 h2 h3;obtain rfl | rfl | rfl | rfl | rfl:j=1∨j=2∨j=3∨j=4∨j=5:=(by omega);all_goals first | exact .inl (ZB (show some ai.dead=some y from h3)).symm | exact .inr h3⟩⟩)
theorem Td:VC .nC 85:=by
 intro F n a m c hF hl hn
 have jr:=Rx.c6 hF.b.cd
 have tC:=hF.b.sk
 have ry:=hF.b.dr
 have Yx:n.length=6:=hl
 have Y5:=hF.b.ck
 refine au.start (N:=84) Tryz.func85 rfl rfl Kn ?_
 iterate 11 refine af ?_
 refine Kc (Kl (aY 1 F.b.aq.length)) ?_
 refine Kc (aa.cD rfl rfl an pR) ?_
 refine af ?_
 refine aj.ct 17 (b:=_) (de _ 9) (dc _ 9) rfl rfl rfl rfl rfl rfl rfl an (fun hb=> ?_) (fun hb=> ?_)
 ·exact dU (e:=9) (by show(bG F .nC n).2.2=_;unfold bG;dsimp only;rw[if_pos (.inl (by have h:=Zs hb;omega))]) (by decide) (fq _ _ _)
 have hs8:F.b.aq.length<8:=by have h:=Zm hb;omega
 iterate 4 refine af ?_
 refine aj.e8 19 (Ap F.b F.aV a m c) rfl rfl rfl rfl rfl rfl rfl an (fun y H2 iH=> ?_) (fun v H2 iH=> ?_)
 ·obtain⟨q1,rfl,rfl⟩:=iH
  exact dU (e:=9) (by show(bG F .nC n).2.2=_;unfold bG;dsimp only;rw[if_pos (.inr (by omega))]) (by decide) (fq _ _ _)
 obtain⟨hlt,rfl,rfl⟩:=iH
 have hro:¬ (8<=F.b.aq.length∨24<=F.b.ah.length):=by omega
 iterate 2 refine af ?_
 refine aI.bN 11 1 [6] [([],false),([],false),([],false),([],false),([],false),([],false),([],false),([],false),([],false),([],false),([6],true)] mixed (by kernel_rfl) (by decide) (by kernel_rfl) rfl (y8 _ _ _ _ _) ?_
 refine af ?_
 refine bu.cons 21 rfl rfl rfl (fun _=>(aa.ox (l:=0) (h:=2) (r:=((n.drop 0).take 2).flatMap Di.cK) rfl rfl an dX rfl ⟨_,rfl⟩ (by omega) (by omega) (qP n 0 2))) rfl ?_
 refine bu.cons 22 rfl rfl rfl (fun _=>(Kp (tY n 0 2 (by omega) (by omega)))) rfl ?_
 refine af ?_
 refine bu.cons 24 rfl rfl rfl (fun _=>(aa.ox (l:=2) (h:=4) (r:=((n.drop 2).take 2).flatMap Di.cK) rfl rfl an dX ⟨_,rfl⟩ ⟨_,rfl⟩ (by omega) (by omega) (qP n 2 2))) rfl ?_
 refine bu.cons 25 rfl rfl rfl (fun _=>(Kp (tY n 2 2 (by omega) (by omega)))) rfl ?_
 refine af ?_
 refine bu.cons 27 rfl rfl rfl (fun _=>(aa.ox (l:=4) (h:=n.length) (r:=((n.drop 4).take (n.length - 4)).flatMap Di.cK) rfl rfl an dX ⟨_,rfl⟩ rfl (by omega) (by omega) (qP n 4 (n.length - 4)))) rfl ?_
 refine bu.cons 28 rfl rfl rfl (fun _=>(Kp (tY n 4 (n.length - 4) (by omega) (by omega)))) rfl ?_
 refine bu.cons 29 rfl rfl rfl (fun _=>(aa.Ft (v:= .p (.agg (hY n).cells)) rfl an rfl rfl rfl)) rfl ?_
 refine bu.lay (v0:= .ptr 7 0) 5 6 rfl rfl rfl rfl rfl rfl rfl rfl (fun _=>(aa.aO rfl an rfl)) rfl rfl rfl ?_
 refine bu.nil ?_
 refine Kz (aa.store (H':=[cz F.b F.aV (.raw a m c) 1 2 3 4 5,dh F.b.aq,cY F.b.ah,dj F.b.av,bw F.b.plan,bw F.b.bX,.cells ((hY n).cells.map .p) 60]) rfl rfl rfl rfl rfl an rfl rfl) ?_
 iterate 3 refine af ?_
 refine Kc (Kl (.p (.agg (hY n).cells))) ?_
 refine Kc (aa.aQ rfl an (by decide) rfl rfl rfl) ?_
 iterate 2 refine af ?_
 refine Kc (aa.aQ rfl an (by decide) rfl rfl rfl) ?_
 refine Kc (Kp (Ii [hY n] [bM 0 1] Kn Kn)) ?_
 iterate 10 refine af ?_
 refine aj.ct 40 (b:=(decide ((shr [hY n] [bM 0 1]).2=0))) (jV (shr [hY n] [bM 0 1]).2) (nJ (shr [hY n] [bM 0 1]).2) rfl rfl rfl rfl rfl rfl rfl an (fun he=> ?_) (fun he=> ?_)
 ·have hne:(shr [hY n] [bM 0 1]).2≠0:=Zs he
  exact dU (e:=(shr [hY n] [bM 0 1]).2) (by show(bG F .nC n).2.2=_;unfold bG;dsimp only;rw[if_neg hro,if_pos hne]) hne (⟨⟨_,rfl,rfl⟩,⟨ZP rfl,by intro j y h1 h2 h3;obtain rfl | rfl | rfl | rfl | rfl:j=1∨j=2∨j=3∨j=4∨j=5:=(by omega);all_goals first | exact .inl (ZB (show some ai.dead=some y from h3)).symm | exact .inr h3⟩⟩)
 have hz:¬ (shr [hY n] [bM 0 1]).2≠0:=fun h=>h (Zm he)
 iterate 2 refine af ?_
 refine aI.freeze 6 rfl rfl ?_
 refine aI.to (To.cut (H:=nA F.b F.aV (.raw a m c)) (ext:=[.dead,.cells [.p (.int .i64 (shr [hY n] [bM 0 1]).1.1),.p (.int .i64 (shr [hY n] [bM 0 1]).1.2)] 24]) (T2:=[(0,.ptr 0 0),(5,.p (.ip (hY n).cells 0))]) (SW _ _ _ _ _) (Ze _) KS rfl) ?_
 iterate 2 refine af ?_
 refine aj.e8 42 (Ab F.b F.aV a m c 0 0) rfl rfl rfl rfl rfl rfl rfl an (fun y H2 iH=> ?_) (fun v H2 iH=> ?_)
 ·exact absurd hlt iH.1
 obtain⟨_,rfl,rfl⟩:=iH
 iterate 3 refine af ?_
 refine aI.bN 24 2 [0,1,5,7,8] [([],false),([],false),([],false),([],false),([],false),([],false),([],false),([0],false),([],false),([],false),([7,1],true),([],false),([],false),([],false),([],false),([0],false),([],false),([],false),([8,5],true),([],false),([],false),([],false),([],false),([0,7],true)] mixed (by kernel_rfl) (by decide) (by kernel_rfl) rfl (by simp[cz,nA,bL,bF,b8,dS,gT,fc,bz,cM,dh,cY,dj,bw,dn,Di.bO.cells]) ?_
 iterate 3 refine af ?_
 refine bu.cons 46 rfl rfl rfl (fun _=>(aa.nilCheck rfl rfl)) rfl ?_
 iterate 3 refine af ?_
 refine bu.cons 50 rfl rfl rfl (fun _=>(Kl (aY 1 (F.b.aq).length))) (cM Kn) ?_
 refine bu.cons 51 rfl rfl rfl (fun _=>(Kl (.p (.agg (hY n).cells)))) rfl ?_
 refine bu.cons 52 rfl rfl rfl (fun _=>(aa.aQ rfl an (by decide) rfl rfl rfl)) rfl ?_
 refine bu.Nf (blk:= .row (((F.b.aq).flatMap Ck.Sk.cells).map .p++((hY n).cells).map .p) 60) (v0:= .row 9 _) 53 7 1 rfl rfl rfl rfl rfl rfl rfl rfl rfl rfl (fun _=>(aa.qe (i:=1) (len:=(F.b.aq).length) (cs:=((F.b.aq).flatMap Ck.Sk.cells).map .p) (ys:=((hY n).cells).map .p) (n:=1) rfl rfl rfl an an rfl (by rw[Zo,AF.cx (c:=6) (fun _=>rfl)];rfl) rfl (by decide) rfl an (by decide) (by show(2*(_+1)+192)*48<=281474976710656;omega))) rfl rfl (by show ai.row (bq _ (_++_)) _=_;rw[bA,aX,aX]) ?_
 refine af ?_
 refine bu.cons 55 rfl rfl rfl (fun _=>(aa.nilCheck rfl rfl)) rfl ?_
 iterate 2 refine af ?_
 refine bu.cons 58 rfl rfl rfl (fun _=>(Kl (aY 5 (F.b.bX).length))) (cM Kn) ?_
 refine af ?_
 refine bu.cons 60 rfl rfl rfl (fun _=>(aa.aQ rfl an (by decide) rfl rfl rfl)) rfl ?_
 refine bu.Nf (blk:= .row (((F.b.bX).flatMap Di.cK).map .p++(Di.cK (F.b.ah.length:Int)).map .p) 3) (v0:= .row 9 _) 61 8 5 rfl rfl rfl rfl rfl rfl rfl rfl rfl rfl (fun _=>(aa.qe (i:=5) (len:=(F.b.bX).length) (cs:=((F.b.bX).flatMap Di.cK).map .p) (ys:=(Di.cK (F.b.ah.length:Int)).map .p) (n:=1) rfl rfl rfl an an rfl (by rw[Zo,AF.cx (c:=1) (fun _=>rfl)];rfl) rfl (by decide) rfl an (by decide) (by show(2*(_+1)+192)*8<=281474976710656;omega))) rfl rfl (by show ai.row (bq _ (_++_)) _=_;rw[bA,aX,aX]) ?_
 refine bu.cons 62 rfl rfl rfl (fun _=>(aa.nilCheck rfl rfl)) rfl ?_
 iterate 3 refine af ?_
 refine bu.put (blk:= .cells ([.row 7 (F.b.aq.length+1),aY 6 (F.b.fh ⟨0,0⟩).ah.length,aY 3 (F.b.fh ⟨0,0⟩).av.length,aY 4 (F.b.fh ⟨0,0⟩).plan.length,.p (.int .i64 ((F.b.fh ⟨0,0⟩).bad:Int)),.p (.int .i64 ((F.b.fh ⟨0,0⟩).good:Int)),aY 5 F.b.bX.length]++F.aV.cells.map .p++[.raw a m c,.p (.bool true)]) 87) 0 rfl rfl rfl rfl (fun _=>(aa.store rfl rfl rfl rfl rfl an rfl rfl)) rfl (by simp[bL,bF,b8,dS,gT,cM,Di.bO.cells,aW,sg,uy]) ?_
 refine bu.nil ?_
 iterate 7 refine af ?_
 refine Kc (aa.aA rfl rfl lI) ?_
 iterate 5 refine af ?_
 refine Kc (Kl (.row 7 (F.b.aq.length+1))) ?_
 refine af ?_
 refine Kc (aa.fE (m:=(F.b.aq.length:Int)) rfl rfl rfl ((aG ?_).trans ?_)) ?_
 ·omega
 ·omega
 refine Kc (aa.aA rfl rfl j3) ?_
 refine Kc (aa.aA rfl rfl lI) ?_
 refine af ?_
 refine Kc (aa.aA rfl rfl j3) ?_
 refine Kc (aa.aQ rfl an (by decide) rfl rfl rfl) ?_
 refine Kc (Kp (c9 [.str (Vb.t .nC),.num (F.b.aq.length:Int),.str dA,.num (F.b.ah.length:Int)] Kn Kn (fk (by decide) (eC (by omega) (fk (by decide) (eC (by omega) fR)))))) ?_
 iterate 3 refine af ?_
 refine iy.one rfl rfl (xq (F2:={F with b:={F.b.fh ⟨0,0⟩ with aq:=F.b.aq++[hY n],bX:=F.b.bX++[(F.b.ah.length:Int)]}}) (r:=aH (Vb.t .nC) [(F.b.aq.length:Int)]++32::aH dA [(F.b.ah.length:Int)]) (by unfold bG;dsimp only;rw[if_neg hro,if_neg hz]) (by simp[cA,aH,jk,iI.w]) ?_)
 exact⟨⟨7,6,3,4,8,by decide,congrArg some (flS (F.b.fh ⟨0,0⟩) F.aV _ (hY n) (F.b.ah.length:Int) 7 6 3 4 8),congrArg some (My _ _),rfl,rfl,rfl,congrArg some (CF _ _)⟩,⟨ZP rfl,by intro j y h1 h2 h3;obtain rfl | rfl | rfl | rfl | rfl:j=1∨j=2∨j=3∨j=4∨j=5:=(by omega);all_goals first | exact .inl (ZB (show some ai.dead=some y from h3)).symm | exact .inr h3⟩⟩
theorem P4(x:Nat)(hx:x<2^24):Pure Tryz.prog 183 [.int .u64 (x:Int)] (.int .i64 (((iO x).length:Nat):Int)):=by
 have oA:(2:Nat)^24=16777216:=by decide
 have h25:(2:Nat)^25=33554432:=by decide
 have hz:=ocS hx
 obtain⟨_,h1,h2,h3,h4,h5,h6⟩:=Wm hx
 refine Kf (N:=35) Tryz.func183 ?_
 iterate 7 refine af ?_
 refine Kc (aa.xG x 1 rfl rfl rfl (by first | decide | (show _<=(9223372036854775807:Int);omega) | (show _<=(4294967295:Int);omega) | (show _<=(18446744073709551615:Int);omega) | (show _<=(255:Int);omega) | (show _<=(65535:Int);omega))) ?_
 refine Kc (aa.o8 (x / 2^1) 6148914691236517205 rfl rfl rfl (by first | (show _<=(9223372036854775807:Int);omega) | (show _<=(4294967295:Int);omega) | (show _<=(18446744073709551615:Int);omega) | (show _<=(255:Int);omega) | (show _<=(65535:Int);omega)) (by first | decide | (show _<=(9223372036854775807:Int);omega) | (show _<=(4294967295:Int);omega) | (show _<=(18446744073709551615:Int);omega) | (show _<=(255:Int);omega) | (show _<=(65535:Int);omega))) ?_
 refine af ?_
 refine Kc (aa.o8 x 6148914691236517205 rfl rfl rfl (by first | (show _<=(9223372036854775807:Int);omega) | (show _<=(4294967295:Int);omega) | (show _<=(18446744073709551615:Int);omega) | (show _<=(255:Int);omega) | (show _<=(65535:Int);omega)) (by first | decide | (show _<=(9223372036854775807:Int);omega) | (show _<=(4294967295:Int);omega) | (show _<=(18446744073709551615:Int);omega) | (show _<=(255:Int);omega) | (show _<=(65535:Int);omega))) ?_
 refine Kc (aa.add (m:=((ET x:Nat):Int)) rfl rfl rfl ((mS ?_).trans ?_)) ?_
 ·have e:ET x=(x / 2^1&&& 6148914691236517205)+(x&&& 6148914691236517205):=rfl;omega
 ·have e:ET x=(x / 2^1&&& 6148914691236517205)+(x&&& 6148914691236517205):=rfl;omega
 iterate 5 refine af ?_
 refine Kc (aa.xG (ET x) 2 rfl rfl rfl (by first | decide | (show _<=(9223372036854775807:Int);omega) | (show _<=(4294967295:Int);omega) | (show _<=(18446744073709551615:Int);omega) | (show _<=(255:Int);omega) | (show _<=(65535:Int);omega))) ?_
 refine Kc (aa.o8 (ET x / 2^2) 3689348814741910323 rfl rfl rfl (by first | (show _<=(9223372036854775807:Int);omega) | (show _<=(4294967295:Int);omega) | (show _<=(18446744073709551615:Int);omega) | (show _<=(255:Int);omega) | (show _<=(65535:Int);omega)) (by first | decide | (show _<=(9223372036854775807:Int);omega) | (show _<=(4294967295:Int);omega) | (show _<=(18446744073709551615:Int);omega) | (show _<=(255:Int);omega) | (show _<=(65535:Int);omega))) ?_
 refine af ?_
 refine Kc (aa.o8 (ET x) 3689348814741910323 rfl rfl rfl (by first | (show _<=(9223372036854775807:Int);omega) | (show _<=(4294967295:Int);omega) | (show _<=(18446744073709551615:Int);omega) | (show _<=(255:Int);omega) | (show _<=(65535:Int);omega)) (by first | decide | (show _<=(9223372036854775807:Int);omega) | (show _<=(4294967295:Int);omega) | (show _<=(18446744073709551615:Int);omega) | (show _<=(255:Int);omega) | (show _<=(65535:Int);omega))) ?_
 refine Kc (aa.add (m:=((HE x:Nat):Int)) rfl rfl rfl ((mS ?_).trans ?_)) ?_
 ·have e:HE x=(ET x / 2^2&&& 3689348814741910323)+(ET x&&& 3689348814741910323):=rfl;omega
 ·have e:HE x=(ET x / 2^2&&& 3689348814741910323)+(ET x&&& 3689348814741910323):=rfl;omega
 iterate 5 refine af ?_
 refine Kc (aa.xG (HE x) 4 rfl rfl rfl (by first | decide | (show _<=(9223372036854775807:Int);omega) | (show _<=(4294967295:Int);omega) | (show _<=(18446744073709551615:Int);omega) | (show _<=(255:Int);omega) | (show _<=(65535:Int);omega))) ?_
 refine af ?_
 refine Kc (aa.add (m:=((HE x / 2^4+HE x:Nat):Int)) rfl rfl rfl ((mS ?_).trans ?_)) ?_
 ·omega
 ·omega
 refine Kc (aa.o8 (HE x / 2^4+HE x) 1085102592571150095 rfl rfl rfl (by first | (show _<=(9223372036854775807:Int);omega) | (show _<=(4294967295:Int);omega) | (show _<=(18446744073709551615:Int);omega) | (show _<=(255:Int);omega) | (show _<=(65535:Int);omega)) (by first | decide | (show _<=(9223372036854775807:Int);omega) | (show _<=(4294967295:Int);omega) | (show _<=(18446744073709551615:Int);omega) | (show _<=(255:Int);omega) | (show _<=(65535:Int);omega))) ?_
 iterate 3 refine af ?_
 refine aI.norm [] [(0,.p (.int .u64 ((KA x:Nat):Int)))] [] rfl KS rfl ?_
 iterate 3 refine af ?_
 refine Kc (aa.xG (KA x) 8 rfl rfl rfl (by first | decide | (show _<=(9223372036854775807:Int);omega) | (show _<=(4294967295:Int);omega) | (show _<=(18446744073709551615:Int);omega) | (show _<=(255:Int);omega) | (show _<=(65535:Int);omega))) ?_
 refine Kc (aa.add (m:=((Hv x:Nat):Int)) rfl rfl rfl ((mS ?_).trans ?_)) ?_
 ·have e:Hv x=KA x+KA x / 2^8:=rfl;omega
 ·have e:Hv x=KA x+KA x / 2^8:=rfl;omega
 iterate 6 refine af ?_
 refine Kc (aa.xG (Hv x) 16 rfl rfl rfl (by first | decide | (show _<=(9223372036854775807:Int);omega) | (show _<=(4294967295:Int);omega) | (show _<=(18446744073709551615:Int);omega) | (show _<=(255:Int);omega) | (show _<=(65535:Int);omega))) ?_
 refine Kc (aa.add (m:=((G7 x:Nat):Int)) rfl rfl rfl ((mS ?_).trans ?_)) ?_
 ·have e:G7 x=Hv x+Hv x / 2^16:=rfl;omega
 ·have e:G7 x=Hv x+Hv x / 2^16:=rfl;omega
 iterate 6 refine af ?_
 refine Kc (aa.xG (G7 x) 32 rfl rfl rfl (by first | decide | (show _<=(9223372036854775807:Int);omega) | (show _<=(4294967295:Int);omega) | (show _<=(18446744073709551615:Int);omega) | (show _<=(255:Int);omega) | (show _<=(65535:Int);omega))) ?_
 refine Kc (aa.add (m:=((Kd x:Nat):Int)) rfl rfl rfl ((mS ?_).trans ?_)) ?_
 ·have e:Kd x=G7 x+G7 x / 2^32:=rfl;omega
 ·have e:Kd x=G7 x+G7 x / 2^32:=rfl;omega
 iterate 5 refine af ?_
 refine Kc (aa.dM rfl rfl (by rw[VG];rfl) AI (aG ?_)) ?_
 ·omega
 refine Kc (aa.o8 (Kd x) 127 rfl rfl rfl (by first | (show _<=(9223372036854775807:Int);omega) | (show _<=(4294967295:Int);omega) | (show _<=(18446744073709551615:Int);omega) | (show _<=(255:Int);omega) | (show _<=(65535:Int);omega)) (by first | decide | (show _<=(9223372036854775807:Int);omega) | (show _<=(4294967295:Int);omega) | (show _<=(18446744073709551615:Int);omega) | (show _<=(255:Int);omega) | (show _<=(65535:Int);omega))) ?_
 iterate 3 refine af ?_
 refine Fin.gW rfl rfl ?_
 rw[hz]
theorem HP(x:Nat)(hx:x<2^24):Pure Tryz.prog 144 [.int .u64 (x:Int)] (.int .i64 (((iO x).length:Nat):Int)):=by
 refine Kf (N:=8) Tryz.func144 ?_
 iterate 5 refine af ?_
 refine Ki (fun hc0=> ?_) fun hc0=> ?_
 ·cases hc0
 ·iterate 4 refine af ?_
  refine Kc (Kp (P4 x hx)) ?_
  exact cQ
theorem KZ(F:cT)(n:List Int)(a:Option Addr)(m c k:Nat)(hF:oN F)(hk:nn n 0=((k:Nat):Int)):au Tryz.prog 91 [.ptr 0 0,.p (.str (sB [98,97,100])),.ptr 0 4,.p (.int .i64 ((k:Nat):Int))] (nA F.b F.aV (.raw a m c)) (Vm F .bad n (.raw a m c)) (Yh F .bad n (.raw a m c)):=by
 have jr:=Rx.c6 hF.b.cd
 have oA:(2:Nat)^24=16777216:=by decide
 have hpw:=Zy (show 0<2 by omega) jr
 have hb0:=hF.b.bad
 have Sm:=hF.b.good
 have hle:=Nat.div_le_self F.b.bad (2^k)
 refine au.start (N:=66) Tryz.func91 rfl rfl Kn ?_
 iterate 8 refine af ?_
 refine Kc (aa.gq rfl rfl rfl rfl an (tJ F.b F.aV a m c ((k:Nat):Int))) ?_
 refine aj.ct 14 (b:=_) (de _ 2) (dc _ 2) rfl rfl rfl rfl rfl rfl rfl an (fun hb=> ?_) (fun hb=> ?_)
 ·have N2:fu F.b F.b.bad (nn n 0)=2:=by unfold fu;rw[hk,if_pos (by have h:=Zs hb;omega)]
  exact dU (e:=2) (by show(bG F .bad n).2.2=_;unfold bG;dsimp only;rw[if_pos (by rw[N2];decide),N2]) (by decide) (fq _ _ _)
 have Sf:k<F.b.ah.length:=by have h:=Zm hb;omega
 have hp0:=UY (show k<=24 by omega)
 iterate 5 refine af ?_
 refine Kc (Kl (.p (.int .i64 ((F.b.bad:Nat):Int)))) ?_
 refine af ?_
 refine Kc (aa.xG F.b.bad k rfl rfl rfl (by first | decide | (show _<=(9223372036854775807:Int);omega) | (show _<=(4294967295:Int);omega) | (show _<=(18446744073709551615:Int);omega) | (show _<=(255:Int);omega) | (show _<=(65535:Int);omega))) ?_
 refine Kc (aa.o8 (F.b.bad / 2^k) 1 rfl rfl rfl (by first | (show _<=(9223372036854775807:Int);omega) | (show _<=(4294967295:Int);omega) | (show _<=(18446744073709551615:Int);omega) | (show _<=(255:Int);omega) | (show _<=(65535:Int);omega)) (by first | decide | (show _<=(9223372036854775807:Int);omega) | (show _<=(4294967295:Int);omega) | (show _<=(18446744073709551615:Int);omega) | (show _<=(255:Int);omega) | (show _<=(65535:Int);omega))) ?_
 refine af ?_
 rw[Rw]
 refine aj.ct 22 (b:=(!F.b.bad.testBit k)) (de (!F.b.bad.testBit k) 5) (dc (!F.b.bad.testBit k) 5) rfl rfl rfl rfl rfl rfl rfl an (fun gZ=> ?_) (fun gZ=> ?_)
 ·have AT:F.b.bad.testBit k=true:=by simpa using gZ
  have Ni:fu F.b F.b.bad (nn n 0)=5:=by unfold fu;rw[hk,if_neg (by omega),He,AT];rfl
  exact dU (e:=5) (by show(bG F .bad n).2.2=_;unfold bG;dsimp only;rw[if_pos (by rw[Ni];decide),Ni]) (by decide) (fq _ _ _)
 have AT:F.b.bad.testBit k=false:=by simpa using gZ
 have hce:fu F.b F.b.bad (nn n 0)=0:=by unfold fu;rw[hk,if_neg (by omega),He,AT];rfl
 have WX:¬ fu F.b F.b.bad (nn n 0)≠0:=fun h=>h hce
 have hN:F.b.bad+pow2 (nn n 0)=(F.b.bad||| 1*2^k):=by unfold pow2;rw[hk,He];exact(zZ AT).symm
 have hkp:=RX (show 1<2 by omega) Sf
 have hBN:(F.b.bad||| 1*2^k)<16777216:=by rw[zZ AT];have h5:2^k+2^k<=2^F.b.ah.length:=(by have:=Zy (show 0<2 by omega) (show k+1<=F.b.ah.length by omega);rw[Vi] at this;omega);have h6:=Qu (x:=F.b.bad) (y:=2^k) (n:=F.b.ah.length) (by omega) hkp;rw[<- rB AT] at h6;omega
 iterate 2 refine af ?_
 refine aI.aB 7 mixed (by kernel_rfl) (by decide) ?_
 refine af ?_
 refine Kq (aa.nilCheck rfl rfl) ?_
 refine Kq (Kl (.p (.int .i64 ((F.b.bad:Nat):Int)))) ?_
 refine af ?_
 refine Kq (aa.qH 1 k rfl rfl rfl (by show _<=(64:Nat);omega) (by show _<=(9223372036854775807:Int);rw[ZM];omega)) ?_
 refine Kq (aa.Ve F.b.bad (1*2^k) rfl rfl rfl (by show _<=(9223372036854775807:Int);omega) (by show _<=(9223372036854775807:Int);rw[ZM];omega) (by show _<=(9223372036854775807:Int);omega)) ?_
 refine Kq (aa.nilCheck rfl rfl) ?_
 refine aE.nil ?_
 refine Kz (aa.store (H':=[cz {F.b with bad:=(F.b.bad||| 1*2^k)} F.aV (.raw a m c) 1 2 3 4 5,dh F.b.aq,cY F.b.ah,dj F.b.av,bw F.b.plan,bw F.b.bX]) rfl rfl rfl rfl rfl an rfl rfl) ?_
 iterate 2 refine af ?_
 refine aI.aB 24 mixed (by kernel_rfl) (by decide) ?_
 refine af ?_
 refine Kq (aa.nilCheck rfl rfl) ?_
 iterate 3 refine af ?_
 refine Kq (Kl (aY 2 F.b.ah.length)) ?_
 refine af ?_
 refine Kq (aa.nilCheck rfl rfl) ?_
 iterate 3 refine af ?_
 refine Kq (Kl (.p (.int .i64 (((F.b.bad||| 1*2^k):Nat):Int)))) ?_
 refine af ?_
 refine Kq (aa.nilCheck rfl rfl) ?_
 iterate 3 refine af ?_
 refine Kq (Kl (.p (.int .i64 ((F.b.good:Nat):Int)))) ?_
 refine Kq (aa.yP 3 (Rx.pI F.b.ah (((F.b.bad||| 1*2^k):Nat):Int) ((F.b.good:Nat):Int) (ZT jr (by decide))) rfl rfl rfl rfl rfl (WT (i:=2) (xs:=[.int .i64 (((F.b.bad||| 1*2^k):Nat):Int),.int .i64 ((F.b.good:Nat):Int)]) rfl) an) ?_
 refine af ?_
 refine Kq (aa.extract rfl rfl rfl) ?_
 refine Kq (aa.extract rfl rfl rfl) ?_
 iterate 2 refine af ?_
 refine aE.nil ?_
 iterate 6 refine af ?_
 refine aj.ct 55 (b:=_) (de _ (Rx.iS F.b.ah (((F.b.bad||| 1*2^k):Nat):Int) ((F.b.good:Nat):Int))) (dc _ (Rx.iS F.b.ah (((F.b.bad||| 1*2^k):Nat):Int) ((F.b.good:Nat):Int))) rfl rfl rfl rfl rfl rfl rfl an (fun SX=> ?_) (fun SX=> ?_)
 ·have TQ:(Rx.iS F.b.ah (((F.b.bad||| 1*2^k):Nat):Int) ((F.b.good:Nat):Int))=6:=by simpa using SX
  exact dU (e:=(Rx.iS F.b.ah (((F.b.bad||| 1*2^k):Nat):Int) ((F.b.good:Nat):Int))) (by rw[TQ];show(bG F .bad n).2.2=_;unfold bG;dsimp only;rw[if_neg WX,hN,if_pos TQ]) (by rw[TQ];decide) (⟨⟨_,rfl,rfl⟩,⟨ZP rfl,by intro j y h1 h2 h3;obtain rfl | rfl | rfl | rfl | rfl:j=1∨j=2∨j=3∨j=4∨j=5:=(by omega);all_goals first | exact .inl (ZB (show some ai.dead=some y from h3)).symm | exact .inr h3⟩⟩)
 have Z2:¬ (Rx.iS F.b.ah (((F.b.bad||| 1*2^k):Nat):Int) ((F.b.good:Nat):Int))=6:=by simpa using SX
 iterate 4 refine af ?_
 refine Kc (aa.aA rfl rfl lI) ?_
 iterate 2 refine af ?_
 refine Kc (Kl (.p (.int .i64 (((F.b.bad||| 1*2^k):Nat):Int)))) ?_
 refine Kc (aa.dM rfl rfl (by rw[AI];rfl) C5 (mS ?_)) ?_
 ·omega
 refine Kc (Kp (HP (F.b.bad||| 1*2^k) (by omega))) ?_
 refine Kc (aa.aA rfl rfl j3) ?_
 refine Kc (aa.aQ rfl an (by decide) rfl rfl rfl) ?_
 refine Kc (Kp (c9 [.str (Vb.t .bad),.num ((iO (F.b.bad||| 1*2^k)).length:Int)] Kn Kn (fk (by decide) (eC (by have:=fW (F.b.bad||| 1*2^k);omega) fR)))) ?_
 iterate 3 refine af ?_
 refine iy.one rfl rfl (xq (F2:={F with b:={F.b with bad:=(F.b.bad||| 1*2^k)}}) (r:=aH (Vb.t .bad) [((iO (F.b.bad||| 1*2^k)).length:Int)]) (by unfold bG;dsimp only;rw[if_neg WX,hN,if_neg Z2]) (by rw[eD];rfl) ?_)
 exact Ei
theorem Yc:VC .bad 90:=by
 intro F n a m c hF hl hn
 have jr:=Rx.c6 hF.b.cd
 have tC:=hF.b.sk
 have ry:=hF.b.dr
 have q0:0<=nn n 0∧nn n 0<10000000000000:=hn _ (Di.bH 0 (show 0<n.length by rw[hl];decide))
 obtain⟨k,hk⟩:=U7 q0.1
 refine au.start (N:=15) Tryz.func90 rfl rfl Kn ?_
 iterate 5 refine af ?_
 refine aI.aB 9 mixed (by kernel_rfl) (by decide) ?_
 iterate 2 refine af ?_
 refine Kq (aa.nilCheck rfl rfl) ?_
 iterate 4 refine af ?_
 refine Kq (aa.bg (g:=Di.gt 0 n) (k:=0) (Di.aL _) rfl rfl rfl an dX rfl (fun _=>rfl) (by decide) (by rw[hl];decide)) ?_
 refine Kq (aa.load (v:= .p (.int .i64 ((k:Nat):Int))) rfl rfl an (by rw[<- hk];rfl)) ?_
 refine aE.nil ?_
 refine aj.e8 14 (KZ F n a m c k hF hk) rfl rfl rfl rfl rfl rfl rfl an (fun y H2 iH=> ?_) (fun v H2 iH=> ?_)
 ·exact⟨_,rfl,iH⟩
 exact uv
theorem IX(F:cT)(n:List Int)(a:Option Addr)(m c k:Nat)(hF:oN F)(hk:nn n 0=((k:Nat):Int)):au Tryz.prog 91 [.ptr 0 0,.p (.str (sB [103,111,111,100])),.ptr 0 5,.p (.int .i64 ((k:Nat):Int))] (nA F.b F.aV (.raw a m c)) (Vm F .good n (.raw a m c)) (Yh F .good n (.raw a m c)):=by
 have jr:=Rx.c6 hF.b.cd
 have oA:(2:Nat)^24=16777216:=by decide
 have hpw:=Zy (show 0<2 by omega) jr
 have hb0:=hF.b.bad
 have Sm:=hF.b.good
 have hle:=Nat.div_le_self F.b.good (2^k)
 refine au.start (N:=66) Tryz.func91 rfl rfl Kn ?_
 iterate 8 refine af ?_
 refine Kc (aa.gq rfl rfl rfl rfl an (tJ F.b F.aV a m c ((k:Nat):Int))) ?_
 refine aj.ct 14 (b:=_) (de _ 2) (dc _ 2) rfl rfl rfl rfl rfl rfl rfl an (fun hb=> ?_) (fun hb=> ?_)
 ·have N2:fu F.b F.b.good (nn n 0)=2:=by unfold fu;rw[hk,if_pos (by have h:=Zs hb;omega)]
  exact dU (e:=2) (by show(bG F .good n).2.2=_;unfold bG;dsimp only;rw[if_pos (by rw[N2];decide),N2]) (by decide) (fq _ _ _)
 have Sf:k<F.b.ah.length:=by have h:=Zm hb;omega
 have hp0:=UY (show k<=24 by omega)
 iterate 5 refine af ?_
 refine Kc (Kl (.p (.int .i64 ((F.b.good:Nat):Int)))) ?_
 refine af ?_
 refine Kc (aa.xG F.b.good k rfl rfl rfl (by first | decide | (show _<=(9223372036854775807:Int);omega) | (show _<=(4294967295:Int);omega) | (show _<=(18446744073709551615:Int);omega) | (show _<=(255:Int);omega) | (show _<=(65535:Int);omega))) ?_
 refine Kc (aa.o8 (F.b.good / 2^k) 1 rfl rfl rfl (by first | (show _<=(9223372036854775807:Int);omega) | (show _<=(4294967295:Int);omega) | (show _<=(18446744073709551615:Int);omega) | (show _<=(255:Int);omega) | (show _<=(65535:Int);omega)) (by first | decide | (show _<=(9223372036854775807:Int);omega) | (show _<=(4294967295:Int);omega) | (show _<=(18446744073709551615:Int);omega) | (show _<=(255:Int);omega) | (show _<=(65535:Int);omega))) ?_
 refine af ?_
 rw[Rw]
 refine aj.ct 22 (b:=(!F.b.good.testBit k)) (de (!F.b.good.testBit k) 5) (dc (!F.b.good.testBit k) 5) rfl rfl rfl rfl rfl rfl rfl an (fun gZ=> ?_) (fun gZ=> ?_)
 ·have AT:F.b.good.testBit k=true:=by simpa using gZ
  have Ni:fu F.b F.b.good (nn n 0)=5:=by unfold fu;rw[hk,if_neg (by omega),He,AT];rfl
  exact dU (e:=5) (by show(bG F .good n).2.2=_;unfold bG;dsimp only;rw[if_pos (by rw[Ni];decide),Ni]) (by decide) (fq _ _ _)
 have AT:F.b.good.testBit k=false:=by simpa using gZ
 have hce:fu F.b F.b.good (nn n 0)=0:=by unfold fu;rw[hk,if_neg (by omega),He,AT];rfl
 have WX:¬ fu F.b F.b.good (nn n 0)≠0:=fun h=>h hce
 have hN:F.b.good+pow2 (nn n 0)=(F.b.good||| 1*2^k):=by unfold pow2;rw[hk,He];exact(zZ AT).symm
 have hkp:=RX (show 1<2 by omega) Sf
 have hBN:(F.b.good||| 1*2^k)<16777216:=by rw[zZ AT];have h5:2^k+2^k<=2^F.b.ah.length:=(by have:=Zy (show 0<2 by omega) (show k+1<=F.b.ah.length by omega);rw[Vi] at this;omega);have h6:=Qu (x:=F.b.good) (y:=2^k) (n:=F.b.ah.length) (by omega) hkp;rw[<- rB AT] at h6;omega
 iterate 2 refine af ?_
 refine aI.aB 7 mixed (by kernel_rfl) (by decide) ?_
 refine af ?_
 refine Kq (aa.nilCheck rfl rfl) ?_
 refine Kq (Kl (.p (.int .i64 ((F.b.good:Nat):Int)))) ?_
 refine af ?_
 refine Kq (aa.qH 1 k rfl rfl rfl (by show _<=(64:Nat);omega) (by show _<=(9223372036854775807:Int);rw[ZM];omega)) ?_
 refine Kq (aa.Ve F.b.good (1*2^k) rfl rfl rfl (by show _<=(9223372036854775807:Int);omega) (by show _<=(9223372036854775807:Int);rw[ZM];omega) (by show _<=(9223372036854775807:Int);omega)) ?_
 refine Kq (aa.nilCheck rfl rfl) ?_
 refine aE.nil ?_
 refine Kz (aa.store (H':=[cz {F.b with good:=(F.b.good||| 1*2^k)} F.aV (.raw a m c) 1 2 3 4 5,dh F.b.aq,cY F.b.ah,dj F.b.av,bw F.b.plan,bw F.b.bX]) rfl rfl rfl rfl rfl an rfl rfl) ?_
 iterate 2 refine af ?_
 refine aI.aB 24 mixed (by kernel_rfl) (by decide) ?_
 refine af ?_
 refine Kq (aa.nilCheck rfl rfl) ?_
 iterate 3 refine af ?_
 refine Kq (Kl (aY 2 F.b.ah.length)) ?_
 refine af ?_
 refine Kq (aa.nilCheck rfl rfl) ?_
 iterate 3 refine af ?_
 refine Kq (Kl (.p (.int .i64 ((F.b.bad:Nat):Int)))) ?_
 refine af ?_
 refine Kq (aa.nilCheck rfl rfl) ?_
 iterate 3 refine af ?_
 refine Kq (Kl (.p (.int .i64 (((F.b.good||| 1*2^k):Nat):Int)))) ?_
 refine Kq (aa.yP 3 (Rx.pI F.b.ah ((F.b.bad:Nat):Int) (((F.b.good||| 1*2^k):Nat):Int) (ZT jr (by decide))) rfl rfl rfl rfl rfl (WT (i:=2) (xs:=[.int .i64 ((F.b.bad:Nat):Int),.int .i64 (((F.b.good||| 1*2^k):Nat):Int)]) rfl) an) ?_
 refine af ?_
 refine Kq (aa.extract rfl rfl rfl) ?_
 refine Kq (aa.extract rfl rfl rfl) ?_
 iterate 2 refine af ?_
 refine aE.nil ?_
 iterate 6 refine af ?_
 refine aj.ct 55 (b:=_) (de _ (Rx.iS F.b.ah ((F.b.bad:Nat):Int) (((F.b.good||| 1*2^k):Nat):Int))) (dc _ (Rx.iS F.b.ah ((F.b.bad:Nat):Int) (((F.b.good||| 1*2^k):Nat):Int))) rfl rfl rfl rfl rfl rfl rfl an (fun SX=> ?_) (fun SX=> ?_)
 ·have TQ:(Rx.iS F.b.ah ((F.b.bad:Nat):Int) (((F.b.good||| 1*2^k):Nat):Int))=6:=by simpa using SX
  exact dU (e:=(Rx.iS F.b.ah ((F.b.bad:Nat):Int) (((F.b.good||| 1*2^k):Nat):Int))) (by rw[TQ];show(bG F .good n).2.2=_;unfold bG;dsimp only;rw[if_neg WX,hN,if_pos TQ]) (by rw[TQ];decide) (⟨⟨_,rfl,rfl⟩,⟨ZP rfl,by intro j y h1 h2 h3;obtain rfl | rfl | rfl | rfl | rfl:j=1∨j=2∨j=3∨j=4∨j=5:=(by omega);all_goals first | exact .inl (ZB (show some ai.dead=some y from h3)).symm | exact .inr h3⟩⟩)
 have Z2:¬ (Rx.iS F.b.ah ((F.b.bad:Nat):Int) (((F.b.good||| 1*2^k):Nat):Int))=6:=by simpa using SX
 iterate 4 refine af ?_
 refine Kc (aa.aA rfl rfl lI) ?_
 iterate 2 refine af ?_
 refine Kc (Kl (.p (.int .i64 (((F.b.good||| 1*2^k):Nat):Int)))) ?_
 refine Kc (aa.dM rfl rfl (by rw[AI];rfl) C5 (mS ?_)) ?_
 ·omega
 refine Kc (Kp (HP (F.b.good||| 1*2^k) (by omega))) ?_
 refine Kc (aa.aA rfl rfl j3) ?_
 refine Kc (aa.aQ rfl an (by decide) rfl rfl rfl) ?_
 refine Kc (Kp (c9 [.str (Vb.t .good),.num ((iO (F.b.good||| 1*2^k)).length:Int)] Kn Kn (fk (by decide) (eC (by have:=fW (F.b.good||| 1*2^k);omega) fR)))) ?_
 iterate 3 refine af ?_
 refine iy.one rfl rfl (xq (F2:={F with b:={F.b with good:=(F.b.good||| 1*2^k)}}) (r:=aH (Vb.t .good) [((iO (F.b.good||| 1*2^k)).length:Int)]) (by unfold bG;dsimp only;rw[if_neg WX,hN,if_neg Z2]) (by rw[eD];rfl) ?_)
 exact Ei
theorem SH:VC .good 92:=by
 intro F n a m c hF hl hn
 have jr:=Rx.c6 hF.b.cd
 have tC:=hF.b.sk
 have ry:=hF.b.dr
 have q0:0<=nn n 0∧nn n 0<10000000000000:=hn _ (Di.bH 0 (show 0<n.length by rw[hl];decide))
 obtain⟨k,hk⟩:=U7 q0.1
 refine au.start (N:=15) Tryz.func92 rfl rfl Kn ?_
 iterate 5 refine af ?_
 refine aI.aB 9 mixed (by kernel_rfl) (by decide) ?_
 iterate 2 refine af ?_
 refine Kq (aa.nilCheck rfl rfl) ?_
 iterate 4 refine af ?_
 refine Kq (aa.bg (g:=Di.gt 0 n) (k:=0) (Di.aL _) rfl rfl rfl an dX rfl (fun _=>rfl) (by decide) (by rw[hl];decide)) ?_
 refine Kq (aa.load (v:= .p (.int .i64 ((k:Nat):Int))) rfl rfl an (by rw[<- hk];rfl)) ?_
 refine aE.nil ?_
 refine aj.e8 14 (IX F n a m c k hF hk) rfl rfl rfl rfl rfl rfl rfl an (fun y H2 iH=> ?_) (fun v H2 iH=> ?_)
 ·exact⟨_,rfl,iH⟩
 exact uv
theorem flL(b:bK)(p:Di.bO)(um:V)(x:Di.cU)(y:Int)(i1 i2 i3 i4 i5:Nat):ai.cells ([aY i1 b.aq.length,aY i2 b.ah.length,.row i3 (b.av.length+1),.row i4 (b.plan.length+1),.p (.int .i64 (b.bad:Int)),.p (.int .i64 (b.good:Int)),aY i5 b.bX.length]++p.cells.map .p++[um,.p (.bool true)]) 87=cz {b with av:=b.av++[x],plan:=b.plan++[y]} p um i1 i2 i3 i4 i5:=by
 unfold cz dn
 rw[<- kY i3 b.av x,<- kY i4 b.plan y]
theorem LD{H:List ai}{i k:Nat}{l:List Int}(h:H[i]? =some (bw l))(hk:k<l.length):c7 H false 1 (.ptr i (k*1))=some (.p (.int .i64 (nn l k))):=by
 simp only[c7,h]
 cases l with
 | nil=>cases hk
 | cons x l=>
  show(((x::l).flatMap Di.cK).map V.p)[k*1]? =_
  rw[qg,OE,Ku,Zt,Zb hk]
  unfold nn
  rw[Di.aL 0 k hk]
  rfl
theorem Pk(b:bK)(p:Di.bO)(um:V)(i1 i2 i3 i4 i5:Nat)(H:List ai)(h0:H[0]? =some (cz b p um i1 i2 i3 i4 i5))(h2:H[i2]? =some (cY b.ah))(hi:i2≠0)(x y:Int)(hlt:b.ah.length<24):ax Tryz.prog 87 [.ptr 0 0,.p (.int .i64 x),.p (.int .i64 y)] H (fun v H2=>v= .p (.int .i64 (b.ah.length:Int))∧H2=(H.set i2 .dead++[cY (b.fh ⟨x,y⟩).ah]).set 0 (cz (b.fh ⟨x,y⟩) p um i1 H.length i3 i4 i5)):=
 ((LQ b p um i1 i2 i3 i4 i5 H h0 h2 hi x y).mono (Vu:=fun v H2=>v= .p (.int .i64 (b.ah.length:Int))∧H2=(H.set i2 .dead++[cY (b.fh ⟨x,y⟩).ah]).set 0 (cz (b.fh ⟨x,y⟩) p um i1 H.length i3 i4 i5)) (XD:=fun _ _=>False) (fun v H2 ⟨_,h1,h2⟩=>⟨h1,h2⟩) (fun y H2 ⟨h1,_⟩=>h1 hlt)).toC (fun _ _ h=>h)
theorem Sw:VC .lead 88:=by
 intro F n a m c hF hl hn
 have jr:=Rx.c6 hF.b.cd
 have tC:=hF.b.sk
 have ry:=hF.b.dr
 have hl8:n.length=8:=hl
 have Y5:=hF.b.ck
 have q0:0<=nn n 0∧nn n 0<10000000000000:=hn _ (Di.bH 0 (show 0<n.length by rw[hl];decide))
 have q1:0<=nn n 1∧nn n 1<10000000000000:=hn _ (Di.bH 0 (show 1<n.length by rw[hl];decide))
 have q2:0<=nn n 2∧nn n 2<10000000000000:=hn _ (Di.bH 0 (show 2<n.length by rw[hl];decide))
 have q3:0<=nn n 3∧nn n 3<10000000000000:=hn _ (Di.bH 0 (show 3<n.length by rw[hl];decide))
 have q4:0<=nn n 4∧nn n 4<10000000000000:=hn _ (Di.bH 0 (show 4<n.length by rw[hl];decide))
 have q5:0<=nn n 5∧nn n 5<10000000000000:=hn _ (Di.bH 0 (show 5<n.length by rw[hl];decide))
 have q6:0<=nn n 6∧nn n 6<10000000000000:=hn _ (Di.bH 0 (show 6<n.length by rw[hl];decide))
 have q7:0<=nn n 7∧nn n 7<10000000000000:=hn _ (Di.bH 0 (show 7<n.length by rw[hl];decide))
 obtain⟨⟨n1,n4⟩,_⟩:=Di.hO hF.p
 obtain⟨u0,OA⟩:=hF.b.Oq
 have Pu:=kE OA
 refine au.start (N:=145) Tryz.func88 rfl rfl Kn ?_
 iterate 7 refine af ?_
 refine aj.e8 10 (Ap F.b F.aV a m c) rfl rfl rfl rfl rfl rfl rfl an (fun y H2 iH=> ?_) (fun v H2 iH=> ?_)
 ·obtain⟨q1,rfl,rfl⟩:=iH
  exact dU (e:=9) (by show(bG F .lead n).2.2=_;unfold bG;dsimp only;rw[if_pos (by omega)]) (by decide) (fq _ _ _)
 obtain⟨hlt,rfl,rfl⟩:=iH
 have YF:¬ 24<=F.b.ah.length:=by omega
 iterate 6 refine af ?_
 refine aI.bN 29 1 [6] [([],false),([],false),([],false),([],false),([],false),([],false),([],false),([],false),([],false),([],false),([],false),([],false),([],false),([],false),([],false),([],false),([],false),([],false),([],false),([],false),([],false),([],false),([],false),([],false),([],false),([],false),([],false),([6],true),([6],true)] mixed (by kernel_rfl) (by decide) (by kernel_rfl) rfl (y8 _ _ _ _ _) ?_
 refine af ?_
 refine bu.cons 13 rfl rfl rfl (fun _=>(aa.nilCheck rfl rfl)) rfl ?_
 iterate 3 refine af ?_
 refine bu.cons 17 rfl rfl rfl (fun _=>(Kl (aY 1 (F.b.aq).length))) (cM Kn) ?_
 iterate 2 refine af ?_
 refine bu.cons 20 rfl rfl rfl (fun _=>(aa.bg (g:=Di.gt 0 n) (k:=0) (Di.aL _) rfl rfl rfl an dX rfl (fun _=>rfl) (by decide) (by rw[hl];decide))) rfl ?_
 refine bu.cons 21 rfl rfl rfl (fun _=>(Kl (.p (.int .i64 (nn n 0))))) rfl ?_
 refine af ?_
 refine bu.cons 23 rfl rfl rfl (fun _=>(aa.bg (g:=Di.gt 0 n) (k:=1) (Di.aL _) rfl rfl rfl an dX rfl (fun _=>rfl) (by decide) (by rw[hl];decide))) rfl ?_
 refine bu.cons 24 rfl rfl rfl (fun _=>(Kl (.p (.int .i64 (nn n 1))))) rfl ?_
 refine bu.cons 25 rfl rfl rfl (fun _=>(aa.e8 (Ia (nn n 0) (nn n 1)) rfl rfl rfl rfl (an))) rfl ?_
 iterate 2 refine af ?_
 refine bu.cons 28 rfl rfl rfl (fun _=>(aa.bg (g:=Di.gt 0 n) (k:=2) (Di.aL _) rfl rfl rfl an dX rfl (fun _=>rfl) (by decide) (by rw[hl];decide))) rfl ?_
 refine bu.cons 29 rfl rfl rfl (fun _=>(Kl (.p (.int .i64 (nn n 2))))) rfl ?_
 refine af ?_
 refine bu.cons 31 rfl rfl rfl (fun _=>(aa.bg (g:=Di.gt 0 n) (k:=3) (Di.aL _) rfl rfl rfl an dX rfl (fun _=>rfl) (by decide) (by rw[hl];decide))) rfl ?_
 refine bu.cons 32 rfl rfl rfl (fun _=>(Kl (.p (.int .i64 (nn n 3))))) rfl ?_
 refine bu.cons 33 rfl rfl rfl (fun _=>(aa.e8 (Ia (nn n 2) (nn n 3)) rfl rfl rfl rfl (an))) rfl ?_
 refine bu.cons 34 rfl rfl rfl (fun _=>(aa.aQ rfl an (by decide) rfl rfl rfl)) rfl ?_
 refine bu.cons 35 rfl rfl rfl (fun _=>(aa.yP 3 (Ii F.b.aq [bM (nn n 0) (nn n 1),bM (nn n 2) (nn n 3)] (ZT tC (by decide)) Kn) rfl rfl rfl rfl rfl (hbS (i:=1) (xs:=[Ck.vS [bM (nn n 0) (nn n 1),bM (nn n 2) (nn n 3)]]) rfl) an)) rfl ?_
 refine af ?_
 refine bu.cons 36 rfl rfl rfl (fun _=>(aa.extract rfl rfl rfl)) rfl ?_
 refine bu.cons 37 rfl rfl rfl (fun _=>(aa.extract rfl rfl rfl)) rfl ?_
 refine bu.lay (v0:= .ptr 7 0) 6 6 rfl rfl rfl rfl rfl rfl rfl rfl (fun _=>(aa.aO rfl an rfl)) rfl rfl rfl ?_
 refine bu.put (blk:= .cells [.p (.int .i64 (shr F.b.aq [bM (nn n 0) (nn n 1),bM (nn n 2) (nn n 3)]).1.1),.p (.int .i64 (shr F.b.aq [bM (nn n 0) (nn n 1),bM (nn n 2) (nn n 3)]).1.2)] 24) 6 rfl rfl rfl rfl (fun _=>(aa.store rfl rfl rfl rfl rfl an rfl rfl)) rfl rfl ?_
 refine bu.nil ?_
 iterate 5 refine af ?_
 refine aj.ct 39 (b:=(decide ((shr F.b.aq [bM (nn n 0) (nn n 1),bM (nn n 2) (nn n 3)]).2=0))) (jV (shr F.b.aq [bM (nn n 0) (nn n 1),bM (nn n 2) (nn n 3)]).2) (nJ (shr F.b.aq [bM (nn n 0) (nn n 1),bM (nn n 2) (nn n 3)]).2) rfl rfl rfl rfl rfl rfl rfl an (fun he=> ?_) (fun he=> ?_)
 ·have hne:(shr F.b.aq [bM (nn n 0) (nn n 1),bM (nn n 2) (nn n 3)]).2≠0:=Zs he
  exact dU (e:=(shr F.b.aq [bM (nn n 0) (nn n 1),bM (nn n 2) (nn n 3)]).2) (by show(bG F .lead n).2.2=_;unfold bG;dsimp only;rw[if_neg YF,if_pos hne]) hne (⟨⟨_,rfl,rfl⟩,⟨ZP rfl,by intro j y h1 h2 h3;obtain rfl | rfl | rfl | rfl | rfl:j=1∨j=2∨j=3∨j=4∨j=5:=(by omega);all_goals first | exact .inl (ZB (show some ai.dead=some y from h3)).symm | exact .inr h3⟩⟩)
 have uL:(shr F.b.aq [bM (nn n 0) (nn n 1),bM (nn n 2) (nn n 3)]).2=0:=Zm he
 have hz:¬ (shr F.b.aq [bM (nn n 0) (nn n 1),bM (nn n 2) (nn n 3)]).2≠0:=fun h=>h uL
 obtain⟨⟨i1,i2⟩,i3,i4⟩:=Mz uL
 obtain⟨⟨b1,b2⟩,b3,b4⟩:=Rq F.b.aq [bM (nn n 0) (nn n 1),bM (nn n 2) (nn n 3)]
 have ck1:0<=nn F.b.bX (nn n 0).toNat∧nn F.b.bX (nn n 0).toNat<(F.b.ah.length:Int):=hF.b.P6 _ (Di.bH 0 (show(nn n 0).toNat<F.b.bX.length by omega))
 have ck2:0<=nn F.b.bX (nn n 2).toNat∧nn F.b.bX (nn n 2).toNat<(F.b.ah.length:Int):=hF.b.P6 _ (Di.bH 0 (show(nn n 2).toNat<F.b.bX.length by omega))
 obtain⟨k0,e0⟩:=U7 ck1.1
 obtain⟨k1,e1⟩:=U7 ck2.1
 have hp0:=UY (show k0<=24 by omega)
 have YR:=UY (show k1<=24 by omega)
 iterate 8 refine af ?_
 refine Kc (Kl (aY 3 F.b.av.length)) ?_
 refine Kc (aa.cD rfl rfl an pR) ?_
 refine af ?_
 refine aj.ct 48 (b:=_) (de _ 9) (dc _ 9) rfl rfl rfl rfl rfl rfl rfl an (fun hb=> ?_) (fun hb=> ?_)
 ·exact dU (e:=9) (by show(bG F .lead n).2.2=_;unfold bG;dsimp only;rw[if_neg YF,if_neg hz,if_pos (by have h:=Zs hb;omega)]) (by decide) (⟨⟨_,rfl,rfl⟩,⟨ZP rfl,by intro j y h1 h2 h3;obtain rfl | rfl | rfl | rfl | rfl:j=1∨j=2∨j=3∨j=4∨j=5:=(by omega);all_goals first | exact .inl (ZB (show some ai.dead=some y from h3)).symm | exact .inr h3⟩⟩)
 have VJ:¬ 8<=F.b.av.length:=by have h:=Zm hb;omega
 iterate 2 refine af ?_
 refine aI.xj (H':=[cz F.b F.aV (.raw a m c) 1 2 3 4 5,dh F.b.aq,cY F.b.ah,dj F.b.av,bw F.b.plan,bw F.b.bX,.cells [.p (.int .i64 (shr F.b.aq [bM (nn n 0) (nn n 1),bM (nn n 2) (nn n 3)]).1.1),.p (.int .i64 (shr F.b.aq [bM (nn n 0) (nn n 1),bM (nn n 2) (nn n 3)]).1.2)] 24]) rfl ?_
 refine aI.bN 33 2 [0,3,4,7,8] [([],false),([],false),([],false),([],false),([],false),([],false),([],false),([0],false),([],false),([],false),([],false),([],false),([],false),([],false),([],false),([],false),([7,3],true),([],false),([],false),([],false),([],false),([],false),([0],false),([],false),([],false),([],false),([],false),([8,4],true),([],false),([],false),([],false),([],false),([0,7],true)] mixed (by kernel_rfl) (by decide) (by kernel_rfl) rfl (by simp[cz,nA,bL,bF,b8,dS,gT,fc,bz,cM,dh,cY,dj,bw,dn,Di.bO.cells]) ?_
 iterate 3 refine af ?_
 refine bu.cons 52 rfl rfl rfl (fun _=>(aa.nilCheck rfl rfl)) rfl ?_
 iterate 3 refine af ?_
 refine bu.cons 56 rfl rfl rfl (fun _=>(Kl (aY 3 (F.b.av).length))) (cM Kn) ?_
 refine af ?_
 refine bu.cons 58 rfl rfl rfl (fun _=>(aa.bg (g:=Di.gt 0 n) (k:=5) (Di.aL _) rfl rfl rfl an dX rfl (fun _=>rfl) (by decide) (by rw[hl];decide))) rfl ?_
 refine bu.cons 59 rfl rfl rfl (fun _=>(Kl (.p (.int .i64 (nn n 5))))) rfl ?_
 refine af ?_
 refine bu.cons 61 rfl rfl rfl (fun _=>(aa.ox (l:=6) (h:=n.length) (r:=((n.drop 6).take (n.length - 6)).flatMap Di.cK) rfl rfl an dX ⟨_,rfl⟩ rfl (by omega) (by omega) (qP n 6 (n.length - 6)))) rfl ?_
 refine bu.cons 62 rfl rfl rfl (fun _=>(Kp (tY n 6 (n.length - 6) (by omega) (by omega)))) rfl ?_
 refine bu.cons 63 rfl rfl rfl (fun _=>(aa.Ft (v:= .p (.agg (⟨nn n 5,nn n 6,nn n 7⟩:Di.cU).cells)) rfl an rfl rfl rfl)) rfl ?_
 refine bu.cons 64 rfl rfl rfl (fun _=>(aa.aQ rfl an (by decide) rfl rfl rfl)) rfl ?_
 refine bu.Nf (blk:= .row (((F.b.av).flatMap Di.cU.cells).map .p++((⟨nn n 5,nn n 6,nn n 7⟩:Di.cU).cells).map .p) 74) (v0:= .row 9 _) 65 7 3 rfl rfl rfl rfl rfl rfl rfl rfl rfl rfl (fun _=>(aa.qe (i:=3) (len:=(F.b.av).length) (cs:=((F.b.av).flatMap Di.cU.cells).map .p) (ys:=((⟨nn n 5,nn n 6,nn n 7⟩:Di.cU).cells).map .p) (n:=1) rfl rfl rfl an an rfl (by rw[Zo,AF.cx (c:=3) (fun _=>rfl)];rfl) rfl (by decide) rfl an (by decide) (by show(2*(_+1)+192)*24<=281474976710656;omega))) rfl rfl (by show ai.row (bq _ (_++_)) _=_;rw[bA,aX,aX]) ?_
 refine af ?_
 refine bu.cons 67 rfl rfl rfl (fun _=>(aa.nilCheck rfl rfl)) rfl ?_
 iterate 3 refine af ?_
 refine bu.cons 71 rfl rfl rfl (fun _=>(Kl (aY 4 (F.b.plan).length))) (cM Kn) ?_
 refine af ?_
 refine bu.cons 73 rfl rfl rfl (fun _=>(aa.bg (g:=Di.gt 0 n) (k:=4) (Di.aL _) rfl rfl rfl an dX rfl (fun _=>rfl) (by decide) (by rw[hl];decide))) rfl ?_
 refine bu.cons 74 rfl rfl rfl (fun _=>(Kl (.p (.int .i64 (nn n 4))))) rfl ?_
 refine bu.cons 75 rfl rfl rfl (fun _=>(aa.aQ rfl an (by decide) rfl rfl rfl)) rfl ?_
 refine bu.Nf (blk:= .row (((F.b.plan).flatMap Di.cK).map .p++(Di.cK (nn n 4)).map .p) 3) (v0:= .row 9 _) 76 8 4 rfl rfl rfl rfl rfl rfl rfl rfl rfl rfl (fun _=>(aa.qe (i:=4) (len:=(F.b.plan).length) (cs:=((F.b.plan).flatMap Di.cK).map .p) (ys:=(Di.cK (nn n 4)).map .p) (n:=1) rfl rfl rfl an an rfl (by rw[Zo,AF.cx (c:=1) (fun _=>rfl)];rfl) rfl (by decide) rfl an (by decide) (by show(2*(_+1)+192)*8<=281474976710656;omega))) rfl rfl (by show ai.row (bq _ (_++_)) _=_;rw[bA,aX,aX]) ?_
 refine bu.cons 77 rfl rfl rfl (fun _=>(aa.nilCheck rfl rfl)) rfl ?_
 iterate 3 refine af ?_
 refine bu.put (blk:= .cells ([aY 1 F.b.aq.length,aY 2 F.b.ah.length,.row 7 (F.b.av.length+1),aY 4 F.b.plan.length,.p (.int .i64 (F.b.bad:Int)),.p (.int .i64 (F.b.good:Int)),aY 5 F.b.bX.length]++F.aV.cells.map .p++[.raw a m c,.p (.bool true)]) 87) 0 rfl rfl rfl rfl (fun _=>(aa.store rfl rfl rfl rfl rfl an rfl rfl)) rfl (by simp[bL,bF,b8,dS,gT,cM,Di.bO.cells,aW,sg,uy]) ?_
 refine bu.nil ?_
 iterate 7 refine af ?_
 refine aI.xj (H':=[cz {F.b with av:=F.b.av++[(⟨nn n 5,nn n 6,nn n 7⟩:Di.cU)],plan:=F.b.plan++[nn n 4]} F.aV (.raw a m c) 1 2 7 8 5,dh F.b.aq,cY F.b.ah,.dead,.dead,bw F.b.bX,.cells [.p (.int .i64 (shr F.b.aq [bM (nn n 0) (nn n 1),bM (nn n 2) (nn n 3)]).1.1),.p (.int .i64 (shr F.b.aq [bM (nn n 0) (nn n 1),bM (nn n 2) (nn n 3)]).1.2)] 24,dj (F.b.av++[(⟨nn n 5,nn n 6,nn n 7⟩:Di.cU)]),bw (F.b.plan++[nn n 4])]) (by rw[<- flL F.b F.aV _ _ _ 1 2 7 8 5,<- KM,<- CF];rfl) ?_
 refine aI.aB 22 mixed (by kernel_rfl) (by decide) ?_
 refine af ?_
 refine Kq (aa.nilCheck rfl rfl) ?_
 refine af ?_
 refine Kq (Kl (.p (Di.ic F.aV))) ?_
 refine af ?_
 refine Kq (aa.nilCheck rfl rfl) ?_
 iterate 3 refine af ?_
 refine Kq (Kl (aY 7 (F.b.av++[(⟨nn n 5,nn n 6,nn n 7⟩:Di.cU)]).length)) ?_
 refine af ?_
 refine Kq (aa.nilCheck rfl rfl) ?_
 iterate 3 refine af ?_
 refine Kq (Kl (aY 8 (F.b.plan++[nn n 4]).length)) ?_
 refine Kq (aa.Tn 3 (Di.sr F.aV (F.b.av++[(⟨nn n 5,nn n 6,nn n 7⟩:Di.cU)]) (F.b.plan++[nn n 4]) (ZT n4 (by decide)) (ZT (show(F.b.av++[(⟨nn n 5,nn n 6,nn n 7⟩:Di.cU)]).length<=9 by simp;omega) (by decide)) (ZT (show(F.b.plan++[nn n 4]).length<=9 by simp;omega) (by decide))) rfl rfl rfl rfl (WH (i:=7) (j:=8) rfl rfl) an) ?_
 refine af ?_
 refine Kq (aa.extract rfl rfl rfl) ?_
 refine Kq (aa.extract rfl rfl rfl) ?_
 refine Kq (aa.extract rfl rfl rfl) ?_
 refine af ?_
 refine aE.nil ?_
 iterate 4 refine af ?_
 refine aj.ct 107 (b:=(decide ((Di.fO F.aV (F.b.av++[(⟨nn n 5,nn n 6,nn n 7⟩:Di.cU)]) (F.b.plan++[nn n 4])).2.2=0))) (jV (Di.fO F.aV (F.b.av++[(⟨nn n 5,nn n 6,nn n 7⟩:Di.cU)]) (F.b.plan++[nn n 4])).2.2) (nJ (Di.fO F.aV (F.b.av++[(⟨nn n 5,nn n 6,nn n 7⟩:Di.cU)]) (F.b.plan++[nn n 4])).2.2) rfl rfl rfl rfl rfl rfl rfl an (fun Mv=> ?_) (fun Mv=> ?_)
 ·have hne:(Di.fO F.aV (F.b.av++[(⟨nn n 5,nn n 6,nn n 7⟩:Di.cU)]) (F.b.plan++[nn n 4])).2.2≠0:=Zs Mv
  exact dU (e:=(Di.fO F.aV (F.b.av++[(⟨nn n 5,nn n 6,nn n 7⟩:Di.cU)]) (F.b.plan++[nn n 4])).2.2) (by show(bG F .lead n).2.2=_;unfold bG;dsimp only;rw[if_neg YF,if_neg hz,if_neg VJ,if_pos hne]) hne (⟨⟨_,rfl,rfl⟩,⟨ZP rfl,by intro j y h1 h2 h3;obtain rfl | rfl | rfl | rfl | rfl:j=1∨j=2∨j=3∨j=4∨j=5:=(by omega);all_goals first | exact .inl (ZB (show some ai.dead=some y from h3)).symm | exact .inr h3⟩⟩)
 have hy:¬ (Di.fO F.aV (F.b.av++[(⟨nn n 5,nn n 6,nn n 7⟩:Di.cU)]) (F.b.plan++[nn n 4])).2.2≠0:=fun h=>h (Zm Mv)
 iterate 2 refine af ?_
 refine aI.aB 24 mixed (by kernel_rfl) (by decide) ?_
 iterate 2 refine af ?_
 refine Kq (aa.nilCheck rfl rfl) ?_
 iterate 2 refine af ?_
 refine Kq (Kl (aY 5 F.b.bX.length)) ?_
 refine af ?_
 refine Kq (aa.bg (g:=Di.gt 0 n) (k:=0) (Di.aL _) rfl rfl rfl an dX rfl (fun _=>rfl) (by decide) (by rw[hl];decide)) ?_
 refine Kq (Kl (.p (.int .i64 (nn n 0)))) ?_
 refine Kq (aa.H8 rfl rfl rfl an dX q0.1 (by omega)) ?_
 refine Kq (aa.load (v:= .p (.int .i64 ((k0:Nat):Int))) rfl rfl an (by rw[<- e0];exact LD rfl (by omega))) ?_
 refine Kq (aa.qH 1 k0 rfl rfl rfl (by show _<=(64:Nat);omega) (by show _<=(9223372036854775807:Int);rw[ZM];omega)) ?_
 refine af ?_
 refine Kq (aa.nilCheck rfl rfl) ?_
 iterate 2 refine af ?_
 refine Kq (Kl (aY 5 F.b.bX.length)) ?_
 refine af ?_
 refine Kq (aa.bg (g:=Di.gt 0 n) (k:=2) (Di.aL _) rfl rfl rfl an dX rfl (fun _=>rfl) (by decide) (by rw[hl];decide)) ?_
 refine Kq (Kl (.p (.int .i64 (nn n 2)))) ?_
 refine Kq (aa.H8 rfl rfl rfl an dX q2.1 (by omega)) ?_
 refine Kq (aa.load (v:= .p (.int .i64 ((k1:Nat):Int))) rfl rfl an (by rw[<- e1];exact LD rfl (by omega))) ?_
 refine Kq (aa.qH 1 k1 rfl rfl rfl (by show _<=(64:Nat);omega) (by show _<=(9223372036854775807:Int);rw[ZM];omega)) ?_
 refine Kq (aa.Ve (1*2^k0) (1*2^k1) rfl rfl rfl (by show _<=(9223372036854775807:Int);rw[ZM];omega) (by show _<=(9223372036854775807:Int);rw[ZM];omega) (by have ho:=Qu (n:=62) (x:=1*2^k0) (y:=1*2^k1) (by omega) (by omega);show _<=(9223372036854775807:Int);omega)) ?_
 refine aE.nil ?_
 refine Kc (aa.gq rfl rfl rfl rfl an (Pk {F.b with av:=F.b.av++[(⟨nn n 5,nn n 6,nn n 7⟩:Di.cU)],plan:=F.b.plan++[nn n 4]} F.aV (.raw a m c) 1 2 7 8 5 _ rfl rfl (by decide) ((1*2^k0||| 1*2^k1:Nat):Int) 0 hlt)) ?_
 iterate 4 refine af ?_
 refine Kc (aa.aA rfl rfl lI) ?_
 refine af ?_
 refine Kc (aa.aA rfl rfl j3) ?_
 refine Kc (aa.aA rfl rfl lI) ?_
 refine af ?_
 refine Kc (Kl (.p (.int .i64 (shr F.b.aq [bM (nn n 0) (nn n 1),bM (nn n 2) (nn n 3)]).1.1))) ?_
 refine Kc (aa.aA rfl rfl j3) ?_
 refine af ?_
 refine Kc (Kl (.p (.int .i64 (shr F.b.aq [bM (nn n 0) (nn n 1),bM (nn n 2) (nn n 3)]).1.2))) ?_
 refine Kc (aa.aA rfl rfl j3) ?_
 refine Kc (aa.aQ rfl an (by decide) rfl rfl rfl) ?_
 refine Kc (Kp (c9 [.str dA,.num (F.b.ah.length:Int),.str eE,.num (shr F.b.aq [bM (nn n 0) (nn n 1),bM (nn n 2) (nn n 3)]).1.1,.num (shr F.b.aq [bM (nn n 0) (nn n 1),bM (nn n 2) (nn n 3)]).1.2] Kn Kn (fk (by decide) (eC (by omega) (fk (by decide) (eC ⟨b1,b2⟩ (eC ⟨b3,b4⟩ fR))))))) ?_
 iterate 3 refine af ?_
 refine iy.one rfl rfl (xq (F2:={F with b:={F.b.fh ⟨((1*2^k0||| 1*2^k1:Nat):Int),0⟩ with av:=(F.b.av++[(⟨nn n 5,nn n 6,nn n 7⟩:Di.cU)]),plan:=(F.b.plan++[nn n 4])}}) (r:=aH dA [(F.b.ah.length:Int)]++32::aH eE [(shr F.b.aq [bM (nn n 0) (nn n 1),bM (nn n 2) (nn n 3)]).1.1,(shr F.b.aq [bM (nn n 0) (nn n 1),bM (nn n 2) (nn n 3)]).1.2]) (by unfold bG;dsimp only;rw[if_neg YF,if_neg hz,if_neg VJ,if_neg hy,Ij e0 e1]) (by simp[cA,aH,jk,iI.w]) ?_)
 exact⟨⟨1,9,7,8,5,by decide,rfl,rfl,rfl,rfl,rfl,rfl⟩,⟨ZP rfl,by intro j y h1 h2 h3;obtain rfl | rfl | rfl | rfl | rfl:j=1∨j=2∨j=3∨j=4∨j=5:=(by omega);all_goals first | exact .inl (ZB (show some ai.dead=some y from h3)).symm | exact .inr h3⟩⟩
namespace Di
theorem FH(p:bO)(l:List cU)(plan:List Int)(hp:p.dies.length<=cj)(hl:l.length<=cj)(hn:plan.length<=cj)(w:List Int)(hf:fO p l plan=(some w,(l.length:Int),0)):ax Tryz.prog 29 ([ic p,mg l,cg plan].map .p) [] fun v H2=>v= .tuple [.row 0 p.dies.length,.p (.int .i64 (l.length:Int)),.p (.int .i64 0)]∧H2=[.row ((w.flatMap cK).map .p) 3]:=by
 have Ry:=hp
 have ur:=hl
 have hn2:=hn
 unfold cj at Ry ur hn2
 refine ax.start (N:=93) Tryz.func29 rfl rfl Kn ?_
 iterate 12 refine af ?_
 refine Kc (Kp (pg p hp)) ?_
 iterate 3 refine af ?_
 refine Ki (fun hc0=> ?_) fun hc0=> ?_
 ·have hv:fQ p=false:=by simpa using hc0
  iterate 7 refine af ?_
  rw[FG hv] at hf
  cases hf
 ·have hv:fQ p=true:=by simpa using hc0
  obtain⟨⟨n1,n4⟩,_,hsh,Ra⟩:=hO hv
  iterate 3 refine af ?_
  refine Kc (Kp (tc l hl)) ?_
  iterate 3 refine af ?_
  refine Ki (fun c8=> ?_) fun c8=> ?_
  ·have hd:mh l=false:=by simpa using c8
   iterate 7 refine af ?_
   rw[KI hv hd] at hf
   cases hf
  ·have hd:mh l=true:=by simpa using c8
   obtain⟨hl8,SL⟩:=jq hd
   iterate 6 refine af ?_
   refine Kc (aa.makeSlice (n:=p.dies.length) (c:=p.dies.length) rfl rfl rfl an an (by decide) (Ze _) (by show 8*p.dies.length<=281474976710656;omega)) ?_
   iterate 4 refine af ?_
   rw[Ic]
   refine aI.norm [0] [(1,_),(2,_),(3,_),(6,.row 0 p.dies.length)] [.row (((List.replicate p.dies.length 0).flatMap cK).map .p) 3] rfl KS (by show[ai.row (bq _ (List.map V.p _)) _]=_;rw[aX]) ?_
   iterate 6 refine af ?_
   refine aI.iK [1,2,3,24,25,83,84,85,86,87,88,89,90,91,92] (fun g=>[(26,.p (.int .i64 ((g.1:Nat):Int))),(6,.row 0 p.dies.length)]) (fun g=>[.row ((g.2.flatMap cK).map .p) 3]) (fun g=>g.1<=l.length∧AM p g.2 (1000*(g.1:Int))∧fH p plan 0 (List.replicate p.dies.length 0) l=fH p plan g.1 g.2 (l.drop g.1)) (fun g=>l.length - g.1) (0,List.replicate p.dies.length 0) ⟨Zv _,Ri p,rfl⟩ (To.sub (Sub.Mc (Sub.cons rfl (Sub.cons rfl (Sub.nil))))) (fun g hg=> ?_)
   obtain⟨i,u⟩:=g
   obtain⟨xp,mV,GV⟩:=hg
   dsimp only at xp mV GV ⊢
   have hul:=mV.1
   iterate 5 refine af ?_
   refine Ki (fun mu=> ?_) fun mu=> ?_
   ·have hk0:i<l.length:=by have h:(i:Int)<(l.length:Int):=Zm mu;omega
    have hW:=oh (SL _ (bH cU.d hk0))
    iterate 6 refine af ?_
    refine Kc (aa.bg (g:=gt cU.d l) (aL _) rfl rfl rfl an Tf rfl (fun _=>rfl) (by decide) hk0) ?_
    refine Kc (Kl (.p (.agg (gt cU.d l i).cells))) ?_
    iterate 2 refine af ?_
    refine Kz (aa.store (H':=[.row ((u.flatMap cK).map .p) 3,.cells ((gt cU.d l i).cells.map .p) 74]) rfl rfl rfl rfl rfl an rfl rfl) ?_
    iterate 11 refine af ?_
    refine Ki (fun rP=> ?_) fun rP=> ?_
    ·have hpl:(plan.length:Int)<=(i:Int):=Zm rP
     iterate 8 refine af ?_
     rw[gw hv hd,GV,RT hk0 hpl] at hf
     cases hf
    ·have hpl:¬ (plan.length:Int)<=(i:Int):=Zs rP
     have Uc:i<plan.length:=by omega
     refine af ?_
     refine aI.aB 11 mixed (by kernel_rfl) (by decide) ?_
     iterate 2 refine af ?_
     refine Kq (aa.bg (g:=gt 0 plan) (aL _) rfl rfl rfl an dX rfl (fun _=>rfl) (by decide) Uc) ?_
     refine Kq (Kl (.p (.int .i64 (gt 0 plan i)))) ?_
     iterate 2 refine af ?_
     refine Kq (aa.cD rfl rfl an rfl) ?_
     refine Kq (aa.fE rfl rfl rfl (aG ?_)) ?_
     ·omega
     refine Kq (Kp (cv _ _ _)) ?_
     refine Kq (aa.gH rfl rfl) ?_
     refine af ?_
     refine aE.nil ?_
     refine af ?_
     refine Ki (fun Hp=> ?_) fun Hp=> ?_
     ·have hin:iR (gt 0 plan i) 0 ((p.dies.length:Int) - 1)=false:=by simpa using Hp
      iterate 8 refine af ?_
      rw[gw hv hd,GV,RH hk0 hpl hin] at hf
      cases hf
     ·have hin:iR (gt 0 plan i) 0 ((p.dies.length:Int) - 1)=true:=by simpa using Hp
      obtain⟨Xw,hq1⟩:=fz hin
      have hq:(gt 0 plan i).toNat<p.dies.length:=by omega
      have H7:(gt 0 plan i).toNat<u.length:=by omega
      have hud:=mV.2 _ H7
      have SA:=Ra _ (bH eB.d hq)
      iterate 6 refine af ?_
      refine Kc (aa.bg (g:=gt 0 plan) (aL _) rfl rfl rfl an dX rfl (fun _=>rfl) (by decide) Uc) ?_
      refine Kc (Kl (.p (.int .i64 (gt 0 plan i)))) ?_
      refine Kc (aa.kA rfl rfl rfl an dX Xw (by omega)) ?_
      iterate 4 refine af ?_
      refine aI.aB 19 mixed (by kernel_rfl) (by decide) ?_
      iterate 3 refine af ?_
      refine Kq (aa.bg (g:=gt 0 plan) (aL _) rfl rfl rfl an dX rfl (fun _=>rfl) (by decide) Uc) ?_
      refine Kq (Kl (.p (.int .i64 (gt 0 plan i)))) ?_
      refine Kq (Kp (sF p (gt 0 plan i) hq Xw)) ?_
      refine af ?_
      refine Kq (aa.nilCheck rfl rfl) ?_
      refine Kq (aa.kF (f:=cK) (c:=1) (k:=(gt 0 plan i).toNat) (j:=0) (xs:=u) rfl rfl an rfl rfl (by omega) (fun _=>rfl) H7 (by decide) (show _=PV.int .i64 (gt 0 u (gt 0 plan i).toNat) from by rw[aL 0 _ H7];rfl)) ?_
      refine af ?_
      refine Kq (aa.nilCheck rfl rfl) ?_
      refine Kq (aa.kF (f:=cK) (c:=1) (k:=(gt 0 plan i).toNat) (j:=0) (xs:=u) rfl rfl an rfl rfl (by omega) (fun _=>rfl) H7 (by decide) (show _=PV.int .i64 (gt 0 u (gt 0 plan i).toNat) from by rw[aL 0 _ H7];rfl)) ?_
      iterate 2 refine af ?_
      refine Kq (aa.add (m:=(gt 0 u (gt 0 plan i).toNat+(gt cU.d l i).len)) rfl rfl rfl ((aG ?_).trans ?_)) ?_
      ·omega
      ·rfl
      iterate 2 refine af ?_
      refine Kq (Kp (GO p (gt eB.d p.dies (gt 0 plan i).toNat) (gt 0 u (gt 0 plan i).toNat) ((gt 0 u (gt 0 plan i).toNat)+(gt cU.d l i).len) (gt cU.d l i) hsh SA (by omega) (by omega) (SL _ (bH cU.d hk0)))) ?_
      refine Kq (aa.gH rfl rfl) ?_
      refine aE.nil ?_
      refine af ?_
      refine Ki (fun Kj=> ?_) fun Kj=> ?_
      ·have Q5:zC p (gt eB.d p.dies (gt 0 plan i).toNat) (gt 0 u (gt 0 plan i).toNat) (gt cU.d l i)=false:=by first | simpa only[Gc] using Kj | (unfold zC;simpa only[Gc] using Kj)
       iterate 8 refine af ?_
       rw[gw hv hd,GV,Lv hk0 hpl hin Q5] at hf
       cases hf
      ·exact CX
   ·have hi2:i=l.length:=by have h:¬ ((i:Int)<(l.length:Int)):=Zs mu;omega
    subst hi2
    refine aI.exit ?_
    iterate 9 refine af ?_
    refine Ki (fun M9=> ?_) fun M9=> ?_
    ·have hlt:(l.length:Int)<(plan.length:Int):=Zm M9
     iterate 9 refine af ?_
     rw[gw hv hd,GV,B8 hlt] at hf
     cases hf
    ·have hlt:¬ (l.length:Int)<(plan.length:Int):=Zs M9
     iterate 11 refine af ?_
     rw[gw hv hd,GV,Nz hlt] at hf
     obtain rfl:u=w:=by simpa using hf
     exact⟨.inr rfl,_,eT.many (vs:=[.row 0 p.dies.length,.p (.int .i64 (l.length:Int)),.p (.int .i64 0)]) rfl ⟨_,_,rfl,rfl,⟨_,_,rfl,rfl,⟨_,_,rfl,rfl,rfl⟩⟩⟩,rfl,rfl⟩
end Di
theorem ID{σ:Nat->Option Nat}{xs:List PV}{e:TypeId}:aD σ (.row (xs.map .p) e)= .row (xs.map .p) e:=by show ai.row (bq σ _) e=_;rw[aX]
theorem Nk{H:List ai}{i k:Nat}{l:List Int}{e:TypeId}(h:H[i]? =some (.row ((l.flatMap Di.cK).map .p) e))(hk:k<l.length):c7 H false 1 (.ptr i (k*1))=some (.p (.int .i64 (Di.gt 0 l k))):=by
 simp only[c7,h]
 show((l.flatMap Di.cK).map V.p)[k*1]? =_
 rw[qg,OE,Ku,Zt,Zb hk,Di.aL 0 k hk]
 rfl
theorem KF(F:cT)(n:List Int)(a:Option Addr)(m c:Nat)(hF:oN F)(q0:0<=nn n 0∧nn n 0<10000000000000):au Tryz.prog 102 [.ptr 0 0,.p (.int .i64 (nn n 0))] (nA F.b F.aV (.raw a m c)) (Vm F .wear n (.raw a m c)) (Yh F .wear n (.raw a m c)):=by
 have jr:=Rx.c6 hF.b.cd
 have ry:=hF.b.dr
 obtain⟨⟨n1,n4⟩,_⟩:=Di.hO hF.p
 obtain⟨u0,OA⟩:=hF.b.Oq
 have Pu:=kE OA
 obtain⟨hul,hug⟩:=ND OA
 have SL:=(Di.jq (tE OA).2).2
 have hub:0<=eG F.b (nn n 0)∧eG F.b (nn n 0)<=1000*(F.b.plan.length:Int):=E8 SL Pu _ (Ze _)
 refine au.start (N:=70) Tryz.func102 rfl rfl Kn ?_
 iterate 11 refine af ?_
 refine Kc (Kl (.p (.is (F.aV.dies.flatMap Di.eB.cells) F.aV.dies.length))) ?_
 iterate 2 refine af ?_
 refine aj.ct 17 (b:=_) (de _ 2) (dc _ 2) rfl rfl rfl rfl rfl rfl rfl an (fun hb=> ?_) (fun hb=> ?_)
 ·exact dU (e:=2) (by show(bG F .wear n).2.2=_;unfold bG;dsimp only;rw[if_pos (by have h:=Zs hb;omega)]) (by decide) (fq _ _ _)
 have hj:¬ (F.aV.dies.length:Int)<=nn n 0:=by have h:=Zm hb;omega
 have hjl:(nn n 0).toNat<u0.length:=by omega
 have Yo:Di.gt 0 u0 (nn n 0).toNat=eG F.b (nn n 0):=by rw[hug _ hjl,U9 q0.1]
 have hw:(!Di.iR (nn n 0) 0 ((F.aV.dies.length:Int) - 1)|| !Di.iR (eG F.b (nn n 0)) 0 8000)=false:=by unfold Di.iR;simp only[XY,Wf,Zk,Zj];omega
 have hwe:(Di.dW F.aV (nn n 0) (eG F.b (nn n 0))).2=0:=by rw[Di.DH hF.p hw]
 obtain⟨⟨x1,x2⟩,x3,x4⟩:=Mn (p:=F.aV) (j:=nn n 0) (u:=eG F.b (nn n 0))
 iterate 2 refine af ?_
 refine aI.bN 23 1 [6] [([],false),([],false),([],false),([],false),([],false),([],false),([],false),([],false),([],false),([],false),([],false),([],false),([],false),([],false),([],false),([],false),([6],true),([6],false),([6],false),([],false),([],false),([6],false),([],false)] mixed (by kernel_rfl) (by decide) (by kernel_rfl) rfl (y8 _ _ _ _ _) ?_
 refine af ?_
 refine bu.cons 20 rfl rfl rfl (fun _=>(aa.nilCheck rfl rfl)) rfl ?_
 refine af ?_
 refine bu.cons 22 rfl rfl rfl (fun _=>(Kl (.p (Di.ic F.aV)))) rfl ?_
 refine af ?_
 refine bu.cons 24 rfl rfl rfl (fun _=>(aa.nilCheck rfl rfl)) rfl ?_
 iterate 3 refine af ?_
 refine bu.cons 28 rfl rfl rfl (fun _=>(Kl (aY 3 (F.b.av).length))) (cM Kn) ?_
 refine af ?_
 refine bu.cons 30 rfl rfl rfl (fun _=>(aa.nilCheck rfl rfl)) rfl ?_
 iterate 3 refine af ?_
 refine bu.cons 34 rfl rfl rfl (fun _=>(Kl (aY 4 (F.b.plan).length))) (cM Kn) ?_
 refine bu.lay (blk:= .row ((u0.flatMap Di.cK).map .p) 3) (v:= .tuple [.row 6 F.aV.dies.length,.p (.int .i64 (F.b.av.length:Int)),.p (.int .i64 0)]) (v0:= .tuple [.row 7 F.aV.dies.length,.p (.int .i64 (F.b.av.length:Int)),.p (.int .i64 0)]) 35 6 rfl rfl rfl rfl rfl rfl rfl rfl (fun _=>(aa.TY (args:=[Di.ic F.aV,Di.mg F.b.av,Di.cg F.b.plan]) 3 7 (Di.FH F.aV F.b.av F.b.plan (ZT n4 (by decide)) (ZT ry (by decide)) (ZT (show F.b.plan.length<=8 by omega) (by decide)) u0 OA) rfl (gM (f:=Di.cK) (fun _=>rfl) _) rfl rfl rfl rfl (WH (i:=3) (j:=4) rfl rfl) an)) rfl rfl (by show ai.row (bq _ _) _=_;rw[aX]) ?_
 refine af ?_
 refine bu.cons 36 rfl rfl rfl (fun _=>(aa.extract rfl rfl rfl)) rfl ?_
 refine bu.cons 37 rfl rfl rfl (fun _=>(aa.extract rfl rfl rfl)) rfl ?_
 refine bu.cons 38 rfl rfl rfl (fun _=>(aa.extract rfl rfl rfl)) rfl ?_
 refine bu.cons 5 rfl rfl rfl (fun _=>(aa.assign rfl rfl)) rfl ?_
 refine bu.cons 6 rfl rfl rfl (fun _=>(aa.assign rfl rfl)) rfl ?_
 refine bu.nil ?_
 iterate 5 refine af ?_
 refine Kc (Kp (jV 0 rfl)) ?_
 iterate 2 refine af ?_
 refine aI.xj (H':=[cz F.b F.aV (.raw a m c) 1 2 3 4 5,dh F.b.aq,cY F.b.ah,dj F.b.av,bw F.b.plan,bw F.b.bX,.row ((u0.flatMap Di.cK).map .p) 3]) rfl ?_
 refine aI.bN 15 1 [7] [([],false),([],false),([],false),([],false),([],false),([],false),([],false),([],false),([],false),([],false),([],false),([],false),([],false),([7],true),([7],true)] mixed (by kernel_rfl) (by decide) (by kernel_rfl) rfl (by simp[cz,nA,bL,bF,b8,dS,gT,fc,bz,ID,cM,dh,cY,dj,bw,dn,Di.bO.cells]) ?_
 refine af ?_
 refine bu.cons 43 rfl rfl rfl (fun _=>(aa.nilCheck rfl rfl)) rfl ?_
 refine af ?_
 refine bu.cons 45 rfl rfl rfl (fun _=>(Kl (.p (Di.ic F.aV)))) rfl ?_
 iterate 3 refine af ?_
 refine bu.cons 49 rfl rfl rfl (fun _=>(aa.kA rfl rfl rfl an dX q0.1 (by omega))) rfl ?_
 refine bu.cons 50 rfl rfl rfl (fun _=>(aa.load (v:= .p (.int .i64 (eG F.b (nn n 0)))) rfl rfl an (by rw[<- Yo];exact Nk rfl hjl))) rfl ?_
 refine bu.cons 51 rfl rfl rfl (fun _=>(Kp (Di.Hy F.aV (nn n 0) (eG F.b (nn n 0)) (ZT n4 (by decide))))) rfl ?_
 refine af ?_
 refine bu.cons 52 rfl rfl rfl (fun _=>(aa.extract rfl rfl rfl)) rfl ?_
 refine bu.cons 53 rfl rfl rfl (fun _=>(aa.extract rfl rfl rfl)) rfl ?_
 refine bu.lay (v0:= .ptr 8 0) 8 7 rfl rfl rfl rfl rfl rfl rfl rfl (fun _=>(aa.aO rfl an rfl)) rfl rfl rfl ?_
 refine bu.put (blk:= .cells [.p (.int .i64 (Di.dW F.aV (nn n 0) (eG F.b (nn n 0))).1.1),.p (.int .i64 (Di.dW F.aV (nn n 0) (eG F.b (nn n 0))).1.2)] 24) 7 rfl rfl rfl rfl (fun _=>(aa.store rfl rfl rfl rfl rfl an rfl rfl)) rfl rfl ?_
 refine bu.nil ?_
 iterate 5 refine af ?_
 refine Kc (Kp (jV (Di.dW F.aV (nn n 0) (eG F.b (nn n 0))).2 (by rw[hwe];rfl))) ?_
 iterate 2 refine af ?_
 refine aI.aB 15 mixed (by kernel_rfl) (by decide) ?_
 refine Kq (aa.aA rfl rfl lI) ?_
 iterate 2 refine af ?_
 refine Kq (aa.kA rfl rfl rfl an dX q0.1 (by omega)) ?_
 refine Kq (aa.load (v:= .p (.int .i64 (eG F.b (nn n 0)))) rfl rfl an (by rw[<- Yo];exact Nk rfl hjl)) ?_
 refine Kq (aa.aA rfl rfl j3) ?_
 refine af ?_
 refine Kq (Kl (.p (.int .i64 (Di.dW F.aV (nn n 0) (eG F.b (nn n 0))).1.1))) ?_
 refine Kq (aa.aA rfl rfl j3) ?_
 refine af ?_
 refine Kq (Kl (.p (.int .i64 (Di.dW F.aV (nn n 0) (eG F.b (nn n 0))).1.2))) ?_
 refine Kq (aa.aA rfl rfl j3) ?_
 refine Kq (aa.aQ rfl an (by decide) rfl rfl rfl) ?_
 refine Kq (Kp (c9 [.str (Vb.t .wear),.num (eG F.b (nn n 0)),.num (Di.dW F.aV (nn n 0) (eG F.b (nn n 0))).1.1,.num (Di.dW F.aV (nn n 0) (eG F.b (nn n 0))).1.2] Kn Kn (fk (by decide) (eC ⟨hub.1,by omega⟩ (eC ⟨x1,by omega⟩ (eC ⟨x3,by omega⟩ fR)))))) ?_
 refine af ?_
 refine aE.nil ?_
 iterate 2 refine af ?_
 refine iy.one rfl rfl (xq (F2:=F) (r:=aH (Vb.t .wear) [eG F.b (nn n 0),(Di.dW F.aV (nn n 0) (eG F.b (nn n 0))).1.1,(Di.dW F.aV (nn n 0) (eG F.b (nn n 0))).1.2]) (by unfold bG;dsimp only;rw[if_neg hj]) (by rw[eD];rfl) ⟨⟨1,2,3,4,5,by decide,rfl,rfl,rfl,rfl,rfl,rfl⟩,⟨ZP rfl,by intro j y h1 h2 h3;obtain rfl | rfl | rfl | rfl | rfl:j=1∨j=2∨j=3∨j=4∨j=5:=(by omega);all_goals first | exact .inl (ZB (show some ai.dead=some y from h3)).symm | exact .inr h3⟩⟩)
theorem Uy:VC .wear 101:=by
 intro F n a m c hF hl hn
 have jr:=Rx.c6 hF.b.cd
 have tC:=hF.b.sk
 have ry:=hF.b.dr
 have q0:0<=nn n 0∧nn n 0<10000000000000:=hn _ (Di.bH 0 (show 0<n.length by rw[hl];decide))
 refine au.start (N:=10) Tryz.func101 rfl rfl Kn ?_
 iterate 8 refine af ?_
 refine Kc (aa.bg (g:=Di.gt 0 n) (k:=0) (Di.aL _) rfl rfl rfl an dX rfl (fun _=>rfl) (by decide) (by rw[hl];decide)) ?_
 refine Kc (Kl (.p (.int .i64 (nn n 0)))) ?_
 refine aj.e8 9 (KF F n a m c hF q0) rfl rfl rfl rfl rfl rfl rfl an (fun y H2 iH=> ?_) (fun v H2 iH=> ?_)
 ·exact⟨_,rfl,iH⟩
 exact uv
end Go.Proofs.YtibffijhebobmaaGreatDoor
end
