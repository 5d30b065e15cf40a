/-
 The reference of chapter 15: what a line does (complaints, wear, marks).
 The reference of chapter 15: what a line does (marks).
 The reference of chapter 15: what a line does (sacks, leads).
 The reference of chapter 15: what a line does (leads).
 The reference of chapter 15: a line; a new floor.
 The reference of chapter 15: a script.
 The reference of chapter 15: books are the same.
-/
import Derived.Test.YtchiinjiflgepaaGreatDoorMzRF
import Derived.Test.YtchiinjiflgepaaGreatDoorMzRM
import Derived.Test.YtchiinjiflgepaaGreatDoorMzRP
import Derived.Test.YtchiinjiflgepaaGreatDoorMzRZ
theorem IB{A:Prop}(h:A:=by
 iterate 3 refine af ?_
 refine Kc (aa.add (m:=((i+1:Nat):Int)) rfl rfl rfl ((aA ?_).trans ?_)) ?_
 ·omega
 ·omega
 iterate 2 refine af ?_
 refine⟨i+1,?_,?_,?_⟩
 ·exact hk0
 ·omega
 exact To.sub KS):A:=h
theorem RX{A:Prop}(h:A:=by
 have he:F.marks.length=0:=by have h:=Ze G7;omega
 iterate 2 refine af ?_
 refine Kc (Kl (.p (.agg (de F)))) ?_
 iterate 5 refine af ?_
 refine Fin.bq (xs:=[.agg (de F),.str (sB ([])),.int .i64 4]) rfl ⟨_,_,rfl,⟨_,_,_,rfl,ai,rfl⟩,⟨_,_,rfl,rfl,⟨_,_,rfl,rfl,rfl⟩⟩⟩ rfl ?_
 unfold bp
 rw[Kd.1 he]
 rfl):A:=h
theorem aaH{A:Prop}(h:A:=by
 rw[Gf]
 unfold bp
 dsimp only
 rw[hla]
 rw[show((F.marks.length - 1 - 0:Nat):Int)=(F.marks.length:Int) - 1 by omega]):A:=h
theorem TE{A:Prop}(h:A:=by
 rw[FF,Zr,AF.bD (c:=1) (fun _=>rfl),tZ];rfl):A:=h
set_option linter.unusedSimpArgs false
set_option linter.unusedVariables false
section
set_option maxRecDepth 100000
set_option maxHeartbeats 4000000
namespace Go.Proofs.YtchiinjiflgepaaGreatDoor
open Go.AF
theorem Js(b:bU)(d:Int)(hv:∀ w∈b.ax,Di.pH w=false)(hp:b.plan.length=b.ax.length)(h8:b.ax.length<=8):Pure Tryz.prog 129 [.agg (cg b),.int .i64 d] (.int .i64 (cH b d)):=by
 refine Kf (N:=30) Tryz.func129 ?_
 iterate 15 refine af ?_
 refine aC.dw [1,2,4,29] (fun g=>[(6,.p (.int .i64 ((g:Nat):Int))),(5,.p (.int .i64 (kj b d g)))]) (fun g=>[]) (fun g=>g<=b.plan.length) (fun g=>b.plan.length - g) 0 (Zn _) (To.sub (Sub.tO (Sub.cons rfl (Sub.cons rfl (Sub.nil))))) (fun i hg=> ?_)
 iterate 5 refine af ?_
 refine Kc (Kl (.p (Di.aQ b.plan))) ?_
 iterate 3 refine af ?_
 refine Ki (fun hc0=> ?_) fun hc0=> ?_
 ·have hk0:i<b.plan.length:=by have h:(i:Int)<(b.plan.length:Int):=Ze hc0;omega
  have hub:=sD (d:=d) hv hp i (by omega)
  have acV:=sD (d:=d) hv hp (i+1) (by omega)
  iterate 6 refine af ?_
  refine Kc (Kl (.p (Di.aQ b.plan))) ?_
  refine af ?_
  refine Kc (aa.aB (g:=Di.gt 0 b.plan) (Di.av _) rfl rfl rfl ai bB rfl (fun _=>rfl) (by decide) hk0) ?_
  refine Kc (Kl (.p (.int .i64 (Di.gt 0 b.plan i)))) ?_
  iterate 3 refine af ?_
  refine Ki (fun bw=> ?_) fun bw=> ?_
  ·have hu:kj b d (i+1)=kj b d i+(Di.gt Di.b7.d b.ax i).len:=by rw[kj,if_pos (Ze bw)]
   iterate 3 refine af ?_
   refine Kc (Kl (.p (Di.dn b.ax))) ?_
   refine af ?_
   refine Kc (aa.aB (g:=Di.gt Di.b7.d b.ax) (Di.av _) rfl rfl rfl ai xg rfl (fun _=>rfl) (by decide) (by omega)) ?_
   refine af ?_
   refine Kc (Kl (.p (.int .i64 (Di.gt Di.b7.d b.ax i).len))) ?_
   refine Kc (aa.add (m:=(kj b d (i+1))) rfl rfl rfl ((aA ?_).trans ?_)) ?_
   ·omega
   ·omega
   exact Tz
  ·have hu:kj b d (i+1)=kj b d i:=by rw[kj,if_neg (Zf bw),Int.add_zero]
   iterate 3 refine af ?_
   refine Kc (aa.add rfl rfl rfl (aA ?_)) ?_
   ·omega
   iterate 2 refine af ?_
   refine⟨i+1,?_,?_,?_⟩
   ·exact hk0
   ·omega
   rw[hu]
   exact Bz
 ·have hi2:i=b.plan.length:=by have h:¬ ((i:Int)<(b.plan.length:Int)):=Zf hc0;omega
  subst hi2
  exact Is
theorem Nc(F:c7)(n:List Int)(hF:kK F)(hl:n.length=1)(hn:∀ x∈n,0<=x∧x<10000000000000):Pure Tryz.prog 57 [.agg (de F),.agg [.str (sB (Vb.t .wear)),Di.aQ n]] (.tuple [.agg (de (bp F .wear n).1),.str (sB (bp F .wear n).2.1),.int .i64 (bp F .wear n).2.2]):=by
 have en:=Rx.bM hF.b.cd
 have hnb:=hn
 have q0:0<=nn n 0∧nn n 0<10000000000000:=hn _ (Di.aV 0 (show 0<n.length by omega))
 refine Kf (N:=496) Tryz.func57 ?_
 iterate 2 refine af ?_
 refine Kc (aa.cP rfl rfl rfl) ?_
 iterate 6 refine af ?_
 refine aC.bN 7 mixed (by kernel_rfl) (by decide) ?_
 refine ah.cons 29 rfl rfl rfl (aa.fieldAddr rfl rfl ai rfl) (fun _=>(aa.fieldAddr rfl rfl ai rfl)) ?_
 refine ah.cons 30 rfl rfl rfl (aa.load rfl rfl ai rfl) (fun _=>(aa.load rfl rfl ai rfl)) ?_
 refine ah.cons 31 rfl rfl rfl (aa.fieldAddr rfl rfl ai rfl) (fun _=>(aa.fieldAddr rfl rfl ai rfl)) ?_
 refine ah.cons 32 rfl rfl rfl (Kl (.p (.agg (cg F.b)))) (fun _=>(Kl (.p (.agg (cg F.b))))) ?_
 refine ah.lay 8 rfl rfl rfl (aa.aI rfl ai rfl) ?_
 refine ah.cons 7 rfl rfl rfl (aa.assign rfl rfl) (fun _=>(aa.assign rfl rfl)) ?_
 refine ah.put rfl rfl (by decide) (aa.store rfl rfl rfl rfl rfl ai rfl rfl) rfl ?_
 refine ah.nil ?_
 iterate 4 refine af ?_
 refine Kc (Kl (.p (Rx.cz F.b.ag))) ?_
 iterate 12 refine af ?_
 refine Kc (aa.aK _ _ rfl rfl rfl) ?_
 iterate 2 refine af ?_
 refine aC.aU rfl ?_
 iterate 2 refine af ?_
 refine Kc (aa.aK _ _ rfl rfl rfl) ?_
 iterate 2 refine af ?_
 refine aC.aU rfl ?_
 iterate 2 refine af ?_
 refine Kc (aa.aK _ _ rfl rfl rfl) ?_
 iterate 2 refine af ?_
 refine aC.aU rfl ?_
 iterate 2 refine af ?_
 refine Kc (aa.aK _ _ rfl rfl rfl) ?_
 iterate 2 refine af ?_
 refine aC.aU rfl ?_
 iterate 3 refine af ?_
 refine Kc (aa.aK _ _ rfl rfl rfl) ?_
 iterate 2 refine af ?_
 refine aC.aU rfl ?_
 refine af ?_
 refine Kc (aa.aK _ _ rfl rfl rfl) ?_
 iterate 2 refine af ?_
 refine aC.aU rfl ?_
 iterate 2 refine af ?_
 refine Kc (aa.aK _ _ rfl rfl rfl) ?_
 iterate 2 refine af ?_
 refine aC.aU rfl ?_
 iterate 2 refine af ?_
 refine Kc (aa.aK _ _ rfl rfl rfl) ?_
 iterate 2 refine af ?_
 refine aC.aU rfl ?_
 iterate 2 refine af ?_
 refine Kc (aa.aK _ _ rfl rfl rfl) ?_
 iterate 2 refine af ?_
 refine aC.aU rfl ?_
 iterate 2 refine af ?_
 refine Kc (aa.aK _ _ rfl rfl rfl) ?_
 iterate 2 refine af ?_
 refine aC.iC rfl ?_
 iterate 2 refine af ?_
 refine aC.az 8 mixed (by kernel_rfl) (by decide) ?_
 refine af ?_
 refine Kq (aa.aB (g:=Di.gt 0 n) (k:=0) (Di.av _) rfl rfl rfl ai bB rfl (fun _=>rfl) (by decide) (by omega)) ?_
 refine Kq (Kl (.p (.int .i64 (nn n 0)))) ?_
 iterate 2 refine af ?_
 refine Kq (Kl (.p (Di.lN F.aT.dies))) ?_
 refine Kq (aa.bJ rfl rfl ai rfl) ?_
 refine Kq (aa.geq rfl rfl rfl) ?_
 refine ay.nil ?_
 refine af ?_
 refine Ki (fun U7=> ?_) fun U7=> ?_
 ·have hr:(F.aT.dies.length:Int)<=nn n 0:=by have h:=Ze U7;exact h
  iterate 2 refine af ?_
  refine Kc (Kl (.p (.agg (de F)))) ?_
  iterate 5 refine af ?_
  refine Fin.bq (xs:=[.agg (de F),.str (sB ([])),.int .i64 2]) rfl ⟨_,_,rfl,⟨_,_,_,rfl,ai,rfl⟩,⟨_,_,rfl,rfl,⟨_,_,rfl,rfl,rfl⟩⟩⟩ rfl ?_
  unfold bp
  dsimp only
  rw[if_pos hr]
 ·have hr:¬ (F.aT.dies.length:Int)<=nn n 0:=Zf U7
  obtain⟨uu,hfo⟩:=hF.b.EI
  obtain⟨_,CO⟩:=Di.iz (qM hfo).2
  have hpl:=ia hfo
  have hu:=sD (d:=nn n 0) CO hpl F.b.plan.length (Zg _)
  have hu:0<=cH F.b (nn n 0)∧cH F.b (nn n 0)<=1000*(F.b.plan.length:Int):=hu
  have UC:=hF.b.dr
  obtain⟨⟨n1,n4⟩,_,_,_⟩:=Di.fy hF.p
  obtain⟨⟨x1,x2⟩,x3,x4⟩:=C2 (p:=F.aT) (j:=nn n 0) (u:=cH F.b (nn n 0))
  iterate 2 refine af ?_
  refine aC.az 6 mixed (by kernel_rfl) (by decide) ?_
  refine Kq (Kl (.p (.agg (cg F.b)))) ?_
  refine af ?_
  refine Kq (aa.aB (g:=Di.gt 0 n) (k:=0) (Di.av _) rfl rfl rfl ai bB rfl (fun _=>rfl) (by decide) (by omega)) ?_
  refine Kq (Kl (.p (.int .i64 (nn n 0)))) ?_
  refine Kq (Kp (Js F.b (nn n 0) CO hpl UC)) ?_
  refine af ?_
  refine ay.nil ?_
  iterate 2 refine af ?_
  refine aC.bN 13 mixed (by kernel_rfl) (by decide) ?_
  refine ah.cons 417 rfl rfl rfl (aa.fieldAddr rfl rfl ai rfl) (fun _=>(aa.fieldAddr rfl rfl ai rfl)) ?_
  refine ah.cons 418 rfl rfl rfl (Kl (.p (Di.ew F.aT))) (fun _=>(Kl (.p (Di.ew F.aT)))) ?_
  refine ah.cons 419 rfl rfl rfl (aa.move rfl rfl) (fun _=>(aa.move rfl rfl)) ?_
  refine ah.cons 420 rfl rfl rfl (aa.aB (g:=Di.gt 0 n) (k:=0) (Di.av _) rfl rfl rfl ai bB rfl (fun _=>rfl) (by decide) (by omega)) (fun _=>(aa.aB (g:=Di.gt 0 n) (k:=0) (Di.av _) rfl rfl rfl ai bB rfl (fun _=>rfl) (by decide) (by omega))) ?_
  refine ah.cons 421 rfl rfl rfl (Kl (.p (.int .i64 (nn n 0)))) (fun _=>(Kl (.p (.int .i64 (nn n 0))))) ?_
  refine ah.cons 422 rfl rfl rfl (aa.move rfl rfl) (fun _=>(aa.move rfl rfl)) ?_
  refine ah.cons 423 rfl rfl rfl (Kp (Di.A2 F.aT (nn n 0) (cH F.b (nn n 0)) (by unfold Di.bK;omega))) (fun _=>(Kp (Di.A2 F.aT (nn n 0) (cH F.b (nn n 0)) (by unfold Di.bK;omega)))) ?_
  refine ah.cons 416 rfl rfl rfl (aa.move rfl rfl) (fun _=>(aa.move rfl rfl)) ?_
  refine ah.cons 424 rfl rfl rfl (aa.extract rfl rfl rfl) (fun _=>(aa.extract rfl rfl rfl)) ?_
  refine ah.cons 425 rfl rfl rfl (aa.extract rfl rfl rfl) (fun _=>(aa.extract rfl rfl rfl)) ?_
  refine ah.lay 26 rfl rfl rfl (aa.aI rfl ai rfl) ?_
  refine ah.put rfl rfl (by decide) (aa.store rfl rfl rfl rfl rfl ai rfl rfl) rfl ?_
  refine ah.cons 27 rfl rfl rfl (aa.assign rfl rfl) (fun _=>(aa.assign rfl rfl)) ?_
  refine ah.nil ?_
  iterate 2 refine af ?_
  refine aC.az 8 mixed (by kernel_rfl) (by decide) ?_
  refine Kq (Kl (.p (.agg (de F)))) ?_
  iterate 2 refine af ?_
  refine Kq (Kl (.p (.int .i64 (Di.dh F.aT (nn n 0) (cH F.b (nn n 0))).1.1))) ?_
  refine af ?_
  refine Kq (Kl (.p (.int .i64 (Di.dh F.aT (nn n 0) (cH F.b (nn n 0))).1.2))) ?_
  refine Kq (aa.aF rfl ai (by decide) rfl rfl rfl) ?_
  refine Kq (Kp (dM (Vb.t .wear) [cH F.b (nn n 0),(Di.dh F.aT (nn n 0) (cH F.b (nn n 0))).1.1,(Di.dh F.aT (nn n 0) (cH F.b (nn n 0))).1.2] (by decide) (by show 3<=_;decide) (ET (by omega) (by omega) (by omega)))) ?_
  refine ay.nil ?_
  iterate 5 refine af ?_
  refine Fin.bq (xs:=[.agg (de F),.str (sB (br (Vb.t .wear) [cH F.b (nn n 0),(Di.dh F.aT (nn n 0) (cH F.b (nn n 0))).1.1,(Di.dh F.aT (nn n 0) (cH F.b (nn n 0))).1.2])),.int .i64 0]) rfl ⟨_,_,rfl,⟨_,_,_,rfl,ai,rfl⟩,⟨_,_,rfl,rfl,⟨_,_,rfl,rfl,rfl⟩⟩⟩ rfl ?_
  unfold bp
  dsimp only
  rw[if_neg hr]
theorem Od(F:c7)(n:List Int)(hF:kK F)(hl:n.length=1)(hn:∀ x∈n,0<=x∧x<10000000000000):Pure Tryz.prog 57 [.agg (de F),.agg [.str (sB (Vb.t .bad)),Di.aQ n]] (.tuple [.agg (de (bp F .bad n).1),.str (sB (bp F .bad n).2.1),.int .i64 (bp F .bad n).2.2]):=by
 have en:=Rx.bM hF.b.cd
 have hnb:=hn
 have q0:0<=nn n 0∧nn n 0<10000000000000:=hn _ (Di.aV 0 (show 0<n.length by omega))
 refine Kf (N:=496) Tryz.func57 ?_
 iterate 2 refine af ?_
 refine Kc (aa.cP rfl rfl rfl) ?_
 iterate 6 refine af ?_
 refine aC.bN 7 mixed (by kernel_rfl) (by decide) ?_
 refine ah.cons 29 rfl rfl rfl (aa.fieldAddr rfl rfl ai rfl) (fun _=>(aa.fieldAddr rfl rfl ai rfl)) ?_
 refine ah.cons 30 rfl rfl rfl (aa.load rfl rfl ai rfl) (fun _=>(aa.load rfl rfl ai rfl)) ?_
 refine ah.cons 31 rfl rfl rfl (aa.fieldAddr rfl rfl ai rfl) (fun _=>(aa.fieldAddr rfl rfl ai rfl)) ?_
 refine ah.cons 32 rfl rfl rfl (Kl (.p (.agg (cg F.b)))) (fun _=>(Kl (.p (.agg (cg F.b))))) ?_
 refine ah.lay 8 rfl rfl rfl (aa.aI rfl ai rfl) ?_
 refine ah.cons 7 rfl rfl rfl (aa.assign rfl rfl) (fun _=>(aa.assign rfl rfl)) ?_
 refine ah.put rfl rfl (by decide) (aa.store rfl rfl rfl rfl rfl ai rfl rfl) rfl ?_
 refine ah.nil ?_
 iterate 4 refine af ?_
 refine Kc (Kl (.p (Rx.cz F.b.ag))) ?_
 iterate 12 refine af ?_
 refine Kc (aa.aK _ _ rfl rfl rfl) ?_
 iterate 2 refine af ?_
 refine aC.aU rfl ?_
 iterate 2 refine af ?_
 refine Kc (aa.aK _ _ rfl rfl rfl) ?_
 iterate 2 refine af ?_
 refine aC.aU rfl ?_
 iterate 2 refine af ?_
 refine Kc (aa.aK _ _ rfl rfl rfl) ?_
 iterate 2 refine af ?_
 refine aC.aU rfl ?_
 iterate 2 refine af ?_
 refine Kc (aa.aK _ _ rfl rfl rfl) ?_
 iterate 2 refine af ?_
 refine aC.aU rfl ?_
 iterate 3 refine af ?_
 refine Kc (aa.aK _ _ rfl rfl rfl) ?_
 iterate 2 refine af ?_
 refine aC.iC rfl ?_
 refine af ?_
 refine aC.iC rfl ?_
 iterate 3 refine af ?_
 refine Kc (Kl (.p (.int .i64 (F.b.bad:Int)))) ?_
 iterate 6 refine af ?_
 refine Kc (Kl (.p (.str (sB (Vb.t .bad))))) ?_
 refine Kc (aa.aK _ _ rfl rfl rfl) ?_
 refine af ?_
 refine aC.aU rfl ?_
 iterate 2 refine af ?_
 refine aC.az 7 mixed (by kernel_rfl) (by decide) ?_
 refine Kq (Kl (.p (.agg (cg F.b)))) ?_
 iterate 2 refine af ?_
 refine Kq (aa.aB (g:=Di.gt 0 n) (k:=0) (Di.av _) rfl rfl rfl ai bB rfl (fun _=>rfl) (by decide) (by omega)) ?_
 refine Kq (Kl (.p (.int .i64 (nn n 0)))) ?_
 refine Kq (Kp (Cg F.b F.b.bad (nn n 0) (Zz (Xd hF.b.bad) (Zz (CW en) (by decide))) q0.1 (by omega))) ?_
 refine af ?_
 refine ay.nil ?_
 iterate 7 refine af ?_
 refine Ki (fun D3=> ?_) fun D3=> ?_
 ·have he:dL F.b F.b.bad (nn n 0)≠0:=by simpa using D3
  iterate 2 refine af ?_
  refine Kc (Kl (.p (.agg (de F)))) ?_
  iterate 6 refine af ?_
  refine Fin.bq (xs:=[.agg (de F),.str (sB ([])),.int .i64 (dL F.b F.b.bad (nn n 0))]) rfl ⟨_,_,rfl,⟨_,_,_,rfl,ai,rfl⟩,⟨_,_,rfl,rfl,⟨_,_,rfl,rfl,rfl⟩⟩⟩ rfl ?_
  exact GU
 ·have he:¬ dL F.b F.b.bad (nn n 0)≠0:=by simpa using D3
  obtain⟨hx1,hx2⟩:=zZ (V7.1 he)
  have D4:=Nn (x:=nn n 0) (by omega)
  iterate 5 refine af ?_
  refine Kc (aa.aB (g:=Di.gt 0 n) (k:=0) (Di.av _) rfl rfl rfl ai bB rfl (fun _=>rfl) (by decide) (by omega)) ?_
  refine Kc (Kl (.p (.int .i64 (nn n 0)))) ?_
  refine Kc (Kp (ou (nn n 0) q0.1 (by omega))) ?_
  refine Kc (aa.add (m:=((F.b.bad+pow2 (nn n 0):Nat):Int)) rfl rfl rfl ((aA ?_).trans ?_)) ?_
  ·have:=Zz (Xd hF.b.bad) (CW en);omega
  ·omega
  iterate 6 refine af ?_
  refine Kc (Kl (.p (.str (sB (Vb.t .bad))))) ?_
  refine Kc (aa.aK _ _ rfl rfl rfl) ?_
  refine af ?_
  refine aC.iC rfl ?_
  iterate 8 refine af ?_
  refine Kc (Kl (.p (Rx.cz F.b.ag))) ?_
  refine af ?_
  refine Kc (Kl (.p (.int .i64 ((F.b.bad+pow2 (nn n 0):Nat):Int)))) ?_
  refine af ?_
  refine Kc (Kl (.p (.int .i64 (F.b.good:Int)))) ?_
  refine Kc (Kp (Rx.o6 F.b.ag ((F.b.bad+pow2 (nn n 0):Nat):Int) (F.b.good:Int) (Zz en (by decide)))) ?_
  iterate 11 refine af ?_
  refine Ki (fun C0=> ?_) fun C0=> ?_
  ·have h6:Rx.hY F.b.ag ((F.b.bad+pow2 (nn n 0):Nat):Int) F.b.good=6:=Ze C0
   iterate 2 refine af ?_
   refine Kc (Kl (.p (.agg (de F)))) ?_
   iterate 6 refine af ?_
   refine Fin.bq (xs:=[.agg (de F),.str (sB ([])),.int .i64 (Rx.hY F.b.ag ((F.b.bad+pow2 (nn n 0):Nat):Int) F.b.good)]) rfl ⟨_,_,rfl,⟨_,_,_,rfl,ai,rfl⟩,⟨_,_,rfl,rfl,⟨_,_,rfl,rfl,rfl⟩⟩⟩ rfl ?_
   unfold bp
   dsimp only
   rw[if_neg he,if_pos h6,h6]
  ·have h6:¬ Rx.hY F.b.ag ((F.b.bad+pow2 (nn n 0):Nat):Int) F.b.good=6:=Zf C0
   iterate 3 refine af ?_
   refine Kc (Kl (.p (.agg (cg {F.b with bad:=F.b.bad+pow2 (nn n 0)})))) ?_
   iterate 4 refine af ?_
   have pE:=fj (F.b.bad+pow2 (nn n 0))
   refine aC.az 8 mixed (by kernel_rfl) (by decide) ?_
   refine Kq (Kl (.p (.agg (de {F with b:={F.b with bad:=F.b.bad+pow2 (nn n 0)}})))) ?_
   refine af ?_
   refine Kq (Kl (.p (.str (sB (Vb.t .bad))))) ?_
   refine af ?_
   refine Kq (Kp (mh (F.b.bad+pow2 (nn n 0)) (by have:=Zz (Xd hF.b.bad) (CW en);omega))) ?_
   refine Kq (aa.bJ rfl rfl ai rfl) ?_
   refine Kq (aa.aF rfl ai (by decide) rfl rfl rfl) ?_
   refine Kq (Kp (dM (Vb.t .bad) [((gw (F.b.bad+pow2 (nn n 0))).length:Int)] (by decide) (by show 1<=_;decide) (fun x hx=>by rw[Zw.1 hx];omega))) ?_
   refine ay.nil ?_
   iterate 5 refine af ?_
   refine Fin.bq (xs:=[.agg (de {F with b:={F.b with bad:=F.b.bad+pow2 (nn n 0)}}),.str (sB (br (Vb.t .bad) [((gw (F.b.bad+pow2 (nn n 0))).length:Int)])),.int .i64 0]) rfl ⟨_,_,rfl,⟨_,_,_,rfl,ai,rfl⟩,⟨_,_,rfl,rfl,⟨_,_,rfl,rfl,rfl⟩⟩⟩ rfl ?_
   unfold bp
   dsimp only
   rw[if_neg he,if_neg h6]
theorem MB(F:c7)(n:List Int)(hF:kK F)(hl:n.length=1)(hn:∀ x∈n,0<=x∧x<10000000000000):Pure Tryz.prog 57 [.agg (de F),.agg [.str (sB (Vb.t .good)),Di.aQ n]] (.tuple [.agg (de (bp F .good n).1),.str (sB (bp F .good n).2.1),.int .i64 (bp F .good n).2.2]):=by
 have en:=Rx.bM hF.b.cd
 have hnb:=hn
 have q0:0<=nn n 0∧nn n 0<10000000000000:=hn _ (Di.aV 0 (show 0<n.length by omega))
 refine Kf (N:=496) Tryz.func57 ?_
 iterate 2 refine af ?_
 refine Kc (aa.cP rfl rfl rfl) ?_
 iterate 6 refine af ?_
 refine aC.bN 7 mixed (by kernel_rfl) (by decide) ?_
 refine ah.cons 29 rfl rfl rfl (aa.fieldAddr rfl rfl ai rfl) (fun _=>(aa.fieldAddr rfl rfl ai rfl)) ?_
 refine ah.cons 30 rfl rfl rfl (aa.load rfl rfl ai rfl) (fun _=>(aa.load rfl rfl ai rfl)) ?_
 refine ah.cons 31 rfl rfl rfl (aa.fieldAddr rfl rfl ai rfl) (fun _=>(aa.fieldAddr rfl rfl ai rfl)) ?_
 refine ah.cons 32 rfl rfl rfl (Kl (.p (.agg (cg F.b)))) (fun _=>(Kl (.p (.agg (cg F.b))))) ?_
 refine ah.lay 8 rfl rfl rfl (aa.aI rfl ai rfl) ?_
 refine ah.cons 7 rfl rfl rfl (aa.assign rfl rfl) (fun _=>(aa.assign rfl rfl)) ?_
 refine ah.put rfl rfl (by decide) (aa.store rfl rfl rfl rfl rfl ai rfl rfl) rfl ?_
 refine ah.nil ?_
 iterate 4 refine af ?_
 refine Kc (Kl (.p (Rx.cz F.b.ag))) ?_
 iterate 12 refine af ?_
 refine Kc (aa.aK _ _ rfl rfl rfl) ?_
 iterate 2 refine af ?_
 refine aC.aU rfl ?_
 iterate 2 refine af ?_
 refine Kc (aa.aK _ _ rfl rfl rfl) ?_
 iterate 2 refine af ?_
 refine aC.aU rfl ?_
 iterate 2 refine af ?_
 refine Kc (aa.aK _ _ rfl rfl rfl) ?_
 iterate 2 refine af ?_
 refine aC.aU rfl ?_
 iterate 2 refine af ?_
 refine Kc (aa.aK _ _ rfl rfl rfl) ?_
 iterate 2 refine af ?_
 refine aC.aU rfl ?_
 iterate 3 refine af ?_
 refine Kc (aa.aK _ _ rfl rfl rfl) ?_
 iterate 2 refine af ?_
 refine aC.aU rfl ?_
 refine af ?_
 refine Kc (aa.aK _ _ rfl rfl rfl) ?_
 iterate 2 refine af ?_
 refine aC.iC rfl ?_
 iterate 3 refine af ?_
 refine Kc (Kl (.p (.int .i64 (F.b.bad:Int)))) ?_
 iterate 6 refine af ?_
 refine Kc (Kl (.p (.str (sB (Vb.t .good))))) ?_
 refine Kc (aa.aK _ _ rfl rfl rfl) ?_
 refine af ?_
 refine aC.iC rfl ?_
 iterate 2 refine af ?_
 refine Kc (Kl (.p (.int .i64 (F.b.good:Int)))) ?_
 iterate 3 refine af ?_
 refine aC.az 7 mixed (by kernel_rfl) (by decide) ?_
 refine Kq (Kl (.p (.agg (cg F.b)))) ?_
 iterate 2 refine af ?_
 refine Kq (aa.aB (g:=Di.gt 0 n) (k:=0) (Di.av _) rfl rfl rfl ai bB rfl (fun _=>rfl) (by decide) (by omega)) ?_
 refine Kq (Kl (.p (.int .i64 (nn n 0)))) ?_
 refine Kq (Kp (Cg F.b F.b.good (nn n 0) (Zz (Xd hF.b.good) (Zz (CW en) (by decide))) q0.1 (by omega))) ?_
 refine af ?_
 refine ay.nil ?_
 iterate 7 refine af ?_
 refine Ki (fun D3=> ?_) fun D3=> ?_
 ·have he:dL F.b F.b.good (nn n 0)≠0:=by simpa using D3
  iterate 2 refine af ?_
  refine Kc (Kl (.p (.agg (de F)))) ?_
  iterate 6 refine af ?_
  refine Fin.bq (xs:=[.agg (de F),.str (sB ([])),.int .i64 (dL F.b F.b.good (nn n 0))]) rfl ⟨_,_,rfl,⟨_,_,_,rfl,ai,rfl⟩,⟨_,_,rfl,rfl,⟨_,_,rfl,rfl,rfl⟩⟩⟩ rfl ?_
  exact GU
 ·have he:¬ dL F.b F.b.good (nn n 0)≠0:=by simpa using D3
  obtain⟨hx1,hx2⟩:=zZ (V7.1 he)
  have D4:=Nn (x:=nn n 0) (by omega)
  iterate 5 refine af ?_
  refine Kc (aa.aB (g:=Di.gt 0 n) (k:=0) (Di.av _) rfl rfl rfl ai bB rfl (fun _=>rfl) (by decide) (by omega)) ?_
  refine Kc (Kl (.p (.int .i64 (nn n 0)))) ?_
  refine Kc (Kp (ou (nn n 0) q0.1 (by omega))) ?_
  refine Kc (aa.add (m:=((F.b.good+pow2 (nn n 0):Nat):Int)) rfl rfl rfl ((aA ?_).trans ?_)) ?_
  ·have:=Zz (Xd hF.b.good) (CW en);omega
  ·omega
  iterate 6 refine af ?_
  refine Kc (Kl (.p (.str (sB (Vb.t .good))))) ?_
  refine Kc (aa.aK _ _ rfl rfl rfl) ?_
  refine af ?_
  refine aC.aU rfl ?_
  iterate 8 refine af ?_
  refine Kc (Kl (.p (Rx.cz F.b.ag))) ?_
  refine af ?_
  refine Kc (Kl (.p (.int .i64 (F.b.bad:Int)))) ?_
  refine af ?_
  refine Kc (Kl (.p (.int .i64 ((F.b.good+pow2 (nn n 0):Nat):Int)))) ?_
  refine Kc (Kp (Rx.o6 F.b.ag (F.b.bad:Int) ((F.b.good+pow2 (nn n 0):Nat):Int) (Zz en (by decide)))) ?_
  iterate 11 refine af ?_
  refine Ki (fun C0=> ?_) fun C0=> ?_
  ·have h6:Rx.hY F.b.ag F.b.bad ((F.b.good+pow2 (nn n 0):Nat):Int)=6:=Ze C0
   iterate 2 refine af ?_
   refine Kc (Kl (.p (.agg (de F)))) ?_
   iterate 6 refine af ?_
   refine Fin.bq (xs:=[.agg (de F),.str (sB ([])),.int .i64 (Rx.hY F.b.ag F.b.bad ((F.b.good+pow2 (nn n 0):Nat):Int))]) rfl ⟨_,_,rfl,⟨_,_,_,rfl,ai,rfl⟩,⟨_,_,rfl,rfl,⟨_,_,rfl,rfl,rfl⟩⟩⟩ rfl ?_
   unfold bp
   dsimp only
   rw[if_neg he,if_pos h6,h6]
  ·have h6:¬ Rx.hY F.b.ag F.b.bad ((F.b.good+pow2 (nn n 0):Nat):Int)=6:=Zf C0
   iterate 3 refine af ?_
   refine Kc (Kl (.p (.agg (cg {F.b with good:=F.b.good+pow2 (nn n 0)})))) ?_
   iterate 4 refine af ?_
   have pE:=fj (F.b.good+pow2 (nn n 0))
   refine aC.az 8 mixed (by kernel_rfl) (by decide) ?_
   refine Kq (Kl (.p (.agg (de {F with b:={F.b with good:=F.b.good+pow2 (nn n 0)}})))) ?_
   refine af ?_
   refine Kq (Kl (.p (.str (sB (Vb.t .good))))) ?_
   refine af ?_
   refine Kq (Kp (mh (F.b.good+pow2 (nn n 0)) (by have:=Zz (Xd hF.b.good) (CW en);omega))) ?_
   refine Kq (aa.bJ rfl rfl ai rfl) ?_
   refine Kq (aa.aF rfl ai (by decide) rfl rfl rfl) ?_
   refine Kq (Kp (dM (Vb.t .good) [((gw (F.b.good+pow2 (nn n 0))).length:Int)] (by decide) (by show 1<=_;decide) (fun x hx=>by rw[Zw.1 hx];omega))) ?_
   refine ay.nil ?_
   iterate 5 refine af ?_
   refine Fin.bq (xs:=[.agg (de {F with b:={F.b with good:=F.b.good+pow2 (nn n 0)}}),.str (sB (br (Vb.t .good) [((gw (F.b.good+pow2 (nn n 0))).length:Int)])),.int .i64 0]) rfl ⟨_,_,rfl,⟨_,_,_,rfl,ai,rfl⟩,⟨_,_,rfl,rfl,⟨_,_,rfl,rfl,rfl⟩⟩⟩ rfl ?_
   unfold bp
   dsimp only
   rw[if_neg he,if_neg h6]
theorem Mv(F:c7)(n:List Int)(hF:kK F)(hl:n.length=0)(hn:∀ x∈n,0<=x∧x<10000000000000):Pure Tryz.prog 57 [.agg (de F),.agg [.str (sB (Vb.t .mark)),Di.aQ n]] (.tuple [.agg (de (bp F .mark n).1),.str (sB (bp F .mark n).2.1),.int .i64 (bp F .mark n).2.2]):=by
 have en:=Rx.bM hF.b.cd
 have hnb:=hn
 refine Kf (N:=496) Tryz.func57 ?_
 iterate 2 refine af ?_
 refine Kc (aa.cP rfl rfl rfl) ?_
 iterate 6 refine af ?_
 refine aC.bN 7 mixed (by kernel_rfl) (by decide) ?_
 refine ah.cons 29 rfl rfl rfl (aa.fieldAddr rfl rfl ai rfl) (fun _=>(aa.fieldAddr rfl rfl ai rfl)) ?_
 refine ah.cons 30 rfl rfl rfl (aa.load rfl rfl ai rfl) (fun _=>(aa.load rfl rfl ai rfl)) ?_
 refine ah.cons 31 rfl rfl rfl (aa.fieldAddr rfl rfl ai rfl) (fun _=>(aa.fieldAddr rfl rfl ai rfl)) ?_
 refine ah.cons 32 rfl rfl rfl (Kl (.p (.agg (cg F.b)))) (fun _=>(Kl (.p (.agg (cg F.b))))) ?_
 refine ah.lay 8 rfl rfl rfl (aa.aI rfl ai rfl) ?_
 refine ah.cons 7 rfl rfl rfl (aa.assign rfl rfl) (fun _=>(aa.assign rfl rfl)) ?_
 refine ah.put rfl rfl (by decide) (aa.store rfl rfl rfl rfl rfl ai rfl rfl) rfl ?_
 refine ah.nil ?_
 iterate 4 refine af ?_
 refine Kc (Kl (.p (Rx.cz F.b.ag))) ?_
 iterate 12 refine af ?_
 refine Kc (aa.aK _ _ rfl rfl rfl) ?_
 iterate 2 refine af ?_
 refine aC.aU rfl ?_
 iterate 2 refine af ?_
 refine Kc (aa.aK _ _ rfl rfl rfl) ?_
 iterate 2 refine af ?_
 refine aC.aU rfl ?_
 iterate 2 refine af ?_
 refine Kc (aa.aK _ _ rfl rfl rfl) ?_
 iterate 2 refine af ?_
 refine aC.aU rfl ?_
 iterate 2 refine af ?_
 refine Kc (aa.aK _ _ rfl rfl rfl) ?_
 iterate 2 refine af ?_
 refine aC.aU rfl ?_
 iterate 3 refine af ?_
 refine Kc (aa.aK _ _ rfl rfl rfl) ?_
 iterate 2 refine af ?_
 refine aC.aU rfl ?_
 refine af ?_
 refine Kc (aa.aK _ _ rfl rfl rfl) ?_
 iterate 2 refine af ?_
 refine aC.aU rfl ?_
 iterate 2 refine af ?_
 refine Kc (aa.aK _ _ rfl rfl rfl) ?_
 iterate 2 refine af ?_
 refine aC.aU rfl ?_
 iterate 2 refine af ?_
 refine Kc (aa.aK _ _ rfl rfl rfl) ?_
 iterate 2 refine af ?_
 refine aC.aU rfl ?_
 iterate 2 refine af ?_
 refine Kc (aa.aK _ _ rfl rfl rfl) ?_
 iterate 2 refine af ?_
 refine aC.aU rfl ?_
 iterate 2 refine af ?_
 refine Kc (aa.aK _ _ rfl rfl rfl) ?_
 iterate 2 refine af ?_
 refine aC.aU rfl ?_
 iterate 2 refine af ?_
 refine Kc (aa.aK _ _ rfl rfl rfl) ?_
 iterate 2 refine af ?_
 refine aC.iC rfl ?_
 iterate 4 refine af ?_
 refine Kc (Kl (.p (.is (F.marks.flatMap gK) F.marks.length))) ?_
 iterate 3 refine af ?_
 refine Ki (fun VU=> ?_) fun VU=> ?_
 ·have he:8<=F.marks.length:=by have h:=Ze VU;omega
  iterate 2 refine af ?_
  refine Kc (Kl (.p (.agg (de F)))) ?_
  iterate 5 refine af ?_
  refine Fin.bq (xs:=[.agg (de F),.str (sB ([])),.int .i64 9]) rfl ⟨_,_,rfl,⟨_,_,_,rfl,ai,rfl⟩,⟨_,_,rfl,rfl,⟨_,_,rfl,rfl,rfl⟩⟩⟩ rfl ?_
  exact GU
 ·have he:¬ 8<=F.marks.length:=by have h:=Zf VU;omega
  iterate 2 refine af ?_
  refine aC.bz 9 2 [3,4] [([3],true),([],false),([0],false),([4,3],true),([2],false),([],false),([0],false),([],false),([],false)] mixed (by kernel_rfl) (by decide) (by kernel_rfl) rfl rfl ?_
  refine aX.lay (v0:= .row 5 _) 441 3 rfl rfl rfl rfl rfl rfl rfl rfl (fun _=>(aa.jA rfl ai (by decide) rfl rfl)) rfl rfl rfl ?_
  refine af ?_
  refine aX.cons 443 rfl rfl rfl (fun _=>(Kl (.p (.is (F.marks.flatMap gK) F.marks.length)))) rfl ?_
  refine aX.xD (v0:= .row 5 _) 444 4 3 rfl rfl rfl rfl rfl rfl rfl rfl rfl rfl (fun _=>(aa.c6 (i:=3) (len:=0) (cs:=[]) rfl rfl rfl ai ai rfl ?_ (iW (xs:=(F.marks.flatMap gK)) (n:=F.marks.length) (sz:=12) (AF.bD (c:=12) (fun _=>rfl) F.marks)) (vu gK F.marks (fun _=>rfl)) ai (by decide) ?_)) rfl rfl (congrArg (fun z=>ak.row z 44) (aP _ ((F.marks.flatMap gK)))) ?_
  ·rfl
  ·show(2*(0+F.marks.length)+192)*208<=281474976710656;omega
  refine aX.cons 445 rfl rfl rfl (fun _=>(Kl (.p (.agg (cg F.b))))) rfl ?_
  refine af ?_
  refine aX.cons 447 rfl rfl rfl (fun _=>(Kl (.p (Di.aQ F.b.bH)))) rfl ?_
  refine aX.cons 448 rfl rfl rfl (fun _=>(aa.zp (v:= .p (.agg (gK F.b))) rfl ai rfl rfl rfl)) rfl ?_
  refine aX.cons 449 rfl rfl rfl (fun _=>(aa.aF rfl ai (by decide) rfl rfl rfl)) rfl ?_
  refine aX.nil ?_
  refine Kc (aa.c6 (i:=4) (len:=0+F.marks.length) (cs:=[]++((F.marks.flatMap gK)).map .p) (ys:=((gK F.b)).map .p) (n:=1) rfl rfl rfl ai ai rfl ?_ rfl rfl ai (by decide) ?_) ?_
  ·rw[FF,Zr,AF.bD (c:=12) (fun _=>rfl),tZ];rfl
  ·show(2*(0+F.marks.length+1)+192)*208<=281474976710656;omega
  refine aq.freeze 5 rfl (lZ ((F.marks.flatMap gK)) ((gK F.b))) ?_
  refine af ?_
  refine Kz (aa.store (H':=[.cells ((At F.aT F.b (.is (F.marks.flatMap gK++gK F.b) (0+F.marks.length+1))).map .p) 44,.cells [.p .nilSlice,.p (.int .i64 0),.p (.int .i64 0),.p (.int .i64 0),.p .nilSlice,.p .nilSlice,.p .nilSlice,.p .nilSlice,.p (.int .i64 0),.p (.int .i64 0),.p .nilSlice,.p .nilSlice] 44,.cells ((cg F.b).map .p) 41,.dead,.dead,.dead]) rfl rfl rfl rfl rfl ai rfl rfl) ?_
  iterate 2 refine af ?_
  refine aC.az 6 mixed (by kernel_rfl) (by decide) ?_
  refine Kq (Kl (.p (.agg (At F.aT F.b (.is (F.marks.flatMap gK++gK F.b) (0+F.marks.length+1)))))) ?_
  refine af ?_
  refine Kq (Kl (.p (.is (F.marks.flatMap gK++gK F.b) (0+F.marks.length+1)))) ?_
  refine Kq (aa.bJ rfl rfl ai rfl) ?_
  refine Kq (aa.aF rfl ai (by decide) rfl rfl rfl) ?_
  refine Kq (Kp (dM (Vb.t .mark) [((0+F.marks.length+1:Nat):Int)] (by decide) (by show 1<=_;decide) (fun x hx=>by rw[Zw.1 hx];omega))) ?_
  refine ay.nil ?_
  iterate 5 refine af ?_
  refine Fin.bq (xs:=[.agg (At F.aT F.b (.is (F.marks.flatMap gK++gK F.b) (0+F.marks.length+1))),.str (sB (br (Vb.t .mark) [((0+F.marks.length+1:Nat):Int)])),.int .i64 0]) rfl ⟨_,_,rfl,⟨_,_,_,rfl,ai,rfl⟩,⟨_,_,rfl,rfl,⟨_,_,rfl,rfl,rfl⟩⟩⟩ rfl ?_
  rw[HV]
  unfold bp
  dsimp only
  rw[if_neg he]
  rw[show((0+F.marks.length+1:Nat):Int)=(F.marks.length:Int)+1 by omega]
theorem Ko(F:c7)(n:List Int)(hF:kK F)(hl:n.length=0)(hn:∀ x∈n,0<=x∧x<10000000000000):Pure Tryz.prog 57 [.agg (de F),.agg [.str (sB (Vb.t .keep)),Di.aQ n]] (.tuple [.agg (de (bp F .keep n).1),.str (sB (bp F .keep n).2.1),.int .i64 (bp F .keep n).2.2]):=by
 have en:=Rx.bM hF.b.cd
 have hnb:=hn
 refine Kf (N:=496) Tryz.func57 ?_
 iterate 2 refine af ?_
 refine Kc (aa.cP rfl rfl rfl) ?_
 iterate 6 refine af ?_
 refine aC.bN 7 mixed (by kernel_rfl) (by decide) ?_
 refine ah.cons 29 rfl rfl rfl (aa.fieldAddr rfl rfl ai rfl) (fun _=>(aa.fieldAddr rfl rfl ai rfl)) ?_
 refine ah.cons 30 rfl rfl rfl (aa.load rfl rfl ai rfl) (fun _=>(aa.load rfl rfl ai rfl)) ?_
 refine ah.cons 31 rfl rfl rfl (aa.fieldAddr rfl rfl ai rfl) (fun _=>(aa.fieldAddr rfl rfl ai rfl)) ?_
 refine ah.cons 32 rfl rfl rfl (Kl (.p (.agg (cg F.b)))) (fun _=>(Kl (.p (.agg (cg F.b))))) ?_
 refine ah.lay 8 rfl rfl rfl (aa.aI rfl ai rfl) ?_
 refine ah.cons 7 rfl rfl rfl (aa.assign rfl rfl) (fun _=>(aa.assign rfl rfl)) ?_
 refine ah.put rfl rfl (by decide) (aa.store rfl rfl rfl rfl rfl ai rfl rfl) rfl ?_
 refine ah.nil ?_
 iterate 4 refine af ?_
 refine Kc (Kl (.p (Rx.cz F.b.ag))) ?_
 iterate 12 refine af ?_
 refine Kc (aa.aK _ _ rfl rfl rfl) ?_
 iterate 2 refine af ?_
 refine aC.aU rfl ?_
 iterate 2 refine af ?_
 refine Kc (aa.aK _ _ rfl rfl rfl) ?_
 iterate 2 refine af ?_
 refine aC.aU rfl ?_
 iterate 2 refine af ?_
 refine Kc (aa.aK _ _ rfl rfl rfl) ?_
 iterate 2 refine af ?_
 refine aC.aU rfl ?_
 iterate 2 refine af ?_
 refine Kc (aa.aK _ _ rfl rfl rfl) ?_
 iterate 2 refine af ?_
 refine aC.aU rfl ?_
 iterate 3 refine af ?_
 refine Kc (aa.aK _ _ rfl rfl rfl) ?_
 iterate 2 refine af ?_
 refine aC.aU rfl ?_
 refine af ?_
 refine Kc (aa.aK _ _ rfl rfl rfl) ?_
 iterate 2 refine af ?_
 refine aC.aU rfl ?_
 iterate 2 refine af ?_
 refine Kc (aa.aK _ _ rfl rfl rfl) ?_
 iterate 2 refine af ?_
 refine aC.aU rfl ?_
 iterate 2 refine af ?_
 refine Kc (aa.aK _ _ rfl rfl rfl) ?_
 iterate 2 refine af ?_
 refine aC.aU rfl ?_
 iterate 2 refine af ?_
 refine Kc (aa.aK _ _ rfl rfl rfl) ?_
 iterate 2 refine af ?_
 refine aC.aU rfl ?_
 iterate 2 refine af ?_
 refine Kc (aa.aK _ _ rfl rfl rfl) ?_
 iterate 2 refine af ?_
 refine aC.aU rfl ?_
 iterate 2 refine af ?_
 refine Kc (aa.aK _ _ rfl rfl rfl) ?_
 iterate 2 refine af ?_
 refine aC.aU rfl ?_
 iterate 5 refine af ?_
 refine Kc (Kl (.p (.is (F.marks.flatMap gK) F.marks.length))) ?_
 iterate 3 refine af ?_
 refine Ki (fun G7=> ?_) fun G7=> ?_
 ·exact RX
 ·have he:¬ F.marks.length=0:=by have h:=Zf G7;omega
  have hm8:=hF.mm
  have hla:=Ft he
  iterate 4 refine af ?_
  refine Kc (Kl (.p (.is (F.marks.flatMap gK) F.marks.length))) ?_
  refine af ?_
  refine Kc (Kl (.p (.is (F.marks.flatMap gK) F.marks.length))) ?_
  refine af ?_
  refine Kc (aa.ec (m:=((F.marks.length - 1:Nat):Int)) rfl rfl rfl ((aA ?_).trans ?_)) ?_
  ·omega
  ·omega
  refine Kc (aa.aB (g:=Di.gt xk F.marks) (k:=(F.marks.length - 1)) (Di.av _) rfl rfl rfl ai Ph rfl (fun _=>rfl) (by decide) (by omega)) ?_
  refine Kc (Kl (.p (.agg (gK (Di.gt xk F.marks (F.marks.length - 1)))))) ?_
  refine af ?_
  refine Kz (aa.store (H':=[.cells ((At F.aT F.b (.is (F.marks.flatMap gK) F.marks.length)).map .p) 44,.cells [.p .nilSlice,.p (.int .i64 0),.p (.int .i64 0),.p (.int .i64 0),.p .nilSlice,.p .nilSlice,.p .nilSlice,.p .nilSlice,.p (.int .i64 0),.p (.int .i64 0),.p .nilSlice,.p .nilSlice] 44,.cells ((cg F.b).map .p) 41,.cells ((gK (Di.gt xk F.marks (F.marks.length - 1))).map .p) 44]) rfl rfl rfl rfl rfl ai rfl rfl) ?_
  iterate 4 refine af ?_
  refine Kc (Kl (.p (.is (F.marks.flatMap gK) F.marks.length))) ?_
  refine af ?_
  refine Kc (Kl (.p (.is (F.marks.flatMap gK) F.marks.length))) ?_
  refine af ?_
  refine Kc (aa.ec (m:=((F.marks.length - 1:Nat):Int)) rfl rfl rfl ((aA ?_).trans ?_)) ?_
  ·omega
  ·omega
  refine Kc (aa.kS (l:=0) (h:=(F.marks.length - 1)) (r:=((F.marks.take (F.marks.length - 1)).flatMap gK)) rfl rfl ai Ph rfl ⟨_,rfl⟩ (by omega) (by omega) (YH (f:=gK) (c:=12) (fun _=>rfl) F.marks (F.marks.length - 1))) ?_
  refine af ?_
  refine Kz (aa.store (H':=[.cells ((At F.aT F.b (.is ((F.marks.take (F.marks.length - 1)).flatMap gK) (F.marks.length - 1 - 0))).map .p) 44,.cells [.p .nilSlice,.p (.int .i64 0),.p (.int .i64 0),.p (.int .i64 0),.p .nilSlice,.p .nilSlice,.p .nilSlice,.p .nilSlice,.p (.int .i64 0),.p (.int .i64 0),.p .nilSlice,.p .nilSlice] 44,.cells ((cg F.b).map .p) 41,.cells ((gK (Di.gt xk F.marks (F.marks.length - 1))).map .p) 44]) rfl rfl rfl rfl rfl ai rfl rfl) ?_
  iterate 5 refine af ?_
  refine Kc (Kl (.p (.str (sB (Vb.t .keep))))) ?_
  refine Kc (aa.aK _ _ rfl rfl rfl) ?_
  refine af ?_
  refine aC.aU rfl ?_
  iterate 2 refine af ?_
  refine aC.az 8 mixed (by kernel_rfl) (by decide) ?_
  refine Kq (Kl (.p (.agg (At F.aT F.b (.is ((F.marks.take (F.marks.length - 1)).flatMap gK) (F.marks.length - 1 - 0)))))) ?_
  refine af ?_
  refine Kq (Kl (.p (.str (sB (Vb.t .keep))))) ?_
  refine af ?_
  refine Kq (Kl (.p (.is ((F.marks.take (F.marks.length - 1)).flatMap gK) (F.marks.length - 1 - 0)))) ?_
  refine Kq (aa.bJ rfl rfl ai rfl) ?_
  refine Kq (aa.aF rfl ai (by decide) rfl rfl rfl) ?_
  refine Kq (Kp (dM (Vb.t .keep) [((F.marks.length - 1 - 0:Nat):Int)] (by decide) (by show 1<=_;decide) (fun x hx=>by rw[Zw.1 hx];omega))) ?_
  refine ay.nil ?_
  iterate 5 refine af ?_
  refine Fin.bq (xs:=[.agg (At F.aT F.b (.is ((F.marks.take (F.marks.length - 1)).flatMap gK) (F.marks.length - 1 - 0))),.str (sB (br (Vb.t .keep) [((F.marks.length - 1 - 0:Nat):Int)])),.int .i64 0]) rfl ⟨_,_,rfl,⟨_,_,_,rfl,ai,rfl⟩,⟨_,_,rfl,rfl,⟨_,_,rfl,rfl,rfl⟩⟩⟩ rfl ?_
  exact aaH
theorem Me(F:c7)(n:List Int)(hF:kK F)(hl:n.length=0)(hn:∀ x∈n,0<=x∧x<10000000000000):Pure Tryz.prog 57 [.agg (de F),.agg [.str (sB (Vb.t .back)),Di.aQ n]] (.tuple [.agg (de (bp F .back n).1),.str (sB (bp F .back n).2.1),.int .i64 (bp F .back n).2.2]):=by
 have en:=Rx.bM hF.b.cd
 have hnb:=hn
 refine Kf (N:=496) Tryz.func57 ?_
 iterate 2 refine af ?_
 refine Kc (aa.cP rfl rfl rfl) ?_
 iterate 6 refine af ?_
 refine aC.bN 7 mixed (by kernel_rfl) (by decide) ?_
 refine ah.cons 29 rfl rfl rfl (aa.fieldAddr rfl rfl ai rfl) (fun _=>(aa.fieldAddr rfl rfl ai rfl)) ?_
 refine ah.cons 30 rfl rfl rfl (aa.load rfl rfl ai rfl) (fun _=>(aa.load rfl rfl ai rfl)) ?_
 refine ah.cons 31 rfl rfl rfl (aa.fieldAddr rfl rfl ai rfl) (fun _=>(aa.fieldAddr rfl rfl ai rfl)) ?_
 refine ah.cons 32 rfl rfl rfl (Kl (.p (.agg (cg F.b)))) (fun _=>(Kl (.p (.agg (cg F.b))))) ?_
 refine ah.lay 8 rfl rfl rfl (aa.aI rfl ai rfl) ?_
 refine ah.cons 7 rfl rfl rfl (aa.assign rfl rfl) (fun _=>(aa.assign rfl rfl)) ?_
 refine ah.put rfl rfl (by decide) (aa.store rfl rfl rfl rfl rfl ai rfl rfl) rfl ?_
 refine ah.nil ?_
 iterate 4 refine af ?_
 refine Kc (Kl (.p (Rx.cz F.b.ag))) ?_
 iterate 12 refine af ?_
 refine Kc (aa.aK _ _ rfl rfl rfl) ?_
 iterate 2 refine af ?_
 refine aC.aU rfl ?_
 iterate 2 refine af ?_
 refine Kc (aa.aK _ _ rfl rfl rfl) ?_
 iterate 2 refine af ?_
 refine aC.aU rfl ?_
 iterate 2 refine af ?_
 refine Kc (aa.aK _ _ rfl rfl rfl) ?_
 iterate 2 refine af ?_
 refine aC.aU rfl ?_
 iterate 2 refine af ?_
 refine Kc (aa.aK _ _ rfl rfl rfl) ?_
 iterate 2 refine af ?_
 refine aC.aU rfl ?_
 iterate 3 refine af ?_
 refine Kc (aa.aK _ _ rfl rfl rfl) ?_
 iterate 2 refine af ?_
 refine aC.aU rfl ?_
 refine af ?_
 refine Kc (aa.aK _ _ rfl rfl rfl) ?_
 iterate 2 refine af ?_
 refine aC.aU rfl ?_
 iterate 2 refine af ?_
 refine Kc (aa.aK _ _ rfl rfl rfl) ?_
 iterate 2 refine af ?_
 refine aC.aU rfl ?_
 iterate 2 refine af ?_
 refine Kc (aa.aK _ _ rfl rfl rfl) ?_
 iterate 2 refine af ?_
 refine aC.aU rfl ?_
 iterate 2 refine af ?_
 refine Kc (aa.aK _ _ rfl rfl rfl) ?_
 iterate 2 refine af ?_
 refine aC.aU rfl ?_
 iterate 2 refine af ?_
 refine Kc (aa.aK _ _ rfl rfl rfl) ?_
 iterate 2 refine af ?_
 refine aC.aU rfl ?_
 iterate 2 refine af ?_
 refine Kc (aa.aK _ _ rfl rfl rfl) ?_
 iterate 2 refine af ?_
 refine aC.aU rfl ?_
 iterate 5 refine af ?_
 refine Kc (Kl (.p (.is (F.marks.flatMap gK) F.marks.length))) ?_
 iterate 3 refine af ?_
 refine Ki (fun G7=> ?_) fun G7=> ?_
 ·exact RX
 ·have he:¬ F.marks.length=0:=by have h:=Zf G7;omega
  have hm8:=hF.mm
  have hla:=Ft he
  iterate 4 refine af ?_
  refine Kc (Kl (.p (.is (F.marks.flatMap gK) F.marks.length))) ?_
  refine af ?_
  refine Kc (Kl (.p (.is (F.marks.flatMap gK) F.marks.length))) ?_
  refine af ?_
  refine Kc (aa.ec (m:=((F.marks.length - 1:Nat):Int)) rfl rfl rfl ((aA ?_).trans ?_)) ?_
  ·omega
  ·omega
  refine Kc (aa.aB (g:=Di.gt xk F.marks) (k:=(F.marks.length - 1)) (Di.av _) rfl rfl rfl ai Ph rfl (fun _=>rfl) (by decide) (by omega)) ?_
  refine Kc (Kl (.p (.agg (gK (Di.gt xk F.marks (F.marks.length - 1)))))) ?_
  refine af ?_
  refine Kz (aa.store (H':=[.cells ((At F.aT F.b (.is (F.marks.flatMap gK) F.marks.length)).map .p) 44,.cells [.p .nilSlice,.p (.int .i64 0),.p (.int .i64 0),.p (.int .i64 0),.p .nilSlice,.p .nilSlice,.p .nilSlice,.p .nilSlice,.p (.int .i64 0),.p (.int .i64 0),.p .nilSlice,.p .nilSlice] 44,.cells ((cg F.b).map .p) 41,.cells ((gK (Di.gt xk F.marks (F.marks.length - 1))).map .p) 44]) rfl rfl rfl rfl rfl ai rfl rfl) ?_
  iterate 4 refine af ?_
  refine Kc (Kl (.p (.is (F.marks.flatMap gK) F.marks.length))) ?_
  refine af ?_
  refine Kc (Kl (.p (.is (F.marks.flatMap gK) F.marks.length))) ?_
  refine af ?_
  refine Kc (aa.ec (m:=((F.marks.length - 1:Nat):Int)) rfl rfl rfl ((aA ?_).trans ?_)) ?_
  ·omega
  ·omega
  refine Kc (aa.kS (l:=0) (h:=(F.marks.length - 1)) (r:=((F.marks.take (F.marks.length - 1)).flatMap gK)) rfl rfl ai Ph rfl ⟨_,rfl⟩ (by omega) (by omega) (YH (f:=gK) (c:=12) (fun _=>rfl) F.marks (F.marks.length - 1))) ?_
  refine af ?_
  refine Kz (aa.store (H':=[.cells ((At F.aT F.b (.is ((F.marks.take (F.marks.length - 1)).flatMap gK) (F.marks.length - 1 - 0))).map .p) 44,.cells [.p .nilSlice,.p (.int .i64 0),.p (.int .i64 0),.p (.int .i64 0),.p .nilSlice,.p .nilSlice,.p .nilSlice,.p .nilSlice,.p (.int .i64 0),.p (.int .i64 0),.p .nilSlice,.p .nilSlice] 44,.cells ((cg F.b).map .p) 41,.cells ((gK (Di.gt xk F.marks (F.marks.length - 1))).map .p) 44]) rfl rfl rfl rfl rfl ai rfl rfl) ?_
  iterate 5 refine af ?_
  refine Kc (Kl (.p (.str (sB (Vb.t .back))))) ?_
  refine Kc (aa.aK _ _ rfl rfl rfl) ?_
  refine af ?_
  refine aC.iC rfl ?_
  iterate 3 refine af ?_
  refine Kc (Kl (.p (.agg (cg (Di.gt xk F.marks (F.marks.length - 1)))))) ?_
  refine af ?_
  refine Kz (aa.store (H':=[.cells ((F.aT.cells++cg (Di.gt xk F.marks (F.marks.length - 1))++[Di.aQ F.b.bH,(.is ((F.marks.take (F.marks.length - 1)).flatMap gK) (F.marks.length - 1 - 0))]).map .p) 44,.cells [.p .nilSlice,.p (.int .i64 0),.p (.int .i64 0),.p (.int .i64 0),.p .nilSlice,.p .nilSlice,.p .nilSlice,.p .nilSlice,.p (.int .i64 0),.p (.int .i64 0),.p .nilSlice,.p .nilSlice] 44,.cells ((cg F.b).map .p) 41,.cells ((gK (Di.gt xk F.marks (F.marks.length - 1))).map .p) 44]) rfl rfl rfl rfl rfl ai rfl rfl) ?_
  iterate 3 refine af ?_
  refine Kc (Kl (.p (Di.aQ (Di.gt xk F.marks (F.marks.length - 1)).bH))) ?_
  refine af ?_
  refine Kz (aa.store (H':=[.cells ((At F.aT (Di.gt xk F.marks (F.marks.length - 1)) (.is ((F.marks.take (F.marks.length - 1)).flatMap gK) (F.marks.length - 1 - 0))).map .p) 44,.cells [.p .nilSlice,.p (.int .i64 0),.p (.int .i64 0),.p (.int .i64 0),.p .nilSlice,.p .nilSlice,.p .nilSlice,.p .nilSlice,.p (.int .i64 0),.p (.int .i64 0),.p .nilSlice,.p .nilSlice] 44,.cells ((cg F.b).map .p) 41,.cells ((gK (Di.gt xk F.marks (F.marks.length - 1))).map .p) 44]) rfl rfl rfl rfl rfl ai rfl rfl) ?_
  iterate 2 refine af ?_
  refine aC.az 8 mixed (by kernel_rfl) (by decide) ?_
  refine Kq (Kl (.p (.agg (At F.aT (Di.gt xk F.marks (F.marks.length - 1)) (.is ((F.marks.take (F.marks.length - 1)).flatMap gK) (F.marks.length - 1 - 0)))))) ?_
  refine af ?_
  refine Kq (Kl (.p (.str (sB (Vb.t .back))))) ?_
  refine af ?_
  refine Kq (Kl (.p (.is ((F.marks.take (F.marks.length - 1)).flatMap gK) (F.marks.length - 1 - 0)))) ?_
  refine Kq (aa.bJ rfl rfl ai rfl) ?_
  refine Kq (aa.aF rfl ai (by decide) rfl rfl rfl) ?_
  refine Kq (Kp (dM (Vb.t .back) [((F.marks.length - 1 - 0:Nat):Int)] (by decide) (by show 1<=_;decide) (fun x hx=>by rw[Zw.1 hx];omega))) ?_
  refine ay.nil ?_
  iterate 5 refine af ?_
  refine Fin.bq (xs:=[.agg (At F.aT (Di.gt xk F.marks (F.marks.length - 1)) (.is ((F.marks.take (F.marks.length - 1)).flatMap gK) (F.marks.length - 1 - 0))),.str (sB (br (Vb.t .back) [((F.marks.length - 1 - 0:Nat):Int)])),.int .i64 0]) rfl ⟨_,_,rfl,⟨_,_,_,rfl,ai,rfl⟩,⟨_,_,rfl,rfl,⟨_,_,rfl,rfl,rfl⟩⟩⟩ rfl ?_
  exact aaH
theorem FN(l:List Ck.Sk)(b:List Ck.Tk)(hl:l.length<=Ck.bK)(hb:b.length<=Ck.bK):Pure Tryz.prog 118 [Ck.b8 l,Ck.kY b] (.tuple [.agg [.int .i64 (shr l b).1.1,.int .i64 (shr l b).1.2],.int .i64 (shr l b).2]):=by
 have h:=Ck.Ho l b hl hb
 rwa [T7] at h
theorem Nf(F:c7)(n:List Int)(hF:kK F)(hl:n.length=6)(hn:∀ x∈n,0<=x∧x<10000000000000):Pure Tryz.prog 57 [.agg (de F),.agg [.str (sB (Vb.t .lF)),Di.aQ n]] (.tuple [.agg (de (bp F .lF n).1),.str (sB (bp F .lF n).2.1),.int .i64 (bp F .lF n).2.2]):=by
 have en:=Rx.bM hF.b.cd
 have hnb:=hn
 have q0:0<=nn n 0∧nn n 0<10000000000000:=hn _ (Di.aV 0 (show 0<n.length by omega))
 have q1:0<=nn n 1∧nn n 1<10000000000000:=hn _ (Di.aV 0 (show 1<n.length by omega))
 have q2:0<=nn n 2∧nn n 2<10000000000000:=hn _ (Di.aV 0 (show 2<n.length by omega))
 have q3:0<=nn n 3∧nn n 3<10000000000000:=hn _ (Di.aV 0 (show 3<n.length by omega))
 have q4:0<=nn n 4∧nn n 4<10000000000000:=hn _ (Di.aV 0 (show 4<n.length by omega))
 have q5:0<=nn n 5∧nn n 5<10000000000000:=hn _ (Di.aV 0 (show 5<n.length by omega))
 refine Kf (N:=496) Tryz.func57 ?_
 iterate 2 refine af ?_
 refine Kc (aa.cP rfl rfl rfl) ?_
 iterate 6 refine af ?_
 refine aC.bN 7 mixed (by kernel_rfl) (by decide) ?_
 refine ah.cons 29 rfl rfl rfl (aa.fieldAddr rfl rfl ai rfl) (fun _=>(aa.fieldAddr rfl rfl ai rfl)) ?_
 refine ah.cons 30 rfl rfl rfl (aa.load rfl rfl ai rfl) (fun _=>(aa.load rfl rfl ai rfl)) ?_
 refine ah.cons 31 rfl rfl rfl (aa.fieldAddr rfl rfl ai rfl) (fun _=>(aa.fieldAddr rfl rfl ai rfl)) ?_
 refine ah.cons 32 rfl rfl rfl (Kl (.p (.agg (cg F.b)))) (fun _=>(Kl (.p (.agg (cg F.b))))) ?_
 refine ah.lay 8 rfl rfl rfl (aa.aI rfl ai rfl) ?_
 refine ah.cons 7 rfl rfl rfl (aa.assign rfl rfl) (fun _=>(aa.assign rfl rfl)) ?_
 refine ah.put rfl rfl (by decide) (aa.store rfl rfl rfl rfl rfl ai rfl rfl) rfl ?_
 refine ah.nil ?_
 iterate 4 refine af ?_
 refine Kc (Kl (.p (Rx.cz F.b.ag))) ?_
 iterate 12 refine af ?_
 refine Kc (aa.aK _ _ rfl rfl rfl) ?_
 iterate 2 refine af ?_
 refine aC.iC rfl ?_
 refine af ?_
 refine aC.bN 24 mixed (by kernel_rfl) (by decide) ?_
 refine ah.cons 40 rfl rfl rfl (aa.move rfl rfl) (fun _=>(aa.move rfl rfl)) ?_
 refine ah.cons 41 rfl rfl rfl (aa.aB (g:=Di.gt 0 n) (k:=0) (Di.av _) rfl rfl rfl ai bB rfl (fun _=>rfl) (by decide) (by omega)) (fun _=>(aa.aB (g:=Di.gt 0 n) (k:=0) (Di.av _) rfl rfl rfl ai bB rfl (fun _=>rfl) (by decide) (by omega))) ?_
 refine ah.cons 42 rfl rfl rfl (Kl (.p (.int .i64 (nn n 0)))) (fun _=>(Kl (.p (.int .i64 (nn n 0))))) ?_
 refine ah.cons 43 rfl rfl rfl (aa.move rfl rfl) (fun _=>(aa.move rfl rfl)) ?_
 refine ah.cons 44 rfl rfl rfl (aa.aB (g:=Di.gt 0 n) (k:=1) (Di.av _) rfl rfl rfl ai bB rfl (fun _=>rfl) (by decide) (by omega)) (fun _=>(aa.aB (g:=Di.gt 0 n) (k:=1) (Di.av _) rfl rfl rfl ai bB rfl (fun _=>rfl) (by decide) (by omega))) ?_
 refine ah.cons 45 rfl rfl rfl (Kl (.p (.int .i64 (nn n 1)))) (fun _=>(Kl (.p (.int .i64 (nn n 1))))) ?_
 refine ah.cons 46 rfl rfl rfl (aa.build rfl ai rfl rfl) (fun _=>(aa.build rfl ai rfl rfl)) ?_
 refine ah.cons 47 rfl rfl rfl (aa.move rfl rfl) (fun _=>(aa.move rfl rfl)) ?_
 refine ah.cons 48 rfl rfl rfl (aa.aB (g:=Di.gt 0 n) (k:=2) (Di.av _) rfl rfl rfl ai bB rfl (fun _=>rfl) (by decide) (by omega)) (fun _=>(aa.aB (g:=Di.gt 0 n) (k:=2) (Di.av _) rfl rfl rfl ai bB rfl (fun _=>rfl) (by decide) (by omega))) ?_
 refine ah.cons 49 rfl rfl rfl (Kl (.p (.int .i64 (nn n 2)))) (fun _=>(Kl (.p (.int .i64 (nn n 2))))) ?_
 refine ah.cons 50 rfl rfl rfl (aa.move rfl rfl) (fun _=>(aa.move rfl rfl)) ?_
 refine ah.cons 51 rfl rfl rfl (aa.aB (g:=Di.gt 0 n) (k:=3) (Di.av _) rfl rfl rfl ai bB rfl (fun _=>rfl) (by decide) (by omega)) (fun _=>(aa.aB (g:=Di.gt 0 n) (k:=3) (Di.av _) rfl rfl rfl ai bB rfl (fun _=>rfl) (by decide) (by omega))) ?_
 refine ah.cons 52 rfl rfl rfl (Kl (.p (.int .i64 (nn n 3)))) (fun _=>(Kl (.p (.int .i64 (nn n 3))))) ?_
 refine ah.cons 53 rfl rfl rfl (aa.build rfl ai rfl rfl) (fun _=>(aa.build rfl ai rfl rfl)) ?_
 refine ah.cons 54 rfl rfl rfl (aa.move rfl rfl) (fun _=>(aa.move rfl rfl)) ?_
 refine ah.cons 55 rfl rfl rfl (aa.aB (g:=Di.gt 0 n) (k:=4) (Di.av _) rfl rfl rfl ai bB rfl (fun _=>rfl) (by decide) (by omega)) (fun _=>(aa.aB (g:=Di.gt 0 n) (k:=4) (Di.av _) rfl rfl rfl ai bB rfl (fun _=>rfl) (by decide) (by omega))) ?_
 refine ah.cons 56 rfl rfl rfl (Kl (.p (.int .i64 (nn n 4)))) (fun _=>(Kl (.p (.int .i64 (nn n 4))))) ?_
 refine ah.cons 57 rfl rfl rfl (aa.move rfl rfl) (fun _=>(aa.move rfl rfl)) ?_
 refine ah.cons 58 rfl rfl rfl (aa.aB (g:=Di.gt 0 n) (k:=5) (Di.av _) rfl rfl rfl ai bB rfl (fun _=>rfl) (by decide) (by omega)) (fun _=>(aa.aB (g:=Di.gt 0 n) (k:=5) (Di.av _) rfl rfl rfl ai bB rfl (fun _=>rfl) (by decide) (by omega))) ?_
 refine ah.cons 59 rfl rfl rfl (Kl (.p (.int .i64 (nn n 5)))) (fun _=>(Kl (.p (.int .i64 (nn n 5))))) ?_
 refine ah.cons 60 rfl rfl rfl (aa.build rfl ai rfl rfl) (fun _=>(aa.build rfl ai rfl rfl)) ?_
 refine ah.cons 61 rfl rfl rfl (aa.build rfl ai rfl rfl) (fun _=>(aa.build rfl ai rfl rfl)) ?_
 refine ah.lay 10 rfl rfl rfl (aa.aI rfl ai rfl) ?_
 refine ah.put rfl rfl (by decide) (aa.store rfl rfl rfl rfl rfl ai rfl rfl) rfl ?_
 refine ah.nil ?_
 iterate 5 refine af ?_
 refine Kc (Kl (.p (Ck.b8 F.b.au))) ?_
 iterate 3 refine af ?_
 refine Kg 67 66 9 rfl (fun h=>(aa.move rfl rfl)) ?_
 refine Kh 68 66 67 rfl rfl rfl rfl (fun h=>(aa.geq rfl rfl rfl)) ?_
 refine Kc (aa.lE rfl rfl rfl ?_) ?_
 ·exact fO
 refine af ?_
 refine Ki (fun bw=> ?_) fun bw=> ?_
 ·have hr:8<=F.b.au.length∨24<=F.b.ag.length:=by simp only[CK,Zl] at bw;omega
  iterate 2 refine af ?_
  refine Kc (Kl (.p (.agg (de F)))) ?_
  iterate 5 refine af ?_
  refine Fin.bq (xs:=[.agg (de F),.str (sB ([])),.int .i64 9]) rfl ⟨_,_,rfl,⟨_,_,_,rfl,ai,rfl⟩,⟨_,_,rfl,rfl,⟨_,_,rfl,rfl,rfl⟩⟩⟩ rfl ?_
  unfold bp
  dsimp only
  rw[if_pos hr]
 ·have hr:¬ (8<=F.b.au.length∨24<=F.b.ag.length):=by simp only[OG,ZP] at bw;omega
  have hcl:=hF.b.ck
  iterate 4 refine af ?_
  refine Kc (Kl (.p (.agg (fF n).cells))) ?_
  refine Kc (aa.aF rfl ai (by decide) rfl rfl rfl) ?_
  refine Kc (Kp (Ck.xZ [fF n] (by show 1<=Ck.bK;decide))) ?_
  iterate 2 refine af ?_
  refine Ki (fun eG=> ?_) fun eG=> ?_
  ·have he:(shr [fF n] [bf 0 1]).2=1:=by rw[AB,qt,if_neg (by simpa using eG)]
   iterate 2 refine af ?_
   refine Kc (Kl (.p (.agg (de F)))) ?_
   iterate 5 refine af ?_
   refine Fin.bq (xs:=[.agg (de F),.str (sB ([])),.int .i64 1]) rfl ⟨_,_,rfl,⟨_,_,_,rfl,ai,rfl⟩,⟨_,_,rfl,rfl,⟨_,_,rfl,rfl,rfl⟩⟩⟩ rfl ?_
   unfold bp
   dsimp only
   rw[if_neg hr,if_pos (by rw[he];decide),he]
  ·have he:(shr [fF n] [bf 0 1]).2=0:=by rw[AB,qt,if_pos (by simpa using eG)]
   iterate 4 refine af ?_
   refine Kc (Kl (.p (Ck.b8 F.b.au))) ?_
   refine af ?_
   refine Kc (aa.aF rfl ai (by decide) rfl rfl rfl) ?_
   refine Kc (Kp (dM (Vb.t .lF) [(F.b.au.length:Int)] (by decide) (by show 1<=_;decide) (fun x hx=>by rw[Zw.1 hx];omega))) ?_
   refine af ?_
   refine Kc (aa.aF rfl ai (by decide) rfl rfl rfl) ?_
   refine Kc (Kp (dM (32::ic) [(F.b.ag.length:Int)] (by decide) (by show 1<=_;decide) (fun x hx=>by rw[Zw.1 hx];omega))) ?_
   refine Kc (aa.jE _ _ rfl rfl rfl ?_) ?_
   ·exact zy (by decide) (by decide) (by show 1<=100;decide) (by show 1<=100;decide) (nr (by omega)) (nr (by omega))
   iterate 4 refine af ?_
   refine Kc (Kl (.p (.agg (cg F.b)))) ?_
   refine af ?_
   refine Kc (Kp (qK F.b ⟨0,0⟩ (by omega))) ?_
   refine af ?_
   refine Kz (aa.store (H':=[.cells ((F.aT.cells++[Ck.b8 F.b.au,Rx.cz (F.b.ag++[Rx.bF.mk 0 0]),Di.dn F.b.ax,Di.aQ F.b.plan,.int .i64 (F.b.bad:Int),.int .i64 (F.b.good:Int)]++[Di.aQ F.b.bH,(.is (F.marks.flatMap gK) F.marks.length)]).map .p) 44,.cells [.p .nilSlice,.p (.int .i64 0),.p (.int .i64 0),.p (.int .i64 0),.p .nilSlice,.p .nilSlice,.p .nilSlice,.p .nilSlice,.p (.int .i64 0),.p (.int .i64 0),.p .nilSlice,.p .nilSlice] 44,.cells ((cg F.b).map .p) 41,.cells ((fF n).cells.map .p) 126]) rfl rfl rfl rfl rfl ai rfl rfl) ?_
   iterate 2 refine af ?_
   refine aC.bz 6 2 [4,5] [([4],true),([],false),([2],false),([5,4],true),([3],false),([],false)] mixed (by kernel_rfl) (by decide) (by kernel_rfl) rfl rfl ?_
   refine aX.lay (v0:= .row 6 _) 89 4 rfl rfl rfl rfl rfl rfl rfl rfl (fun _=>(aa.jA rfl ai (by decide) rfl rfl)) rfl rfl rfl ?_
   refine af ?_
   refine aX.cons 91 rfl rfl rfl (fun _=>(Kl (.p (Ck.b8 F.b.au)))) rfl ?_
   refine aX.xD (v0:= .row 6 _) 92 5 4 rfl rfl rfl rfl rfl rfl rfl rfl rfl rfl (fun _=>(aa.c6 (i:=4) (len:=0) (cs:=[]) rfl rfl rfl ai ai rfl ?_ (iW (xs:=(F.b.au.flatMap Ck.Sk.cells)) (n:=F.b.au.length) (sz:=6) (AF.bD (c:=6) (fun _=>rfl) F.b.au)) (vu Ck.Sk.cells F.b.au (fun _=>rfl)) ai (by decide) ?_)) rfl rfl (congrArg (fun z=>ak.row z 126) (aP _ ((F.b.au.flatMap Ck.Sk.cells)))) ?_
   ·rfl
   ·show(2*(0+F.b.au.length)+192)*48<=281474976710656;omega
   refine aX.cons 93 rfl rfl rfl (fun _=>(Kl (.p (.agg (fF n).cells)))) rfl ?_
   refine aX.cons 94 rfl rfl rfl (fun _=>(aa.aF rfl ai (by decide) rfl rfl rfl)) rfl ?_
   refine aX.nil ?_
   refine Kc (aa.c6 (i:=5) (len:=0+F.b.au.length) (cs:=[]++((F.b.au.flatMap Ck.Sk.cells)).map .p) (ys:=((fF n).cells).map .p) (n:=1) rfl rfl rfl ai ai rfl ?_ rfl rfl ai (by decide) ?_) ?_
   ·rw[FF,Zr,AF.bD (c:=6) (fun _=>rfl),tZ];rfl
   ·show(2*(0+F.b.au.length+1)+192)*48<=281474976710656;omega
   refine aq.freeze 6 rfl (lZ ((F.b.au.flatMap Ck.Sk.cells)) ((fF n).cells)) ?_
   iterate 2 refine af ?_
   refine Kz (aa.store (H':=[.cells ((F.aT.cells++[PV.is (F.b.au.flatMap Ck.Sk.cells++(fF n).cells) (0+F.b.au.length+1),Rx.cz (F.b.ag++[Rx.bF.mk 0 0]),Di.dn F.b.ax,Di.aQ F.b.plan,.int .i64 (F.b.bad:Int),.int .i64 (F.b.good:Int)]++[Di.aQ F.b.bH,(.is (F.marks.flatMap gK) F.marks.length)]).map .p) 44,.cells [.p .nilSlice,.p (.int .i64 0),.p (.int .i64 0),.p (.int .i64 0),.p .nilSlice,.p .nilSlice,.p .nilSlice,.p .nilSlice,.p (.int .i64 0),.p (.int .i64 0),.p .nilSlice,.p .nilSlice] 44,.cells ((cg F.b).map .p) 41,.cells ((fF n).cells.map .p) 126,.dead,.dead,.dead]) rfl rfl rfl rfl rfl ai rfl rfl) ?_
   iterate 3 refine af ?_
   refine Kc (aa.jA rfl ai (by decide) rfl rfl) ?_
   refine af ?_
   refine Kc (Kl (.p (Di.aQ F.b.bH))) ?_
   refine Kc (aa.c6 (i:=7) (len:=0) (cs:=[]) rfl rfl rfl ai ai rfl ?_ (iW (xs:=(F.b.bH.flatMap Di.bG)) (n:=F.b.bH.length) (sz:=1) (AF.bD (c:=1) (fun _=>rfl) F.b.bH)) (vu Di.bG F.b.bH (fun _=>rfl)) ai (by decide) ?_) ?_
   ·rfl
   ·show(2*(0+F.b.bH.length)+192)*8<=281474976710656;omega
   refine af ?_
   refine Kc (aa.aF rfl ai (by decide) rfl rfl rfl) ?_
   refine Kc (aa.c6 (i:=8) (len:=0+F.b.bH.length) (cs:=[]++((F.b.bH.flatMap Di.bG)).map .p) (ys:=((Di.bG (F.b.ag.length:Int))).map .p) (n:=1) rfl rfl rfl ai ai rfl ?_ rfl rfl ai (by decide) ?_) ?_
   ·exact TE
   ·show(2*(0+F.b.bH.length+1)+192)*8<=281474976710656;omega
   refine aq.freeze 9 rfl (lZ ((F.b.bH.flatMap Di.bG)) ((Di.bG (F.b.ag.length:Int)))) ?_
   refine af ?_
   refine Kz (aa.store (H':=[.cells ((F.aT.cells++[PV.is (F.b.au.flatMap Ck.Sk.cells++(fF n).cells) (0+F.b.au.length+1),Rx.cz (F.b.ag++[Rx.bF.mk 0 0]),Di.dn F.b.ax,Di.aQ F.b.plan,.int .i64 (F.b.bad:Int),.int .i64 (F.b.good:Int)]++[PV.is (F.b.bH.flatMap Di.bG++Di.bG (F.b.ag.length:Int)) (0+F.b.bH.length+1),(.is (F.marks.flatMap gK) F.marks.length)]).map .p) 44,.cells [.p .nilSlice,.p (.int .i64 0),.p (.int .i64 0),.p (.int .i64 0),.p .nilSlice,.p .nilSlice,.p .nilSlice,.p .nilSlice,.p (.int .i64 0),.p (.int .i64 0),.p .nilSlice,.p .nilSlice] 44,.cells ((cg F.b).map .p) 41,.cells ((fF n).cells.map .p) 126,.dead,.dead,.dead,.dead,.dead,.dead]) rfl rfl rfl rfl rfl ai rfl rfl) ?_
   iterate 3 refine af ?_
   refine Kc (Kl (.p (.agg (F.aT.cells++[PV.is (F.b.au.flatMap Ck.Sk.cells++(fF n).cells) (0+F.b.au.length+1),Rx.cz (F.b.ag++[Rx.bF.mk 0 0]),Di.dn F.b.ax,Di.aQ F.b.plan,.int .i64 (F.b.bad:Int),.int .i64 (F.b.good:Int)]++[PV.is (F.b.bH.flatMap Di.bG++Di.bG (F.b.ag.length:Int)) (0+F.b.bH.length+1),(.is (F.marks.flatMap gK) F.marks.length)])))) ?_
   iterate 6 refine af ?_
   refine Fin.bq (xs:=[.agg ((F.aT.cells++[PV.is (F.b.au.flatMap Ck.Sk.cells++(fF n).cells) (0+F.b.au.length+1),Rx.cz (F.b.ag++[Rx.bF.mk 0 0]),Di.dn F.b.ax,Di.aQ F.b.plan,.int .i64 (F.b.bad:Int),.int .i64 (F.b.good:Int)]++[PV.is (F.b.bH.flatMap Di.bG++Di.bG (F.b.ag.length:Int)) (0+F.b.bH.length+1),(.is (F.marks.flatMap gK) F.marks.length)])),.str (sB (br (Vb.t .lF) [(F.b.au.length:Int)]++br (32::ic) [(F.b.ag.length:Int)])),.int .i64 0]) rfl ⟨_,_,rfl,⟨_,_,_,rfl,ai,rfl⟩,⟨_,_,rfl,rfl,⟨_,_,rfl,rfl,rfl⟩⟩⟩ rfl ?_
   rw[HM,Cd]
   unfold bp
   dsimp only
   rw[if_neg hr,if_neg (by rw[he];decide)]
   rfl
theorem K4(F:c7)(n:List Int)(hF:kK F)(hl:n.length=8)(hn:∀ x∈n,0<=x∧x<10000000000000):Pure Tryz.prog 57 [.agg (de F),.agg [.str (sB (Vb.t .lead)),Di.aQ n]] (.tuple [.agg (de (bp F .lead n).1),.str (sB (bp F .lead n).2.1),.int .i64 (bp F .lead n).2.2]):=by
 have en:=Rx.bM hF.b.cd
 have hnb:=hn
 have q0:0<=nn n 0∧nn n 0<10000000000000:=hn _ (Di.aV 0 (show 0<n.length by omega))
 have q1:0<=nn n 1∧nn n 1<10000000000000:=hn _ (Di.aV 0 (show 1<n.length by omega))
 have q2:0<=nn n 2∧nn n 2<10000000000000:=hn _ (Di.aV 0 (show 2<n.length by omega))
 have q3:0<=nn n 3∧nn n 3<10000000000000:=hn _ (Di.aV 0 (show 3<n.length by omega))
 have q4:0<=nn n 4∧nn n 4<10000000000000:=hn _ (Di.aV 0 (show 4<n.length by omega))
 have q5:0<=nn n 5∧nn n 5<10000000000000:=hn _ (Di.aV 0 (show 5<n.length by omega))
 have q6:0<=nn n 6∧nn n 6<10000000000000:=hn _ (Di.aV 0 (show 6<n.length by omega))
 have q7:0<=nn n 7∧nn n 7<10000000000000:=hn _ (Di.aV 0 (show 7<n.length by omega))
 refine Kf (N:=496) Tryz.func57 ?_
 iterate 2 refine af ?_
 refine Kc (aa.cP rfl rfl rfl) ?_
 iterate 6 refine af ?_
 refine aC.bN 7 mixed (by kernel_rfl) (by decide) ?_
 refine ah.cons 29 rfl rfl rfl (aa.fieldAddr rfl rfl ai rfl) (fun _=>(aa.fieldAddr rfl rfl ai rfl)) ?_
 refine ah.cons 30 rfl rfl rfl (aa.load rfl rfl ai rfl) (fun _=>(aa.load rfl rfl ai rfl)) ?_
 refine ah.cons 31 rfl rfl rfl (aa.fieldAddr rfl rfl ai rfl) (fun _=>(aa.fieldAddr rfl rfl ai rfl)) ?_
 refine ah.cons 32 rfl rfl rfl (Kl (.p (.agg (cg F.b)))) (fun _=>(Kl (.p (.agg (cg F.b))))) ?_
 refine ah.lay 8 rfl rfl rfl (aa.aI rfl ai rfl) ?_
 refine ah.cons 7 rfl rfl rfl (aa.assign rfl rfl) (fun _=>(aa.assign rfl rfl)) ?_
 refine ah.put rfl rfl (by decide) (aa.store rfl rfl rfl rfl rfl ai rfl rfl) rfl ?_
 refine ah.nil ?_
 iterate 4 refine af ?_
 refine Kc (Kl (.p (Rx.cz F.b.ag))) ?_
 iterate 12 refine af ?_
 refine Kc (aa.aK _ _ rfl rfl rfl) ?_
 iterate 2 refine af ?_
 refine aC.aU rfl ?_
 iterate 2 refine af ?_
 refine Kc (aa.aK _ _ rfl rfl rfl) ?_
 iterate 2 refine af ?_
 refine aC.aU rfl ?_
 iterate 2 refine af ?_
 refine Kc (aa.aK _ _ rfl rfl rfl) ?_
 iterate 2 refine af ?_
 refine aC.iC rfl ?_
 iterate 6 refine af ?_
 refine Ki (fun A6=> ?_) fun A6=> ?_
 ·have Ff:24<=F.b.ag.length:=by have h:=Ze A6;omega
  exact RG
 ·have Ff:¬ 24<=F.b.ag.length:=by have h:=Zf A6;omega
  iterate 2 refine af ?_
  refine aC.bN 26 mixed (by kernel_rfl) (by decide) ?_
  refine ah.cons 127 rfl rfl rfl (aa.fieldAddr rfl rfl ai rfl) (fun _=>(aa.fieldAddr rfl rfl ai rfl)) ?_
  refine ah.cons 128 rfl rfl rfl (Kl (.p (Ck.b8 F.b.au))) (fun _=>(Kl (.p (Ck.b8 F.b.au)))) ?_
  refine ah.cons 129 rfl rfl rfl (aa.move rfl rfl) (fun _=>(aa.move rfl rfl)) ?_
  refine ah.cons 130 rfl rfl rfl (aa.aB (g:=Di.gt 0 n) (k:=0) (Di.av _) rfl rfl rfl ai bB rfl (fun _=>rfl) (by decide) (by omega)) (fun _=>(aa.aB (g:=Di.gt 0 n) (k:=0) (Di.av _) rfl rfl rfl ai bB rfl (fun _=>rfl) (by decide) (by omega))) ?_
  refine ah.cons 131 rfl rfl rfl (Kl (.p (.int .i64 (nn n 0)))) (fun _=>(Kl (.p (.int .i64 (nn n 0))))) ?_
  refine ah.cons 132 rfl rfl rfl (aa.move rfl rfl) (fun _=>(aa.move rfl rfl)) ?_
  refine ah.cons 133 rfl rfl rfl (aa.aB (g:=Di.gt 0 n) (k:=1) (Di.av _) rfl rfl rfl ai bB rfl (fun _=>rfl) (by decide) (by omega)) (fun _=>(aa.aB (g:=Di.gt 0 n) (k:=1) (Di.av _) rfl rfl rfl ai bB rfl (fun _=>rfl) (by decide) (by omega))) ?_
  refine ah.cons 134 rfl rfl rfl (Kl (.p (.int .i64 (nn n 1)))) (fun _=>(Kl (.p (.int .i64 (nn n 1))))) ?_
  refine ah.cons 135 rfl rfl rfl (Kp (oI (nn n 1))) (fun _=>(Kp (oI (nn n 1)))) ?_
  refine ah.cons 136 rfl rfl rfl (aa.build rfl ai rfl rfl) (fun _=>(aa.build rfl ai rfl rfl)) ?_
  refine ah.cons 137 rfl rfl rfl (aa.move rfl rfl) (fun _=>(aa.move rfl rfl)) ?_
  refine ah.cons 138 rfl rfl rfl (aa.aB (g:=Di.gt 0 n) (k:=2) (Di.av _) rfl rfl rfl ai bB rfl (fun _=>rfl) (by decide) (by omega)) (fun _=>(aa.aB (g:=Di.gt 0 n) (k:=2) (Di.av _) rfl rfl rfl ai bB rfl (fun _=>rfl) (by decide) (by omega))) ?_
  refine ah.cons 139 rfl rfl rfl (Kl (.p (.int .i64 (nn n 2)))) (fun _=>(Kl (.p (.int .i64 (nn n 2))))) ?_
  refine ah.cons 140 rfl rfl rfl (aa.move rfl rfl) (fun _=>(aa.move rfl rfl)) ?_
  refine ah.cons 141 rfl rfl rfl (aa.aB (g:=Di.gt 0 n) (k:=3) (Di.av _) rfl rfl rfl ai bB rfl (fun _=>rfl) (by decide) (by omega)) (fun _=>(aa.aB (g:=Di.gt 0 n) (k:=3) (Di.av _) rfl rfl rfl ai bB rfl (fun _=>rfl) (by decide) (by omega))) ?_
  refine ah.cons 142 rfl rfl rfl (Kl (.p (.int .i64 (nn n 3)))) (fun _=>(Kl (.p (.int .i64 (nn n 3))))) ?_
  refine ah.cons 143 rfl rfl rfl (Kp (oI (nn n 3))) (fun _=>(Kp (oI (nn n 3)))) ?_
  refine ah.cons 144 rfl rfl rfl (aa.build rfl ai rfl rfl) (fun _=>(aa.build rfl ai rfl rfl)) ?_
  refine ah.cons 145 rfl rfl rfl (aa.aF rfl ai (by decide) rfl rfl rfl) (fun _=>(aa.aF rfl ai (by decide) rfl rfl rfl)) ?_
  refine ah.cons 146 rfl rfl rfl (Kp (FN F.b.au [bf (nn n 0) (nn n 1),bf (nn n 2) (nn n 3)] (Zz hF.b.sk (by decide)) (by show 2<=Ck.bK;decide))) (fun _=>(Kp (FN F.b.au [bf (nn n 0) (nn n 1),bf (nn n 2) (nn n 3)] (Zz hF.b.sk (by decide)) (by show 2<=Ck.bK;decide)))) ?_
  refine ah.cons 126 rfl rfl rfl (aa.move rfl rfl) (fun _=>(aa.move rfl rfl)) ?_
  refine ah.cons 147 rfl rfl rfl (aa.extract rfl rfl rfl) (fun _=>(aa.extract rfl rfl rfl)) ?_
  refine ah.cons 148 rfl rfl rfl (aa.extract rfl rfl rfl) (fun _=>(aa.extract rfl rfl rfl)) ?_
  refine ah.lay 12 rfl rfl rfl (aa.aI rfl ai rfl) ?_
  refine ah.put rfl rfl (by decide) (aa.store rfl rfl rfl rfl rfl ai rfl rfl) rfl ?_
  refine ah.cons 13 rfl rfl rfl (aa.assign rfl rfl) (fun _=>(aa.assign rfl rfl)) ?_
  refine ah.nil ?_
  iterate 7 refine af ?_
  refine Ki (fun XM=> ?_) fun XM=> ?_
  ·have he:(shr F.b.au [bf (nn n 0) (nn n 1),bf (nn n 2) (nn n 3)]).2≠0:=by simpa using XM
   iterate 2 refine af ?_
   refine Kc (Kl (.p (.agg (de F)))) ?_
   iterate 6 refine af ?_
   refine Fin.bq (xs:=[.agg (de F),.str (sB ([])),.int .i64 (shr F.b.au [bf (nn n 0) (nn n 1),bf (nn n 2) (nn n 3)]).2]) rfl ⟨_,_,rfl,⟨_,_,_,rfl,ai,rfl⟩,⟨_,_,rfl,rfl,⟨_,_,rfl,rfl,rfl⟩⟩⟩ rfl ?_
   unfold bp
   dsimp only
   rw[if_neg Ff,if_pos he]
  ·have he:¬ (shr F.b.au [bf (nn n 0) (nn n 1),bf (nn n 2) (nn n 3)]).2≠0:=by simpa using XM
   obtain⟨⟨i1,i2⟩,i3,i4⟩:=DP (V7.1 he)
   have Z0:=hF.b.ck
   have Xe:=hF.b.Nq _ (Di.aV 0 (show(nn n 0).toNat<F.b.bH.length by omega))
   have XC:=hF.b.Nq _ (Di.aV 0 (show(nn n 2).toNat<F.b.bH.length by omega))
   have Xe:0<=nn F.b.bH (nn n 0).toNat∧nn F.b.bH (nn n 0).toNat<(F.b.ag.length:Int):=Xe
   have XC:0<=nn F.b.bH (nn n 2).toNat∧nn F.b.bH (nn n 2).toNat<(F.b.ag.length:Int):=XC
   obtain⟨sb1,sb2⟩:=Ku F.b.au [bf (nn n 0) (nn n 1),bf (nn n 2) (nn n 3)]
   iterate 5 refine af ?_
   refine Kc (Kl (.p (Di.dn F.b.ax))) ?_
   iterate 3 refine af ?_
   refine Ki (fun hc8=> ?_) fun hc8=> ?_
   ·have h8:8<=F.b.ax.length:=by have h:=Ze hc8;omega
    iterate 2 refine af ?_
    refine Kc (Kl (.p (.agg (de F)))) ?_
    iterate 5 refine af ?_
    refine Fin.bq (xs:=[.agg (de F),.str (sB ([])),.int .i64 9]) rfl ⟨_,_,rfl,⟨_,_,_,rfl,ai,rfl⟩,⟨_,_,rfl,rfl,⟨_,_,rfl,rfl,rfl⟩⟩⟩ rfl ?_
    unfold bp
    dsimp only
    rw[if_neg Ff,if_neg he,if_pos h8]
   ·have h8:¬ 8<=F.b.ax.length:=by have h:=Zf hc8;omega
    obtain⟨uu,hfo⟩:=hF.b.EI
    have hpl:=ia hfo
    obtain⟨⟨n1,n4⟩,_,_,_⟩:=Di.fy hF.p
    iterate 2 refine af ?_
    refine aC.bz 16 2 [4,5] [([4],true),([],false),([2],false),([5,4],true),([],false),([],false),([],false),([],false),([],false),([],false),([],false),([],false),([],false),([],false),([],false),([],false)] mixed (by kernel_rfl) (by decide) (by kernel_rfl) rfl rfl ?_
    refine aX.lay (v0:= .row 6 _) 158 4 rfl rfl rfl rfl rfl rfl rfl rfl (fun _=>(aa.jA rfl ai (by decide) rfl rfl)) rfl rfl rfl ?_
    refine af ?_
    refine aX.cons 160 rfl rfl rfl (fun _=>(Kl (.p (Di.dn F.b.ax)))) rfl ?_
    refine aX.xD (v0:= .row 6 _) 161 5 4 rfl rfl rfl rfl rfl rfl rfl rfl rfl rfl (fun _=>(aa.c6 (i:=4) (len:=0) (cs:=[]) rfl rfl rfl ai ai rfl ?_ (iW (xs:=(F.b.ax.flatMap Di.b7.cells)) (n:=F.b.ax.length) (sz:=3) (AF.bD (c:=3) (fun _=>rfl) F.b.ax)) (vu Di.b7.cells F.b.ax (fun _=>rfl)) ai (by decide) ?_)) rfl rfl (congrArg (fun z=>ak.row z 81) (aP _ ((F.b.ax.flatMap Di.b7.cells)))) ?_
    ·rfl
    ·show(2*(0+F.b.ax.length)+192)*24<=281474976710656;omega
    refine af ?_
    refine aX.cons 163 rfl rfl rfl (fun _=>(aa.aB (g:=Di.gt 0 n) (k:=5) (Di.av _) rfl rfl rfl ai bB rfl (fun _=>rfl) (by decide) (by omega))) rfl ?_
    refine aX.cons 164 rfl rfl rfl (fun _=>(Kl (.p (.int .i64 (nn n 5))))) rfl ?_
    refine af ?_
    refine aX.cons 166 rfl rfl rfl (fun _=>(aa.aB (g:=Di.gt 0 n) (k:=6) (Di.av _) rfl rfl rfl ai bB rfl (fun _=>rfl) (by decide) (by omega))) rfl ?_
    refine aX.cons 167 rfl rfl rfl (fun _=>(Kl (.p (.int .i64 (nn n 6))))) rfl ?_
    refine af ?_
    refine aX.cons 169 rfl rfl rfl (fun _=>(aa.aB (g:=Di.gt 0 n) (k:=7) (Di.av _) rfl rfl rfl ai bB rfl (fun _=>rfl) (by decide) (by omega))) rfl ?_
    refine aX.cons 170 rfl rfl rfl (fun _=>(Kl (.p (.int .i64 (nn n 7))))) rfl ?_
    refine aX.cons 171 rfl rfl rfl (fun _=>(aa.build rfl ai rfl rfl)) rfl ?_
    refine aX.cons 172 rfl rfl rfl (fun _=>(aa.build rfl ai rfl rfl)) rfl ?_
    refine aX.cons 173 rfl rfl rfl (fun _=>(aa.aF rfl ai (by decide) rfl rfl rfl)) rfl ?_
    refine aX.nil ?_
    refine Kc (aa.c6 (i:=5) (len:=0+F.b.ax.length) (cs:=[]++((F.b.ax.flatMap Di.b7.cells)).map .p) (ys:=((Di.b7.mk (nn n 5) (nn n 6) (nn n 7)).cells).map .p) (n:=1) rfl rfl rfl ai ai rfl ?_ rfl rfl ai (by decide) ?_) ?_
    ·rw[FF,Zr,AF.bD (c:=3) (fun _=>rfl),tZ];rfl
    ·show(2*(0+F.b.ax.length+1)+192)*24<=281474976710656;omega
    iterate 3 refine af ?_
    refine aC.freeze 6 rfl (lZ (F.b.ax.flatMap Di.b7.cells) (Di.b7.mk (nn n 5) (nn n 6) (nn n 7)).cells) ?_
    refine aC.norm [0,1,2,3] [(2,.ptr 0 0),(3,_),(4,.ptr 1 0),(7,_),(8,.ptr 2 0),(9,_),(12,.ptr 3 0),(13,_),(14,.p (Di.dn (F.b.ax++[(Di.b7.mk (nn n 5) (nn n 6) (nn n 7))])))] [.cells ((At F.aT F.b (.is (F.marks.flatMap gK) F.marks.length)).map .p) 44,.cells [.p .nilSlice,.p (.int .i64 0),.p (.int .i64 0),.p (.int .i64 0),.p .nilSlice,.p .nilSlice,.p .nilSlice,.p .nilSlice,.p (.int .i64 0),.p (.int .i64 0),.p .nilSlice,.p .nilSlice] 44,.cells ((cg F.b).map .p) 41,.cells [.p (.int .i64 (shr F.b.au [bf (nn n 0) (nn n 1),bf (nn n 2) (nn n 3)]).1.1),.p (.int .i64 (shr F.b.au [bf (nn n 0) (nn n 1),bf (nn n 2) (nn n 3)]).1.2)] 24] rfl (Sub.cons rfl (Sub.cons rfl (Sub.cons rfl (Sub.cons rfl (Sub.cons rfl (Sub.cons rfl (Sub.cons rfl (Sub.cons rfl (Sub.cons (congrArg (fun z=>some (V.p z)) (KP F.b.ax (Di.b7.mk (nn n 5) (nn n 6) (nn n 7)))) Sub.nil))))))))) rfl ?_
    refine aC.bz 8 2 [4,5] [([4],true),([],false),([2],false),([5,4],true),([],false),([],false),([],false),([],false)] mixed (by kernel_rfl) (by decide) (by kernel_rfl) rfl rfl ?_
    refine aX.lay (v0:= .row 6 _) 175 4 rfl rfl rfl rfl rfl rfl rfl rfl (fun _=>(aa.jA rfl ai (by decide) rfl rfl)) rfl rfl rfl ?_
    refine af ?_
    refine aX.cons 177 rfl rfl rfl (fun _=>(Kl (.p (Di.aQ F.b.plan)))) rfl ?_
    refine aX.xD (v0:= .row 6 _) 178 5 4 rfl rfl rfl rfl rfl rfl rfl rfl rfl rfl (fun _=>(aa.c6 (i:=4) (len:=0) (cs:=[]) rfl rfl rfl ai ai rfl ?_ (iW (xs:=(F.b.plan.flatMap Di.bG)) (n:=F.b.plan.length) (sz:=1) (AF.bD (c:=1) (fun _=>rfl) F.b.plan)) (vu Di.bG F.b.plan (fun _=>rfl)) ai (by decide) ?_)) rfl rfl (congrArg (fun z=>ak.row z 3) (aP _ ((F.b.plan.flatMap Di.bG)))) ?_
    ·rfl
    ·show(2*(0+F.b.plan.length)+192)*8<=281474976710656;omega
    refine af ?_
    refine aX.cons 180 rfl rfl rfl (fun _=>(aa.aB (g:=Di.gt 0 n) (k:=4) (Di.av _) rfl rfl rfl ai bB rfl (fun _=>rfl) (by decide) (by omega))) rfl ?_
    refine aX.cons 181 rfl rfl rfl (fun _=>(Kl (.p (.int .i64 (nn n 4))))) rfl ?_
    refine aX.cons 182 rfl rfl rfl (fun _=>(aa.aF rfl ai (by decide) rfl rfl rfl)) rfl ?_
    refine aX.nil ?_
    refine Kc (aa.c6 (i:=5) (len:=0+F.b.plan.length) (cs:=[]++((F.b.plan.flatMap Di.bG)).map .p) (ys:=((Di.bG (nn n 4))).map .p) (n:=1) rfl rfl rfl ai ai rfl ?_ rfl rfl ai (by decide) ?_) ?_
    ·exact TE
    ·show(2*(0+F.b.plan.length+1)+192)*8<=281474976710656;omega
    iterate 3 refine af ?_
    refine aC.freeze 6 rfl (lZ (F.b.plan.flatMap Di.bG) (Di.bG (nn n 4))) ?_
    refine aC.norm [0,1,2,3] [(2,.ptr 0 0),(3,_),(4,.ptr 1 0),(7,_),(8,.ptr 2 0),(9,_),(12,.ptr 3 0),(13,_),(14,.p (Di.dn (F.b.ax++[(Di.b7.mk (nn n 5) (nn n 6) (nn n 7))]))),(15,.p (Di.aQ (F.b.plan++[nn n 4])))] [.cells ((At F.aT F.b (.is (F.marks.flatMap gK) F.marks.length)).map .p) 44,.cells [.p .nilSlice,.p (.int .i64 0),.p (.int .i64 0),.p (.int .i64 0),.p .nilSlice,.p .nilSlice,.p .nilSlice,.p .nilSlice,.p (.int .i64 0),.p (.int .i64 0),.p .nilSlice,.p .nilSlice] 44,.cells ((cg F.b).map .p) 41,.cells [.p (.int .i64 (shr F.b.au [bf (nn n 0) (nn n 1),bf (nn n 2) (nn n 3)]).1.1),.p (.int .i64 (shr F.b.au [bf (nn n 0) (nn n 1),bf (nn n 2) (nn n 3)]).1.2)] 24] rfl (Sub.cons rfl (Sub.cons rfl (Sub.cons rfl (Sub.cons rfl (Sub.cons rfl (Sub.cons rfl (Sub.cons rfl (Sub.cons rfl (Sub.cons rfl (Sub.cons (congrArg (fun z=>some (V.p z)) (Cd F.b.plan (nn n 4))) Sub.nil)))))))))) rfl ?_
    iterate 2 refine af ?_
    refine Kc (Kl (.p (Di.ew F.aT))) ?_
    iterate 2 refine af ?_
    refine Kc (Kp (Di.DC F.aT (F.b.ax++[(Di.b7.mk (nn n 5) (nn n 6) (nn n 7))]) (F.b.plan++[nn n 4]) (by unfold Di.bK;omega) (by rw[Zc];show _+1<=_;unfold Di.bK;omega) (by rw[Zc];show _+1<=_;unfold Di.bK;omega))) ?_
    iterate 12 refine af ?_
    refine Ki (fun Yu=> ?_) fun Yu=> ?_
    ·have hf:(Di.gf F.aT (F.b.ax++[(Di.b7.mk (nn n 5) (nn n 6) (nn n 7))]) (F.b.plan++[nn n 4])).2.2≠0:=by simpa using Yu
     iterate 2 refine af ?_
     refine Kc (Kl (.p (.agg (de F)))) ?_
     iterate 6 refine af ?_
     refine Fin.bq (xs:=[.agg (de F),.str (sB ([])),.int .i64 (Di.gf F.aT (F.b.ax++[(Di.b7.mk (nn n 5) (nn n 6) (nn n 7))]) (F.b.plan++[nn n 4])).2.2]) rfl ⟨_,_,rfl,⟨_,_,_,rfl,ai,rfl⟩,⟨_,_,rfl,rfl,⟨_,_,rfl,rfl,rfl⟩⟩⟩ rfl ?_
     unfold bp
     dsimp only
     rw[if_neg Ff,if_neg he,if_neg h8,if_pos hf]
    ·have hf:¬ (Di.gf F.aT (F.b.ax++[(Di.b7.mk (nn n 5) (nn n 6) (nn n 7))]) (F.b.plan++[nn n 4])).2.2≠0:=by simpa using Yu
     iterate 2 refine af ?_
     refine aC.az 19 mixed (by kernel_rfl) (by decide) ?_
     refine Kq (Kl (.p (.agg (cg F.b)))) ?_
     refine af ?_
     refine Kq (Kl (.p (Di.aQ F.b.bH))) ?_
     refine af ?_
     refine Kq (aa.aB (g:=Di.gt 0 n) (k:=0) (Di.av _) rfl rfl rfl ai bB rfl (fun _=>rfl) (by decide) (by omega)) ?_
     refine Kq (Kl (.p (.int .i64 (nn n 0)))) ?_
     refine Kq (aa.As (g:=Di.gt 0 F.b.bH) (Di.av _) rfl rfl rfl ai bB rfl (fun _=>rfl) (by decide) i1 (by omega)) ?_
     refine Kq (Kl (.p (.int .i64 (nn F.b.bH (nn n 0).toNat)))) ?_
     refine af ?_
     refine Kq (Kl (.p (Di.aQ F.b.bH))) ?_
     refine af ?_
     refine Kq (aa.aB (g:=Di.gt 0 n) (k:=2) (Di.av _) rfl rfl rfl ai bB rfl (fun _=>rfl) (by decide) (by omega)) ?_
     refine Kq (Kl (.p (.int .i64 (nn n 2)))) ?_
     refine Kq (aa.As (g:=Di.gt 0 F.b.bH) (Di.av _) rfl rfl rfl ai bB rfl (fun _=>rfl) (by decide) i3 (by omega)) ?_
     refine Kq (Kl (.p (.int .i64 (nn F.b.bH (nn n 2).toNat)))) ?_
     refine Kq (Kp (Ba (nn F.b.bH (nn n 0).toNat) (nn F.b.bH (nn n 2).toNat) (by omega) (by omega))) ?_
     refine Kq (aa.build rfl ai rfl rfl) ?_
     refine Kq (Kp (qK F.b ⟨(both (nn F.b.bH (nn n 0).toNat) (nn F.b.bH (nn n 2).toNat)),0⟩ (by omega))) ?_
     refine af ?_
     refine ay.nil ?_
     refine Kz (aa.store (H':=[.cells ((F.aT.cells++[Ck.b8 F.b.au,Rx.cz (F.b.ag++[Rx.bF.mk (both (nn F.b.bH (nn n 0).toNat) (nn F.b.bH (nn n 2).toNat)) 0]),Di.dn F.b.ax,Di.aQ F.b.plan,.int .i64 (F.b.bad:Int),.int .i64 (F.b.good:Int)]++[Di.aQ F.b.bH,(.is (F.marks.flatMap gK) F.marks.length)]).map .p) 44,.cells [.p .nilSlice,.p (.int .i64 0),.p (.int .i64 0),.p (.int .i64 0),.p .nilSlice,.p .nilSlice,.p .nilSlice,.p .nilSlice,.p (.int .i64 0),.p (.int .i64 0),.p .nilSlice,.p .nilSlice] 44,.cells ((cg F.b).map .p) 41,.cells [.p (.int .i64 (shr F.b.au [bf (nn n 0) (nn n 1),bf (nn n 2) (nn n 3)]).1.1),.p (.int .i64 (shr F.b.au [bf (nn n 0) (nn n 1),bf (nn n 2) (nn n 3)]).1.2)] 24]) rfl rfl rfl rfl rfl ai rfl rfl) ?_
     iterate 6 refine af ?_
     refine Kz (aa.store (H':=[.cells ((F.aT.cells++[Ck.b8 F.b.au,Rx.cz (F.b.ag++[Rx.bF.mk (both (nn F.b.bH (nn n 0).toNat) (nn F.b.bH (nn n 2).toNat)) 0]),Di.dn (F.b.ax++[(Di.b7.mk (nn n 5) (nn n 6) (nn n 7))]),Di.aQ F.b.plan,.int .i64 (F.b.bad:Int),.int .i64 (F.b.good:Int)]++[Di.aQ F.b.bH,(.is (F.marks.flatMap gK) F.marks.length)]).map .p) 44,.cells [.p .nilSlice,.p (.int .i64 0),.p (.int .i64 0),.p (.int .i64 0),.p .nilSlice,.p .nilSlice,.p .nilSlice,.p .nilSlice,.p (.int .i64 0),.p (.int .i64 0),.p .nilSlice,.p .nilSlice] 44,.cells ((cg F.b).map .p) 41,.cells [.p (.int .i64 (shr F.b.au [bf (nn n 0) (nn n 1),bf (nn n 2) (nn n 3)]).1.1),.p (.int .i64 (shr F.b.au [bf (nn n 0) (nn n 1),bf (nn n 2) (nn n 3)]).1.2)] 24]) rfl rfl rfl rfl rfl ai rfl rfl) ?_
     iterate 6 refine af ?_
     refine Kz (aa.store (H':=[.cells ((F.aT.cells++[Ck.b8 F.b.au,Rx.cz (F.b.ag++[Rx.bF.mk (both (nn F.b.bH (nn n 0).toNat) (nn F.b.bH (nn n 2).toNat)) 0]),Di.dn (F.b.ax++[(Di.b7.mk (nn n 5) (nn n 6) (nn n 7))]),Di.aQ (F.b.plan++[nn n 4]),.int .i64 (F.b.bad:Int),.int .i64 (F.b.good:Int)]++[Di.aQ F.b.bH,(.is (F.marks.flatMap gK) F.marks.length)]).map .p) 44,.cells [.p .nilSlice,.p (.int .i64 0),.p (.int .i64 0),.p (.int .i64 0),.p .nilSlice,.p .nilSlice,.p .nilSlice,.p .nilSlice,.p (.int .i64 0),.p (.int .i64 0),.p .nilSlice,.p .nilSlice] 44,.cells ((cg F.b).map .p) 41,.cells [.p (.int .i64 (shr F.b.au [bf (nn n 0) (nn n 1),bf (nn n 2) (nn n 3)]).1.1),.p (.int .i64 (shr F.b.au [bf (nn n 0) (nn n 1),bf (nn n 2) (nn n 3)]).1.2)] 24]) rfl rfl rfl rfl rfl ai rfl rfl) ?_
     iterate 2 refine af ?_
     refine aC.bz 12 0 [1] [([0],false),([],false),([],false),([],false),([],false),([3],false),([],false),([3],false),([],false),([],false),([],false),([1],true)] mixed (by kernel_rfl) (by decide) (by kernel_rfl) rfl rfl ?_
     refine aX.cons 222 rfl rfl rfl (fun _=>(Kl (.p (.agg (F.aT.cells++[Ck.b8 F.b.au,Rx.cz (F.b.ag++[Rx.bF.mk (both (nn F.b.bH (nn n 0).toNat) (nn F.b.bH (nn n 2).toNat)) 0]),Di.dn (F.b.ax++[(Di.b7.mk (nn n 5) (nn n 6) (nn n 7))]),Di.aQ (F.b.plan++[nn n 4]),.int .i64 (F.b.bad:Int),.int .i64 (F.b.good:Int)]++[Di.aQ F.b.bH,(.is (F.marks.flatMap gK) F.marks.length)]))))) rfl ?_
     refine af ?_
     refine aX.cons 224 rfl rfl rfl (fun _=>(aa.aF rfl ai (by decide) rfl rfl rfl)) rfl ?_
     refine aX.cons 225 rfl rfl rfl (fun _=>(Kp (dM ic [(F.b.ag.length:Int)] (by decide) (by show 1<=_;decide) (fun x hx=>by rw[Zw.1 hx];omega)))) rfl ?_
     refine af ?_
     refine aX.cons 227 rfl rfl rfl (fun _=>(Kl (.p (.int .i64 (shr F.b.au [bf (nn n 0) (nn n 1),bf (nn n 2) (nn n 3)]).1.1)))) rfl ?_
     refine af ?_
     refine aX.cons 229 rfl rfl rfl (fun _=>(Kl (.p (.int .i64 (shr F.b.au [bf (nn n 0) (nn n 1),bf (nn n 2) (nn n 3)]).1.2)))) rfl ?_
     refine aX.cons 230 rfl rfl rfl (fun _=>(aa.aF rfl ai (by decide) rfl rfl rfl)) rfl ?_
     refine aX.cons 231 rfl rfl rfl (fun _=>(Kp (dM (32::vh) [(shr F.b.au [bf (nn n 0) (nn n 1),bf (nn n 2) (nn n 3)]).1.1,(shr F.b.au [bf (nn n 0) (nn n 1),bf (nn n 2) (nn n 3)]).1.2] (by decide) (by show 2<=_;decide) (Bq sb1 sb2)))) rfl ?_
     refine aX.cons 232 rfl rfl rfl (fun _=>(aa.jE _ _ rfl rfl rfl ?_)) rfl ?_
     ·exact zy (by decide) (by decide) (by show 1<=100;decide) (by show 2<=100;decide) (nr (by omega)) (Bq sb1 sb2)
     refine aX.put 1 rfl rfl rfl rfl (fun _=>(aa.store rfl rfl rfl rfl rfl ai rfl rfl)) rfl rfl ?_
     refine aX.nil ?_
     iterate 4 refine af ?_
     refine Fin.bq (xs:=[.agg ((F.aT.cells++[Ck.b8 F.b.au,Rx.cz (F.b.ag++[Rx.bF.mk (both (nn F.b.bH (nn n 0).toNat) (nn F.b.bH (nn n 2).toNat)) 0]),Di.dn (F.b.ax++[(Di.b7.mk (nn n 5) (nn n 6) (nn n 7))]),Di.aQ (F.b.plan++[nn n 4]),.int .i64 (F.b.bad:Int),.int .i64 (F.b.good:Int)]++[Di.aQ F.b.bH,(.is (F.marks.flatMap gK) F.marks.length)])),.str (sB (br ic [(F.b.ag.length:Int)]++br (32::vh) [(shr F.b.au [bf (nn n 0) (nn n 1),bf (nn n 2) (nn n 3)]).1.1,(shr F.b.au [bf (nn n 0) (nn n 1),bf (nn n 2) (nn n 3)]).1.2])),.int .i64 0]) rfl ⟨_,_,rfl,⟨_,_,_,rfl,ai,rfl⟩,⟨_,_,rfl,rfl,⟨_,_,rfl,rfl,rfl⟩⟩⟩ rfl ?_
     unfold bp
     dsimp only
     rw[if_neg Ff,if_neg he,if_neg h8,if_neg hf]
     rfl
theorem Wz(F:c7)(v:Vb)(n:List Int)(hF:kK F)(hl:n.length=v.many)(hn:∀ x∈n,0<=x∧x<10000000000000):Pure Tryz.prog 57 [.agg (de F),.agg [.str (sB (Vb.t v)),Di.aQ n]] (.tuple [.agg (de (bp F v n).1),.str (sB (bp F v n).2.1),.int .i64 (bp F v n).2.2]):=by
 cases v
 ·exact Nf F n hF hl hn
 ·exact MW F n hF hl hn
 ·exact K4 F n hF hl hn
 ·exact DZ F n hF hl hn
 ·exact Od F n hF hl hn
 ·exact MB F n hF hl hn
 ·exact Ge F n hF hl hn
 ·exact I8 F n hF hl hn
 ·exact M5 F n hF hl hn
 ·exact Nc F n hF hl hn
 ·exact Mv F n hF hl hn
 ·exact Me F n hF hl hn
 ·exact Ko F n hF hl hn
theorem rN(F:c7)(s:Bs)(hF:kK F):Pure Tryz.prog 16 [.agg (de F),.str (sB s)] (.tuple [.agg (de (aO F s).1),.str (sB (aO F s).2.1),.int .i64 (aO F s).2.2]):=by
 refine Kf (N:=27) Tryz.func16 ?_
 iterate 2 refine af ?_
 refine Kc (aa.cP rfl rfl rfl) ?_
 iterate 8 refine af ?_
 refine Kc (aa.eF rfl rfl w9) ?_
 iterate 2 refine af ?_
 refine Ki (fun hc0=> ?_) fun hc0=> ?_
 ·have Qo:120<s.length:=by have h:=Ze hc0;rw[cF] at h;omega
  iterate 2 refine af ?_
  refine Kc (Kl (.p (.agg (de F)))) ?_
  iterate 5 refine af ?_
  refine Fin.bq (xs:=[.agg (de F),.str (sB ([])),.int .i64 3]) rfl ⟨_,_,rfl,⟨_,_,_,rfl,ai,rfl⟩,⟨_,_,rfl,rfl,⟨_,_,rfl,rfl,rfl⟩⟩⟩ rfl ?_
  unfold aO
  rw[if_pos Qo]
 ·have Qo:¬ 120<s.length:=by have h:=Zf hc0;rw[cF] at h;omega
  iterate 4 refine af ?_
  refine Kc (Kp (G6 s (by omega))) ?_
  iterate 13 refine af ?_
  refine Ki (fun bw=> ?_) fun bw=> ?_
  ·have hno:=(wR s).2 (by simpa using bw)
   iterate 2 refine af ?_
   refine Kc (Kl (.p (.agg (de F)))) ?_
   iterate 5 refine af ?_
   refine Fin.bq (xs:=[.agg (de F),.str (sB ([])),.int .i64 8]) rfl ⟨_,_,rfl,⟨_,_,_,rfl,ai,rfl⟩,⟨_,_,rfl,rfl,⟨_,_,rfl,rfl,rfl⟩⟩⟩ rfl ?_
   unfold aO
   rw[if_neg Qo,hno]
  ·obtain⟨v,n,eo,hp,hl,hn⟩:=VZ (s:=s) (by simpa using bw)
   rw[eo]
   iterate 3 refine af ?_
   refine Kc (Kl (.p (.agg (de F)))) ?_
   refine Kc (Kl (.p (.agg [.str (sB (Vb.t v)),Di.aQ n]))) ?_
   refine Kc (Kp (Wz F v n hF hl hn)) ?_
   iterate 8 refine af ?_
   refine Fin.bq (xs:=[.agg (de (bp F v n).1),.str (sB ((bp F v n).2.1)),.int .i64 (bp F v n).2.2]) rfl ⟨_,_,rfl,⟨_,_,_,rfl,ai,rfl⟩,⟨_,_,rfl,rfl,⟨_,_,rfl,rfl,rfl⟩⟩⟩ rfl ?_
   unfold aO
   rw[if_neg Qo,hp]
theorem O8(l:List Di.cJ):Uj (Di.lN l)=Di.lN l:=by
 unfold Di.lN
 show PV.is (nB _) _=_
 rw[xP (f:=Di.cJ.cells) (fun _=>rfl)]
theorem UW(p:Di.bX):Uj (.agg (p.cells++[.nilSlice,.nilSlice,.nilSlice,.nilSlice,.int .i64 0,.int .i64 0,.nilSlice,.nilSlice]))= .agg (de (newF p)):=by
 show PV.agg (Uj (Di.lN p.dies)::_)=_
 rw[O8]
 rfl
theorem zw(p:Di.bX)(hp:p.dies.length<=100):Pure Tryz.prog 14 [.agg p.cells] (.tuple [.agg (de (if Di.dY p then newF p else⟨⟨[],0,0,0⟩,xk,[]⟩)),.int .i64 (if Di.dY p then 0 else 1)]):=by
 refine Kf (N:=10) Tryz.func14 ?_
 iterate 2 refine af ?_
 refine Kc (aa.cP rfl rfl rfl) ?_
 iterate 6 refine af ?_
 refine Kc (Kl (.p (.agg p.cells))) ?_
 refine Kc (Kp (Di.tj p (Zz hp (by decide)))) ?_
 iterate 2 refine af ?_
 refine Ki (fun hc0=> ?_) fun hc0=> ?_
 ·have hv:Di.dY p=false:=by simpa using hc0
  iterate 3 refine af ?_
  refine aq.to (To.wkS 7 rfl) ?_
  iterate 4 refine af ?_
  refine Fin.bq (xs:=[.agg (de ⟨⟨[],0,0,0⟩,xk,[]⟩),.int .i64 1]) rfl ⟨_,_,rfl,⟨_,_,_,rfl,ai,rfl⟩,⟨_,_,rfl,rfl,rfl⟩⟩ rfl ?_
  rw[hv]
  rfl
 ·have hv:Di.dY p=true:=by simpa using hc0
  iterate 3 refine af ?_
  refine Kc (Kl (.p (.agg p.cells))) ?_
  refine Kc (aa.zp (v:= .p (.agg (p.cells++[.nilSlice,.nilSlice,.nilSlice,.nilSlice,.int .i64 0,.int .i64 0,.nilSlice,.nilSlice]))) rfl ai rfl rfl rfl) ?_
  refine aq.to (To.wkS (x:= .agg (p.cells++[.nilSlice,.nilSlice,.nilSlice,.nilSlice,.int .i64 0,.int .i64 0,.nilSlice,.nilSlice])) 9 rfl) ?_
  rw[UW p]
  iterate 4 refine af ?_
  refine Fin.bq (xs:=[.agg (de (newF p)),.int .i64 0]) rfl ⟨_,_,rfl,⟨_,_,_,rfl,ai,rfl⟩,⟨_,_,rfl,rfl,rfl⟩⟩ rfl ?_
  rw[hv]
  rfl
theorem OU(p:Di.bX)(s:Bs)(hp:p.dies.length<=100):Pure Tryz.prog 12 [.agg p.cells,.str (sB s)] (.tuple [.str (sB (ku p s).1),.int .i64 (ku p s).2]):=by
 refine Kf (N:=66) Tryz.func12 ?_
 iterate 2 refine af ?_
 refine Kc (aa.cP rfl rfl rfl) ?_
 iterate 7 refine af ?_
 refine Kc (aa.eF rfl rfl w9) ?_
 iterate 2 refine af ?_
 refine Ki (fun hc0=> ?_) fun hc0=> ?_
 ·have Lp:131072<s.length:=by have h:=Ze hc0;rw[cF] at h;omega
  iterate 6 refine af ?_
  refine Fin.bq (xs:=[.str (sB ([])),.int .i64 3]) rfl ⟨_,_,rfl,rfl,⟨_,_,rfl,rfl,rfl⟩⟩ rfl ?_
  rw[Mp Lp]
 ·have Lp:¬ 131072<s.length:=by have h:=Zf hc0;rw[cF] at h;omega
  iterate 5 refine af ?_
  refine Kc (aa.eF rfl rfl w9) ?_
  iterate 2 refine af ?_
  refine Kg 21 20 1 rfl (fun h=>(aa.move rfl rfl)) ?_
  refine Kg 22 20 1 rfl (fun h=>(aa.move rfl rfl)) ?_
  refine Kh 23 20 22 rfl rfl rfl rfl (fun h=>(aa.eF rfl rfl w9)) ?_
  refine Kh 24 20 23 rfl rfl rfl rfl (fun h=>(aa.ec (m:=((s.length - 1:Nat):Int)) rfl rfl rfl ((aA ?_).trans ?_))) ?_
  ·have h2:=Ze (eq_of_beq h);rw[cF] at*;omega
  ·have h2:=Ze (eq_of_beq h);rw[cF] at*;omega
  refine aq.g 25 20 rfl rfl rfl rfl rfl rfl rfl [(21,_),(24,_)] (fun h=>And.intro (.inr ⟨_,rfl,h⟩) (And.intro (.inr ⟨_,rfl,h⟩) (trivial))) (fun h=>(aa.vZ s (s.length - 1) (Di.gt 0 s (s.length - 1)) rfl rfl rfl ai (by have h2:=Ze (eq_of_beq h);rw[cF] at h2;rw[Zb (by omega),Di.av 0 _ (by omega)]))) ?_
  refine Kh 26 20 25 rfl rfl rfl rfl (fun h=>(aa.neq rfl rfl rfl)) ?_
  refine Kc (aa.gy rfl rfl rfl ?_) ?_
  ·exact fO
  refine af ?_
  refine Ki (fun bw=> ?_) fun bw=> ?_
  ·obtain⟨h0,h10⟩:=(SE bw).1 rfl
   iterate 6 refine af ?_
   refine Fin.bq (xs:=[.str (sB ([])),.int .i64 8]) rfl ⟨_,_,rfl,rfl,⟨_,_,rfl,rfl,rfl⟩⟩ rfl ?_
   rw[Lc Lp h0 h10]
  ·have RM:=(SE bw).2 rfl
   iterate 3 refine af ?_
   refine Kc (Kl (.p (.agg p.cells))) ?_
   refine Kc (Kp (zw p hp)) ?_
   iterate 2 refine af ?_
   skip
   iterate 11 refine af ?_
   refine Ki (fun eG=> ?_) fun eG=> ?_
   ·have hv:Di.dY p=false:=Se eG
    rw[hv]
    iterate 7 refine af ?_
    refine Fin.bq (xs:=[.str (sB ([])),.int .i64 1]) rfl ⟨_,_,rfl,rfl,⟨_,_,rfl,rfl,rfl⟩⟩ rfl ?_
    rw[Oa Lp RM hv]
   ·have hv:Di.dY p=true:=Se eG
    rw[if_pos hv,if_pos hv]
    iterate 4 refine af ?_
    refine Kc (Kp (EF s 10 (by omega))) ?_
    have hcl:=(ig 10 s []).2
    have hcp:=(ig 10 s []).1
    have hru:=VW Lp RM hv
    generalize hL:cU 10 [] s=L at hcl hcp hru ⊢
    iterate 12 refine af ?_
    refine aC.dw [4,5,6,8,65] (fun g=>[(10,.p (.int .i64 ((g:Nat):Int))),(9,.p (.str (sB (iV (newF p) L g))))]) (fun g=>[.cells (p.cells.map .p) 26,.cells ((de (cE (newF p) L g)).map .p) 44]) (fun g=>g+1<=L.length) (fun g=>L.length - g) 0 hcp (To.sub (Sub.tO (Sub.cons rfl (Sub.cons rfl Sub.nil)))) (fun i hg=> ?_)
    iterate 4 refine af ?_
    refine Kc (aa.add (m:=((i+1:Nat):Int)) rfl rfl rfl ((aA ?_).trans ?_)) ?_
    ·omega
    ·omega
    iterate 4 refine af ?_
    refine Ki (fun gQ=> ?_) fun gQ=> ?_
    ·have hk0:i+1<L.length:=by have h:((i+1:Nat):Int)<(L.length:Int):=Ze gQ;omega
     have hwf:=gu (L:=L) (zM hv) i
     have hlo:=zS (s:=Di.gt [] L i) hwf
     have hlr:(aO (cE (newF p) L i) (Di.gt [] L i)).2.1.length<=3000:=hlo.1
     have hle:0<=(aO (cE (newF p) L i) (Di.gt [] L i)).2.2∧(aO (cE (newF p) L i) (Di.gt [] L i)).2.2<=15:=hlo.2
     have hol:=oJ (L:=L) (zM hv) i
     iterate 4 refine af ?_
     refine aC.bN 14 mixed (by kernel_rfl) (by decide) ?_
     refine ah.cons 46 rfl rfl rfl (Kl (.p (.agg (de (cE (newF p) L i))))) (fun _=>(Kl (.p (.agg (de (cE (newF p) L i)))))) ?_
     refine ah.cons 47 rfl rfl rfl (aa.move rfl rfl) (fun _=>(aa.move rfl rfl)) ?_
     refine ah.cons 48 rfl rfl rfl (aa.move rfl rfl) (fun _=>(aa.move rfl rfl)) ?_
     refine ah.cons 49 rfl rfl rfl (aa.aB (g:=Di.gt [] L) (Di.av _) rfl rfl rfl ai nY rfl (fun _=>rfl) (by decide) (by omega)) (fun _=>(aa.aB (g:=Di.gt [] L) (Di.av _) rfl rfl rfl ai nY rfl (fun _=>rfl) (by decide) (by omega))) ?_
     refine ah.cons 50 rfl rfl rfl (Kl (.p (.str (sB (Di.gt [] L i))))) (fun _=>(Kl (.p (.str (sB (Di.gt [] L i)))))) ?_
     refine ah.cons 51 rfl rfl rfl (Kp (rN (cE (newF p) L i) (Di.gt [] L i) hwf)) (fun _=>(Kp (rN (cE (newF p) L i) (Di.gt [] L i) hwf))) ?_
     refine ah.cons 45 rfl rfl rfl (aa.move rfl rfl) (fun _=>(aa.move rfl rfl)) ?_
     refine ah.cons 52 rfl rfl rfl (aa.extract rfl rfl rfl) (fun _=>(aa.extract rfl rfl rfl)) ?_
     refine ah.cons 53 rfl rfl rfl (aa.extract rfl rfl rfl) (fun _=>(aa.extract rfl rfl rfl)) ?_
     refine ah.cons 54 rfl rfl rfl (aa.extract rfl rfl rfl) (fun _=>(aa.extract rfl rfl rfl)) ?_
     refine ah.lay 11 rfl rfl rfl (aa.aI rfl ai rfl) ?_
     refine ah.put rfl rfl (by decide) (aa.store rfl rfl rfl rfl rfl ai rfl rfl) rfl ?_
     refine ah.cons 12 rfl rfl rfl (aa.assign rfl rfl) (fun _=>(aa.assign rfl rfl)) ?_
     refine ah.cons 13 rfl rfl rfl (aa.assign rfl rfl) (fun _=>(aa.assign rfl rfl)) ?_
     refine ah.nil ?_
     iterate 7 refine af ?_
     refine Ki (fun o3=> ?_) fun o3=> ?_
     ·have he:(aO (cE (newF p) L i) (Di.gt [] L i)).2.2≠0:=by simpa using o3
      have hil:=lT (n:=(aO (cE (newF p) L i) (Di.gt [] L i)).2.2) (by omega) (by omega)
      iterate 2 refine af ?_
      refine Kc (Kp (Ax (aO (cE (newF p) L i) (Di.gt [] L i)).2.2 (by omega) (by omega))) ?_
      refine Kc (aa.jE _ _ rfl rfl rfl ?_) ?_
      ·have:=lT (n:=(aO (cE (newF p) L i) (Di.gt [] L i)).2.2) (by omega) (by omega);show 6+_<_;omega
      iterate 4 refine af ?_
      refine Kc (Kl (.p (.agg (de (aO (cE (newF p) L i) (Di.gt [] L i)).1)))) ?_
      iterate 5 refine af ?_
      refine Kc (aa.jE _ _ rfl rfl rfl ?_) ?_
      ·(try simp only[Zc,Zp,CP]);omega
      refine Kc (aa.jE _ _ rfl rfl rfl ?_) ?_
      ·(try simp only[Zc,Zp,CP]);omega
      iterate 4 refine af ?_
      refine Kc (aa.add (m:=((i+1:Nat):Int)) rfl rfl rfl ((aA ?_).trans ?_)) ?_
      ·omega
      ·omega
      iterate 2 refine af ?_
      refine⟨i+1,?_,?_,?_⟩
      ·exact hk0
      ·omega
      have eo:iV (newF p) L (i+1)=iV (newF p) L i++([101,114,114,111,114,32]++Lib.itoa (aO (cE (newF p) L i) (Di.gt [] L i)).2.2)++[10]:=by rw[iV,Uh he,ZM];rfl
      rw[eo]
      exact To.done [0,1] rfl KS rfl
     ·have he:(aO (cE (newF p) L i) (Di.gt [] L i)).2.2=0:=by simpa using o3
      iterate 3 refine af ?_
      refine Kc (Kl (.p (.agg (de (aO (cE (newF p) L i) (Di.gt [] L i)).1)))) ?_
      iterate 5 refine af ?_
      refine Kc (aa.jE _ _ rfl rfl rfl ?_) ?_
      ·(try simp only[Zc,Zp,CP]);omega
      refine Kc (aa.jE _ _ rfl rfl rfl ?_) ?_
      ·(try simp only[Zc,Zp,CP]);omega
      iterate 4 refine af ?_
      refine Kc (aa.add (m:=((i+1:Nat):Int)) rfl rfl rfl ((aA ?_).trans ?_)) ?_
      ·omega
      ·omega
      iterate 2 refine af ?_
      refine⟨i+1,?_,?_,?_⟩
      ·exact hk0
      ·omega
      have eo:iV (newF p) L (i+1)=iV (newF p) L i++(aO (cE (newF p) L i) (Di.gt [] L i)).2.1++[10]:=by rw[iV,he,VE,ZM]
      rw[eo]
      exact To.done [0,1] rfl KS rfl
    ·have hi2:i=L.length - 1:=by have h:¬ ((i+1:Nat):Int)<(L.length:Int):=Zf gQ;omega
     subst hi2
     refine aC.exit ?_
     iterate 7 refine af ?_
     refine Fin.bq (xs:=[.str (sB (iV (newF p) L (L.length - 1))),.int .i64 0]) rfl ⟨_,_,rfl,rfl,⟨_,_,rfl,rfl,rfl⟩⟩ rfl ?_
     rw[hru]
theorem LJ(l:List Int)(hl:l.length<=1000000):Pure Tryz.prog 37 [Di.aQ l,Di.aQ l] (.bool true):=by
 refine Kf (N:=26) Tryz.func37 ?_
 iterate 13 refine af ?_
 refine Ki (fun hc0=> ?_) fun hc0=> ?_
 ·simp at hc0
 ·iterate 7 refine af ?_
  refine aC.dw [0,1] (fun g=>[(5,.p (.int .i64 ((g:Nat):Int)))]) (fun g=>[]) (fun g=>g<=l.length) (fun g=>l.length - g) 0 (Zn _) (To.sub (Sub.tO (Sub.cons rfl (Sub.nil)))) (fun i hg=> ?_)
  iterate 8 refine af ?_
  refine Ki (fun bw=> ?_) fun bw=> ?_
  ·have hk0:i<l.length:=by have h:(i:Int)<(l.length:Int):=Ze bw;omega
   iterate 4 refine af ?_
   refine aC.az 9 mixed (by kernel_rfl) (by decide) ?_
   iterate 2 refine af ?_
   refine Kq (aa.aB (g:=Di.gt 0 l) (Di.av _) rfl rfl rfl ai bB rfl (fun _=>rfl) (by decide) hk0) ?_
   refine Kq (Kl (.p (.int .i64 (Di.gt 0 l i)))) ?_
   iterate 2 refine af ?_
   refine Kq (aa.aB (g:=Di.gt 0 l) (Di.av _) rfl rfl rfl ai bB rfl (fun _=>rfl) (by decide) hk0) ?_
   refine Kq (Kl (.p (.int .i64 (Di.gt 0 l i)))) ?_
   refine Kq (aa.neq rfl rfl rfl) ?_
   refine ay.nil ?_
   refine af ?_
   refine Ki (fun eG=> ?_) fun eG=> ?_
   ·simp at eG
   ·exact IB
  ·have hi2:i=l.length:=by have h:¬ ((i:Int)<(l.length:Int)):=Zf bw;omega
   subst hi2
   refine aC.exit ?_
   iterate 5 refine af ?_
   exact Fq
theorem IL(b:bU)(h1:b.au.length<=1000)(h2:b.ag.length<=1000)(h3:b.ax.length<=1000)(h4:b.plan.length<=1000):Pure Tryz.prog 17 [.agg (cg b),.agg (cg b)] (.bool true):=by
 refine Kf (N:=109) Tryz.func17 ?_
 iterate 2 refine af ?_
 refine Kc (aa.cP rfl rfl rfl) ?_
 refine Kc (aa.cP rfl rfl rfl) ?_
 iterate 6 refine af ?_
 refine Kc (Kl (.p (Ck.b8 b.au))) ?_
 iterate 2 refine af ?_
 refine Kc (Kl (.p (Ck.b8 b.au))) ?_
 iterate 3 refine af ?_
 refine Kg 16 15 2 rfl (fun h=>(aa.fieldAddr rfl rfl ai rfl)) ?_
 refine Kh 17 15 16 rfl rfl rfl rfl (fun h=>(Kl (.p (Rx.cz b.ag)))) ?_
 refine Kh 18 15 17 rfl rfl rfl rfl (fun h=>(aa.bJ rfl rfl ai rfl)) ?_
 refine Kg 19 15 3 rfl (fun h=>(aa.fieldAddr rfl rfl ai rfl)) ?_
 refine Kh 20 15 19 rfl rfl rfl rfl (fun h=>(Kl (.p (Rx.cz b.ag)))) ?_
 refine Kh 21 15 20 rfl rfl rfl rfl (fun h=>(aa.bJ rfl rfl ai rfl)) ?_
 refine aq.g 22 15 rfl rfl rfl rfl rfl rfl rfl [(18,_),(21,_)] (fun h=>And.intro (.inr ⟨_,rfl,h⟩) (And.intro (.inr ⟨_,rfl,h⟩) (trivial))) (fun h=>(aa.neq rfl rfl rfl)) ?_
 refine Kc (aa.lE rfl rfl rfl ?_) ?_
 ·exact fO
 refine af ?_
 refine Kg 25 24 2 rfl (fun h=>(aa.fieldAddr rfl rfl ai rfl)) ?_
 refine Kh 26 24 25 rfl rfl rfl rfl (fun h=>(aa.load rfl rfl ai rfl)) ?_
 refine Kh 27 24 26 rfl rfl rfl rfl (fun h=>(aa.bJ rfl rfl ai rfl)) ?_
 refine Kg 28 24 3 rfl (fun h=>(aa.fieldAddr rfl rfl ai rfl)) ?_
 refine Kh 29 24 28 rfl rfl rfl rfl (fun h=>(aa.load rfl rfl ai rfl)) ?_
 refine Kh 30 24 29 rfl rfl rfl rfl (fun h=>(aa.bJ rfl rfl ai rfl)) ?_
 refine aq.g 31 24 rfl rfl rfl rfl rfl rfl rfl [(27,_),(30,_)] (fun h=>And.intro (.inr ⟨_,rfl,h⟩) (And.intro (.inr ⟨_,rfl,h⟩) (trivial))) (fun h=>(aa.neq rfl rfl rfl)) ?_
 refine Kc (aa.lE rfl rfl rfl ?_) ?_
 ·exact fO
 refine af ?_
 refine Kg 34 33 2 rfl (fun h=>(aa.fieldAddr rfl rfl ai rfl)) ?_
 refine Kh 35 33 34 rfl rfl rfl rfl (fun h=>(Kl (.p (Di.aQ b.plan)))) ?_
 refine Kg 36 33 3 rfl (fun h=>(aa.fieldAddr rfl rfl ai rfl)) ?_
 refine Kh 37 33 36 rfl rfl rfl rfl (fun h=>(Kl (.p (Di.aQ b.plan)))) ?_
 refine aq.g 38 33 rfl rfl rfl rfl rfl rfl rfl [(35,_),(37,_)] (fun h=>And.intro (.inr ⟨_,rfl,h⟩) (And.intro (.inr ⟨_,rfl,h⟩) (trivial))) (fun h=>(Kp (LJ b.plan (by omega)))) ?_
 refine Kh 39 33 38 rfl rfl rfl rfl (fun h=>(aa.fI rfl rfl)) ?_
 refine Kc (aa.lE rfl rfl rfl ?_) ?_
 ·exact fO
 refine af ?_
 refine Kg 42 41 2 rfl (fun h=>(aa.fieldAddr rfl rfl ai rfl)) ?_
 refine Kh 43 41 42 rfl rfl rfl rfl (fun h=>(Kl (.p (.int .i64 (b.bad:Int))))) ?_
 refine Kg 44 41 3 rfl (fun h=>(aa.fieldAddr rfl rfl ai rfl)) ?_
 refine Kh 45 41 44 rfl rfl rfl rfl (fun h=>(Kl (.p (.int .i64 (b.bad:Int))))) ?_
 refine aq.g 46 41 rfl rfl rfl rfl rfl rfl rfl [(43,_),(45,_)] (fun h=>And.intro (.inr ⟨_,rfl,h⟩) (And.intro (.inr ⟨_,rfl,h⟩) (trivial))) (fun h=>(aa.neq rfl rfl rfl)) ?_
 refine Kc (aa.lE rfl rfl rfl ?_) ?_
 ·exact fO
 refine af ?_
 refine Kg 49 48 2 rfl (fun h=>(aa.fieldAddr rfl rfl ai rfl)) ?_
 refine Kh 50 48 49 rfl rfl rfl rfl (fun h=>(Kl (.p (.int .i64 (b.good:Int))))) ?_
 refine Kg 51 48 3 rfl (fun h=>(aa.fieldAddr rfl rfl ai rfl)) ?_
 refine Kh 52 48 51 rfl rfl rfl rfl (fun h=>(Kl (.p (.int .i64 (b.good:Int))))) ?_
 refine aq.g 53 48 rfl rfl rfl rfl rfl rfl rfl [(50,_),(52,_)] (fun h=>And.intro (.inr ⟨_,rfl,h⟩) (And.intro (.inr ⟨_,rfl,h⟩) (trivial))) (fun h=>(aa.neq rfl rfl rfl)) ?_
 refine Kc (aa.lE rfl rfl rfl ?_) ?_
 ·exact fO
 refine af ?_
 refine Ki (fun hc0=> ?_) fun hc0=> ?_
 ·simp at hc0
 ·iterate 7 refine af ?_
  refine aC.dw [2,3,6,7,73,74,75,76,77,78,79,80,81,82,83,84,85,86,87,88,89,90,91,92,93,94,95,96,97,98,99,100,101,102,103,104,105,106,107,108] (fun g=>[(5,.p (.int .i64 ((g:Nat):Int)))]) (fun g=>[.cells ((cg b).map .p) 41,.cells ((cg b).map .p) 41]) (fun g=>g<=b.au.length) (fun g=>b.au.length - g) 0 (Zn _) (To.sub (Sub.tO (Sub.cons rfl (Sub.nil)))) (fun i hg=> ?_)
  iterate 5 refine af ?_
  refine Kc (Kl (.p (Ck.b8 b.au))) ?_
  iterate 3 refine af ?_
  refine Ki (fun bw=> ?_) fun bw=> ?_
  ·have hk0:i<b.au.length:=by have h:(i:Int)<(b.au.length:Int):=Ze bw;omega
   iterate 4 refine af ?_
   refine aC.az 11 mixed (by kernel_rfl) (by decide) ?_
   refine af ?_
   refine Kq (Kl (.p (Ck.b8 b.au))) ?_
   refine af ?_
   refine Kq (aa.aB (g:=(Di.gt (⟨⟨0,0⟩,⟨0,0⟩,⟨0,0⟩⟩:Ck.Sk) b.au)) (Di.av _) rfl rfl rfl ai CA rfl (fun _=>rfl) (by decide) hk0) ?_
   refine Kq (Kl (.p (.agg (Di.gt (⟨⟨0,0⟩,⟨0,0⟩,⟨0,0⟩⟩:Ck.Sk) b.au i).cells))) ?_
   refine af ?_
   refine Kq (Kl (.p (Ck.b8 b.au))) ?_
   refine af ?_
   refine Kq (aa.aB (g:=(Di.gt (⟨⟨0,0⟩,⟨0,0⟩,⟨0,0⟩⟩:Ck.Sk) b.au)) (Di.av _) rfl rfl rfl ai CA rfl (fun _=>rfl) (by decide) hk0) ?_
   refine Kq (Kl (.p (.agg (Di.gt (⟨⟨0,0⟩,⟨0,0⟩,⟨0,0⟩⟩:Ck.Sk) b.au i).cells))) ?_
   refine Kq (aa.Mf (d:=8) rfl (.inr rfl) rfl rfl (by decide) aaj ai rfl abi rfl) ?_
   refine ay.nil ?_
   refine af ?_
   refine Ki (fun eG=> ?_) fun eG=> ?_
   ·rw[if_neg (by decide)] at eG
    simp at eG
   ·exact IB
  ·have hi2:i=b.au.length:=by have h:¬ ((i:Int)<(b.au.length:Int)):=Zf bw;omega
   subst hi2
   refine aC.exit ?_
   iterate 6 refine af ?_
   refine aC.dw [2,3,7,91,92,93,94,95,96,97,98,99,100,101,102,103,104,105,106,107,108] (fun g=>[(6,.p (.int .i64 ((g:Nat):Int)))]) (fun g=>[.cells ((cg b).map .p) 41,.cells ((cg b).map .p) 41]) (fun g=>g<=b.ag.length) (fun g=>b.ag.length - g) 0 (Zn _) (To.sub (Sub.tO (Sub.cons rfl (Sub.nil)))) (fun i hg=> ?_)
   iterate 5 refine af ?_
   refine Kc (Kl (.p (Rx.cz b.ag))) ?_
   iterate 3 refine af ?_
   refine Ki (fun gQ=> ?_) fun gQ=> ?_
   ·have hk0:i<b.ag.length:=by have h:(i:Int)<(b.ag.length:Int):=Ze gQ;omega
    iterate 4 refine af ?_
    refine aC.az 11 mixed (by kernel_rfl) (by decide) ?_
    refine af ?_
    refine Kq (Kl (.p (Rx.cz b.ag))) ?_
    refine af ?_
    refine Kq (aa.aB (g:=(Di.gt (⟨0,0⟩:Rx.bF) b.ag)) (Di.av _) rfl rfl rfl ai we rfl (fun _=>rfl) (by decide) hk0) ?_
    refine Kq (Kl (.p (.agg (Di.gt (⟨0,0⟩:Rx.bF) b.ag i).cells))) ?_
    refine af ?_
    refine Kq (Kl (.p (Rx.cz b.ag))) ?_
    refine af ?_
    refine Kq (aa.aB (g:=(Di.gt (⟨0,0⟩:Rx.bF) b.ag)) (Di.av _) rfl rfl rfl ai we rfl (fun _=>rfl) (by decide) hk0) ?_
    refine Kq (Kl (.p (.agg (Di.gt (⟨0,0⟩:Rx.bF) b.ag i).cells))) ?_
    refine Kq (aa.Mf (d:=8) rfl (.inr rfl) rfl rfl (by decide) aaX ai rfl Y3 rfl) ?_
    refine ay.nil ?_
    refine af ?_
    refine Ki (fun o3=> ?_) fun o3=> ?_
    ·rw[if_neg (by decide)] at o3
     simp at o3
    ·exact IB
   ·have hi2:i=b.ag.length:=by have h:¬ ((i:Int)<(b.ag.length:Int)):=Zf gQ;omega
    subst hi2
    refine aC.exit ?_
    iterate 6 refine af ?_
    refine aC.dw [2,3] (fun g=>[(7,.p (.int .i64 ((g:Nat):Int)))]) (fun g=>[.cells ((cg b).map .p) 41,.cells ((cg b).map .p) 41]) (fun g=>g<=b.ax.length) (fun g=>b.ax.length - g) 0 (Zn _) (To.sub (Sub.tO (Sub.cons rfl (Sub.nil)))) (fun i hg=> ?_)
    iterate 5 refine af ?_
    refine Kc (Kl (.p (Di.dn b.ax))) ?_
    iterate 3 refine af ?_
    refine Ki (fun tN=> ?_) fun tN=> ?_
    ·have hk0:i<b.ax.length:=by have h:(i:Int)<(b.ax.length:Int):=Ze tN;omega
     iterate 4 refine af ?_
     refine aC.az 11 mixed (by kernel_rfl) (by decide) ?_
     refine af ?_
     refine Kq (Kl (.p (Di.dn b.ax))) ?_
     refine af ?_
     refine Kq (aa.aB (g:=(Di.gt Di.b7.d b.ax)) (Di.av _) rfl rfl rfl ai xg rfl (fun _=>rfl) (by decide) hk0) ?_
     refine Kq (Kl (.p (.agg (Di.gt Di.b7.d b.ax i).cells))) ?_
     refine af ?_
     refine Kq (Kl (.p (Di.dn b.ax))) ?_
     refine af ?_
     refine Kq (aa.aB (g:=(Di.gt Di.b7.d b.ax)) (Di.av _) rfl rfl rfl ai xg rfl (fun _=>rfl) (by decide) hk0) ?_
     refine Kq (Kl (.p (.agg (Di.gt Di.b7.d b.ax i).cells))) ?_
     refine Kq (aa.Mf (d:=8) rfl (.inr rfl) rfl rfl (by decide) acH ai rfl ab8 rfl) ?_
     refine ay.nil ?_
     refine af ?_
     refine Ki (fun A6=> ?_) fun A6=> ?_
     ·rw[if_neg (by decide)] at A6
      simp at A6
     ·exact IB
    ·have hi2:i=b.ax.length:=by have h:¬ ((i:Int)<(b.ax.length:Int)):=Zf tN;omega
     subst hi2
     refine aC.exit ?_
     iterate 5 refine af ?_
     exact Fq
end Go.Proofs.YtchiinjiflgepaaGreatDoor
end
