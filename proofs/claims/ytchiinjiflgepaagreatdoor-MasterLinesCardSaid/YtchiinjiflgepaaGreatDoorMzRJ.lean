/-
 Chapter 15, the program: the books of a floor that lies among own blocks.
 Chapter 15, the program: a cell, a floor behind it, and a cell at the end.
 Chapter 15: what the books always are: enough cards, and complaints that some batch explains. No program in sight.
 The helpers of the laws of chapter 15: which lines are looked at; a floor that has done some lines.
 The law MasterLines.
-/
import Derived.Test.YtchiinjiflgepaaGreatDoorMzRI
import Derived.Test.YtchiinjiflgepaaGreatDoorMzRG
import Derived.Test.YtchiinjiflgepaaGreatDoorFaRF
import Derived.Test.YtchiinjiflgepaaGreatDoorMzRH
import Derived.Test.YtchiinjiflgepaaGreatDoorMzRP
import Derived.Test.YtchiinjiflgepaaGreatDoorMzRF
import Derived.Test.YtchiinjiflgepaaGreatDoorMzRN
import Derived.Test.YtchiinjiflgepaaGreatDoorMzRZ
theorem Jm{A:Prop}(h:A:=by
 iterate 2 refine af ?_
 refine Kc (Kp (wQ)) ?_
 exact mc):A:=h
set_option linter.unusedSimpArgs false
set_option linter.unusedVariables false
section
set_option maxRecDepth 100000
namespace Go.Proofs.YtchiinjiflgepaaGreatDoor
open Go.AF
section
variable {N κ:Nat} {T T2:Tm} {H:List ak} {F:c7} {z:Bool}
theorem qF{f:V->Option PV}:∀{a b:List V} {x y:List PV},c9 f a=some x->c9 f b=some y->c9 f (a++b)=some (x++y)
 | [],b,x,y,h1,h2=>by cases h1;exact h2
 | v::a,b,x,y,h1,h2=>by
  unfold c9 at h1
  split at h1
  ·rename_i x1 xs e1 e2
   cases h1
   show c9 f (v::(a++b))=_
   unfold c9
   rw[e1,qF e2 h2]
   rfl
  ·cases h1
theorem L5{k:Nat}{q:P5}{b:bU}(h:kM H q b):c9 (ct H (k+1)) (tE q b)=some (G0 b):=by
 obtain⟨h1,h2,h3,h4,h5⟩:=h
 simp only[tE,dR,c9,QN h1,OD h2,OZ h3,GJ h4,GJ h5,Kb]
 rfl
theorem Ug{k:Nat}{qs:List P5}{bs:List bU}(h:rL H qs bs):c9 (ct H (k+1)) (qu qs bs)=some (bs.flatMap G0):=by
 induction h with
 | nil=>rfl
 | cons h _ ih=>rw[ZJ];exact qF (L5 h) ih
theorem aav{c im:Nat}{q:P5}{qs:List P5}(h:iJ c F z H q im qs):∃ t,ct H 4 (.ptr c 0)=some (.ip (G0 F.b++t) 0):=by
 have e:∃ y,ct H 3 (tB im F z)=some y:=by
  cases z with
  | true=>exact⟨_,rfl⟩
  | false=>
   have hm:b6 H[im]? =some (qu qs F.marks):=by rw[h.mb];rfl
   have hk:c9 (ct H 2) (qu qs F.marks)=_:=Ug (k:=1) h.ats
   refine⟨.is (F.marks.flatMap G0) F.marks.length,?_⟩
   show ct H 3 (.row im F.marks.length)=_
   unfold ct
   rw[hm]
   show(c9 (ct H 2) (qu qs F.marks)).map (PV.is · F.marks.length)=_
   rw[hk]
   rfl
 obtain⟨y,hy⟩:=e
 refine⟨F.aT.cells++[y,.bool true],?_⟩
 have hf:b6 H[c]? =some (tE q F.b++(F.aT.cells.map .p++[tB im F z,.p (.bool true)])):=by
  rw[h.fl]
  show some _=some _
  rfl
 have hk:c9 (ct H 3) (tE q F.b++(F.aT.cells.map .p++[tB im F z,.p (.bool true)]))=some (G0 F.b++(F.aT.cells++[y,.bool true])):=
  qF (L5 h.a5) (qF (vR H 3 F.aT.cells) (by simp only[c9,hy,Kb]))
 unfold ct
 rw[hf]
 show(c9 (ct H 3) _).map (PV.ip · 0)=_
 rw[hk]
 rfl
theorem VD{o:Oper}{c im:Nat}{q:P5}{qs:List P5}(hF:kK F)(h:iJ c F z H q im qs){f:Operand}{ys:Array Operand}{ts:Array TypeId}{fv:V}{vs:List V}(ho:o.op= .call {callee:= .value f,args:=ys,argTypes:=ts})(hf:ev T f=some fv)
    (hxs:lG T ys.toList=some vs)(hc:callee vs fv=some (18,[.ptr c 0]))(hg:an Tryz.prog 18=true):aa Tryz.prog N o T H (.p (.agg (cg F.b))) H:=by
 obtain⟨t,ht⟩:=aav h
 have hb:=hF.b
 obtain⟨u,hu⟩:=hb.EI
 have k1:=hb.sk
 have k2:=Rx.bM hb.cd
 have k3:=hb.dr
 have k4:=ia hu
 have k5:=hb.ck
 refine aa.IC 4 2 (Jh F.b t (by omega) (by omega) (by omega) (by omega) (by omega)) (by simp only[KX,ED,jK,uq];rfl) (by
  simp only[P1,XH,dD,dj,dI,bL,kT (fz (f:=Ck.Sk.cells) (fun _=>rfl) _),kT (fz (f:=Rx.bF.cells) (fun _=>rfl) _),kT (fz (f:=Di.b7.cells) (fun _=>rfl) _),kT (fz (f:=Di.bG) (fun _=>rfl) _)]
  simp only[XA,ED,jK,uq]
  rfl) ?_ ho hf hxs hc (by simp only[c9,ht]) hg
 generalize hH:([.cells (ED 4 3 5 6 F.b) 41,.dead,.dead,dj F.b.ag,dD F.b.au,dI F.b.ax,bL F.b.plan,bL F.b.bH]:List ak)=B
 have e1:B[4]? =some (dD F.b.au):=by rw[<- hH];rfl
 have e2:B[3]? =some (dj F.b.ag):=by rw[<- hH];rfl
 have e3:B[5]? =some (dI F.b.ax):=by rw[<- hH];rfl
 have e4:B[6]? =some (bL F.b.plan):=by rw[<- hH];rfl
 show(c9 (ct B 1) (ED 4 3 5 6 F.b)).map PV.agg=_
 simp only[ED,c9,QN e1,OD e2,OZ e3,GJ e4,Kb]
 rfl
end
section
variable {P:Program} {N κ:Nat} {T T2:Tm} {F:c7} {z:Bool} {xs:List PV} {e:TypeId}
theorem wv:∀(us cs:List V) (k:Nat),k+us.length=cs.length->setAt cs k us=cs.take k++us
 | [],cs,k,h=>by
  have h:k=cs.length:=h
  rw[h,ZT,ZY];cases cs <;> rfl
 | v::us,cs,k,h=>by
  rw[Zp] at h
  show setAt (cs.set k v) (k+1) us=_
  rw[wv us (cs.set k v) (k+1) (by rw[yl];omega),ZV (by rw[yl];omega),List.getElem_set_self,List.take_set,List.set_eq_of_length_le (by rw[zC];omega),ZM]
  rfl
theorem WM{h:List ak}{cs us:List V}(hu:us.length=cs.length):gU (h++[.cells cs e]) h.length 0 us=some (h++[.cells us e]):=by
 have hx:(h++[ak.cells cs e])[h.length]? =some (.cells cs e):=by simp
 simp only[gU,hx]
 have hs:setAt cs 0 us=us:=wv us cs 0 (by omega)
 rw[tZ,if_pos (by omega),hs,oB]
theorem Bp{σ:Nat->Option Nat}:aM σ (.cells (xs.map .p) e)= .cells (xs.map .p) e:=congrArg (ak.cells · e) (aP σ xs)
theorem abU{i:Nat}{x:ak}{n:Nat}(h:[ak.cells (xs.map .p) e][i]? =some x):Da n x:=by
 match i,h with
 | 0,h=>cases h;exact aP (below n) xs
theorem NA(hm:F.marks.length<=8)(hT:∀ σ,σ 47=some 0->σ 0=some 1->Sub T2 (fG σ T)):To P 0 N T (cX 0 F z++[.cells (xs.map .p) e]) T2 ([.cells (xs.map .p) e]++cX 1 F z):=by
 have hl:=j8 (c:=0) (z:=z) hm
 obtain⟨σ,_,h2,h3,hto⟩:=To.rot (P:=P) (κ:=0) (N:=N) (T:=T) [] (cX 0 F z) [.cells (xs.map .p) e] (Zg _)
 have gk:∀ k,k<47->σ (0+k)=some (1+k):=fun k hk=>by have:=h2 k (by rw[hl];exact hk);simpa using this
 have g0:σ 0=some 1:=gk 0 (by decide)
 have e0:=h3 0 (by simp)
 rw[hl] at e0
 refine To.trans (To.uG hto (H3:=[.cells (xs.map .p) e]++cX 1 F z) ?_) (To.sub (hT σ e0 g0))
 show[aM σ _]++(cX 0 F z).map (aM σ)=_
 rw[nP hm gk,Bp]
theorem Iy(hm:F.marks.length<=8):([ak.cells (xs.map .p) e]++cX 1 F z).length=48:=by
 rw[Zc,j8 hm];rfl
theorem aaO(hm:F.marks.length<=8):Xn P ([ak.cells (xs.map .p) e]++cX 1 F z):=vP (by
 rw[Iy hm]
 intro x hx
 rcases Zs.1 hx with h | h
 ·rw[Zw.1 h];exact Bp
 ·have hr:=nP (c:=1) (c2:=1) (F:=F) (z:=z) (σ:=below 48) hm fun k hk=>by unfold below;rw[if_pos (by simp[Nat.blt];omega)]
  obtain⟨i,hi,rfl⟩:=OX h
  have:=congrArg (fun l=>l[i]?) hr
  simp only[Zt,Zb hi,QA] at this
  exact ZB this)
end
set_option maxHeartbeats 4000000
theorem AO(p:Di.bX)(ws:List Bs)(C4:ws.length<=9223372036854775807)(hpl:p.dies.length<=9223372036854775807)(h1:10<p.dies.length∨40<ws.length):Pure Tryz.prog 4 [Di.ew p,fS ws] (.bool true):=by
 refine Kf (N:=98) Tryz.func4 ?_
 iterate 9 refine af ?_
 refine Kc (Kl (.p (Di.lN p.dies))) ?_
 iterate 3 refine af ?_
 refine Kg 20 19 1 rfl (fun h=>(aa.move rfl rfl)) ?_
 refine Kh 21 19 20 rfl rfl rfl rfl (fun h=>(aa.bJ rfl rfl ai rfl)) ?_
 refine Kh 22 19 21 rfl rfl rfl rfl (fun h=>(aa.gtr rfl rfl rfl)) ?_
 refine Kc (aa.lE rfl rfl rfl ?_) ?_
 ·exact fO
 refine af ?_
 refine Ki (fun hc0=> ?_) fun hc0=> ?_
 ·exact Jm
 ·exfalso
  simp at hc0
  omega
theorem Dq(p:Di.bX)(ws:List Bs)(C4:ws.length<=9223372036854775807)(hpl:p.dies.length<=9223372036854775807)(h1:¬ (10<p.dies.length∨40<ws.length))(h3:Di.dY p=false):Pure Tryz.prog 4 [Di.ew p,fS ws] (.bool true):=by
 have aay:p.dies.length<=10:=by omega
 have ab4:ws.length<=40:=by omega
 have hpd:p.dies.length<=100:=by omega
 have YC:=zw p hpd
 rw[if_neg (by rw[h3];decide),if_neg (by rw[h3];decide)] at YC
 refine Kf (N:=98) Tryz.func4 ?_
 iterate 9 refine af ?_
 refine Kc (Kl (.p (Di.lN p.dies))) ?_
 iterate 3 refine af ?_
 refine Kg 20 19 1 rfl (fun h=>(aa.move rfl rfl)) ?_
 refine Kh 21 19 20 rfl rfl rfl rfl (fun h=>(aa.bJ rfl rfl ai rfl)) ?_
 refine Kh 22 19 21 rfl rfl rfl rfl (fun h=>(aa.gtr rfl rfl rfl)) ?_
 refine Kc (aa.lE rfl rfl rfl ?_) ?_
 ·exact fO
 refine af ?_
 refine Ki (fun hc0=> ?_) fun hc0=> ?_
 ·exfalso
  simp at hc0
  omega
 ·iterate 3 refine af ?_
  refine Kc (Kl (.p (Di.ew p))) ?_
  refine Kc (Kp (Lu p hpd h3)) ?_
  iterate 8 refine af ?_
  refine Kc (Kl (.p (Di.ew p))) ?_
  refine Kc (Kp (YC)) ?_
  iterate 14 refine af ?_
  refine Kg 39 38 5 rfl (fun h=>(aa.move rfl rfl)) ?_
  refine Kh 40 38 39 rfl rfl rfl rfl (fun h=>(aa.Nv rfl rfl rfl ai)) ?_
  refine Kg 41 38 8 rfl (fun h=>(aa.move rfl rfl)) ?_
  refine Kh 42 38 41 rfl rfl rfl rfl (fun h=>(aa.neq rfl rfl rfl)) ?_
  refine aq.g 43 38 rfl rfl rfl rfl rfl rfl rfl [(40,_),(42,_)] (fun h=>And.intro (.inr ⟨_,rfl,h⟩) (And.intro (.inr ⟨_,rfl,h⟩) (trivial))) (fun h=>(aa.Fg rfl rfl rfl un4)) ?_
  refine Kc (aa.lE rfl rfl rfl ?_) ?_
  ·exact fO
  refine af ?_
  refine aC.aU rfl ?_
  iterate 7 refine af ?_
  refine aC.iC rfl ?_
  exact Jm
theorem Gy(p:Di.bX)(ws:List Bs)(C4:ws.length<=9223372036854775807)(hpl:p.dies.length<=9223372036854775807)(h1:¬ (10<p.dies.length∨40<ws.length))(h3:Di.dY p=true):Pure Tryz.prog 4 [Di.ew p,fS ws] (.bool true):=by
 have aay:p.dies.length<=10:=by omega
 have ab4:ws.length<=40:=by omega
 have hpd:p.dies.length<=100:=by omega
 have YC:=zw p hpd
 rw[if_pos h3,if_pos h3] at YC
 have hW:=zM h3
 refine Kf (N:=98) Tryz.func4 ?_
 iterate 9 refine af ?_
 refine Kc (Kl (.p (Di.lN p.dies))) ?_
 iterate 3 refine af ?_
 refine Kg 20 19 1 rfl (fun h=>(aa.move rfl rfl)) ?_
 refine Kh 21 19 20 rfl rfl rfl rfl (fun h=>(aa.bJ rfl rfl ai rfl)) ?_
 refine Kh 22 19 21 rfl rfl rfl rfl (fun h=>(aa.gtr rfl rfl rfl)) ?_
 refine Kc (aa.lE rfl rfl rfl ?_) ?_
 ·exact fO
 refine af ?_
 refine Ki (fun hc0=> ?_) fun hc0=> ?_
 ·exfalso
  simp at hc0
  omega
 ·iterate 3 refine af ?_
  refine Kc (Kl (.p (Di.ew p))) ?_
  refine aq.BG 27 (E2 p hpd h3) rfl rfl rfl rfl rfl rfl rfl ai (fun v H2 jJ=> ?_)
  obtain⟨rfl,rfl⟩:=jJ
  iterate 8 refine af ?_
  refine Kc (Kl (.p (Di.ew p))) ?_
  refine Kc (Kp (YC)) ?_
  iterate 14 refine af ?_
  refine Kg 39 38 5 rfl (fun h=>(aa.move rfl rfl)) ?_
  refine Kh 40 38 39 rfl rfl rfl rfl (fun h=>(aa.zb rfl rfl rfl ai)) ?_
  refine Kg 41 38 8 rfl (fun h=>(aa.move rfl rfl)) ?_
  refine Kh 42 38 41 rfl rfl rfl rfl (fun h=>(aa.neq rfl rfl rfl)) ?_
  refine aq.g 43 38 rfl rfl rfl rfl rfl rfl rfl [(40,_),(42,_)] (fun h=>And.intro (.inr ⟨_,rfl,h⟩) (And.intro (.inr ⟨_,rfl,h⟩) (trivial))) (fun h=>(aa.Fg rfl rfl rfl un4)) ?_
  refine Kc (aa.lE rfl rfl rfl ?_) ?_
  ·exact fO
  refine af ?_
  refine aC.aU rfl ?_
  iterate 7 refine af ?_
  refine aC.aU rfl ?_
  iterate 7 refine af ?_
  refine aC.uG (show cX 0 (newF p) true++[.cells ((de (newF p)).map .p) 44]=_ from rfl) ?_
  refine aC.to (To.sub (T2:=[(9,.p (.int .i64 0)),(5,.ptr 0 0),(7,.ptr 47 0),(1,.p (fS ws))]) KS) ?_
  refine aC.to (NA (T2:=[(9,.p (.int .i64 0)),(5,.ptr 1 0),(7,.ptr 0 0),(1,.p (fS ws))]) (Zn _) (fun σ e0 e1=>by simp only[fG,aZ,e0,e1];exact KS)) ?_
  refine aC.dw [1,5,7,97] (fun g=>[(9,.p (.int .i64 ((g.1:Nat):Int)))]) (fun g=>([.cells ((de (cE (newF p) ws g.1)).map .p) 44]++cX 1 (cE (newF p) ws g.1) g.2)) (fun g=>g.1<=ws.length∧(g.2=true->(cE (newF p) ws g.1).marks=[])) (fun g=>ws.length - g.1) (0,true) ⟨Zn _,fun _=>rfl⟩ (To.sub KS) (fun g hg=> ?_)
  obtain⟨i,z⟩:=g
  obtain⟨hil,hz⟩:=hg
  dsimp only at hil hz ⊢
  iterate 8 refine af ?_
  refine Ki (fun gQ=> ?_) fun gQ=> ?_
  ·have rU:i<ws.length:=by have h:=Ze gQ;omega
   iterate 8 refine af ?_
   refine Kc (aa.aB (g:=Di.gt [] ws) (k:=i) (Di.av _) rfl rfl rfl ai nY rfl (fun _=>rfl) (by decide) rU) ?_
   refine Kc (Kl (.p (.str (sB (Di.gt [] ws i))))) ?_
   refine Kc (aa.eF rfl rfl w9) ?_
   iterate 2 refine af ?_
   refine Ki (fun o3=> ?_) fun o3=> ?_
   ·exact Jm
   ·iterate 6 refine af ?_
    refine Kc (aa.aB (g:=Di.gt [] ws) (k:=i) (Di.av _) rfl rfl rfl ai nY rfl (fun _=>rfl) (by decide) rU) ?_
    refine Kc (Kl (.p (.str (sB (Di.gt [] ws i))))) ?_
    refine Yf 67 [.cells ((de (cE (newF p) ws i)).map .p) 44] (cE (newF p) ws i) z (Di.gt [] ws i) (gu (L:=ws) hW i) hz (fun i x h=>abU h) (Zn _) rfl rfl rfl rfl rfl rfl ai (T2:=[(1,.p (fS ws)),(5,.ptr 1 0),(7,.ptr 0 0),(9,.p (.int .i64 ((i:Nat):Int)))]) KS rfl (fun z2 DQ=> ?_)
    show aq _ _ _ _ _ _ _ _ ([.cells ((de (cE (newF p) ws i)).map .p) 44]++cX 1 (cE (newF p) ws (i+1)) z2)
    have hF2:=gu (L:=ws) hW (i+1)
    iterate 7 refine af ?_
    refine aC.bN 14 mixed (by kernel_rfl) (by decide) ?_
    refine ah.cons 71 rfl rfl rfl (Kl (.p (.agg (de (cE (newF p) ws i))))) (fun _=>(Kl (.p (.agg (de (cE (newF p) ws i)))))) ?_
    refine ah.cons 72 rfl rfl rfl (aa.move rfl rfl) (fun _=>(aa.move rfl rfl)) ?_
    refine ah.cons 73 rfl rfl rfl (aa.move rfl rfl) (fun _=>(aa.move rfl rfl)) ?_
    refine ah.cons 74 rfl rfl rfl (aa.aB (g:=Di.gt [] ws) (k:=i) (Di.av _) rfl rfl rfl ai nY rfl (fun _=>rfl) (by decide) rU) (fun _=>(aa.aB (g:=Di.gt [] ws) (k:=i) (Di.av _) rfl rfl rfl ai nY rfl (fun _=>rfl) (by decide) rU)) ?_
    refine ah.cons 75 rfl rfl rfl (Kl (.p (.str (sB (Di.gt [] ws i))))) (fun _=>(Kl (.p (.str (sB (Di.gt [] ws i)))))) ?_
    refine ah.cons 76 rfl rfl rfl (Kp (rN (cE (newF p) ws i) (Di.gt [] ws i) (gu (L:=ws) hW i))) (fun _=>(Kp (rN (cE (newF p) ws i) (Di.gt [] ws i) (gu (L:=ws) hW i)))) ?_
    refine ah.cons 70 rfl rfl rfl (aa.move rfl rfl) (fun _=>(aa.move rfl rfl)) ?_
    refine ah.cons 77 rfl rfl rfl (aa.extract rfl rfl rfl) (fun _=>(aa.extract rfl rfl rfl)) ?_
    refine ah.cons 78 rfl rfl rfl (aa.extract rfl rfl rfl) (fun _=>(aa.extract rfl rfl rfl)) ?_
    refine ah.cons 79 rfl rfl rfl (aa.extract rfl rfl rfl) (fun _=>(aa.extract rfl rfl rfl)) ?_
    refine ah.lay 12 rfl rfl rfl (aa.aI rfl ai rfl) ?_
    refine ah.put rfl rfl (by decide) (aa.store (H':=(([.cells ((de (cE (newF p) ws i)).map .p) 44]++cX 1 (cE (newF p) ws (i+1)) z2)++[.cells ((de (cE (newF p) ws (i+1))).map .p) 44])) rfl rfl rfl rfl rfl ai rfl (WM (by rfl))) rfl ?_
    refine ah.cons 13 rfl rfl rfl (aa.assign rfl rfl) (fun _=>(aa.assign rfl rfl)) ?_
    refine ah.cons 14 rfl rfl rfl (aa.assign rfl rfl) (fun _=>(aa.assign rfl rfl)) ?_
    refine ah.nil ?_
    iterate 3 refine af ?_
    have hm2:=hF2.mm
    refine aC.to (To.V9 (s:=12) (h:=[.cells ((de (cE (newF p) ws i)).map .p) 44]++cX 1 (cE (newF p) ws (i+1)) z2) (T2:=[(1,.p (fS ws)),(5,.ptr 1 0),(7,.ptr 0 0),(9,.p (.int .i64 ((i:Nat):Int))),(10,.p (.str (sB (aO (cE (newF p) ws i) (Di.gt [] ws i)).2.1))),(11,.p (.int .i64 (aO (cE (newF p) ws i) (Di.gt [] ws i)).2.2)),(13,.p (.str (sB (aO (cE (newF p) ws i) (Di.gt [] ws i)).2.1))),(14,.p (.int .i64 (aO (cE (newF p) ws i) (Di.gt [] ws i)).2.2))]) (aaO hm2) (Zn _) rfl (jy _) (by rw[Iy hm2];exact⟨rfl,trivial,rfl,(by show 1<48;decide),rfl,(by show 0<48;decide),rfl,trivial,rfl,trivial,rfl,trivial,rfl,trivial,rfl,trivial,trivial⟩)) ?_
    have hb:=hF2.b
    obtain⟨u,hu⟩:=hb.EI
    have acS:=ia hu
    have hcl:=Rx.bM hb.cd
    have hsk:=hb.sk
    have hdr:=hb.dr
    refine aC.az 16 mixed (by kernel_rfl) (by decide) ?_
    iterate 2 refine af ?_
    refine Kq (aa.BV (aO (cE (newF p) ws i) (Di.gt [] ws i)).2.1 (aO (cE (newF p) ws i) (Di.gt [] ws i)).2.1 rfl rfl rfl) ?_
    refine af ?_
    refine ay.guard 84 83 rfl rfl rfl rfl rfl rfl rfl [(11,_)] (fun h=>And.intro (.inl rfl) (trivial)) (fun h=>(aa.move rfl rfl)) ?_
    refine ay.guard 85 83 rfl rfl rfl rfl rfl rfl rfl [(14,_)] (fun h=>And.intro (.inl rfl) (trivial)) (fun h=>(aa.move rfl rfl)) ?_
    refine ay.guard 86 83 rfl rfl rfl rfl rfl rfl rfl [(84,_),(85,_)] (fun h=>And.intro (.inr ⟨_,rfl,h⟩) (And.intro (.inr ⟨_,rfl,h⟩) (trivial))) (fun h=>(aa.neq rfl rfl rfl)) ?_
    refine Kq (aa.lE rfl rfl rfl ?_) ?_
    ·exact fO
    refine af ?_
    refine ay.guard 89 88 rfl rfl rfl rfl rfl rfl rfl [(5,_)] (fun h=>And.intro (.inl rfl) (trivial)) (fun h=>(aa.move rfl rfl)) ?_
    refine ay.guard 90 88 rfl rfl rfl rfl rfl rfl rfl [(89,_)] (fun h=>And.intro (.inr ⟨_,rfl,h⟩) (trivial)) (fun h=>(VD hF2 (yY [.cells ((de (cE (newF p) ws i)).map .p) 44] (cE (newF p) ws (i+1)) z2 DQ) rfl rfl rfl rfl ai)) ?_
    refine ay.guard 91 88 rfl rfl rfl rfl rfl rfl rfl [(12,_)] (fun h=>And.intro (.inl rfl) (trivial)) (fun h=>(aa.fieldAddr rfl rfl ai rfl)) ?_
    refine ay.guard 92 88 rfl rfl rfl rfl rfl rfl rfl [(91,_)] (fun h=>And.intro (.inr ⟨_,rfl,h⟩) (trivial)) (fun h=>(Kl (.p (.agg (cg (cE (newF p) ws (i+1)).b))))) ?_
    refine ay.guard 93 88 rfl rfl rfl rfl rfl rfl rfl [(90,_),(92,_)] (fun h=>And.intro (.inr ⟨_,rfl,h⟩) (And.intro (.inr ⟨_,rfl,h⟩) (trivial))) (fun h=>(Kp (IL (cE (newF p) ws (i+1)).b (by omega) (by omega) (by omega) (by omega)))) ?_
    refine ay.guard 94 88 rfl rfl rfl rfl rfl rfl rfl [(93,_)] (fun h=>And.intro (.inr ⟨_,rfl,h⟩) (trivial)) (fun h=>(aa.fI rfl rfl)) ?_
    refine Kq (aa.lE rfl rfl rfl ?_) ?_
    ·exact fO
    refine ay.nil ?_
    refine af ?_
    refine Ki (fun tN=> ?_) fun tN=> ?_
    ·exfalso
     simp at tN
    ·iterate 2 refine af ?_
     refine Kc (Kl (.p (.agg (de (cE (newF p) ws (i+1)))))) ?_
     iterate 4 refine af ?_
     refine Kc (aa.add (m:=((i+1:Nat):Int)) rfl rfl rfl ((aA ?_).trans ?_)) ?_
     ·omega
     ·omega
     iterate 2 refine af ?_
     refine⟨(i+1,z2),?_,?_,?_⟩
     ·exact⟨rU,DQ⟩
     ·exact P7
     exact To.sub KS
  ·refine aC.exit ?_
   exact Jm
theorem HR(p:Di.bX)(ws:List Bs)(C4:ws.length<=9223372036854775807)(hpl:p.dies.length<=9223372036854775807):Pure Tryz.prog 4 [Di.ew p,fS ws] (.bool true):=by
 by_cases h1:10<p.dies.length∨40<ws.length
 ·exact AO p ws C4 hpl h1
 ·cases h3:Di.dY p with
  | false=>exact Dq p ws C4 hpl h1 h3
  | true=>exact Gy p ws C4 hpl h1 h3
theorem ua{x0 x1:List PV}(h0:qx Ny x0)(h1:qx [.sl [.leaf .string]] x1):Pure Tryz.prog 4 [Nt true x0,Nt false x1] (.bool true):=by
 obtain⟨p,rfl,hp⟩:=Lz h0
 obtain⟨ws,rfl,hw⟩:=Qf h1
 exact HR p ws hw hp
end Go.Proofs.YtchiinjiflgepaaGreatDoor
end
