/-
  Closing steps that several texts share. No condition.
-/
import Derived.KernelRfl
theorem WO{A:Prop}(h:A:=by
 have h3:=h1 0 (by omega)
 simp at h3
 have ih:=o3 p xs i (by simpa using h) (fun j hj=>by have:=h1 (j+1) (by omega);simpa using this) (by simpa using h2)
 simp only[iI,h3,ih]
 simp
 omega):A:=h
theorem P4{A:Prop}(h:A:=by
 have h3:=h 0 (by simp)
 simp at h3
 have ih:=ki p xs (fun j hj=>by have:=h (j+1) (by simpa using hj);simpa using this)
 simp[iI,h3,ih]):A:=h
theorem O2{A:Prop}(h:A:=by
 iterate 4 refine af ?_
 refine Fin.gw rfl rfl ?_
 rw[kA]):A:=h
theorem MG{A:Prop}(h:A:=by
 refine Kc (aa.dM rfl rfl rfl ?_) ?_
 ·exact eM
 exact abj):A:=h
theorem XO{A:Prop}(h:A:=by
 iterate 2 refine af ?_
 refine Kc (aa.add rfl rfl rfl (aH ?_)) ?_
 ·simp at hc0;omega
 iterate 2 refine af ?_
 refine⟨i+1,?_,?_,?_⟩
 ·refine⟨by simp at hc0;omega,fun j hj h=> ?_⟩
  rcases ZZ.1 hj with h1 | rfl
  ·exact ou j h1 zF
  ·exact cF
 ·simp at hc0;omega
 exact To.done [] rfl KS rfl):A:=h
theorem Dt{A:Prop}(h:A:=by
 iterate 3 refine af ?_
 exact Fin.gw rfl rfl rfl):A:=h
theorem kL{A:Prop}(h:A:=by
 iterate 3 refine af ?_
 exact Fin.one rfl (rfl)):A:=h
theorem WR{A:Prop}(h:A:=by
 iterate 10 refine af ?_
 refine Kg 11 10 0 rfl (fun h=>(aa.move rfl rfl)) ?_
 refine Kg 12 10 2 rfl (fun h=>(aa.move rfl rfl)) ?_
 refine aj.g 13 10 rfl rfl rfl rfl rfl rfl rfl [(11,_),(12,_)] (fun h=>And.intro (.inr ⟨_,rfl,h⟩) (And.intro (.inr ⟨_,rfl,h⟩) (trivial))) (fun h=>(aa.leq rfl rfl rfl)) ?_
 refine Kc (aa.dM rfl rfl rfl ?_) ?_
 ·exact eM
 exact kL):A:=h
theorem TR{A:Prop}(h:A:=by
 obtain⟨r,h1,h2,h3⟩:=lW p n (fun i j hij hj=>hp i j hij (by omega))
 cases hn:p n with
 | true=>
  refine⟨r,by omega,h2,fun i hi hj=> ?_⟩
  rcases ZZ.1 hj with h | rfl
  ·exact h3 i hi h
  ·exact hn
 | false=>
  refine⟨n+1,Zg _,fun i hi=> ?_,fun i h h'=>by omega⟩
  cases hpi:p i with
  | false=>rfl
  | true=>
   have:=hp i n (by omega) (by omega) hpi
   rw[hn] at this;cases this):A:=h
theorem Q1{A:Prop}(h:A:=by
 refine Kc (aa.dM rfl rfl rfl ?_) ?_
 ·exact eM
 iterate 3 refine af ?_
 refine Fin.gw rfl rfl ?_
 rfl):A:=h
theorem Df{A:Prop}(h:A:=by
 exact Fin.gw rfl rfl rfl):A:=h
theorem Yw{A:Prop}(h:A:=by
 have:=kE n (fun j hj=>h j (by omega))
 have:=h n (by omega)
 simp only[gQ];omega):A:=h
theorem Po{A:Prop}(h:A:=by
 obtain⟨n,e,h1,h2⟩:=NJ .u8 h
 have a1:(0:Int)<=n:=h1
 have a2:n<=255:=h2
 exact⟨n.toNat,by rw[e,Wl a1],by omega⟩):A:=h
theorem TD{A:Prop}(h:A:=by
 have M8:zb p (gt dY.d p.dies (gt 0 plan i).toNat) (gt 0 u (gt 0 plan i).toNat) (gt cO.d l i)=true:=by first | simpa only[Bool.not_eq_false'] using xg | (unfold zb;simpa only[Bool.not_eq_false'] using xg)
 refine af ?_
 refine aB.az 7 mixed (by kernel_rfl) (by decide) ?_
 refine af ?_
 refine Kq (aa.nilCheck rfl rfl) ?_
 refine Kq (aa.kR (f:=cE) (c:=1) (k:=(gt 0 plan i).toNat) (j:=0) (xs:=u) rfl rfl an rfl rfl (by omega) (fun _=>rfl) C4 (by decide) (show _=PV.int .i64 (gt 0 u (gt 0 plan i).toNat) from by rw[aC 0 _ C4];rfl)) ?_
 iterate 2 refine af ?_
 refine Kq (aa.add (m:=(gt 0 u (gt 0 plan i).toNat+(gt cO.d l i).len)) rfl rfl rfl ((aH ?_).trans ?_)) ?_
 ·omega
 ·rfl
 refine Kq (aa.nilCheck rfl rfl) ?_
 refine ay.nil ?_
 refine Kz (aa.JW (f:=cE) (c:=1) (k:=(gt 0 plan i).toNat) (j:=0) (xs:=u) (z:=(gt 0 u (gt 0 plan i).toNat+(gt cO.d l i).len)) (ws:=[.int .i64 (gt 0 u (gt 0 plan i).toNat+(gt cO.d l i).len)]) rfl rfl rfl rfl rfl an rfl rfl rfl (by omega) (fun _=>rfl) C4 (by show 0+1<=1;decide) rfl) ?_
 iterate 2 refine af ?_
 refine Kc (aa.add rfl rfl rfl (aH ?_)) ?_
 ·omega
 iterate 2 refine af ?_
 refine⟨(i+1,u.set (gt 0 plan i).toNat (gt 0 u (gt 0 plan i).toNat+(gt cO.d l i).len)),?_,?_,?_⟩
 ·exact⟨hk0,Jg ou hq hW.1,by rw[DL,Ie hk0 hpl hin M8]⟩
 ·dsimp only;omega
 refine To.done [0] rfl KS ?_
 show[ai.row (bn _ (List.map V.p _)) _]=[ai.row _ _]
 rw[aY]):A:=h
theorem Gd{A:Prop}(h:A:=by
 dsimp only[AX.then]
 exact kC.one rfl rfl hq):A:=h
theorem o4{A:Prop}(h:A:=by
 intro c h hx
 exact hx.elim):A:=h
theorem Ey{A:Prop}(h:A:=by
 exact decide_eq_decide.2 (by omega)):A:=h
theorem Rj{A:Prop}(h:A:=by
 have ih:=kA p xs
 simp only[iI,List.any_cons,<- ih]
 cases p x with
 | true=>simp
 | false=>
  simp
  split
  ·simp;omega
  ·omega):A:=h
theorem V4{A:Prop}(h:A:=by
 refine Kc (aa.load (v:= .p (.int .u8 ((k:Nat):Int))) rfl rfl an (show cW _ _ _ _=_ from congrArg (Option.map V.p) hT)) ?_
 refine Kc (aa.di rfl rfl (by rw[WA];rfl) yj (aH ?_)) ?_
 ·omega
 exact kL):A:=h
theorem aaa{A:Prop}(h:A:=by
 by_cases h3:i=k
 ·subst h3;simp[hk]
 ·simp[h2,h3,show ¬ k=i by omega]
  intro _ h4 _
  exact h4):A:=h
theorem NL{A:Prop}(h:A:=by
 iterate 3 refine af ?_
 exact Fin.one rfl (⟨_,_,_,rfl,an,rfl⟩)):A:=h
theorem Ql{A:Prop}(h:A:=by
 simp only[gQ]
 by_cases e:k=n
 ·subst e
  rw[lN (f:=g) (g:=f) k (fun j h1=>hj j (by omega) (by omega))]
  omega
 ·rw[rj (f:=f) (g:=g) n (by omega) (fun j h1 h2=>hj j (by omega) h2),hj n (by omega) (by omega)]
  omega):A:=h
theorem abg{A:Prop}(h:A:=by
 iterate 6 refine af ?_
 refine Fin.gw rfl rfl ?_
 rw[o3 p xs i (by simp at hc0;omega) (fun j hj=>ou j hj zF) cF]):A:=h
theorem NR{A:Prop}(h:A:=by
 iterate 7 refine af ?_
 refine Kc (aa.makeFunc rfl rfl rfl) ?_
 exact kL):A:=h
theorem J4{A:Prop}(h:A:=by
 show ws.length - (i+1)<ws.length - i
 omega):A:=h
theorem abj{A:Prop}(h:A:=by
 iterate 3 refine af ?_
 refine Fin.gw rfl rfl ?_
 simp):A:=h
theorem I6{A:Prop}(h:A:=by
 exact⟨.inl rfl,_,eK.none_ rfl,rfl,rfl⟩):A:=h
theorem wQ{A:Prop}(h:A:=by
 exact To.done [] rfl KS rfl):A:=h
theorem Yg{A:Prop}(h:A:=by
 obtain⟨k,hk,rfl⟩:=zn.1 hx
 have:=ZY.1 (List.mem_filter.1 hk).1
 omega):A:=h
theorem BZ{A:Prop}(h:A:=by
 exfalso
 simp at hc0
 omega):A:=h
theorem xQ{A:Prop}(h:A:=by
 exact Fin.one rfl (rfl)):A:=h
theorem OI{A:Prop}(h:A:=by
 refine Fin.gw rfl ⟨_,_,_,rfl,an,rfl⟩ ?_
 rfl):A:=h
theorem O0{A:Prop}(h:A:=by
 have h3:=Zy (show 0<2 by omega) h2
 have h4:2^k*1<=2^k*(2*m+1):=Nat.mul_le_mul_left _ (by omega)
 omega):A:=h
theorem LC{A:Prop}(h:A:=by
 refine aB.exit ?_
 iterate 5 refine af ?_
 refine Fin.gw rfl rfl ?_
 rw[ki p xs (fun j hj=>ou j (by simp at hc0;omega) zF)]):A:=h
theorem D9{A:Prop}(h:A:=by
 iterate 3 refine af ?_
 exact kC.one rfl rfl ⟨rfl,rfl⟩):A:=h
theorem Pj{A:Prop}(h:A:=by
 show ws.length - (k+1)<ws.length - k
 omega):A:=h
theorem KD{A:Prop}(h:A:=by
 refine af ?_
 refine Kc (aa.Ak (hf _ (A4 _)) rfl rfl rfl) ?_
 refine af ?_
 refine Ki (fun cF=> ?_) fun cF=> ?_
 ·exact abg
 ·exact XO):A:=h
theorem eM{A:Prop}(h:A:=by
 first | (intro h;rw[h];rfl) | (intro h;simp_all)):A:=h
theorem Kb{A:Prop}(h:A:=by
 rw[Ze,Zd h];rfl):A:=h
