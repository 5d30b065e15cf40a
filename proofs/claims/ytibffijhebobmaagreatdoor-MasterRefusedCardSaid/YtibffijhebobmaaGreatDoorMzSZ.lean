/-
  Closing steps that several texts share. No condition.
-/
import Derived.KernelRfl
theorem rH{A:Prop}(h:A:=by
 rw[Wu,eL]
 refine To.done [1] rfl KS ?_
 show[ai.row (bw _ (_++_)) _]=[ai.row _ _]
 rw[bF,aX,ZC]
 rfl):A:=h
theorem Eu{A:Prop}(h:A:=by
 exact⟨hk0,fun j hj=>by rcases O2.1 hj with h | rfl;exact nk j h;exact Wx⟩):A:=h
theorem Bn{A:Prop}(h:A:=by
 have h3:=h1 0 (by omega)
 simp at h3
 have ih:=qT p xs i (by simpa using h) (fun j hj=>by have:=h1 (j+1) (by omega);simpa using this) (by simpa using h2)
 simp only[iL,h3,ih]
 simp
 omega):A:=h
theorem Bv{A:Prop}(h:A:=by
 have h3:=h 0 (by simp)
 simp at h3
 have ih:=kN p xs (fun j hj=>by have:=h (j+1) (by simpa using hj);simpa using this)
 simp[iL,h3,ih]):A:=h
theorem ve{A:Prop}(h:A:=by
 iterate 4 refine af ?_
 refine Fin.gL rfl rfl ?_
 rw[lf]):A:=h
theorem kS{A:Prop}(h:A:=by
 refine Kc (aa.ec rfl rfl rfl ?_) ?_
 ·exact ax
 exact DK):A:=h
theorem Bk{A:Prop}(h:A:=by
 iterate 2 refine af ?_
 refine Kc (aa.add rfl rfl rfl (aI ?_)) ?_
 ·simp at hc0;omega
 iterate 2 refine af ?_
 refine⟨i+1,?_,?_,?_⟩
 ·refine⟨by simp at hc0;omega,fun j hj h=> ?_⟩
  rcases O2.1 hj with h1 | rfl
  ·exact nk j h1 zE
  ·exact cK
 ·simp at hc0;omega
 exact To.done [] rfl KS rfl):A:=h
theorem lp{A:Prop}(h:A:=by
 iterate 3 refine af ?_
 exact Fin.gL rfl rfl rfl):A:=h
theorem dO{A:Prop}(h:A:=by
 iterate 3 refine af ?_
 exact Fin.one rfl (rfl)):A:=h
theorem C9{A:Prop}(h:A:=by
 iterate 10 refine af ?_
 refine Kg 11 10 0 rfl (fun h=>(aa.move rfl rfl)) ?_
 refine Kg 12 10 2 rfl (fun h=>(aa.move rfl rfl)) ?_
 refine aj.g 13 10 rfl rfl rfl rfl rfl rfl rfl [(11,_),(12,_)] (fun h=>And.intro (.inr ⟨_,rfl,h⟩) (And.intro (.inr ⟨_,rfl,h⟩) (trivial))) (fun h=>(aa.leq rfl rfl rfl)) ?_
 refine Kc (aa.ec rfl rfl rfl ?_) ?_
 ·exact ax
 exact dO):A:=h
theorem BR{A:Prop}(h:A:=by
 obtain⟨r,h1,h2,h3⟩:=lP p n (fun i j hij hj=>hp i j hij (by omega))
 cases hn:p n with
 | true=>
  refine⟨r,by omega,h2,fun i hi hj=> ?_⟩
  rcases O2.1 hj with h | rfl
  ·exact h3 i hi h
  ·exact hn
 | false=>
  refine⟨n+1,Zf _,fun i hi=> ?_,fun i h h'=>by omega⟩
  cases hpi:p i with
  | false=>rfl
  | true=>
   have:=hp i n (by omega) (by omega) hpi
   rw[hn] at this;cases this):A:=h
theorem kU{A:Prop}(h:A:=by
 exact Fin.gL rfl rfl rfl):A:=h
theorem Ec{A:Prop}(h:A:=by
 have:=kF n (fun j hj=>h j (by omega))
 have:=h n (by omega)
 simp only[iw];omega):A:=h
theorem DL{A:Prop}(h:A:=by
 have QG:Av p (gt eg.d p.dies (gt 0 plan i).toNat) (gt 0 u (gt 0 plan i).toNat) (gt cO.d l i)=true:=by first | simpa only[Bool.not_eq_false'] using uk | (unfold Av;simpa only[Bool.not_eq_false'] using uk)
 refine af ?_
 refine aF.aB 7 mixed (by kernel_rfl) (by decide) ?_
 refine af ?_
 refine Kq (aa.nilCheck rfl rfl) ?_
 refine Kq (aa.kT (f:=bZ) (c:=1) (k:=(gt 0 plan i).toNat) (j:=0) (xs:=u) rfl rfl an rfl rfl (by omega) (fun _=>rfl) HM (by decide) (show _=PV.int .i64 (gt 0 u (gt 0 plan i).toNat) from by rw[aE 0 _ HM];rfl)) ?_
 iterate 2 refine af ?_
 refine Kq (aa.add (m:=(gt 0 u (gt 0 plan i).toNat+(gt cO.d l i).len)) rfl rfl rfl ((aI ?_).trans ?_)) ?_
 ·omega
 ·rfl
 refine Kq (aa.nilCheck rfl rfl) ?_
 refine av.nil ?_
 refine Kz (aa.LW (f:=bZ) (c:=1) (k:=(gt 0 plan i).toNat) (j:=0) (xs:=u) (z:=(gt 0 u (gt 0 plan i).toNat+(gt cO.d l i).len)) (ws:=[.int .i64 (gt 0 u (gt 0 plan i).toNat+(gt cO.d l i).len)]) rfl rfl rfl rfl rfl an rfl rfl rfl (by omega) (fun _=>rfl) HM (by show 0+1<=1;decide) rfl) ?_
 iterate 2 refine af ?_
 refine Kc (aa.add rfl rfl rfl (aI ?_)) ?_
 ·omega
 iterate 2 refine af ?_
 refine⟨(i+1,u.set (gt 0 plan i).toNat (gt 0 u (gt 0 plan i).toNat+(gt cO.d l i).len)),?_,?_,?_⟩
 ·exact⟨hk0,M9 nk hq hW.1,by rw[Gr,Nz hk0 hpl hin QG]⟩
 ·dsimp only;omega
 refine To.done [0] rfl KS ?_
 show[ai.row (bw _ (List.map V.p _)) _]=[ai.row _ _]
 rw[aX]):A:=h
theorem qz{A:Prop}(h:A:=by
 dsimp only[AX.then]
 exact jV.one rfl rfl hq):A:=h
theorem gY{A:Prop}(h:A:=by
 intro c h hx
 exact hx.elim):A:=h
theorem Dq{A:Prop}(h:A:=by
 have ih:=lf p xs
 simp only[iL,List.any_cons,<- ih]
 cases p x with
 | true=>simp
 | false=>
  simp
  split
  ·simp;omega
  ·omega):A:=h
theorem BH{A:Prop}(h:A:=by
 refine Kc (aa.load (v:= .p (.int .u8 ((k:Nat):Int))) rfl rfl an (show cV _ _ _ _=_ from congrArg (Option.map V.p) hT)) ?_
 refine Kc (aa.dS rfl rfl (by rw[un5];rfl) B0 (aI ?_)) ?_
 ·omega
 exact dO):A:=h
theorem B1{A:Prop}(h:A:=by
 by_cases h3:i=k
 ·subst h3;simp[hk]
 ·simp[h2,h3,show ¬ k=i by omega]
  intro _ h4 _
  exact h4):A:=h
theorem vJ{A:Prop}(h:A:=by
 iterate 3 refine af ?_
 exact Fin.one rfl (⟨_,_,_,rfl,an,rfl⟩)):A:=h
theorem BW{A:Prop}(h:A:=by
 simp only[iw]
 by_cases e:k=n
 ·subst e
  rw[lJ (f:=g) (g:=f) k (fun j h1=>hj j (by omega) (by omega))]
  omega
 ·rw[sP (f:=f) (g:=g) n (by omega) (fun j h1 h2=>hj j (by omega) h2),hj n (by omega) (by omega)]
  omega):A:=h
theorem OI{A:Prop}(h:A:=by
 iterate 6 refine af ?_
 refine Fin.gL rfl rfl ?_
 rw[qT p xs i (by simp at hc0;omega) (fun j hj=>nk j hj zE) cK]):A:=h
theorem uM{A:Prop}(h:A:=by
 iterate 7 refine af ?_
 refine Kc (aa.makeFunc rfl rfl rfl) ?_
 exact dO):A:=h
theorem DK{A:Prop}(h:A:=by
 iterate 3 refine af ?_
 refine Fin.gL rfl rfl ?_
 simp):A:=h
theorem rL{A:Prop}(h:A:=by
 exact⟨.inl rfl,_,eX.none_ rfl,rfl,rfl⟩):A:=h
theorem kB{A:Prop}(h:A:=by
 rw[Zr,AF.cy (c:=1) (fun _=>rfl)];rfl):A:=h
theorem jO{A:Prop}(h:A:=by
 exact Fin.one rfl (rfl)):A:=h
theorem wT{A:Prop}(h:A:=by
 refine Fin.gL rfl ⟨_,_,_,rfl,an,rfl⟩ ?_
 rfl):A:=h
theorem u7{A:Prop}(h:A:=by
 have h3:=Zu (show 0<2 by omega) h2
 have h4:2^k*1<=2^k*(2*m+1):=Nat.mul_le_mul_left _ (by omega)
 omega):A:=h
theorem xG{A:Prop}(h:A:=by
 refine aF.exit ?_
 iterate 5 refine af ?_
 refine Fin.gL rfl rfl ?_
 rw[kN p xs (fun j hj=>nk j (by simp at hc0;omega) zE)]):A:=h
theorem nM{A:Prop}(h:A:=by
 iterate 3 refine af ?_
 exact jV.one rfl rfl ⟨rfl,rfl⟩):A:=h
theorem xA{A:Prop}(h:A:=by
 refine af ?_
 refine Kc (aa.DC (hf _ (Cg _)) rfl rfl rfl) ?_
 refine af ?_
 refine Ki (fun cK=> ?_) fun cK=> ?_
 ·exact OI
 ·exact Bk):A:=h
theorem ax{A:Prop}(h:A:=by
 first | (intro h;rw[h];rfl) | (intro h;simp_all)):A:=h
theorem wW{A:Prop}(h:A:=by
 rw[Ze,Zb h];rfl):A:=h
