/-
  Closing steps that several texts share. No condition.
-/
import Derived.KernelRfl
theorem DZ{A:Prop}(h:A:=by
 have h3:=h1 0 (by omega)
 simp at h3
 have ih:=qu p xs i (by simpa using h) (fun j hj=>by have:=h1 (j+1) (by omega);simpa using this) (by simpa using h2)
 simp only[iG,h3,ih]
 simp
 omega):A:=h
theorem Bl{A:Prop}(h:A:=by
 have h3:=h 0 (by simp)
 simp at h3
 have ih:=ku p xs (fun j hj=>by have:=h (j+1) (by simpa using hj);simpa using this)
 simp[iG,h3,ih]):A:=h
theorem wZ{A:Prop}(h:A:=by
 iterate 4 refine af ?_
 refine Fin.gW rfl rfl ?_
 rw[kZ]):A:=h
theorem BK{A:Prop}(h:A:=by
 iterate 2 refine af ?_
 refine Kc (aa.add rfl rfl rfl (aG ?_)) ?_
 ·simp at hc0;omega
 iterate 2 refine af ?_
 refine⟨i+1,?_,?_,?_⟩
 ·refine⟨by simp at hc0;omega,fun j hj h=> ?_⟩
  rcases On.1 hj with h1 | rfl
  ·exact mV j h1 xp
  ·exact c8
 ·simp at hc0;omega
 exact To.done [] rfl KS rfl):A:=h
theorem jx{A:Prop}(h:A:=by
 iterate 3 refine af ?_
 exact Fin.gW rfl rfl rfl):A:=h
theorem cQ{A:Prop}(h:A:=by
 iterate 3 refine af ?_
 exact Fin.one rfl (rfl)):A:=h
theorem El{A:Prop}(h:A:=by
 iterate 10 refine af ?_
 refine Kg 11 10 0 rfl (fun h=>(aa.move rfl rfl)) ?_
 refine Kg 12 10 2 rfl (fun h=>(aa.move rfl rfl)) ?_
 refine aj.g 13 10 rfl rfl rfl rfl rfl rfl rfl [(11,_),(12,_)] (fun h=>And.intro (.inr ⟨_,rfl,h⟩) (And.intro (.inr ⟨_,rfl,h⟩) (trivial))) (fun h=>(aa.leq rfl rfl rfl)) ?_
 refine Kc (aa.gG rfl rfl rfl ?_) ?_
 ·exact aC
 exact cQ):A:=h
theorem D8{A:Prop}(h:A:=by
 obtain⟨r,h1,h2,h3⟩:=gy p n (fun i j hij hj=>hp i j hij (by omega))
 cases hn:p n with
 | true=>
  refine⟨r,by omega,h2,fun i hi hj=> ?_⟩
  rcases On.1 hj with h | rfl
  ·exact h3 i hi h
  ·exact hn
 | false=>
  refine⟨n+1,Ze _,fun i hi=> ?_,fun i h h'=>by omega⟩
  cases hpi:p i with
  | false=>rfl
  | true=>
   have:=hp i n (by omega) (by omega) hpi
   rw[hn] at this;cases this):A:=h
theorem Df{A:Prop}(h:A:=by
 have:=iZ n (fun j hj=>h j (by omega))
 have:=h n (by omega)
 simp only[fV];omega):A:=h
theorem CX{A:Prop}(h:A:=by
 have Q5:zC p (gt eB.d p.dies (gt 0 plan i).toNat) (gt 0 u (gt 0 plan i).toNat) (gt cU.d l i)=true:=by first | simpa only[Wf] using Kj | (unfold zC;simpa only[Wf] using Kj)
 refine af ?_
 refine aI.aB 7 mixed (by kernel_rfl) (by decide) ?_
 refine af ?_
 refine Kq (aa.nilCheck rfl rfl) ?_
 refine Kq (aa.kF (f:=cK) (c:=1) (k:=(gt 0 plan i).toNat) (j:=0) (xs:=u) rfl rfl an rfl rfl (by omega) (fun _=>rfl) H7 (by decide) (show _=PV.int .i64 (gt 0 u (gt 0 plan i).toNat) from by rw[aL 0 _ H7];rfl)) ?_
 iterate 2 refine af ?_
 refine Kq (aa.add (m:=(gt 0 u (gt 0 plan i).toNat+(gt cU.d l i).len)) rfl rfl rfl ((aG ?_).trans ?_)) ?_
 ·omega
 ·rfl
 refine Kq (aa.nilCheck rfl rfl) ?_
 refine aE.nil ?_
 refine Kz (aa.NB (f:=cK) (c:=1) (k:=(gt 0 plan i).toNat) (j:=0) (xs:=u) (z:=(gt 0 u (gt 0 plan i).toNat+(gt cU.d l i).len)) (ws:=[.int .i64 (gt 0 u (gt 0 plan i).toNat+(gt cU.d l i).len)]) rfl rfl rfl rfl rfl an rfl rfl rfl (by omega) (fun _=>rfl) H7 (by show 0+1<=1;decide) rfl) ?_
 iterate 2 refine af ?_
 refine Kc (aa.add rfl rfl rfl (aG ?_)) ?_
 ·omega
 iterate 2 refine af ?_
 refine⟨(i+1,u.set (gt 0 plan i).toNat (gt 0 u (gt 0 plan i).toNat+(gt cU.d l i).len)),?_,?_,?_⟩
 ·exact⟨hk0,L8 mV hq hW.1,by rw[GV,LY hk0 hpl hin Q5]⟩
 ·dsimp only;omega
 refine To.done [0] rfl KS ?_
 show[ai.row (bq _ (List.map V.p _)) _]=[ai.row _ _]
 rw[aX]):A:=h
theorem qw{A:Prop}(h:A:=by
 dsimp only[AX.then]
 exact lK.one rfl rfl hq):A:=h
theorem qX{A:Prop}(h:A:=by
 iterate 4 refine af ?_
 exact nH):A:=h
theorem gR{A:Prop}(h:A:=by
 intro c h hx
 exact hx.elim):A:=h
theorem By{A:Prop}(h:A:=by
 have ih:=kZ p xs
 simp only[iG,List.any_cons,<- ih]
 cases p x with
 | true=>simp
 | false=>
  simp
  split
  ·simp;omega
  ·omega):A:=h
theorem BU{A:Prop}(h:A:=by
 refine Kc (aa.load (v:= .p (.int .u8 ((k:Nat):Int))) rfl rfl an (show c7 _ _ _ _=_ from congrArg (Option.map V.p) hT)) ?_
 refine Kc (aa.dM rfl rfl (by rw[un5];rfl) AI (aG ?_)) ?_
 ·omega
 exact cQ):A:=h
theorem B6{A:Prop}(h:A:=by
 by_cases h3:i=k
 ·subst h3;simp[hk]
 ·simp[h2,h3,show ¬ k=i by omega]
  intro _ h4 _
  exact h4):A:=h
theorem uj{A:Prop}(h:A:=by
 iterate 3 refine af ?_
 exact Fin.one rfl (⟨_,_,_,rfl,an,rfl⟩)):A:=h
theorem DI{A:Prop}(h:A:=by
 simp only[fV]
 by_cases e:k=n
 ·subst e
  rw[lU (f:=g) (g:=f) k (fun j h1=>hj j (by omega) (by omega))]
  omega
 ·rw[rN (f:=f) (g:=g) n (by omega) (fun j h1 h2=>hj j (by omega) h2),hj n (by omega) (by omega)]
  omega):A:=h
theorem LU{A:Prop}(h:A:=by
 iterate 6 refine af ?_
 refine Fin.gW rfl rfl ?_
 rw[qu p xs i (by simp at hc0;omega) (fun j hj=>mV j hj xp) c8]):A:=h
theorem uf{A:Prop}(h:A:=by
 iterate 7 refine af ?_
 refine Kc (aa.makeFunc rfl rfl rfl) ?_
 exact cQ):A:=h
theorem qU{A:Prop}(h:A:=by
 exact⟨.inl rfl,_,eT.none_ rfl,rfl,rfl⟩):A:=h
theorem kU{A:Prop}(h:A:=by
 exact To.done [] rfl KS rfl):A:=h
theorem nH{A:Prop}(h:A:=by
 exact Fin.one rfl (rfl)):A:=h
theorem uo{A:Prop}(h:A:=by
 refine Fin.gW rfl ⟨_,_,_,rfl,an,rfl⟩ ?_
 rfl):A:=h
theorem uE{A:Prop}(h:A:=by
 have h3:=Zy (show 0<2 by omega) h2
 have h4:2^k*1<=2^k*(2*m+1):=Nat.mul_le_mul_left _ (by omega)
 omega):A:=h
theorem vN{A:Prop}(h:A:=by
 refine aI.exit ?_
 iterate 5 refine af ?_
 refine Fin.gW rfl rfl ?_
 rw[ku p xs (fun j hj=>mV j (by simp at hc0;omega) xp)]):A:=h
theorem mD{A:Prop}(h:A:=by
 iterate 3 refine af ?_
 exact lK.one rfl rfl ⟨rfl,rfl⟩):A:=h
theorem wu{A:Prop}(h:A:=by
 refine af ?_
 refine Kc (aa.vZ (hf _ (ZZ _)) rfl rfl rfl) ?_
 refine af ?_
 refine Ki (fun c8=> ?_) fun c8=> ?_
 ·exact LU
 ·exact BK):A:=h
theorem CO{A:Prop}(h:A:=by
 rw[Qe]
 intro x hx
 obtain⟨j,hj,rfl⟩:=Pz hx
 simp[h j hj]):A:=h
theorem aC{A:Prop}(h:A:=by
 first | (intro h;rw[h];rfl) | (intro h;simp_all)):A:=h
theorem vE{A:Prop}(h:A:=by
 rw[Zf,Zb h];rfl):A:=h
