/-
  Closing steps that several texts share. No condition.
-/
import Derived.KernelRfl
theorem qM{A:Prop}(h:A:=by
 rw[Wu,eL]
 refine To.done [1] rfl KS ?_
 show[ah.row (bA _ (_++_)) _]=[ah.row _ _]
 rw[bF,aP,ZA]
 rfl):A:=h
theorem DL{A:Prop}(h:A:=by
 have h3:=h1 0 (by omega)
 simp at h3
 have ih:=qI p xs i (by simpa using h) (fun j hj=>by have:=h1 (j+1) (by omega);simpa using this) (by simpa using h2)
 simp only[iN,h3,ih]
 simp
 omega):A:=h
theorem DR{A:Prop}(h:A:=by
 have h3:=h 0 (by simp)
 simp at h3
 have ih:=kP p xs (fun j hj=>by have:=h (j+1) (by simpa using hj);simpa using this)
 simp[iN,h3,ih]):A:=h
theorem vq{A:Prop}(h:A:=by
 iterate 4 refine af ?_
 refine Fin.fQ rfl rfl ?_
 rw[kT]):A:=h
theorem D3{A:Prop}(h:A:=by
 iterate 2 refine af ?_
 refine Kc (aa.add rfl rfl rfl (aK ?_)) ?_
 ·simp at hc0;omega
 iterate 2 refine af ?_
 refine⟨i+1,?_,?_,?_⟩
 ·refine⟨by simp at hc0;omega,fun j hj h=> ?_⟩
  rcases Md.1 hj with h1 | rfl
  ·exact mF j h1 vt
  ·exact cR
 ·simp at hc0;omega
 exact To.done [] rfl KS rfl):A:=h
theorem gS{A:Prop}(h:A:=by
 iterate 3 refine af ?_
 exact Fin.fQ rfl rfl rfl):A:=h
theorem dA{A:Prop}(h:A:=by
 iterate 3 refine af ?_
 exact Fin.one rfl (rfl)):A:=h
theorem Bq{A:Prop}(h:A:=by
 iterate 10 refine af ?_
 refine Kg 11 10 0 rfl (fun h=>(aa.move rfl rfl)) ?_
 refine Kg 12 10 2 rfl (fun h=>(aa.move rfl rfl)) ?_
 refine aj.g 13 10 rfl rfl rfl rfl rfl rfl rfl [(11,_),(12,_)] (fun h=>And.intro (.inr ⟨_,rfl,h⟩) (And.intro (.inr ⟨_,rfl,h⟩) (trivial))) (fun h=>(aa.leq rfl rfl rfl)) ?_
 refine Kc (aa.fH rfl rfl rfl ?_) ?_
 ·exact az
 exact dA):A:=h
theorem ES{A:Prop}(h:A:=by
 obtain⟨r,h1,h2,h3⟩:=lO p n (fun i j hij hj=>hp i j hij (by omega))
 cases hn:p n with
 | true=>
  refine⟨r,by omega,h2,fun i hi hj=> ?_⟩
  rcases Md.1 hj with h | rfl
  ·exact h3 i hi h
  ·exact hn
 | false=>
  refine⟨n+1,Zf _,fun i hi=> ?_,fun i h h'=>by omega⟩
  cases hpi:p i with
  | false=>rfl
  | true=>
   have:=hp i n (by omega) (by omega) hpi
   rw[hn] at this;cases this):A:=h
theorem EH{A:Prop}(h:A:=by
 have:=kS n (fun j hj=>h j (by omega))
 have:=h n (by omega)
 simp only[gY];omega):A:=h
theorem E6{A:Prop}(h:A:=by
 obtain⟨n,e,h1,h2⟩:=Qt .u8 h
 have a1:(0:Int)<=n:=h1
 have a2:n<=255:=h2
 exact⟨n.toNat,by rw[e,V7 a1],by omega⟩):A:=h
theorem BT{A:Prop}(h:A:=by
 have Q3:nX p (gt dw.d p.dies (gt 0 plan i).toNat) (gt 0 u (gt 0 plan i).toNat) (gt aH.d l i)=true:=by first | simpa only[Wl] using Aq | (unfold nX;simpa only[Wl] using Aq)
 refine af ?_
 refine aF.aD 7 mixed (by kernel_rfl) (by decide) ?_
 refine af ?_
 refine Kq (aa.nilCheck rfl rfl) ?_
 refine Kq (aa.kY (f:=bY) (c:=1) (k:=(gt 0 plan i).toNat) (j:=0) (xs:=u) rfl rfl an rfl rfl (by omega) (fun _=>rfl) GZ (by decide) (show _=PV.int .i64 (gt 0 u (gt 0 plan i).toNat) from by rw[aC 0 _ GZ];rfl)) ?_
 iterate 2 refine af ?_
 refine Kq (aa.add (m:=(gt 0 u (gt 0 plan i).toNat+(gt aH.d l i).len)) rfl rfl rfl ((aK ?_).trans ?_)) ?_
 ·omega
 ·rfl
 refine Kq (aa.nilCheck rfl rfl) ?_
 refine aA.nil ?_
 refine Kz (aa.Nd (f:=bY) (c:=1) (k:=(gt 0 plan i).toNat) (j:=0) (xs:=u) (z:=(gt 0 u (gt 0 plan i).toNat+(gt aH.d l i).len)) (ws:=[.int .i64 (gt 0 u (gt 0 plan i).toNat+(gt aH.d l i).len)]) rfl rfl rfl rfl rfl an rfl rfl rfl (by omega) (fun _=>rfl) GZ (by show 0+1<=1;decide) rfl) ?_
 iterate 2 refine af ?_
 refine Kc (aa.add rfl rfl rfl (aK ?_)) ?_
 ·omega
 iterate 2 refine af ?_
 refine⟨(i+1,u.set (gt 0 plan i).toNat (gt 0 u (gt 0 plan i).toNat+(gt aH.d l i).len)),?_,?_,?_⟩
 ·exact⟨hk0,M8 mF hq hW.1,by rw[G5,Mk hk0 hpl hin Q3]⟩
 ·dsimp only;omega
 refine To.done [0] rfl KS ?_
 show[ah.row (bA _ (List.map V.p _)) _]=[ah.row _ _]
 rw[aP]):A:=h
theorem qp{A:Prop}(h:A:=by
 dsimp only[AX.then]
 exact lP.one rfl rfl hq):A:=h
theorem gZ{A:Prop}(h:A:=by
 intro c h hx
 exact hx.elim):A:=h
theorem Dx{A:Prop}(h:A:=by
 have ih:=kT p xs
 simp only[iN,List.any_cons,<- ih]
 cases p x with
 | true=>simp
 | false=>
  simp
  split
  ·simp;omega
  ·omega):A:=h
theorem Es{A:Prop}(h:A:=by
 refine Kc (aa.load (v:= .p (.int .u8 ((k:Nat):Int))) rfl rfl an (show cN _ _ _ _=_ from congrArg (Option.map V.p) hT)) ?_
 refine Kc (aa.dY rfl rfl (by rw[un5];rfl) CR (aK ?_)) ?_
 ·omega
 exact dA):A:=h
theorem C2{A:Prop}(h:A:=by
 by_cases h3:i=k
 ·subst h3;simp[hk]
 ·simp[h2,h3,show ¬ k=i by omega]
  intro _ h4 _
  exact h4):A:=h
theorem wZ{A:Prop}(h:A:=by
 iterate 3 refine af ?_
 exact Fin.one rfl (⟨_,_,_,rfl,an,rfl⟩)):A:=h
theorem CE{A:Prop}(h:A:=by
 simp only[gY]
 by_cases e:k=n
 ·subst e
  rw[lU (f:=g) (g:=f) k (fun j h1=>hj j (by omega) (by omega))]
  omega
 ·rw[s9 (f:=f) (g:=g) n (by omega) (fun j h1 h2=>hj j (by omega) h2),hj n (by omega) (by omega)]
  omega):A:=h
theorem Lb{A:Prop}(h:A:=by
 iterate 6 refine af ?_
 refine Fin.fQ rfl rfl ?_
 rw[qI p xs i (by simp at hc0;omega) (fun j hj=>mF j hj vt) cR]):A:=h
theorem uZ{A:Prop}(h:A:=by
 iterate 7 refine af ?_
 refine Kc (aa.makeFunc rfl rfl rfl) ?_
 exact dA):A:=h
theorem qZ{A:Prop}(h:A:=by
 exact⟨.inl rfl,_,en.none_ rfl,rfl,rfl⟩):A:=h
theorem nU{A:Prop}(h:A:=by
 rw[Zp,AF.cu (c:=1) (fun _=>rfl)];rfl):A:=h
theorem iQ{A:Prop}(h:A:=by
 exact Fin.one rfl (rfl)):A:=h
theorem uW{A:Prop}(h:A:=by
 refine Fin.fQ rfl ⟨_,_,_,rfl,an,rfl⟩ ?_
 rfl):A:=h
theorem wo{A:Prop}(h:A:=by
 have h3:=Zy (show 0<2 by omega) h2
 have h4:2^k*1<=2^k*(2*m+1):=Nat.mul_le_mul_left _ (by omega)
 omega):A:=h
theorem xx{A:Prop}(h:A:=by
 refine aF.exit ?_
 iterate 5 refine af ?_
 refine Fin.fQ rfl rfl ?_
 rw[kP p xs (fun j hj=>mF j (by simp at hc0;omega) vt)]):A:=h
theorem nR{A:Prop}(h:A:=by
 iterate 3 refine af ?_
 exact lP.one rfl rfl ⟨rfl,rfl⟩):A:=h
theorem vG{A:Prop}(h:A:=by
 refine af ?_
 refine Kc (aa.C0 (hf _ (zL _)) rfl rfl rfl) ?_
 refine af ?_
 refine Ki (fun cR=> ?_) fun cR=> ?_
 ·exact Lb
 ·exact D3):A:=h
theorem EL{A:Prop}(h:A:=by
 rw[OM]
 intro x hx
 obtain⟨j,hj,rfl⟩:=Pv hx
 simp[h j hj]):A:=h
theorem az{A:Prop}(h:A:=by
 first | (intro h;rw[h];rfl) | (intro h;simp_all)):A:=h
theorem xu{A:Prop}(h:A:=by
 rw[Ze,Zc h];rfl):A:=h
