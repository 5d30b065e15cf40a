/-
  Closing steps that several texts share. No condition.
-/
import Derived.KernelRfl
theorem EA{A:Prop}(h:A:=by
 rw[WX,eL]
 refine To.done [1] rfl KS ?_
 show[ak.row (bE _ (_++_)) _]=[ak.row _ _]
 rw[bI,aP,Zy]
 rfl):A:=h
theorem TI{A:Prop}(h:A:=by
 exact⟨hk0,fun j hj=>by rcases NX.1 hj with h | rfl;exact jM j h;exact XF⟩):A:=h
theorem UN{A:Prop}(h:A:=by
 have h3:=h1 0 (by omega)
 simp at h3
 have ih:=rE p xs i (by simpa using h) (fun j hj=>by have:=h1 (j+1) (by omega);simpa using this) (by simpa using h2)
 simp only[jw,h3,ih]
 simp
 omega):A:=h
theorem abk{A:Prop}(h:A:=by
 have h3:=h 0 (by simp)
 simp at h3
 have ih:=lM p xs (fun j hj=>by have:=h (j+1) (by simpa using hj);simpa using this)
 simp[jw,h3,ih]):A:=h
theorem RG{A:Prop}(h:A:=by
 iterate 2 refine af ?_
 refine Kc (Kl (.p (.agg (de F)))) ?_
 iterate 5 refine af ?_
 exact Sa):A:=h
theorem L1{A:Prop}(h:A:=by
 iterate 4 refine af ?_
 refine Fin.cY rfl rfl ?_
 rw[lK]):A:=h
theorem L6{A:Prop}(h:A:=by
 iterate 2 refine af ?_
 refine⟨i+1,?_,?_,?_⟩
 ·refine⟨by simp at hc0;omega,fun j hj h=> ?_⟩
  rcases NX.1 hj with h1 | rfl
  ·exact jM j h1 pQ
  ·exact bw
 ·simp at hc0;omega
 exact To.done [] rfl KS rfl):A:=h
theorem Mm{A:Prop}(h:A:=by
 refine af ?_
 refine Kc (aa.BH (hf _ (ZZ _)) rfl rfl rfl) ?_
 refine af ?_
 refine Ki (fun bw=> ?_) fun bw=> ?_
 ·exact ac7
 ·iterate 2 refine af ?_
  refine Kc (aa.add rfl rfl rfl (aA ?_)) ?_
  ·exact oe
  exact L6):A:=h
theorem Bg{A:Prop}(h:A:=by
 iterate 3 refine af ?_
 exact Fin.cY rfl rfl rfl):A:=h
theorem mc{A:Prop}(h:A:=by
 iterate 3 refine af ?_
 exact Fin.one rfl (rfl)):A:=h
theorem J3{A:Prop}(h:A:=by
 iterate 10 refine af ?_
 refine Kg 11 10 0 rfl (fun h=>(aa.move rfl rfl)) ?_
 refine Kg 12 10 2 rfl (fun h=>(aa.move rfl rfl)) ?_
 refine aq.g 13 10 rfl rfl rfl rfl rfl rfl rfl [(11,_),(12,_)] (fun h=>And.intro (.inr ⟨_,rfl,h⟩) (And.intro (.inr ⟨_,rfl,h⟩) (trivial))) (fun h=>(aa.leq rfl rfl rfl)) ?_
 refine Kc (aa.gy rfl rfl rfl ?_) ?_
 ·exact fO
 exact mc):A:=h
theorem SO{A:Prop}(h:A:=by
 obtain⟨r,h1,h2,h3⟩:=mJ p n (fun i j hij hj=>hp i j hij (by omega))
 cases hn:p n with
 | true=>
  refine⟨r,by omega,h2,fun i hi hj=> ?_⟩
  rcases NX.1 hj with h | rfl
  ·exact h3 i hi h
  ·exact hn
 | false=>
  refine⟨n+1,Zg _,fun i hi=> ?_,fun i h h'=>by omega⟩
  cases hpi:p i with
  | false=>rfl
  | true=>
   have:=hp i n (by omega) (by omega) hpi
   rw[hn] at this;cases this):A:=h
theorem oe{A:Prop}(h:A:=by
 simp at hc0;omega):A:=h
theorem Fq{A:Prop}(h:A:=by
 exact Fin.cY rfl rfl rfl):A:=h
theorem SN{A:Prop}(h:A:=by
 have:=l8 n (fun j hj=>h j (by omega))
 have:=h n (by omega)
 simp only[fc];omega):A:=h
theorem GU{A:Prop}(h:A:=by
 unfold bp
 dsimp only
 rw[if_pos he]):A:=h
theorem aaY{A:Prop}(h:A:=by
 have Jb:tX p (gt cJ.d p.dies (gt 0 plan i).toNat) (gt 0 u (gt 0 plan i).toNat) (gt b7.d l i)=true:=by first | simpa only[Vn] using tN | (unfold tX;simpa only[Vn] using tN)
 refine af ?_
 refine aC.az 7 mixed (by kernel_rfl) (by decide) ?_
 refine af ?_
 refine Kq (aa.nilCheck rfl rfl) ?_
 refine Kq (aa.iN (f:=bG) (c:=1) (k:=(gt 0 plan i).toNat) (j:=0) (xs:=u) rfl rfl ai rfl rfl (by omega) (fun _=>rfl) xl (by decide) (show _=PV.int .i64 (gt 0 u (gt 0 plan i).toNat) from by rw[av 0 _ xl];rfl)) ?_
 iterate 2 refine af ?_
 refine Kq (aa.add (m:=(gt 0 u (gt 0 plan i).toNat+(gt b7.d l i).len)) rfl rfl rfl ((aA ?_).trans ?_)) ?_
 ·omega
 ·rfl
 refine Kq (aa.nilCheck rfl rfl) ?_
 refine ay.nil ?_
 refine Kz (aa.BX (f:=bG) (c:=1) (k:=(gt 0 plan i).toNat) (j:=0) (xs:=u) (z:=(gt 0 u (gt 0 plan i).toNat+(gt b7.d l i).len)) (ws:=[.int .i64 (gt 0 u (gt 0 plan i).toNat+(gt b7.d l i).len)]) rfl rfl rfl rfl rfl ai rfl rfl rfl (by omega) (fun _=>rfl) xl (by show 0+1<=1;decide) rfl) ?_
 iterate 2 refine af ?_
 refine Kc (aa.add rfl rfl rfl (aA ?_)) ?_
 ·omega
 iterate 2 refine af ?_
 refine⟨(i+1,u.set (gt 0 plan i).toNat (gt 0 u (gt 0 plan i).toNat+(gt b7.d l i).len)),?_,?_,?_⟩
 ·exact⟨hk0,BZ jM hq hW.1,by rw[Ct,A5 hk0 hpl hin Jb]⟩
 ·dsimp only;omega
 refine To.done [0] rfl KS ?_
 show[ak.row (bE _ (List.map V.p _)) _]=[ak.row _ _]
 rw[aP]):A:=h
theorem KV{A:Prop}(h:A:=by
 dsimp only[AX.then]
 exact nk.one rfl rfl hq):A:=h
theorem qU{A:Prop}(h:A:=by
 intro c h hx
 exact hx.elim):A:=h
theorem Sa{A:Prop}(h:A:=by
 refine Fin.bq (xs:=[.agg (de F),.str (sB ([])),.int .i64 9]) rfl ⟨_,_,rfl,⟨_,_,_,rfl,ai,rfl⟩,⟨_,_,rfl,rfl,⟨_,_,rfl,rfl,rfl⟩⟩⟩ rfl ?_
 unfold bp
 dsimp only
 rw[if_pos Ff]):A:=h
theorem B0{A:Prop}(h:A:=by
 exact Fin.one rfl (⟨_,_,_,rfl,ai,rfl⟩)):A:=h
theorem EK{A:Prop}(h:A:=by
 rw[ZX,Zc,tZ]
 simp):A:=h
theorem abK{A:Prop}(h:A:=by
 have ih:=lK p xs
 simp only[jw,Xf,<- ih]
 cases p x with
 | true=>simp
 | false=>
  simp
  split
  ·simp;omega
  ·omega):A:=h
theorem St{A:Prop}(h:A:=by
 refine Kc (aa.load (v:= .p (.int .u8 ((k:Nat):Int))) rfl rfl ai (show di _ _ _ _=_ from congrArg (Option.map V.p) hT)) ?_
 refine Kc (aa.dP rfl rfl (by rw[un5];rfl) y4 (aA ?_)) ?_
 ·omega
 exact mc):A:=h
theorem RU{A:Prop}(h:A:=by
 by_cases h3:i=k
 ·subst h3;simp[hk]
 ·simp[h2,h3,show ¬ k=i by omega]
  intro _ h4 _
  exact h4):A:=h
theorem Ti{A:Prop}(h:A:=by
 simp only[fc]
 by_cases e:k=n
 ·subst e
  rw[mZ (f:=g) (g:=f) k (fun j h1=>hj j (by omega) (by omega))]
  omega
 ·rw[sW (f:=f) (g:=g) n (by omega) (fun j h1 h2=>hj j (by omega) h2),hj n (by omega) (by omega)]
  omega):A:=h
theorem ac7{A:Prop}(h:A:=by
 iterate 6 refine af ?_
 refine Fin.cY rfl rfl ?_
 rw[rE p xs i (by simp at hc0;omega) (fun j hj=>jM j hj pQ) bw]):A:=h
theorem MN{A:Prop}(h:A:=by
 iterate 7 refine af ?_
 refine Kc (aa.makeFunc rfl rfl rfl) ?_
 exact mc):A:=h
theorem P7{A:Prop}(h:A:=by
 show ws.length - (i+1)<ws.length - i
 omega):A:=h
theorem RA{A:Prop}(h:A:=by
 have ih:=zc n (fun j hj=>h j (by omega))
 have h1:=h n (by omega)
 simp only[fc]
 have e1:A*((n+1:Nat):Int)=A*n+A:=by rw[show((n+1:Nat):Int)=(n:Int)+1 by omega,Int.mul_add,Int.mul_one]
 have e2:B*((n+1:Nat):Int)=B*n+B:=by rw[show((n+1:Nat):Int)=(n:Int)+1 by omega,Int.mul_add,Int.mul_one]
 rw[e1,e2]
 omega):A:=h
theorem FQ{A:Prop}(h:A:=by
 exact⟨.inl rfl,_,fE.none_ rfl,rfl,rfl⟩):A:=h
theorem Bz{A:Prop}(h:A:=by
 exact To.done [] rfl KS rfl):A:=h
theorem Is{A:Prop}(h:A:=by
 refine aC.exit ?_
 iterate 6 refine af ?_
 exact Fq):A:=h
theorem Tz{A:Prop}(h:A:=by
 iterate 4 refine af ?_
 refine Kc (aa.add rfl rfl rfl (aA ?_)) ?_
 ·omega
 iterate 2 refine af ?_
 refine⟨i+1,?_,?_,?_⟩
 ·exact hk0
 ·omega
 exact Bz):A:=h
theorem xY{A:Prop}(h:A:=by
 rw[Zr,AF.bD (c:=1) (fun _=>rfl)];rfl):A:=h
theorem C8{A:Prop}(h:A:=by
 exact Fin.one rfl (rfl)):A:=h
theorem Rc{A:Prop}(h:A:=by
 refine Fin.cY rfl ⟨_,_,_,rfl,ai,rfl⟩ ?_
 rfl):A:=h
theorem OL{A:Prop}(h:A:=by
 have h3:=Zq (show 0<2 by omega) h2
 have h4:2^k*1<=2^k*(2*m+1):=Nat.mul_le_mul_left _ (by omega)
 omega):A:=h
theorem PO{A:Prop}(h:A:=by
 refine aC.exit ?_
 iterate 5 refine af ?_
 refine Fin.cY rfl rfl ?_
 rw[lM p xs (fun j hj=>jM j (by simp at hc0;omega) pQ)]):A:=h
theorem ER{A:Prop}(h:A:=by
 iterate 3 refine af ?_
 exact nk.one rfl rfl ⟨rfl,rfl⟩):A:=h
theorem TT{A:Prop}(h:A:=by
 rw[NM]
 intro x hx
 obtain⟨j,hj,rfl⟩:=OX hx
 simp[h j hj]):A:=h
theorem fO{A:Prop}(h:A:=by
 first | (intro h;rw[h];rfl) | (intro h;simp_all)):A:=h
theorem ON{A:Prop}(h:A:=by
 refine aC.exit ?_
 iterate 6 refine af ?_
 exact C8):A:=h
theorem Ra{A:Prop}(h:A:=by
 rw[Zh,Zb h];rfl):A:=h
