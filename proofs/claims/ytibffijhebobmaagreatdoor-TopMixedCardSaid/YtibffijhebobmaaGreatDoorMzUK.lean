/-
 Chapter 15: marks: lines that are not mark, back or keep leave them; a mark and what goes back to it. No program in sight.
 Chapter 15: marks that are counted; what is entered behind a mark, and back to it. No program in sight.
 Chapter 15: lines that are made of a word and numbers are read as these; words between blanks. No program in sight.
 Across chapters 1 and 15: sacks that are entered, leads that are made of two of them, and what they come from. No program in sight.
 Chapter 15: a line that is refused, and a question, changes nothing. No program in sight.
 Chapter 15: what a line that is not refused adds; refused lines. No program in sight.
 Chapter 15: what more of the library's texts do at this program: a text within a text, what is behind a prefix, numbers that are read, words between blanks.
 The helper of MasterBack and MasterRefused: how many marks there are.
-/
import Derived.Test.YtibffijhebobmaaGreatDoorMzUG
import Derived.Test.YtibffijhebobmaaGreatDoorMzUP
import Derived.Test.YtibffijhebobmaaGreatDoorMzUJ
import Derived.Lib.Fields
import Derived.Test.YtibffijhebobmaaGreatDoorMzUC
import Derived.Lib.IndexMore
import Derived.Test.YtibffijhebobmaaGreatDoorMzUA
import Derived.Lib.AtoiErrMem
import Derived.Test.YtibffijhebobmaaGreatDoorMzUF
set_option linter.unusedSimpArgs false
set_option linter.unusedVariables false
section
namespace Go.Proofs.YtibffijhebobmaaGreatDoor
open Go.AF
set_option maxRecDepth 100000
theorem E7:∀ n,n<1002->Lib.atoi (Lib.itoa ((n:Nat):Int))=some ((n:Nat):Int):=by decide+kernel
theorem G2{u:Nat}(h:u<10):(UInt8.ofNat (48+u)).toNat=48+u:=by
 rw[UInt8.toNat_ofNat'];omega
theorem Qx(u:Nat):oE (Lib.decDigits u)=u:=by
 induction u using Nat.strongRecOn with
 | ind u ih=>
  by_cases h:u<10
  ·rw[iY h]
   show 10*0+((UInt8.ofNat (48+u)).toNat - 48)=u
   rw[G2 h];omega
  ·rw[pU (by omega),DT,ih _ (by omega),G2 (by omega)];omega
theorem Il(u:Nat):(Lib.decDigits u).all qq=true:=by
 induction u using Nat.strongRecOn with
 | ind u ih=>
  have hd:∀ k,k<10->qq (UInt8.ofNat (48+k))=true:=fun k hk=>by
   unfold qq
   rw[G2 hk,Zk,Zj,Zj];omega
  by_cases h:u<10
  ·rw[iY h,Sv,hd u h];rfl
  ·rw[pU (by omega),List.all_append,ih _ (by omega),Sv,hd _ (by omega)];rfl
theorem FV(u:Nat):Lib.decDigits u≠[]:=by
 by_cases h:u<10
 ·rw[iY h];exact List.cons_ne_nil _ _
 ·rw[pU (by omega)];exact fun e=>List.cons_ne_nil _ _ (List.append_eq_nil_iff.1 e).2
theorem LM(u:Nat):1<=u->(Lib.decDigits u).getD 0 0≠48:=by
 induction u using Nat.strongRecOn with
 | ind u ih=>
  intro h1
  by_cases h:u<10
  ·rw[iY h]
   intro e
   have e:UInt8.ofNat (48+u)=48:=e
   have:=congrArg UInt8.toNat e
   rw[G2 h] at this
   have e2:(48:UInt8).toNat=48:=rfl
   omega
  ·rw[pU (by omega)]
   have h2:=ih (u / 10) (by omega) (by omega)
   cases hd:Lib.decDigits (u / 10) with
   | nil=>exact absurd hd (FV _)
   | cons x r=>rw[hd] at h2;exact h2
theorem Od{n:Int}(h0:0<=n)(h1:n<10000000000000):tv (Lib.itoa n)=some n:=by
 have hl:=lq h0 h1
 rw[qx h0] at hl ⊢
 rw[tR ⟨FV _,hl,?_,Il _⟩,Qx,U9 h0]
 by_cases h:n.toNat=0
 ·left;rw[h];decide+kernel
 ·exact .inr (LM _ (by omega))
theorem wT{n:Int}(h0:0<=n):∀ b∈Lib.itoa n,48<=b.toNat∧b.toNat<=57:=fun b hb=>by
 rw[qx h0] at hb
 exact xb (Zz.1 (Il _) b hb)
theorem MF{n:Int}(h0:0<=n):EW 32 (Lib.itoa n):=fun b hb e=>by
 have h:=wT h0 b hb
 rw[e] at h
 exact absurd h.1 (by decide)
theorem TH(v:Vb):EW 32 v.t:=by
 intro b hb e
 subst e
 revert hb
 cases v <;> decide
theorem z8{c:UInt8}(t:Bs):∀(w cur:Bs),EW c w->dQ c cur (w++t)=dQ c (cur++w) t
 | [],cur,_=>by rw[IS,ZU]
 | b::w,cur,h=>by
  rw[NF,dQ,if_neg (h b (Zq ..)),z8 t w _ fun x hx=>h x (Zg _ hx),ZH]
  rfl
theorem s0{c:UInt8}:∀(r:List Bs) (w:Bs),EW c w->(∀ x∈r,EW c x)->dQ c [] (cA c (w::r))=w::r
 | [],w,hw,_=>by
  show dQ c [] (w++[])=_
  rw[z8 _ _ _ hw,dQ];rfl
 | y::r,w,hw,h=>by
  rw[jg,ZH,z8 _ _ _ hw]
  show dQ c w (c::cA c (y::r))=_
  rw[dQ,if_pos rfl,s0 r y (h y (Zq ..)) fun x hx=>h x (Zg _ hx)]
theorem Fa{w:Bs}{l:List Int}(hw:EW 32 w)(hB:∀ x∈l,0<=x∧x<10000000000000):bT (aH w l)=w::l.map Lib.itoa:=by
 unfold bT
 rw[eD]
 exact s0 _ _ hw fun x hx=>by
  obtain⟨n,hn,rfl⟩:=yu.1 hx
  exact MF (hB n hn).1
theorem y4:∀ l:List Int,(∀ x∈l,0<=x∧x<10000000000000)->(l.map Lib.itoa).mapM tv=some l
 | [],_=>rfl
 | x::l,h=>by
  have h1:=h x (Zq ..)
  rw[Zx,List.mapM_cons,Od h1.1 h1.2,y4 l fun y hy=>h y (Zg _ hy)]
  rfl
theorem Gh{v:Vb}{l:List Int}(hl:l.length=v.many)(hB:∀ x∈l,0<=x∧x<10000000000000):cJ (aH v.t l)=some (v,l):=by
 unfold cJ
 rw[Fa (TH v) hB]
 dsimp only
 rw[Ts]
 dsimp only
 rw[Zo,if_pos hl,y4 l hB]
 rfl
theorem rR{F:cT}{v:Vb}{l:List Int}(hl:l.length=v.many)(hB:∀ x∈l,0<=x∧x<10000000000000):aP F (aH v.t l)=bG F v l:=by
 have h:=gU (w:=v.t) hB
 have h1:=Lr v
 have h2:v.many<=8:=by cases v <;> decide
 unfold aP
 rw[if_neg (by omega),Gh hl hB]
theorem y6(t:Bs):∀(w cur:Bs),(∀ b∈w,Lib.isSp b=false)->Lib.fieldsGo cur (w++t)=Lib.fieldsGo (cur++w) t
 | [],cur,_=>by rw[IS,ZU]
 | b::w,cur,h=>by
  rw[NF,Lib.fieldsGo,if_neg (by rw[h b (Zq ..)];decide),y6 t w _ fun x hx=>h x (Zg _ hx),ZH]
  rfl
def Lp(w:Bs):Prop:=w≠[]∧∀ b∈w,Lib.isSp b=false
theorem PN{w:Bs}(h:w≠[]):Lib.fieldsGo w []=[w]:=by
 cases w with
 | nil=>exact absurd rfl h
 | cons x r=>rfl
theorem QJ{w t:Bs}(h:w≠[]):Lib.fieldsGo w (32::t)=w::Lib.fieldsGo [] t:=by
 cases w with
 | nil=>exact absurd rfl h
 | cons x r=>rfl
theorem Bu:∀(r:List Bs) (w:Bs),Lp w->(∀ x∈r,Lp x)->Lib.fields (cA 32 (w::r))=w::r
 | [],w,hw,_=>by
  show Lib.fieldsGo [] (w++[])=_
  rw[y6 _ _ _ hw.2,IS,PN hw.1]
 | y::r,w,hw,h=>by
  have ih:=Bu r y (h y (Zq ..)) fun x hx=>h x (Zg _ hx)
  unfold Lib.fields at ih ⊢
  rw[jg,ZH,y6 _ _ _ hw.2,IS]
  show Lib.fieldsGo w (32::cA 32 (y::r))=_
  rw[QJ hw.1,ih]
theorem Al{n:Int}(h0:0<=n):Lp (Lib.itoa n):=⟨by rw[qx h0];exact FV _,fun b hb=>by
 have h:=wT h0 b hb
 have g:∀ k:UInt8,k.toNat<48->(b==k)=false:=fun k hk=>by
  rw[beq_eq_false_iff_ne]
  intro e;rw[e] at h;omega
 unfold Lib.isSp
 rw[g 9 (by decide),g 10 (by decide),g 11 (by decide),g 12 (by decide),g 13 (by decide),g 32 (by decide)]
 rfl⟩
theorem Gd(w:Bs)(l:List Int)(x:Int):(aH w l++[32])++Lib.itoa x=aH w (l++[x]):=by simp[aH]
theorem W0{w:Bs}{l:List Int}(hw:w.length<=100)(hl:l.length<=10)(hB:∀ x∈l,0<=x∧x<10000000000000)(k:Nat):(aH w (l.take k)).length+[(32:UInt8)].length<9223372036854775808:=by
 have h:=gU (w:=w) (l:=l.take k) fun x hx=>hB x (Uf hx)
 have h2:(l.take k).length<=10:=by rw[x7];omega
 show _+1<_
 omega
theorem aa5{w:Bs}{l:List Int}{k:Nat}(hw:w.length<=100)(hl:l.length<=10)(hB:∀ x∈l,0<=x∧x<10000000000000)(hk:k<l.length):(aH w (l.take k)++[32]).length+(Lib.itoa (Di.gt 0 l k)).length<9223372036854775808:=by
 have e:l.take k++[Di.gt 0 l k]=l.take (k+1):=by rw[ZX hk,Di.aL 0 k hk]
 rw[<- Zd,Gd,e]
 have h:=gU (w:=w) (l:=l.take (k+1)) fun x hx=>hB x (Uf hx)
 have h2:(l.take (k+1)).length<=10:=by rw[x7];omega
 omega
def Ke:Di.bO:=⟨[⟨1000,0,0⟩],0,0,0⟩
def dr1:Di.cU:=⟨1,0,1000⟩
theorem MY:Di.fQ Ke=true:=by decide+kernel
theorem aa0:(Di.fO Ke [dr1] [0]).2.2=0:=by decide+kernel
def mB(l:List Ck.Sk)(k:Nat):cT:=⟨Ke,⟨l.take k,List.replicate k ⟨0,0⟩,[],[],0,0,(List.range k).map fun(i:Nat)=>(i:Int)⟩,[]⟩
theorem CT(l:List Ck.Sk):mB l 0=newF Ke:=by unfold mB;rw[Ml];rfl
def SJ(s:Ck.Sk):List Int:=[s.w.lo,s.w.hi,s.c.lo,s.c.hi,s.l.lo,s.l.hi]
theorem G9{l:List Ck.Sk}(hA:Ck.aF l=true):l.length<=8∧∀ s∈l,Ck.aF [s]=true∧∀ x∈SJ s,0<=x∧x<10000000000000:=by
 unfold Ck.aF at hA
 rw[Zk,Zj,Gc] at hA
 obtain⟨h1,h2⟩:=hA
 refine⟨by omega,fun s hs=> ?_⟩
 have h3:=Qe.1 h2 s hs
 refine⟨?_,?_⟩
 ·unfold Ck.aF
  rw[List.any_cons,List.any_nil,Bool.or_false,Zk,Gc]
  exact⟨rfl,by simpa using h3⟩
 ·unfold Ck.Sk.bad Ck.Sp.ok at h3
  simp at h3
  intro x hx
  unfold SJ at hx
  simp only[Zr,HL,or_false] at hx
  rcases hx with rfl | rfl | rfl | rfl | rfl | rfl <;> omega
theorem ym{l:List Ck.Sk}(hA:Ck.aF l=true){k:Nat}(hk:k<l.length):aP (mB l k) (aH Vb.nC.t (SJ (Di.gt Ck.aU l k)))=(mB l (k+1),aH Vb.nC.t [(k:Int)]++32::aH dA [(k:Int)],0):=by
 obtain⟨hl,hs⟩:=G9 hA
 obtain⟨h1,h2⟩:=hs _ (Di.bH Ck.aU hk)
 generalize hg:Di.gt Ck.aU l k=s at h1 h2 ⊢
 rw[rR (by rfl) h2]
 have e0:hY (SJ s)=s:=rfl
 have e1:(shr [s] [bM 0 1]).2=0:=by rw[Gp,uV,h1];rfl
 have e2:(mB l k).b.aq.length=k:=by show(l.take k).length=k;rw[x7];omega
 have e3:(mB l k).b.ah.length=k:=UX
 unfold bG
 dsimp only
 rw[e0,e2,e3,if_neg (by omega),if_neg (by rw[e1];decide)]
 have k1:l.take k++[s]=l.take (k+1):=by rw[ZX hk,Di.aL Ck.aU k hk,hg]
 have k2:List.replicate k (⟨0,0⟩:Rx.b6)++[⟨0,0⟩]=List.replicate (k+1) ⟨0,0⟩:=List.replicate_succ'.symm
 have k3:((List.range k).map fun(i:Nat)=>(i:Int))++[(k:Int)]=(List.range (k+1)).map fun(i:Nat)=>(i:Int):=by rw[List.range_succ,ZG];rfl
 have k4:({(mB l k) with b:={(mB l k).b.fh ⟨0,0⟩ with aq:=(mB l k).b.aq++[s],bX:=(mB l k).b.bX++[(k:Int)]}}:cT)=mB l (k+1):=by
  unfold mB bK.fh
  dsimp only
  rw[k1,k2,k3]
 rw[k4]
def IE(n:Nat)(i j:Int):List Rx.b6:=List.replicate n ⟨0,0⟩++[⟨both i j,0⟩]
def RQ(l:List Ck.Sk)(i j:Int):cT:=⟨Ke,⟨l,IE l.length i j,[dr1],[0],0,0,(List.range l.length).map fun(k:Nat)=>(k:Int)⟩,[]⟩
def wq(i j t n:Int):List Int:=[i,n,j,t - n,0,1,0,1000]
theorem yJ{l:List Ck.Sk}{i j t n:Int}{w:Ck.Sp}(hA:Ck.aF l=true)(hG:Ck.cG l i j t w=true)(hn:1<=n∧n<t):aP (mB l l.length) (aH Vb.lead.t (wq i j t n))=(RQ l i j,aH dA [(l.length:Int)]++32::aH eE [Ck.OC l (Ck.b2 i j t n),Ck.OH l (Ck.b2 i j t n)],0):=by
 obtain⟨g1,g2,g3,g4,g5⟩:=Ck.lP hG
 have hl:=(G9 hA).1
 have hv:Ck.dG l (Ck.b2 i j t n)=true:=by rw[Ck.qv hA hG n];simp[hn.1,hn.2]
 rw[rR (by rfl) (fun x hx=>by
  unfold wq at hx
  simp only[Zr,HL,or_false] at hx
  rcases hx with rfl | rfl | rfl | rfl | rfl | rfl | rfl | rfl <;> omega)]
 have e1:shr l (Ck.b2 i j t n)=((Ck.OC l (Ck.b2 i j t n),Ck.OH l (Ck.b2 i j t n)),0):=by unfold shr Ck.OC Ck.OH;rw[if_pos hv,if_pos hv,if_pos hv]
 have e2:(mB l l.length).b.aq=l:=ZS
 have e3:(mB l l.length).b.ah.length=l.length:=UX
 have e4:shr (mB l l.length).b.aq [bM (nn (wq i j t n) 0) (nn (wq i j t n) 1),bM (nn (wq i j t n) 2) (nn (wq i j t n) 3)]=((Ck.OC l (Ck.b2 i j t n),Ck.OH l (Ck.b2 i j t n)),0):=by rw[e2];exact e1
 have e5:(Di.fO (mB l l.length).aV ((mB l l.length).b.av++[⟨nn (wq i j t n) 5,nn (wq i j t n) 6,nn (wq i j t n) 7⟩]) ((mB l l.length).b.plan++[nn (wq i j t n) 4])).2.2=0:=aa0
 have ec:∀ x:Int,0<=x->x<=(l.length:Int) - 1->nn (mB l l.length).b.bX x.toNat=x:=fun x h0 h1=>by
  show Di.gt 0 ((List.range l.length).map fun(i:Nat)=>(i:Int)) x.toNat=x
  have h:x.toNat<((List.range l.length).map fun(i:Nat)=>(i:Int)).length:=by rw[Zo,Ko];omega
  rw[<- Di.aL 0 _ h,List.getElem_map,List.getElem_range]
  omega
 unfold bG
 dsimp only
 rw[e3,if_neg (by omega),e4]
 dsimp only
 rw[if_neg (by decide),if_neg (show ¬ 8<=(mB l l.length).b.av.length by show ¬ 8<=0;decide),if_neg (by rw[e5];decide)]
 have k1:both (nn (mB l l.length).b.bX (nn (wq i j t n) 0).toNat) (nn (mB l l.length).b.bX (nn (wq i j t n) 2).toNat)=both i j:=by rw[show nn (wq i j t n) 0=i from rfl,show nn (wq i j t n) 2=j from rfl,ec i g1.1 g1.2,ec j g2.1 g2.2]
 rw[k1]
 have k2:({(mB l l.length) with b:={(mB l l.length).b.fh ⟨both i j,0⟩ with av:=(mB l l.length).b.av++[⟨nn (wq i j t n) 5,nn (wq i j t n) 6,nn (wq i j t n) 7⟩],plan:=(mB l l.length).b.plan++[nn (wq i j t n) 4]}}:cT)=RQ l i j:=by
  unfold RQ IE bK.fh mB
  dsimp only
  rw[ZS]
  rfl
 rw[k2]
set_option maxRecDepth 1000000 in
theorem K7:∀ n,n<9->∀ i,i<n->∀ j,j<n->i≠j->Rx.fy (IE n i j) n=0∧iO (Rx.kz (IE n i j) (Rx.bS (IE n i j)) n)=[min (i:Int) (j:Int),max (i:Int) (j:Int),(n:Int)]:=by decide+kernel
theorem I9{l:List Ck.Sk}{i j t:Int}{w:Ck.Sp}(hA:Ck.aF l=true)(hG:Ck.cG l i j t w=true):aP (RQ l i j) (aH Vb.from_.t [(l.length:Int)])=(RQ l i j,aH Vb.from_.t [min i j,max i j,(l.length:Int)],0):=by
 obtain⟨g1,g2,g3,g4,g5⟩:=Ck.lP hG
 have hl:=(G9 hA).1
 obtain⟨a,rfl⟩:∃ a:Nat,i=a:=⟨i.toNat,by omega⟩
 obtain⟨b,rfl⟩:∃ b:Nat,j=b:=⟨j.toNat,by omega⟩
 obtain⟨h1,h2⟩:=K7 l.length (by omega) a (by omega) b (by omega) (by omega)
 rw[rR (by rfl) (by intro x hx;rw[ZJ.1 hx];omega)]
 have e:nn [(l.length:Int)] 0=(l.length:Int):=rfl
 have eb:(RQ l (a:Int) (b:Int)).b.ah=IE l.length a b:=rfl
 unfold bG
 dsimp only
 rw[e,eb,if_neg (by rw[h1];decide),h2]
theorem FB(n a b:Int):aH dA [n]++32::aH eE [a,b]=cA 32 [dA,Lib.itoa n,eE,Lib.itoa a,Lib.itoa b]:=by simp[aH,cA]
theorem AE{n a b:Int}(hn:0<=n)(ha:0<=a)(hb:0<=b):Lib.fields (aH dA [n]++32::aH eE [a,b])=[dA,Lib.itoa n,eE,Lib.itoa a,Lib.itoa b]:=by
 rw[FB]
 have hc:Lp dA:=⟨by decide,by decide⟩
 have hs:Lp eE:=⟨by decide,by decide⟩
 exact Bu _ _ hc fun x hx=>by
  simp only[Zr,HL,or_false] at hx
  rcases hx with rfl | rfl | rfl | rfl
  ·exact Al hn
  ·exact hs
  ·exact Al ha
  ·exact Al hb
theorem S7{l:List Ck.Sk}{i j t n:Int}{w:Ck.Sp}(hA:Ck.aF l=true)(hG:Ck.cG l i j t w=true)(hn:1<=n∧n<t):
    (decide (w.lo<=Ck.OC l (Ck.b2 i j t n))&&decide (Ck.OH l (Ck.b2 i j t n)<=w.hi))=(decide (Ck.iJ l i j t w=0)&&(decide (Ck.rU l i j t w<=n)&&decide (n<=Ck.sn l i j t w))):=by
 have h:=Ck.J6 hA hG n
 have hv:Ck.dG l (Ck.b2 i j t n)=true:=by rw[Ck.qv hA hG n];simp[hn.1,hn.2]
 have he:Ck.Vj l (Ck.b2 i j t n)=0:=by unfold Ck.Vj;rw[if_pos hv]
 rw[he] at h
 rw[show decide ((0:Int)=0)=true from rfl,Bool.true_and] at h
 rw[h]
 rcases Ck.xP hA hG with⟨e,hno⟩ | ⟨e,a,c,ea,ec,h1,h2,h3,h4⟩
 ·rw[e]
  have:=hno n.toNat (by omega) (by omega)
  unfold Ck.nY
  rw[this]
  simp
 ·rw[e,ea,ec,Ck.Xk h1 h2 h3 h4 hn.1 hn.2]
  simp
theorem zY{l:List Ck.Sk}(hA:Ck.aF l=true):∀ k,k<=l.length->oN (mB l k)
 | 0,_=>by rw[CT];exact KX MY
 | k+1,h=>by
  have h2:=z7 (s:=aH Vb.nC.t (SJ (Di.gt Ck.aU l k))) (zY hA k (by omega))
  rw[ym hA (by omega)] at h2
  exact h2
theorem UE{l:List Ck.Sk}{i j t n:Int}{w:Ck.Sp}(hA:Ck.aF l=true)(hG:Ck.cG l i j t w=true)(hn:1<=n∧n<t):oN (RQ l i j):=by
 have h2:=z7 (s:=aH Vb.lead.t (wq i j t n)) (zY hA l.length (Ze _))
 rw[yJ hA hG hn] at h2
 exact h2
theorem DO(n a b:Int):aH dA [n]++32::aH eE [a,b]=([99,97,114,100,32]++Lib.itoa n)++aH [32,115,104,97,114,101] [a,b]:=by simp[aH,dA,eE]
theorem sS{w:Bs}{l:List Int}(hw:∀ b∈w,b.toNat<128)(hl:∀ x∈l,0<=x):∀ b∈aH w l,b.toNat<128:=fun b hb=>by
 unfold aH at hb
 rcases Zp.1 hb with h | h
 ·exact hw b h
 ·obtain⟨x,hx,gZ⟩:=List.mem_flatMap.1 h
  rcases Zr.1 gZ with rfl | h3
  ·decide
  ·have:=wT (hl x hx) b h3;omega
theorem E2{n a b:Int}(hn:0<=n)(ha:0<=a)(hb:0<=b):∀ x∈aH dA [n]++32::aH eE [a,b],x.toNat<128:=fun x hx=>by
 rcases Zp.1 hx with h | h
 ·exact sS (by decide) (by intro y hy;rw[ZJ.1 hy];exact hn) x h
 ·rcases Zr.1 h with rfl | h
  ·decide
  ·exact sS (by decide) (by
     intro y hy
     simp only[Zr,HL,or_false] at hy
     rcases hy with rfl | rfl <;> assumption) x h
theorem Eo{n a b:Int}(hn:0<=n∧n<10000000000000)(ha:0<=a∧a<10000000000000)(hb:0<=b∧b<10000000000000):(aH dA [n]++32::aH eE [a,b]).length<=100:=by
 have h1:=gU (w:=dA) (l:=[n]) (by intro y hy;rw[ZJ.1 hy];exact hn)
 have h2:=gU (w:=eE) (l:=[a,b]) (by
  intro y hy
  simp only[Zr,HL,or_false] at hy
  rcases hy with rfl | rfl <;> assumption)
 have h3:dA.length=4:=rfl
 have h4:eE.length=5:=rfl
 have h5:[n].length=1:=rfl
 have h6:[a,b].length=2:=rfl
 rw[Zd,Zn]
 omega
theorem SQ{l:List Ck.Sk}{i j t n:Int}{w:Ck.Sp}(hA:Ck.aF l=true)(hG:Ck.cG l i j t w=true)(hn:1<=n∧n<t):∃ a b:Nat,Ck.OC l (Ck.b2 i j t n)=(a:Int)∧Ck.OH l (Ck.b2 i j t n)=(b:Int)∧a<=1000∧b<=1000:=by
 obtain⟨_,_,_,g4,_⟩:=Ck.lP hG
 have hv:Ck.dG l (Ck.b2 i j t n)=true:=by rw[Ck.qv hA hG n];simp[hn.1,hn.2]
 obtain⟨h1,h2⟩:=Ck.aat (Ck.wo hA) (Ck.W6 (i:=i) (j:=j) (show 0<=n by omega) (show n<=t by omega) g4.2)
 have e1:Ck.OC l (Ck.b2 i j t n)=Ck.mj l (Ck.b2 i j t n) 1001:=by unfold Ck.OC;rw[if_pos hv]
 have e2:Ck.OH l (Ck.b2 i j t n)=Ck.iP l (Ck.b2 i j t n) 1001:=by unfold Ck.OH;rw[if_pos hv]
 rw[e1,e2]
 exact⟨(Ck.mj l (Ck.b2 i j t n) 1001).toNat,(Ck.iP l (Ck.b2 i j t n) 1001).toNat,by omega,by omega,by omega,by omega⟩
def Vj(F:cT)(x:cT×Bs×Int):Prop:=x.2.2≠0->x.1=F∧x.2.1=[]
theorem zE{a b:Bs}(h:a≠[]):a++b≠[]:=fun e=>h (List.append_eq_nil_iff.1 e).1
set_option maxHeartbeats 4000000
open Go.Proofs
theorem GZ{a:ByteArray}:∀(w:World) (I:Nat->Prop) (vs:List Value),aR w I [.str a] vs->vs=[.string a]:=fun w I vs h=>by
 obtain⟨u0,Vd,rfl,k0,k1⟩:=h
 have k0:u0= .string a:=k0
 have k1:Vd=[]:=k1
 rw[k0,k1]
theorem PI(s t:Bs)(hs:s.length<=1000000):Pure Tryz.prog 16 [.str (sB s),.str (sB t)] (.bool (decide (0<=Lib.index s t))):=
 Pure.w8 (us:=[.string (sB s),.string (sB t)]) vC fun w I hg=>by
  obtain⟨m,hm⟩:=IK hg mxl
  exact(Any.strings_Contains Tryz.Qt (sB s) (sB t) m w (by rw[eX];omega) hm).mono fun e w' ⟨h1,h2⟩=>⟨_,h1,fun _ _=>by
   show Value.bool (decide (0<=Lib.index (sB s).data.toList (sB t).data.toList))=Value.bool _
   rw[dJ,dJ],0,#[],by rw[h2,Go.Sort.grow_empty];rfl⟩
theorem HW(n:Nat)(hn:n<1002):Pure Tryz.prog 24 [.str (sB (Lib.itoa (n:Int)))] (.tuple [.int .i64 (n:Int),.nilIface]):=
 Pure.OV (us:=[.string (sB (Lib.itoa (n:Int)))]) GZ fun w I hg=>by
  refine(Any.strconv_Atoi Tryz.Q6 (sB (Lib.itoa (n:Int))) n (by rw[eX];have:=lq (n:=(n:Int)) (by omega) (by omega);omega) (by rw[dJ];exact E7 n hn) w).mono fun e w' ⟨h1,t,h2⟩=>⟨_,h1,fun _ _=>⟨_,rfl,_,_,rfl,rfl,_,_,rfl,rfl,rfl⟩,by rw[h2];exact Lib.bytesWorld_below _ _ _⟩
theorem WO{w:World}{I:Nat->Prop}(hs:JF=true)(hg:Je Tryz.prog w I):∀ c:Nat,c<256->w.cell? ⟨0,c,none⟩=some (.int .u8 (if Lib.isSp (UInt8.ofNat c) then 1 else 0)):=fun c hc=>by
 obtain⟨_,h⟩:=hg.2.1 hs 0 (by kernel_rfl)
 have key:∀(ns:List Int) (o:Nat),aT w I (ns.map (PV.int .u8)) 0 o->∀ i n,ns[i]? =some n->w.cell? ⟨0,o+i,none⟩=some (.int .u8 n):=by
  exact Bx
 have ht:AW[c]? =some (if Lib.isSp (UInt8.ofNat c) then 1 else 0):=by
  have hall:∀ c,c<256->AW[c]? =some (if Lib.isSp (UInt8.ofNat c) then 1 else 0):=by decide+kernel
  exact hall c hc
 have:=key AW 0 h c _ ht
 rwa [yy] at this
theorem J5(hs:JF=true)(s:Bs)(ws:List Bs)(h:Lib.fields s=ws)(ha:∀ b∈s,b.toNat<128)(hl:s.length<=1000000):Pure Tryz.prog 23 [.str (sB s)] (jA ws):=by
 rw[<- Fm]
 refine Pure.KN (us:=[.string (sB s)]) (t:=9) GZ fun w I hg=> ?_
 refine(Any.strings_Fields_core Tryz.QG (by kernel_rfl) (sB s) w (by rw[eX];omega) (fun j b hb=>ha b (by rw[dJ] at hb;exact Zh hb)) (WO hs hg)).mono fun e w' ⟨h1,h2⟩=> ?_
 rw[dJ,h] at h1 h2
 have e1:(ws.map fun l=>Value.string ⟨l.toArray⟩)=(ws.map sB).map Value.string:=by rw[OE];rfl
 refine⟨?_,?_⟩
 ·rw[h1,Zo]
 ·rw[h2,e1];rfl
end Go.Proofs.YtibffijhebobmaaGreatDoor
end
section
set_option maxRecDepth 100000
set_option maxHeartbeats 4000000
namespace Go.Proofs.YtibffijhebobmaaGreatDoor
open Go.AF
theorem K2{R:Option Nat}{N:Nat}{Q:Post}{T T2:Tm}{o:Oper}{ops:Array Oper}{rest:List Oper}{f:Operand}{xs:Array Operand}{ts:Array TypeId}(d:Nat)(F:cT)(z:Bool)(s:Bs){G:cT}{r:Bs}{e:Int}(hF:oN F)(hz:z=true->F.marks=[])(hl0:aP F s=(G,r,e))
    (ho:o.op= .call {callee:= .value f,args:=xs,argTypes:=ts})(hd:o.dst=some d)(hN:aZ N (some d)=true)(hg:o.guard=none)(hf:ev T f=some (.p (.func (.func 13) [] [])))(hxs:kR T xs.toList=some [.ptr 0 0,.p (.str (sB s))])(hrf:ak Tryz.prog 13=true)(hT:Sub T2 T)(hl:eV (below 1) T2=T2)
    (next:∀ z',(z'=true->G.marks=[])->aj Tryz.prog R N 0 ops rest Q ((d,.p (.tuple [.str (sB r),.int .i64 e]))::T2) (cZ 0 G z')):aj Tryz.prog R N 0 ops (o::rest) Q T (cZ 0 F z):=by
 have e1:(aP F s).1=G:=by rw[hl0]
 have e2:wO F s= .p (.tuple [.str (sB r),.int .i64 e]):=by unfold wO;rw[hl0]
 refine Wd d [] F z s hF hz (fun i x h=>by simp at h) (Zv _) ho hd hN hg hf hxs hrf hT hl (fun z' hz'=> ?_)
 rw[e1] at hz'
 show aj _ _ _ _ _ _ _ _ (cZ 0 (aP F s).1 z')
 rw[e1,e2]
 exact next z' hz'
theorem W8{n:Nat}(h:n<=100):(Lib.itoa (n:Int)).length<=13:=lq (by omega) (by omega)
end Go.Proofs.YtibffijhebobmaaGreatDoor
end
