/-
 The frame rule of calls that may panic, where what the call leaves behind is kept when it panics too. No condition; generic over any program.
 Calls that read own blocks as content and hand back own blocks, whatever they are. No condition; generic over any program.
 Slices without room (nil, or empty ones that were just made): their values; own slices that are such as long as they are empty. No condition; generic over any program.
 A call that returns or panics, by a condition. No condition; generic over any program.
 A range over a function that panics before it has ended. No condition; generic over any program.
 Slices that have no room as long as they are empty: made, copied, appended to, stored, handed back by a call. No condition; generic over any program.
 Regions that draw their order, in which one operation turns the own blocks. No condition; generic over any program.
 Exact slices in the place of what is known of them: a call that is proved for all exact slices in cells of an own block is proved for what these cells hold, and what it leaves may be told in the same words again. No condition; generic over any program.
 Own blocks written in another way; an element of an own slice that may have no room. No condition; generic over any program.
 Regions that draw their order, in which one operation always panics. No condition; generic over any program.
 A function that defers a closure behind three pieces of code; a drawn region in which one store turns the own blocks. No condition; generic over any program.
 What a call on some of the own blocks leaves, place by place. No condition; generic over any program.
 A contract whose arguments are weakened (a nil slice is an empty one). No condition; generic over any program.
 Regions that draw their order, in which one operation turns the own blocks into some that are as G says. No condition; generic over any program.
 Ranges over functions that store in an own cell of their caller before they yield. No condition; generic over any program.
 Facts that are found by themselves; steps that need no word. No condition; generic over any program.
 A pointer to content is not nil. No condition; generic over any program.
 A call whose new result is content at once: own blocks are read as content, and what is new is left to nobody. Generic over any program.
 Maps whose keys are compared by asking (structures, arrays): looked up and written. Generic over any program.
-/
import Derived.Test.YtibffijhebobmaaGreatDoorFaTE
theorem BP{A:Prop}(h:A:=by
 refine⟨false,(fun h=>by cases h),run _ _ h1 ?_⟩
 show(Op.equalIn (9999+1) t _ (.slice none 0 0)).run P w= .ok false w
 generalize 9999=dd
 simp[Op.equalIn,run_underlying hu]):A:=h
theorem D0{A:Prop}(h:A:=by
 simp only[bU,Zi] at h
 obtain⟨xs,h1,rfl⟩:=h
 obtain⟨us,hu,k1⟩:=hr
 exact⟨us,hu,th ih cs xs _ hs h1 k1⟩):A:=h
theorem BK{A:Prop}(h:A:=by
 rw[Zv] at h2
 split at h2
 ·rename_i e1;subst e1;exact⟨_,hH,rfl⟩
 ·exact⟨_,h2,h3⟩):A:=h
set_option linter.unnecessarySimpa false
set_option linter.unusedSectionVars false
set_option linter.unusedSimpArgs false
set_option linter.unusedVariables false
section
namespace Go.AF
open Go
section
variable {P:Program} {R:Option Nat} {N κ:Nat} {Q:Post} {T:Tm} {H:List ah} {o:Oper}
def fL(H:List ah)(ks:List Nat)(H':List ah):Prop:=ks.length<=H'.length∧∀(j i:Nat) (y:ah),ks[j]? =some i->(H.getD i .dead).live=false->H'[j]? =some y->y.live=false
theorem av.zG{g:FuncId}{args jz:List V}{H0:List ah}{Qr:V->List ah->Prop}{Qp:PV->List ah->Prop}(ks:List Nat)(hp:av P g jz H0 Qr Qp)(ha:bA (oe H ks) args=jz)(h0:(ks.map fun i=>aE (oe H ks) (H.getD i .dead))=H0)
    (hks:(ks.all (fun i=>Nat.blt i H.length)&&decide ks.Nodup)=true)(hQ:∀ v H',Qr v H'->fL H ks H')(iw:∀ v H',Qp v H'->fL H ks H'):
    av P g args H (fun v H'=>∃ v0 uB,Qr v0 uB∧v=bf (dS H ks) v0∧H'=bp H ks uB) (fun y H'=>∃ uB,Qp y uB∧H'=bp H ks uB):=by
 intro w I ρ us hi fX
 simp only[Zn,Zx,Zq] at hks
 have hlt:∀ i∈ks,i<H.length:=fun i h=>by have:=hks.1 i h;simpa[Nat.blt,Zw] using this
 have oW:∀ i,i<H.length->H[i]? =some (H.getD i .dead):=fun i h=>by simp[h]
 obtain⟨ρ2,YD⟩:∃ ρ2,ρ2=ks.map fun i=>if (H.getD i .dead).live=true then ρ.getD i 0 else w.heap.size:=⟨_,rfl⟩
 have jC:ρ2.length=ks.length:=by rw[YD,Zp]
 have rU:∀ j i:Nat,ks[j]? =some i->(H.getD i .dead).live=true->ρ2[j]? =ρ[i]? :=fun j i h hl=>by
  exact Cw
 have hρd:∀ j i:Nat,ks[j]? =some i->(H.getD i .dead).live=false->ρ2[j]? =some w.heap.size:=fun j i h hl=>by
  exact DN
 have yC:∀ b,b∈ρ2->b∈ρ∨b=w.heap.size:=fun b hb=>by
  exact E2
 have hσ:∀ i j b:Nat,oe H ks i=some j->ρ[i]? =some b->ρ2[j]? =some b:=fun i j b h hb=>by
  exact De
 have eD:∀(j b:Nat) (blk:ah),ρ2[j]? =some b->H0[j]? =some blk->∃ i x,ks[j]? =some i∧H[i]? =some x∧blk=aE (oe H ks) x∧(x.live=true->ρ[i]? =some b):=by
  exact DX
 have hsub:Inv P w I ρ2 H0:=by
  exact EA
 have hargs:ag P w I ρ2 jz us:=by rw[<- ha];exact e9 hσ args us fX
 -- what an own block that is at none of the places has, stays
 have Kr:∀(i b:Nat) (x:ah),ρ[i]? =some b->H[i]? =some x->x.live=true->i∉ks->b∉ρ2:=fun i b x g1 g2 g3 g4 hb=>by
  exact C4
 have key:∀(w':World) (J:Nat->Prop) (σ:List Nat) (H2:List ah),Ext w I ρ2 w' J σ->Inv P w' J σ H2->fL H ks H2->∃ ext,σ=ρ2++ext∧Ext w I ρ w' J (ρ++ext)∧Inv P w' J (ρ++ext) (bp H ks H2)∧∀ j i b:Nat,dS H ks j=some i->(ρ2++ext)[j]? =some b->(ρ++ext)[i]? =some b:=by
  intro w' J σ H2 h3 h4 ⟨xG,SJ⟩
  obtain⟨ext,S6⟩:=h3.pre
  subst S6
  have OA:(ρ2++ext).length=H2.length:=h4.len
  rw[Zb,jC] at OA
  have hleft:∀ j,j<ks.length->(ρ2++ext)[j]? =ρ2[j]? :=fun j hj=>Zd (by rw[jC];exact hj)
  have hright:∀ j,(ρ2++ext)[ks.length+j]? =ext[j]? :=fun j=>by rw[Zj (by rw[jC];omega),jC,ZJ]
  have zC:∀ j,(ρ++ext)[H.length+j]? =ext[j]? :=fun j=>by rw[Zj (by rw[hi.len];omega),hi.len,ZJ]
  have hτ:∀ j i b:Nat,dS H ks j=some i->(ρ2++ext)[j]? =some b->(ρ++ext)[i]? =some b:=fun j i b h hb=>by
   exact CM
  have Ml:∀ b,b∈ext->b∈ρ∨w.heap.size<=b:=fun b hb=>by
   exact C1
  have hE:Ext w I ρ w' J (ρ++ext):=⟨⟨h3.w.os,h3.w.tape,h3.w.output,h3.w.size,fun b g1 g2=>h3.w.keep b g1 fun h=>by
      rcases yC b h with h | h
      ·exact g2 h
      ·omega,h3.w.shape,h3.w.lD,h3.w.bh,fun b h=>by
   rcases h3.w.eT b h with h | h | h
   ·exact .inl h
   ·exact uT
   ·exact .inr (.inr h),h3.w.cI,h3.w.ki,fun b h=>by
   rcases Zo.1 h with h | h
   ·exact .inl h
   ·exact Ml b h⟩,⟨ext,rfl⟩⟩
  have hout:∀(i b:Nat) (x:ah),ρ[i]? =some b->H[i]? =some x->x.live=true->i∉ks->b∉ρ2++ext:=fun i b x g1 g2 g3 g4 hb=>by
   exact EP
  have UF:(kB H ks ((H2.take ks.length).map (aE (dS H ks)))).length=H.length:=cO _ _ _
  have IY:∀(i:Nat) (blk:ah),(bp H ks H2)[i]? =some blk->blk.live=true->(∃(j:Nat) (x:ah),H2[j]? =some x∧blk=aE (dS H ks) x∧(ρ2++ext)[j]? =(ρ++ext)[i]? ∧(ks[j]? =some i∨(ks.length<=j∧i=H.length+(j - ks.length))))∨(i<H.length∧i∉ks∧H[i]? =some blk):=fun i blk h hlv=>by
   exact Bf
  have hI:Inv P w' J (ρ++ext) (bp H ks H2):=by
   exact Be
  exact⟨ext,rfl,hE,hI,hτ⟩
 refine CallsIn.mono (hp w I _ us hsub hargs) ?_
 rintro e w' (⟨u,v0,J,σ,H2,rfl,hq,h3,h4,h5⟩ | ⟨u,y,J,σ,H2,rfl,hy,h3,h4,h5⟩)
 ·obtain⟨ext,rfl,hE,hI,hτ⟩:=key w' J σ H2 h3 h4 (hQ _ _ hq)
  exact .inl ⟨u,_,J,ρ++ext,_,rfl,⟨v0,H2,hq,rfl,rfl⟩,hE,hI,fk hτ v0 u h5⟩
 ·obtain⟨ext,rfl,hE,hI,hτ⟩:=key w' J σ H2 h3 h4 (iw _ _ hy)
  exact .inr ⟨u,y,J,ρ++ext,_,rfl,⟨H2,hy,rfl⟩,hE,hI,h5⟩
theorem aj.Au(d:Nat)(ks:List Nat){jz:List V}{H0:List ah}{ops:Array Oper}{rest:List Oper}{f:Operand}{xs:Array Operand}{ts:Array TypeId}{fv:V}{vs all:List V}{g:FuncId}{Qr:V->List ah->Prop}{Qp:PV->List ah->Prop}(hp:av P g jz H0 Qr Qp)(ha:bA (oe H ks) all=jz)(h0:(ks.map fun i=>aE (oe H ks) (H.getD i .dead))=H0)
    (hks:(ks.all (fun i=>Nat.blt i H.length)&&decide ks.Nodup)=true)(hQ:∀ v H',Qr v H'->fL H ks H')(iw:∀ v H',Qp v H'->fL H ks H')
    (ho:o.op= .call {callee:= .value f,args:=xs,argTypes:=ts})(hd:o.dst=some d)(hN:bg N (some d)=true)(hgd:o.guard=none)(hf:ev T f=some fv)
    (hxs:jT T xs.toList=some vs)(hc:callee vs fv=some (g,all))(hg:ak P g=true)(zP:∀ y uB,Qp y uB->Q (.panic (.p y)) T (bp H ks uB))(next:∀ v H',Qr v H'->aj P R N κ ops rest Q ((d,bf (dS H ks) v)::T) (bp H ks H')):aj P R N κ ops (o::rest) Q T H:=
 aj.eY d (hp.zG ks ha h0 hks hQ iw) ho hd hN hgd hf hxs hc hg (fun y H' ⟨uB,h,e⟩=>by subst e;exact zP y uB h) fun v H' ⟨v0,uB,hq,e1,e2⟩=>by
  subst e1
  subst e2
  exact next v0 uB hq
end
section
mutual
def Np:V->Bool
 | .p x=>JI x
 | .ptr _ _=>true
 | .row _ _=>true
 | .sl _ _ _=>true
 | .map _=>true
 | .agg cs=>iX cs
 | .tuple cs=>iX cs
 | .iface _ v=>Np v
 | .top=>true
 | .raw _ _ _=>true
 | .z0=>true
 | _=>false
def iX:List V->Bool
 | []=>true
 | v::vs=>Np v&&iX vs
end
def Wc:ah->Bool
 | .cells cs _=>iX cs
 | .row cs _=>iX cs
 | .dead=>true
 | _=>false
mutual
theorem aB.M3{P:Program}{w:World}{I J:Nat->Prop}{ρ:List Nat}:∀(v:V) (u:Value),Np v=true->aB P w J ρ v u->aB P w I ρ v u
 | .p x,u,h,hr=>Rel.sc x u h hr
 | .ptr _ _,u,_,hr=>hr
 | .row _ _,u,_,hr=>hr
 | .sl _ _ _,u,_,hr=>hr
 | .map _,u,_,hr=>hr
 | .agg cs,u,h,hr=>by
  obtain⟨us,h1,h2⟩:=hr
  exact⟨us,h1,ag.M3 cs _ h h2⟩
 | .tuple cs,u,h,hr=>by
  obtain⟨us,h1,h2⟩:=hr
  exact⟨us,h1,ag.M3 cs _ h h2⟩
 | .iface t v,u,h,hr=>by
  obtain⟨x,h1,h2⟩:=hr
  exact⟨x,h1,aB.M3 v _ h h2⟩
 | .top,u,_,_=>trivial
 | .raw _ _ _,u,_,hr=>hr
 | .z0,u,_,hr=>hr
 | .opt _ _,_,h,_=>by cases h
 | .func _ _ _,_,h,_=>by cases h
theorem ag.M3{P:Program}{w:World}{I J:Nat->Prop}{ρ:List Nat}:∀(vs:List V) (us:List Value),iX vs=true->ag P w J ρ vs us->ag P w I ρ vs us
 | [],us,_,hr=>hr
 | v::vs,us,h,hr=>by
  obtain⟨u,us',h1,h2,h3⟩:=hr
  unfold iX at h
  rw[Zn] at h
  exact⟨u,us',h1,aB.M3 v u h.1 h2,ag.M3 vs us' h.2 h3⟩
end
theorem cY.M3{P:Program}{w:World}{I J:Nat->Prop}{ρ:List Nat}{x:ah}{b:Nat}(h:Wc x=true)(hr:cY P w J ρ x b):cY P w I ρ x b:=by
 cases x with
 | cells cs e=>
  obtain⟨arr,h1,h2⟩:=hr
  exact⟨arr,h1,ag.M3 cs _ h h2⟩
 | row cs e=>
  obtain⟨arr,h1,h2,h3⟩:=hr
  exact⟨arr,h1,h2,ag.M3 cs _ h h3⟩
 | dead=>trivial
 | _=>cases h
end
section
variable {P:Program} {R:Option Nat} {N κ:Nat} {Q:Post} {T:Tm} {H:List ah} {o:Oper}
def Ff(n:Nat)(j:Nat):Option Nat:=some (n+j)
theorem aa.Aa(n:Nat){g:FuncId}{args:List PV}{v0:V}{H0:List ah}(hp:ax P g (args.map .p) [] fun v H'=>v=v0∧H'=H0)(hv:Np v0=true)(hB:H0.all Wc=true){f:Operand}{xs:Array Operand}{ts:Array TypeId}{fv:V}{vs all:List V}(ho:o.op= .call {callee:= .value f,args:=xs,argTypes:=ts})(hf:ev T f=some fv)
    (hxs:jT T xs.toList=some vs)(hc:callee vs fv=some (g,all))(hb:cT (bU H n) all=some args)(hg:ak P g=true):aa P N o T H (bf (Ff H.length) v0) (H++H0.map (aE (Ff H.length))):=by
 intro R w I ρ a hi hT K QX hK
 refine⟨bD,?_⟩
 rw[bG _ _ _ (by simp[ho])]
 obtain⟨us,h1,h2⟩:=dP ho hT hf hxs hc hg
 rw[h2]
 have h1':ag P w (fun b=>b<w.heap.size) [] (args.map .p) us:=ag.pure.2 (fu (mP hi n) all args us hb h1)
 have hi2:Inv P w (fun b=>b<w.heap.size) [] []:=⟨rfl,(fun _ _ _ h=>by simp at h),fun _ h=>h,(fun _ _ _ h=>by simp at h),(fun _ _ _ _ _ h=>by simp at h),(fun _ _ _ h=>by simp at h),hi.gl.mono hi.ib (fun _ _=>rfl)⟩
 refine⟨(fun h=>by cases h),?_⟩
 refine CallsIn.mono (cz R (hp w _ [] us hi2 h1')) ?_
 rintro e' w' ⟨u,v,J,σ,H',rfl,⟨rfl,rfl⟩,h3,h4,h5⟩
 have hnew:∀ b,b∈σ->w.heap.size<=b:=fun b hb=>by
  rcases h3.w.new b hb with h | h
  ·cases h
  ·exact h
 have he:=qm hi h3
 have yc:Inv P w' I [] []:=⟨rfl,(fun _ _ _ h=>by simp at h),fun b h=>ZQ (hi.ib b h) h3.w.size,(fun _ _ _ h=>by simp at h),(fun _ _ _ _ _ h=>by simp at h),(fun _ _ _ h=>by simp at h),hi.gl.mono (fun _ h=>h) he.w.bh⟩
 obtain⟨h6,h7⟩:=Inv.frame hi he yc
 have hE:Ext w I ρ w' I (ρ++σ):=⟨⟨h6.w.os,h6.w.tape,h6.w.output,h6.w.size,h6.w.keep,h6.w.shape,h6.w.lD,h6.w.bh,h6.w.eT,h6.w.cI,h6.w.ki,fun x hx=>by
  rcases Zo.1 hx with h | h
  ·exact .inl h
  ·exact .inr (hnew x h)⟩,⟨_,rfl⟩⟩
 have hτ:∀ j i b:Nat,Ff H.length j=some i->σ[j]? =some b->(ρ++σ)[i]? =some b:=fun j i b h hb=>by
  cases h
  rw[Zj (by rw[hi.len];omega),hi.len,ZJ]
  exact hb
 have old:∀(j k:Nat) (blk:ah),(ρ++σ)[j]? =some k->(H++H'.map (aE (Ff H.length)))[j]? =some blk->(j<H.length∧ρ[j]? =some k∧H[j]? =some blk)∨(∃ m x,j=H.length+m∧σ[m]? =some k∧H'[m]? =some x∧blk=aE (Ff H.length) x):=fun j k blk h1 h2=>by
  rcases ZS j H.length with g | g
  ·rw[Zd (by rw[hi.len];exact g)] at h1
   rw[Zd g] at h2
   exact .inl ⟨g,h1,h2⟩
  ·obtain⟨m,rfl⟩:∃ m,j=H.length+m:=⟨j - H.length,by omega⟩
   rw[Zj (by rw[hi.len];omega),hi.len,ZJ] at h1
   rw[Zj (by omega),ZJ,Zu,Zi] at h2
   obtain⟨x,h2,rfl⟩:=h2
   exact .inr ⟨m,x,rfl,h1,h2,rfl⟩
 have UE:Inv P w' I (ρ++σ) (H++H'.map (aE (Ff H.length))):=by
  refine⟨by rw[Zb,Zb,Zp,hi.len,h4.len],fun j k blk g1 g2 g3=> ?_,h7.ib,fun j k blk g1 g2 g3=> ?_,fun j j' k x y g1 g2 g3 g4 g5 g6=> ?_,fun j k blk g1 g2=> ?_,h7.gl⟩
  ·rcases old j k blk g1 g2 with⟨_,a1,a2⟩ | ⟨m,x,rfl,a1,a2,rfl⟩
   ·exact h7.gC j k blk a1 a2 g3
   ·rw[cg] at g3;exact h4.gC m k x a1 a2 g3
  ·rcases old j k blk g1 g2 with⟨_,a1,a2⟩ | ⟨m,x,rfl,a1,a2,rfl⟩
   ·exact h7.live j k blk a1 a2 g3
   ·intro h
    have:=hi.ib _ h
    have:=hnew k (Zg a1)
    omega
  ·rcases old j k x g1 g3 with⟨_,a1,a2⟩ | ⟨m,z,rfl,a1,a2,rfl⟩ <;> rcases old j' k y g2 g4 with⟨_,b1,b2⟩ | ⟨m',z',rfl,b1,b2,rfl⟩
   ·exact h7.fT j j' k x y a1 b1 a2 b2 g5 g6
   ·have:=hi.gC j k x a1 a2 g5
    have:=hnew k (Zg b1)
    omega
   ·have:=hi.gC j' k y b1 b2 g6
    have:=hnew k (Zg a1)
    omega
   ·rw[cg] at g5 g6
    rw[h4.fT m m' k z z' a1 b1 a2 b2 g5 g6]
  ·rcases old j k blk g1 g2 with⟨_,a1,a2⟩ | ⟨m,x,rfl,a1,a2,rfl⟩
   ·cases hlv:blk.live with
    | false=>exact cY.gE hlv
    | true=>exact cY.mono h6.w.lD h6.w.bh (We ρ σ) (fun b _ s hs=>h6.w.shape b s hs) (he.w.keep k (hi.gC j k blk a1 a2 hlv) (by simp)) (hi.rel j k blk a1 a2)
   ·exact jr hτ (cY.M3 (Zx.1 hB x (Zg a2)) (h4.rel m k x a1 a2))
 exact hK u w' I (ρ++σ) hE UE (fk hτ v u (aB.M3 v u hv h5))
end
def aZ(i:Nat):Nat->V
 | 0=> .z0
 | n+1=> .row i (n+1)
theorem KT{i n:Nat}(h:0<n):aZ i n= .row i n:=by
 cases n with
 | zero=>omega
 | succ n=>rfl
theorem oD{i n:Nat}(h:n=0):aZ i n= .z0:=by subst h;rfl
theorem oC{cs:List V}{e:TypeId}{n:Nat}(h:n=0):dU cs e n= .dead:=by subst h;rfl
theorem cJ{σ:Nat->Option Nat}{i j n:Nat}(h:σ i=some j):bf σ (aZ i n)=aZ j n:=by
 cases n with
 | zero=>rfl
 | succ n=>simp only[aZ,bf,h]
theorem rG{i n:Nat}:Gd (aZ i n)=some n:=by cases n <;> rfl
theorem BU{i n:Nat}:ig (aZ i n)=true:=by cases n <;> rfl
theorem Rc{i n:Nat}:iD (aZ i n)=true:=by cases n <;> rfl
theorem vm{i n:Nat}:dV (aZ i n)=[aZ i n]:=by cases n <;> rfl
theorem uK{i n:Nat}:Np (aZ i n)=true:=by cases n <;> rfl
section
variable {P:Program} {R:Option Nat} {N κ:Nat} {Q:Post} {T:Tm} {H H':List ah} {o:Oper} {ops:Array Oper} {rest:List Oper}
theorem qU{m i n:Nat}{xs:List PV}{e:TypeId}(hH:H[i]? =some (dU (xs.map .p) e n))(h0:n=0->xs=[]):bU H (m+1) (aZ i n)=some (.is xs n):=by
 cases n with
 | zero=>rw[h0 rfl];rfl
 | succ n=>exact VP (by rw[hH];rfl)
theorem To.z0(s:Nat)(hs:lk T s=some (.p .nilSlice)):To P κ N T H ((s,.z0)::ij [s] T) H:=fun w I ρ tmps hi ht=>by
 refine⟨I,ρ,cA.refl _ _ _,hi,⟨ht.size,fun s' v hv=> ?_⟩,fun L hL _=>hL⟩
 simp only[lk] at hv
 cases hb:Nat.beq s s' with
 | false=>rw[hb] at hv;exact ht.at_ s' v (iS [s] T s' v hv)
 | true=>
  rw[hb] at hv
  have:=ZM hb
  subst this
  simp at hv
  subst hv
  exact⟨none,ht.at_ s _ hs⟩
def XN:V->V
 | .p .nilSlice=> .z0
 | v=>v
theorem Rf{w:World}{I:Nat->Prop}{ρ:List Nat}(v:V)(u:Value)(h:aB P w I ρ v u):aB P w I ρ (XN v) u:=by
 unfold XN
 split
 ·exact⟨none,h⟩
 ·exact h
theorem GX{w:World}{I:Nat->Prop}{ρ:List Nat}:∀(vs:List V) (us:List Value),ag P w I ρ vs us->ag P w I ρ (vs.map XN) us
 | [],us,h=>h
 | c::cs,us,h=>by
  obtain⟨u,us',hu,h1,h2⟩:=h
  exact⟨u,us',hu,Rf c u h1,GX cs us' h2⟩
theorem To.z0B(i:Nat){cs:List V}{e:TypeId}(hH:H[i]? =some (.cells cs e)):To P κ N T H T (H.set i (.cells (cs.map XN) e)):=fun w I ρ tmps hi ht=>by
 refine⟨I,ρ,cA.refl _ _ _,⟨by simp[hi.len],fun j b blk h1 h2 h3=> ?_,hi.ib,fun j b blk h1 h2 h3=> ?_,fun j k b x y h1 h2 h3 h4 h5 h6=> ?_,fun j b blk h1 h2=> ?_,hi.gl⟩,ht,fun L hL _=>hL⟩
 ·obtain⟨x,hx,hl⟩:∃ x,H[j]? =some x∧x.live=true:=by
    exact BK
  exact hi.gC j b x h1 hx hl
 ·obtain⟨x,hx,hl⟩:∃ x,H[j]? =some x∧x.live=true:=by
    exact BK
  exact hi.live j b x h1 hx hl
 ·have at_:∀(j:Nat) (x:ah),(H.set i (.cells (cs.map XN) e))[j]? =some x->x.live=true->∃ z,H[j]? =some z∧z.live=true:=fun j x h hl=>by
    rw[Zv] at h
    split at h
    ·rename_i e1;subst e1;exact⟨_,hH,rfl⟩
    ·exact⟨_,h,hl⟩
  obtain⟨x',hx,hxl⟩:=at_ j x h3 h5
  obtain⟨y',hy,vI⟩:=at_ k y h4 h6
  exact hi.fT j k b x' y' h1 h2 hx hy hxl vI
 ·rw[Zv] at h2
  split at h2
  ·rename_i e1
   subst e1
   split at h2
   ·cases h2
    obtain⟨arr,k1,k2⟩:=hi.rel i b _ h1 hH
    exact⟨arr,k1,GX _ _ k2⟩
   ·cases h2
  ·exact hi.rel j b blk h1 h2
theorem aa.Ta{x y:Operand}{t e:TypeId}{z:List PV}{b9:Nat}(ho:o.op= .makeSlice t x y)(hx:ev T x=some (.p (.int .i64 0)))(hy:ev T y=some (.p (.int .i64 0)))(hs:nh P t=some (e,z))(hby:xh P e=some b9):aa P N o T H .z0 H:=
 aa.dB (by simp[ho]) fun w I ρ a hi hT=>by
  obtain⟨hu,⟨b,ht⟩,vN,hz⟩:=dQ hs
  obtain⟨uz,h1,h2⟩:=hz w
  obtain⟨inf,jU,rfl⟩:∃ inf,P.info? e=some inf∧inf.bytes=b9:=by
   exact DV
  have A6:∀ k w,(askRoom k).run P w= .ok () w:=fun k w=>by
   exact qA
  have w0:IntKind.i64.wrap 0=0:=by decide
  have ex:a.eval x= .int .i64 0:=hT.ev hx
  have ey:a.eval y= .int .i64 0:=hT.ev hy
  refine⟨.slice (some ⟨w.heap.size,0,none⟩) 0 0,w.alloc (.cells #[] e),I,ρ,.inl ?_,Ext.dW hi _,Inv.dW hi _,⟨_,rfl⟩⟩
  have e0:Array.range 0= #[]:=by decide
  simp[execOp,ho,ex,ey,Instr.makeSlice,run_underlying hu,asInt,dZ,run_typeInfo w jU,w0,A6,aM ht,newRow,newObj,Sem.run,e0]
theorem aa.uC{t e:TypeId}{z:List PV}(ho:o.op= .buildSlice t 0 #[])(hs:nh P t=some (e,z)):aa P N o T H .z0 H:=
 aa.dB (by simp[ho]) fun w I ρ a hi hT=>by
  have hv:iC T ([]:List (Nat×Operand))=some []:=rfl
  obtain⟨arr,h1,h2,h3⟩:=jI (P:=P) (w:=w) (I:=I) (ρ:=ρ) (len:=0) (parts:= #[]) (r:=[]) hs (by omega) hT hv rfl
  refine⟨_,_,I,ρ,.inl ?_,Ext.dW hi (.cells arr e),Inv.dW hi _,⟨some ⟨w.heap.size,0,none⟩,rfl⟩⟩
  simp only[execOp,ho,Sem.run_bind]
  have e1:(Array.map (fun(x:Nat×Operand)=>match x with | (i,x)=>(i,a.eval x)) (#[]:Array (Nat×Operand)))= #[]:=by simp
  rw[e1]
  have e2:((#[]:Array (Nat×Operand)).map fun(x:Nat×Operand)=>(x.1,a.eval x.2))= #[]:=by simp
  rw[e2] at h3
  rw[h3]
  rfl
theorem aa.zz{x y:Operand}{t t2 e:TypeId}{z:List PV}{n b9:Nat}{ys:List V}{yv:V}(ho:o.op= .call {callee:= .builtin .append,args:= #[x,y],argTypes:= #[t,t2]})(hx:ev T x=some .z0)(hy:ev T y=some yv)(hs:nh P t=some (e,z))(oR:eE P t2=true)
    (hsrc:mY H z.length yv=some (ys,n))(hn:0<n)(hone:ys.all ig=true)(hby:xh P e=some b9)(hb0:0<b9)(hb:(2*n+192)*b9<=281474976710656):
    aa P N o T H (.row H.length n) (H++[.row ys e]):=
 aa.dB (by simp[ho]) fun w I ρ a hi hT=>by
  obtain⟨hu,⟨bb,kW⟩,vN,hz⟩:=dQ hs
  obtain⟨bx,FQ⟩:∃ bx,a.eval x= .slice bx 0 0:=hT.ev hx
  obtain⟨us,⟨ad,vp,AY⟩,hfc,_,cE,hlen⟩:=kH hi (hT.ev hy) hsrc
  have hce:P.cellsOf e=z.length:=by
   exact nj
  have hinfo:∃ inf,P.info? e=some inf∧inf.bytes=b9:=by
   exact xI
  obtain⟨inf,jU,zT⟩:=hinfo
  have oV:∃ d2,P.underlying t2=some (.slice d2):=by
   exact qw
  obtain⟨d2,oV⟩:=oV
  have vI:=ag.length cE
  have zj:∀ q,0+n<=(Question.appendCap (0+n) 0 e).cut q:=fun q=>RX _ _
  obtain⟨uz,hz1,Av⟩:=hz w.drew
  have hzl:=aW.length (Av I)
  have JD:uz.cells.size=z.length:=by simpa using hzl
  have hnext:=jF (need:=0+n) (cap:=0) (by omega)
  have hsmall:¬ (Builtin.nextslicecap (0+n) 0*b9>2^48):=by
   exact v7
  let newCap:=(Question.appendCap (0+n) 0 e).cut (w.tape w.drawn (.appendCap (0+n) 0 e))
  have hnc:0+n<=newCap:=zj _
  have hnew:=hfc w.drew (fun _ _=>rfl)
  let fe:Array Value:= #[]++us.toArray++Builtin.zeroCells uz.cells (newCap - (0+n))
  have xV:Ext w I ρ w.drew I ρ:=Ext.drew
  have hi1:Inv P w.drew I ρ H:=hi.drew
  have o3:Ext w.drew I ρ (w.drew.alloc (.cells fe e)) I (ρ++[w.drew.heap.size]):=Ext.aQ hi1 _
  have hi2:Inv P (w.drew.alloc (.cells fe e)) I (ρ++[w.drew.heap.size]) (H++[.row ys e]):=by
   exact CW
  refine⟨.slice (some ⟨w.heap.size,0,none⟩) (0+n) newCap,w.drew.alloc (.cells fe e),I,ρ++[w.drew.heap.size],.inl ?_,xV.trans o3,hi2,w.heap.size,e,newCap,by rw[<- hi.len];simp,by rw[uf],?_,by omega⟩
  ·rw[AY] at hnew
   have mu:((0+n:Nat):Int)<=IntKind.i64.max:=by
    exact wU
   have hold:(Builtin.firstCells z.length 0 (.slice bx 0 0)).run P w.drew= .ok #[] w.drew:=by cases bx <;> simp[Builtin.firstCells,loadCells,loadCellsFrom]
   have:=run_append_grow (P:=P) (w:=w) (t:=t) (t2:=t2) (ty:=o.type) hu kW oV jU (by rw[zT];exact hsmall) mu (by omega) hold hnew hz1
   simp only[execOp,ho,Go.resolve,Go.invoke,Go.builtin,Sem.run_bind]
   exact vF
  ·exact wL
theorem aa.qJ{x y:Operand}{t t2 e:TypeId}{z:List PV}{i len n b9:Nat}{cs ys:List V}{yv:V}(ho:o.op= .call {callee:= .builtin .append,args:= #[x,y],argTypes:= #[t,t2]})(hx:ev T x=some (aZ i len))(hy:ev T y=some yv)(hs:nh P t=some (e,z))(oR:eE P t2=true)
    (hH:H[i]? =some (dU cs e len))(hcs:cs.length=len*z.length)(hsrc:mY H z.length yv=some (ys,n))(hn:0<n)(hone:ys.all ig=true)(hby:xh P e=some b9)(hb0:0<b9)(hb:(2*(len+n)+192)*b9<=281474976710656):
    aa P N o T H (.row H.length (len+n)) (H.set i .dead++[.row (cs++ys) e]):=by
 cases len with
 | zero=>
  have h0:cs=[]:=ZB (by simpa using hcs)
  subst h0
  rw[qe (show H[i]? =some ah.dead from hH),OW]
  have:=aa.zz (N:=N) ho hx hy hs oR hsrc hn hone hby hb0 (by simpa using hb)
  simpa using this
 | succ len=>exact aa.kN ho hx hy hs oR hH hcs hsrc hone hby hb0 hb
theorem aa.K4{x y:Operand}{t t2 e:TypeId}{z:List PV}{ys:List V}{yv:V}(ho:o.op= .call {callee:= .builtin .append,args:= #[x,y],argTypes:= #[t,t2]})(hx:ev T x=some .z0)(hy:ev T y=some yv)(hs:nh P t=some (e,z))(oR:eE P t2=true)
    (hsrc:mY H z.length yv=some (ys,0)):aa P N o T H .z0 H:=
 aa.dB (by simp[ho]) fun w I ρ a hi hT=>by
  obtain⟨hu,⟨bb,kW⟩,vN,hz⟩:=dQ hs
  obtain⟨bx,FQ⟩:∃ bx,a.eval x= .slice bx 0 0:=hT.ev hx
  obtain⟨us,⟨ad,vp,AY⟩,hfc,_,cE,hlen⟩:=kH hi (hT.ev hy) hsrc
  have oV:∃ d2,P.underlying t2=some (.slice d2):=by
   exact qw
  obtain⟨d2,oV⟩:=oV
  have fX:us=[]:=ZB (by simpa using hlen)
  subst fX
  refine⟨.slice bx 0 0,w,I,ρ,.inl ?_,Ext.refl _ _ _,hi,⟨bx,rfl⟩⟩
  have h:=hfc w (fun _ _=>rfl)
  rw[AY] at h
  have hr:(Builtin.append_ #[t,t2] o.type #[.slice bx 0 0,.slice ad 0 vp]).run P w= .ok (.slice bx 0 0) w:=by
   cases bx with
   | none=>simp[Builtin.append_,run_underlying hu,aM kW,run_underlying oV,Builtin.lenOf,h,Result.andThen]
   | some bx=>simp[Builtin.append_,run_underlying hu,aM kW,run_underlying oV,Builtin.lenOf,h,Result.andThen,Go.storeCells,Sem.run]
  simp[execOp,ho,Go.resolve,Go.invoke,Go.builtin,FQ,AY,hr,Result.andThen]
theorem aj.Ae(d:Nat){x y:Operand}{t t' e:TypeId}{cs z:List PV}{n:Nat}(ho:o.op= .binOp .eql t x y t')(hx:ev T x=some (.p (.is cs n)))(hy:ev T y=some (.p .nilSlice))(hs:nh P t=some (e,z))(hd:o.dst=some d)(hN:bg N (some d)=true)(hgd:o.guard=none)
    (next:∀ b:Bool,(b=true->n=0)->aj P R N κ ops rest Q ((d,.p (.bool b))::T) H):aj P R N κ ops (o::rest) Q T H:=by
 intro QX B w I ρ a hi ht hm hq
 have hu:=(dQ hs).1
 have e2:a.eval y= .slice none 0 0:=ht.ev hy
 obtain⟨b,hb0,hb⟩:∃ b:Bool,(b=true->n=0)∧(execOp a.eval o).run P w= .ok (.value (.bool b)) w:=by
  have o4:(∃ ad cap,a.eval x= .slice ad 0 cap∧n=0)∨∃ q l cap,a.eval x= .slice (some q) l cap:=by
   rcases ht.ev hx with⟨⟨ad,cap,h1⟩,h2⟩ | ⟨b,o',cap,_,_,h1,_⟩
   ·exact .inl ⟨ad,cap,h1,h2⟩
   ·exact .inr ⟨_,_,_,h1⟩
  have run:∀(u:Value) (c:Bool),a.eval x=u->(Op.equal t u (.slice none 0 0)).run P w= .ok c w->(execOp a.eval o).run P w= .ok (.value (.bool c)) w:=fun u c h1 h2=>by
   have hb:(binOp .eql t u (.slice none 0 0)).run P w= .ok (.bool c) w:=by
    simp only[binOp]
    simp[h2]
   simp[execOp,ho,h1,e2,eqGuard,hb]
  rcases o4 with⟨ad,cap,h1,h2⟩ | ⟨q,l,cap,h1⟩
  ·cases ad with
   | none=>
    refine⟨true,fun _=>h2,run _ _ h1 ?_⟩
    show(Op.equalIn (9999+1) t _ (.slice none 0 0)).run P w= .ok true w
    generalize 9999=dd
    simp[Op.equalIn,run_underlying hu]
   | some q=>
    exact BP
  ·exact BP
 refine wpListIn_plain hgd fun K hK=>⟨bD,?_⟩
 rw[bG _ _ _ (by simp[ho]),hb]
 refine hK _ _ ?_
 exact next b hb0 QX B w I ρ (a.put o.dst (.bool b)) hi (by rw[hd];exact bu.put hN ht (by simp[aB,Rel])) hm.put hq
end
section
variable {P:Program} {R:Option Nat} {N κ:Nat} {Q:Post} {T:Tm} {H H':List ah} {o:Oper} {ops:Array Oper} {rest:List Oper}
theorem aj.cy(d:Nat){b:Bool}{yo r:PV}{g:FuncId}{args:List PV}(hp:b=true->Pure P g args r)(hn:b=false->tK P g args yo){f:Operand}{xs:Array Operand}{ts:Array TypeId}{fv:V}{vs:List V}
    (ho:o.op= .call {callee:= .value f,args:=xs,argTypes:=ts})(hd:o.dst=some d)(hN:bg N (some d)=true)(hgd:o.guard=none)(hf:ev T f=some fv)
    (hxs:jT T xs.toList=some vs)(hc:callee vs fv=some (g,args.map .p))(hg:ak P g=true)(zP:b=false->Q (.panic (.p yo)) T H)(next:b=true->aj P R N κ ops rest Q ((d,.p r)::T) H):aj P R N κ ops (o::rest) Q T H:=by
 cases b with
 | true=>
  have:=aj.cons (rest:=rest) (Q:=Q) hgd (by rw[hd];exact hN) (aa.eY (N:=N) (T:=T) (H:=H) (hp rfl) ho hf hxs hc hg) (by rw[hd];exact next rfl)
  exact this
 | false=>exact aj.wm d (hn rfl) ho hd hN hgd hf hxs hc hg (zP rfl)
theorem pL{h:List ah}(hb:∀ blk∈h,aE (below h.length) blk=blk):VK P h:=fun blk hm w I ρ b hr=>by
 have h1:=jr (σ:=below h.length) (ρ2:=ρ.take h.length) (fun i j b g1 g2=>by
  unfold below at g1
  split at g1
  ·rename_i g3
   cases g1
   exact vX (by simpa[Nat.blt,Zw] using g3) g2
  ·cases g1) hr
 rwa [hb blk hm] at h1
theorem To.cut{ext:List ah}{T2:Tm}(hw:VK P H)(hκ:κ<=H.length)(hT:Sub T2 T)(hl:eV (below H.length) T2=T2):To P κ N T (H++ext) T2 H:=by
 intro w I ρ tmps hi ht
 have hρ:ρ.length=H.length+ext.length:=by rw[hi.len,Zb]
 have t1:∀(i b:Nat),(ρ.take H.length)[i]? =some b->i<H.length∧ρ[i]? =some b:=fun i b e=>by
  exact CI
 have t2:∀(i:Nat) (blk:ah),H[i]? =some blk->(H++ext)[i]? =some blk:=fun i blk e=>by
  rw[Zd (Za.1 e).1]
  exact e
 refine⟨I,ρ.take H.length,?_,?_,?_,fun B hB hκ2=> ?_⟩
 ·exact C8
 ·exact Bx
 ·have h4:=(ht.sub hT).ren (σ:=below H.length) (ρ2:=ρ.take H.length) (fun i j b g1 g2=>by
    unfold below at g1
    split at g1
    ·rename_i g3
     cases g1
     exact vX (by simpa[Nat.blt,Zw] using g3) g2
    ·cases g1)
  rwa [hl] at h4
 ·exact Bh
end
def zq(P:Program)(κ:Nat)(f:FuncId)(args:List V)(H:List ah)(yo:PV)(Hq:List ah->Prop):Prop:=
 ∀(B:List Nat) w I ρ us,Inv P w I ρ H->ag P w I ρ args us->B<+:ρ->B.length<=κ->
  CallsIn Fence.wide 0 P f us.toArray w fun e w'=>∃ u I' ρ' H',e= .panicked [{v:=u,recovered:=false}]∧Hq H'∧cA w I ρ w' I' ρ'∧Inv P w' I' ρ' H'∧Rel w' I' yo u∧B<+:ρ'
def aa8(yo:PV)(Hq:List ah->Prop):Post
 | .panic v,_,H=>v= .p yo∧Hq H
 | _,_,_=>False
def Se(P:Program)(f:FuncId)(mk:V->List V)(xs:List (List V))(yo:PV):Prop:=
 ∀(l κ n:Nat) (inv:Nat->List ah->Prop),κ<=n->(∀ k h,inv k h->h.length=n)->
  (∀ k h x,inv k h->xs[k]? =some x->tA P l κ h x fun b h'=>b=true∧inv (k+1) h')->
  ∀ h0,inv 0 h0->zq P κ f (mk (kA l)) h0 yo fun h'=>∃ k,inv k h'
section
variable {P:Program} {R:Option Nat} {N κ:Nat} {Q:Post} {T:Tm} {H:List ah}
theorem zq.gQ{f:FuncId}{fn:Func}{c:Code}{args:List V}{yo:PV}{Hq:List ah->Prop}(hf:P.funcs[f]? =some fn)(hb:fn.body=some c)(hN:fn.ntmps=N)(hn:args.length<=N)
    (h:aF P none N κ c (aa8 yo Hq) (c8 0 args) H):zq P κ f args H yo Hq:=by
 subst hN
 intro B w I ρ us hi fX hBp V2
 have hl:=ag.length fX
 refine callsIn_of_wp_marks hf hb trivial ?_ rfl
 have ht:bu P w I ρ fn.ntmps (c8 0 args) (us.toArray++Array.replicate (fn.ntmps - us.toArray.size) undef):=by
  exact mZ
 refine wpIn_mono (h ⟨w.heap.size,B,[]⟩ w I ρ {tmps:=us.toArray++Array.replicate (fn.ntmps - us.toArray.size) undef,defers:=[]} hi ht ⟨Zf _,V2,hBp,[],rfl,Rk,fun _ h=>by cases h⟩) ?_
 rintro e a' w' ⟨z,I',ρ',T',H',h1,h2,h3,h4,h5,hB,_,hpre,rs,h6,h7,h8⟩
 cases z with
 | panic v=>
  cases e <;> first | exact h1.elim | skip
  obtain⟨rfl,hy⟩:=h2
  obtain⟨u,rfl,hu⟩:=h1
  show LeavesInM _ _ _ _ _ _ _ _ _
  rw[h6]
  show LeavesInM _ _ _ _ _ _ (_++[]) _ _
  rw[ZT]
  refine o9 rs w' h7 (fun r hr=>(h8 r hr).1) ?_
  intro w2 k1 k2 k3 k4 k5
  have kI:∀ b,I' b->w2.heap[b]? =w'.heap[b]? :=fun b hb=>k1 b (fun hm=>(h8 b hm).2.1 hb)
  have kρ:∀ b:Nat,w'.heap[b]? ≠some (Obj.deferred (some []))->w2.heap[b]? =w'.heap[b]? :=fun b hb=>k1 b (fun hm=>hb (h8 b hm).1)
  have ks:∀ b s,w'.shape? b=some s->w2.shape? b=some s:=fun b s hs=>by
   exact qT
  have hi2:Inv P w2 I' ρ' H':=h4.marks k5 kI kρ ks
  have hlow:∀ b,b<w.heap.size->w2.heap[b]? =w'.heap[b]? :=fun b hb=>k1 b (fun hm=>by have:=(h8 b hm).2.2;simp only at this;omega)
  refine⟨u,I',ρ',H',rfl,hy,?_,hi2,Rel.mono (fun _ h=>h) kI _ _ hu,hpre⟩
  exact Bb
 | _=>exact h2.elim
theorem aF.FG{g:Operand}{ps:Array Tmp}{fC body:Code}{fv:V}{f:FuncId}{mk:V->List V}{xs:List (List V)}{yo:PV}(κ2:Nat)(hg:ev T g=some fv)(hc:∀ y,callee [y] fv=some (f,mk y))(hf:ak P f=true)(Fl:Se P f mk xs yo)
    (hκ:κ<=κ2)(hκn:κ2<=H.length)(hps:∀ x∈xs,x.length=ps.size)(hlt:ps.toList.all (fun p=>Nat.blt p N)=true)
    (J:Nat->List ah->Prop)(hJ:∀ k h,J k h->h.length=H.length)(h0:J 0 H)
    (round:∀ l tmps k h x,J k h->xs[k]? =some x->Round P N κ2 ⟨l,tmps,T,ps,fC,body⟩ k H.length J (fun _ _=>False) (mM T ps.toList x) (h++[.loop ⟨l,tmps,T,ps,fC,body⟩ .ready none]))
    (pan:∀ h,Q (.panic (.p yo)) T h):aF P none N κ (.rangeFunc g ps fC body) Q T H:=by
 intro B w I ρ a hi ht hm
 refine wpIn_rangeFunc ?_
 intro fn _
 have entry:∃(l:Nat) (mark:List Deferred) (w1:World),(Instr.enterLoop fn a.tmps ps fC body none).run P w= .ok (l,mark) w1∧Ext w I ρ w1 I (ρ++[l])∧
     Inv P w1 I (ρ++[l]) (H++[.loop ⟨l,a.tmps,T,ps,fC,body⟩ .ready none])∧Marks κ B w1 I (ρ++[l]) (mark++a.defers):=by
  have hi1:=Inv.dW hi (.deferred (some []))
  have W8:=Ext.dW hi (.deferred (some []))
  let ob:Obj:= .loop {state:= .ready,pending:=none,fn,tmps:=a.tmps,params:=ps,assign:=fC,body,defers:=w.heap.size}
  have J7:Ext (w.alloc (.deferred (some []))) I ρ _ I _:=Ext.aQ hi1 ob
  have hE:=W8.trans J7
  have hsz:(w.alloc (.deferred (some []))).heap.size=w.heap.size+1:=by simp
  rw[hsz] at hE
  refine⟨w.heap.size+1,_,_,run_enterLoop_outer fn a.tmps ps fC body,hE,?_,?_⟩
  ·have hx:cY P ((w.alloc (.deferred (some []))).alloc ob) I (ρ++[w.heap.size+1]) (.loop ⟨w.heap.size+1,a.tmps,T,ps,fC,body⟩ .ready none) (w.heap.size+1):=by
     exact vY
   have:=Inv.aQ hi1 ob (blk:= .loop ⟨w.heap.size+1,a.tmps,T,ps,fC,body⟩ .ready none) (by rw[hsz];exact hx)
   rwa [hsz] at this
  ·exact wP
 obtain⟨l,mark,w1,YU,hE,hi1,GA⟩:=entry
 obtain⟨d,us,fX,hres,hinv⟩:=kD (ht.ext hE) hg (hc (kA l)) hf
 refine⟨l,mark,w1,d,w1,f,us.toArray,w1,YU,hres,(fun _ _=>trivial),hinv,(fun h=>by cases h),?_⟩
 have A9:∀ k h,(∃ h0,J k h0∧h=h0++[ah.loop ⟨l,a.tmps,T,ps,fC,body⟩ .ready none])->h.length=H.length+1:=by
  rintro k h ⟨h0,h1,rfl⟩
  simp[hJ k h0 h1]
 have CY:=Fl l κ2 (H.length+1) (fun k h=>∃ h0,J k h0∧h=h0++[ah.loop ⟨l,a.tmps,T,ps,fC,body⟩ .ready none])
  (by omega) A9 (by
   rintro k h x ⟨h0,h1,rfl⟩ hx
   have:=Round.ok (r:=⟨l,a.tmps,T,ps,fC,body⟩) (Jx:=fun _ _=>False) (hJ k h0 h1) (hJ (k+1)) (fun _ _ h=>h.elim) (hps x (Zg hx)) (fun p hp=>by
    have:=(Zx.1 hlt) p hp
    simpa[Nat.blt,Zw] using this) ht.size (round l a.tmps k h0 x h1 hx)
   intro B2 w2 I2 ρ2 us2 q1 q2 q3 q4
   obtain⟨fn2,SB,abe,Yq,q5,q6⟩:=this B2 w2 I2 ρ2 us2 q1 q2 q3 q4
   refine⟨fn2,SB,abe,Yq,q5,RoundIn.mono q6 ?_⟩
   rintro e w' ⟨b,I',ρ',h',rfl,q7,q8⟩
   cases b with
   | true=>exact⟨true,I',ρ',h',rfl,⟨rfl,by rwa [if_pos rfl] at q7⟩,q8⟩
   | false=>
    rw[if_neg (by decide)] at q7
    obtain⟨_,_,q9,_⟩:=q7
    exact q9.elim) _ ⟨H,h0,rfl⟩ B.pre w1 I (ρ++[l]) us hi1 fX (GA.2.2.1) (ZW GA.2.1 hκ)
 refine CallsIn.mono (cz none CY) ?_
 rintro e w3 ⟨u,I3,ρ3,H3,rfl,⟨k,h',hj,rfl⟩,h1,h2,h3,h4⟩
 have eD:(h'++[ah.loop ⟨l,a.tmps,T,ps,fC,body⟩ .ready none])[H.length]? =some (.loop ⟨l,a.tmps,T,ps,fC,body⟩ .ready none):=by rw[<- hJ k h' hj];simp
 obtain⟨_,_,YR⟩:=j3 h2 eD
 exact⟨.panic (.p yo),I3,ρ3,T,_,⟨u,rfl,h3⟩,pan _,hE.w.trans h1,h2,⟨ht.size,fun s v hv=>YR s v hv⟩,GA.Ka h1 h4⟩
end
section
variable {P:Program} {R:Option Nat} {N κ:Nat} {Q:Post} {T:Tm} {H H':List ah} {o:Oper} {ops:Array Oper} {rest:List Oper}
theorem bE{σ:Nat->Option Nat}{xs:List PV}{e n:Nat}:aE σ (dU (xs.map .p) e n)=dU (xs.map .p) e n:=by
 cases n with
 | zero=>rfl
 | succ n=>show ah.row (bA σ _) e=_;rw[aP];rfl
theorem bS{σ:Nat->Option Nat}{cs:List V}{e:TypeId}:aE σ (.cells cs e)= .cells (bA σ cs) e:=rfl
theorem bK{σ:Nat->Option Nat}{v:V}{vs:List V}:bA σ (v::vs)=bf σ v::bA σ vs:=rfl
theorem cj{σ:Nat->Option Nat}:bA σ []=[]:=rfl
theorem ef{σ:Nat->Option Nat}{x:PV}:bf σ (.p x)= .p x:=rfl
theorem ia{σ:Nat->Option Nat}{a:Option Addr}{n c:Nat}:bf σ (.raw a n c)= .raw a n c:=rfl
theorem fA{σ:Nat->Option Nat}:aE σ .dead= .dead:=rfl
theorem cU{n0 i n:Nat}{ms:List Nat}(h:i<n0):bf (sg n0 ms) (aZ i n)=aZ i n:=cJ (by
 unfold sg
 rw[show Nat.blt i n0=true by simpa[Nat.blt,Zw] using h]
 rfl)
theorem LN{m i n:Nat}(h:i<m):bf (below m) (aZ i n)=aZ i n:=cJ (by
 unfold below
 rw[if_pos (by simpa[Nat.blt,Zw] using h)])
theorem aa.Yy{v:V}(h:aa P N o T H v H):aa P N o T H v (H++[.dead]):=fun R w I ρ a hi ht K QX hK=>h R w I ρ a hi ht K QX fun u w' I' ρ' hE hi' hv=>by
 have hp:Ext w' I' ρ' w' I' (ρ'++[w'.heap.size]):=Ht
 exact hK u w' I' _ (hE.trans hp) (P2 hi') (hv.ext hp)
theorem aa.qF{x y:Operand}{t t2 e:TypeId}{z:List PV}{n b9:Nat}{ys:List V}{yv:V}(ho:o.op= .call {callee:= .builtin .append,args:= #[x,y],argTypes:= #[t,t2]})(hx:ev T x=some .z0)(hy:ev T y=some yv)(hs:nh P t=some (e,z))(oR:eE P t2=true)
    (hsrc:mY H z.length yv=some (ys,n))(hone:ys.all ig=true)(hby:xh P e=some b9)(hb0:0<b9)(hb:(2*n+192)*b9<=281474976710656):
    aa P N o T H (aZ H.length n) (H++[dU ys e n]):=by
 cases n with
 | zero=>exact aa.Yy (aa.K4 ho hx hy hs oR hsrc)
 | succ n=>exact aa.zz ho hx hy hs oR hsrc (RW _) hone hby hb0 hb
theorem aa.Yp{x y:Operand}{t e:TypeId}{z:List PV}{n b9:Nat}(ho:o.op= .makeSlice t x y)(hx:ev T x=some (.p (.int .i64 (n:Int))))(hy:ev T y=some (.p (.int .i64 (n:Int))))(hs:nh P t=some (e,z))(hby:xh P e=some b9)(hb0:0<b9)
    (hb:b9*n<=281474976710656):aa P N o T H (aZ H.length n) (H++[dU ((List.replicate n z).flatten.map .p) e n]):=by
 cases n with
 | zero=>exact aa.Yy (aa.Ta ho hx hy hs hby)
 | succ n=>exact aa.makeSlice ho hx hy hs hby hb0 (Zf _) hb
theorem aa.uQ{x y:Operand}{t:TypeId}{b:Bool}{i off j n:Nat}{H':List ah}(ho:o.op= .store t x y)(hx:ev T x=some (.ptr i off))(hy:ev T y=some (aZ j n))(ht:fc P t=some (b,1))(hs:fK H i off [aZ j n]=some H'):aa P N o T H .top H':=by
 refine aa.store ho hx hy Rc (by cases n <;> rfl) ht (by rw[vm];rfl) (by rw[vm];exact hs)
theorem aa.Xy{x y:Operand}{t t2 e:TypeId}{z:List PV}{i n:Nat}{zs xs:List PV}(ho:o.op= .call {callee:= .builtin .copy,args:= #[x,y],argTypes:= #[t,t2]})(hx:ev T x=some (aZ i n))(hy:ev T y=some (.p (.is xs n)))(hs:nh P t=some (e,z))
    (hH:H[i]? =some (dU (zs.map .p) e n))(hlen:xs.length=n*z.length)(hz:zs.length=xs.length)(hone:(xs.map V.p).all ig=true)(hsrc:mY H z.length (.p (.is xs n))=some (xs.map .p,n)):aa P N o T H (.p (.int .i64 (n:Int))) (H.set i (dU (xs.map .p) e n)):=by
 cases n with
 | zero=>
  have e0:H.set i (dU (xs.map .p) e 0)=H:=qe hH
  rw[e0]
  exact aa.dB (by simp[ho]) fun w I ρ a hi hT=>by
   obtain⟨hu,⟨bb,kW⟩,vN,hzz⟩:=dQ hs
   obtain⟨bx,FQ⟩:∃ bx,a.eval x= .slice bx 0 0:=hT.ev hx
   obtain⟨us,⟨ad,vp,AY⟩,_,hfc,cE,jC⟩:=kH hi (hT.ev hy) hsrc
   have hf:=hfc 0 (Zf _)
   refine⟨.int .i64 0,w,I,ρ,.inl ?_,Ext.refl _ _ _,hi,rfl⟩
   rw[AY] at hf
   have hlo:(Builtin.lenOf (.slice ad 0 vp)).run P w= .ok 0 w:=by simp[Builtin.lenOf]
   rw[Nat.zero_mul,OH] at hf
   cases bx with
   | none=>simp[execOp,ho,Go.resolve,Go.invoke,Go.builtin,Builtin.copy_,run_underlying hu,FQ,aM kW,AY,hlo,hf,goInt]
   | some bx=>simp[execOp,ho,Go.resolve,Go.invoke,Go.builtin,Builtin.copy_,run_underlying hu,FQ,aM kW,AY,hlo,hf,goInt,Go.storeCells,Sem.run]
 | succ n=>
  have:=aa.RL (N:=N) (len:=n+1) ho hx hy hs hH hsrc (Zf _) (by rw[Zp,Zp,hz];exact Zf _) hone
  have e1:=yl (xs.map V.p) (zs.map V.p) [] (by simp[hz])
  simp only[OW,KG] at e1
  rw[e1] at this
  exact this
theorem eK{α:Type}{f:α->List PV}(h:∀ x,iX ((f x).map .p)=true):∀ l:List α,iX ((l.flatMap f).map .p)=true:=by
 have app:∀ a b:List V,iX a=true->iX b=true->iX (a++b)=true:=fun a b=>by
  induction a with
  | nil=>intro _ h;exact h
  | cons x a ih=>
   intro h1 h2
   unfold iX at h1
   rw[Zn] at h1
   show(Np x&&iX (a++b))=true
   rw[h1.1,ih h1.2 h2];rfl
 intro l
 induction l with
 | nil=>rfl
 | cons x l ih=>rw[ZH,ZA];exact app _ _ (h x) ih
theorem aa.Hr(m k:Nat){g:FuncId}{args:List PV}{xs:List PV}{e n:Nat}(hp:ax P g (args.map .p) [] fun v H'=>v=aZ 0 n∧H'=[dU (xs.map .p) e n])(hk:H.length=k)(hsc:iX (xs.map .p)=true){f:Operand}{ys:Array Operand}{ts:Array TypeId}{fv:V}{vs all:List V}(ho:o.op= .call {callee:= .value f,args:=ys,argTypes:=ts})(hf:ev T f=some fv)
    (hxs:jT T ys.toList=some vs)(hc:callee vs fv=some (g,all))(hb:cT (bU H m) all=some args)(hg:ak P g=true):aa P N o T H (aZ k n) (H++[dU (xs.map .p) e n]):=by
 have:=aa.Aa (N:=N) (T:=T) (H:=H) m hp uK (by
  cases n with
  | zero=>rfl
  | succ n=>show(iX (xs.map .p)&&true)=true;rw[hsc];rfl) ho hf hxs hc hb hg
 rw[cJ (σ:=Ff H.length) (i:=0) (j:=k) (by unfold Ff;rw[hk,KC])] at this
 rwa [show([dU (xs.map V.p) e n]:List ah).map (aE (Ff H.length))=[dU (xs.map .p) e n] by rw[Zz,bE];rfl] at this
end
section
variable {P:Program} {R:Option Nat} {N κ:Nat} {Q:Post} {T:Tm} {H H2:List ah} {o:Oper} {l:List Oper}
theorem aF.j9{id:Nat}(m:Nat)(H2:List ah)(FK:P.follows .mixedOrders=true)(hk:kr m l=true)(hm:m<=l.length)(h:aJ P N l.toArray H H2 (fun T'=>aj P R N κ l.toArray (l.drop m) Q T' H2) false (l.take m) T):aF P R N κ (.region id l.toArray true) Q T H:=by
 intro B w I ρ a hi ht hmk
 obtain⟨vs,Tx,q,h0,FV,_,h1,h2⟩:=aJ.vals h
 have hq:q<m:=by have:=FV rfl;simp at this;omega
 have hlen:(l.take m).length=m:=by simp;omega
 rw[hlen] at h2
 refine wpIn_region_any FK ?_
 have hi':Inv P w.drew I ρ H:=hi.drew
 refine FZ (κ:=κ) (fB.of hk) hm hq (B:=B) (w0:=w) (I0:=I) (ρ0:=ρ) h0 (fun i o pY ho=>h1 i o (by rw[ZV,if_pos pY];exact ho)) ?_ _ _ a w.drew (by simp) (by simp) ?_ ?_ ?_
 ·exact qt
 ·exact kK
 ·exact lu
 ·have e0:fl (Array.replicate l.length false) q=false:=by
    exact vB
  refine⟨I,ρ,Ext.drew.w,by simpa[e0] using hi',ht.size,fun s v hv=> ?_,hmk.ext Ext.drew⟩
  exact rK
end
def R1:V->Bool
 | .row _ _=>true
 | .z0=>true
 | .raw _ _ _=>true
 | _=>false
def cZ(R:V->V->Prop):List V->List V->Prop
 | [],l=>l=[]
 | c::cs,l=>∃ d ds,l=d::ds∧R c d∧cZ R cs ds
theorem cZ.mono{R S:V->V->Prop}(h:∀ v v',R v v'->S v v'):∀(cs l:List V),cZ R cs l->cZ S cs l
 | [],_,hl=>hl
 | _::cs,_,⟨d,ds,e,h1,h2⟩=>⟨d,ds,e,h _ _ h1,cZ.mono h cs ds h2⟩
theorem cZ.len{R:V->V->Prop}:∀(cs l:List V),cZ R cs l->l.length=cs.length
 | [],_,hl=>by rw[show _=_ from hl]
 | _::cs,_,⟨d,ds,e,_,h2⟩=>by rw[e,Zm,Zm,cZ.len cs ds h2]
theorem cZ.app{R:V->V->Prop}:∀(cs l Io l2:List V),cZ R cs l->cZ R Io l2->cZ R (cs++Io) (l++l2)
 | [],_,_,_,hl,h2=>by rw[show _=_ from hl];exact h2
 | _::cs,_,Io,l2,⟨d,ds,e,h1,h2⟩,h3=>⟨d,ds++l2,by rw[e];rfl,h1,cZ.app cs ds Io l2 h2 h3⟩
theorem cZ.refl{R:V->V->Prop}(h:∀ v,R v v):∀ cs:List V,cZ R cs cs
 | []=>rfl
 | c::cs=>⟨c,cs,rfl,h c,cZ.refl h cs⟩
theorem cZ.split{R:V->V->Prop}:∀(cs Io l:List V),cZ R (cs++Io) l->∃ l1 l2,l=l1++l2∧cZ R cs l1∧cZ R Io l2
 | [],_,l,h=>⟨[],l,rfl,rfl,h⟩
 | c::cs,Io,_,⟨d,ds,e,h1,h2⟩=>by
  obtain⟨l1,l2,e2,h3,h4⟩:=cZ.split cs Io ds h2
  exact⟨d::l1,l2,by rw[e,e2];rfl,⟨d,l1,rfl,h1,h3⟩,h4⟩
section
variable {P:Program} {w w':World} {I J:Nat->Prop} {ρ σ:List Nat} {H:List ah}
def zF(P:Program)(w:World)(I:Nat->Prop)(ρ:List Nat)(p:V×V):Prop:=∃ a n c,p.1= .raw a n c∧aB P w I ρ p.2 (.slice a n c)
def gI(ps:List (V×V))(v v':V):Prop:=v=v'∨(v,v')∈ps
def nD(ps:List (V×V))(v v':V):Prop:=(R1 v=false∧v'=v)∨(R1 v=true∧(∃ a n c,v'= .raw a n c)∧(v',v)∈ps)
def nK(ps:List (V×V))(x x':ah):Prop:=x=x'∨∃ cs cs' e,cZ (gI ps) cs cs'∧((x= .cells cs e∧x'= .cells cs' e)∨∃ t,x= .row (cs++t) e∧x'= .row cs' e)
def e8(ps:List (V×V))(H H':List ah):Prop:=H.length=H'.length∧∀(i:Nat) (x x':ah),H[i]? =some x->H'[i]? =some x'->nK ps x x'
theorem gI.refl{ps:List (V×V)}(v:V):gI ps v v:= .inl rfl
theorem vw{ps:List (V×V)}:∀(cs cs':List V),cZ (nD ps) cs cs'->cZ (gI ps) cs' cs
 | [],_,h=>by rw[show _=_ from h];exact rfl
 | c::cs,_,⟨d,ds,e,h1,h2⟩=>by
  subst e
  refine⟨c,cs,rfl,?_,vw cs ds h2⟩
  rcases h1 with⟨_,h⟩ | ⟨_,_,h⟩
  ·exact .inl h
  ·exact .inr h
theorem e8.set{ps:List (V×V)}{H:List ah}{k:Nat}{x x':ah}(h:H[k]? =some x)(hx:nK ps x x'):e8 ps H (H.set k x'):=by
 refine⟨by rw[ZZ],fun i y y' h1 h2=> ?_⟩
 rw[Zv] at h2
 split at h2
 ·rename_i e
  subst e
  split at h2
  ·cases h2
   rw[h] at h1;cases h1;exact hx
  ·cases h2
 ·rw[h1] at h2;cases h2;exact .inl rfl
theorem NZ{ps:List (V×V)}(hp:∀ p∈ps,zF P w I ρ p){v v':V}{u:Value}(h:gI ps v v')(hr:aB P w I ρ v u):aB P w I ρ v' u:=by
 rcases h with rfl | h
 ·exact hr
 ·obtain⟨a,n,c,h1,h2⟩:=hp _ h
  dsimp only at h1 h2
  rw[h1] at hr
  rw[show u=_ from hr]
  exact h2
theorem sX{ps:List (V×V)}(hp:∀ p∈ps,zF P w I ρ p):∀(vs vs':List V) (us:List Value),cZ (gI ps) vs vs'->ag P w I ρ vs us->ag P w I ρ vs' us
 | [],_,us,h,hr=>by rw[show _=_ from h];exact hr
 | v::vs,_,us,⟨d,ds,e,h1,h2⟩,⟨u,us',e2,h3,h4⟩=>by
  rw[e]
  exact⟨u,us',e2,NZ hp h1 h3,sX hp vs ds us' h2 h4⟩
theorem yQ:∀(cs t:List V) (us:List Value),ag P w I ρ (cs++t) us->ag P w I ρ cs (us.take cs.length)
 | [],t,us,h=>by rw[KG,OH];rfl
 | c::cs,t,_,⟨u,us',rfl,h1,h2⟩=>⟨u,us'.take cs.length,rfl,h1,yQ cs t us' h2⟩
theorem J2{ps:List (V×V)}(hp:∀ p∈ps,zF P w I ρ p){x x':ah}{b:Nat}(h:nK ps x x')(hr:cY P w I ρ x b):cY P w I ρ x' b:=by
 rcases h with rfl | ⟨cs,cs',e,h1,⟨rfl,rfl⟩ | ⟨t,rfl,rfl⟩⟩
 ·exact hr
 ·obtain⟨arr,h2,h3⟩:=hr
  exact⟨arr,h2,sX hp _ _ _ h1 h3⟩
 ·obtain⟨arr,h2,h3,h4⟩:=hr
  have hl:=cZ.len _ _ h1
  rw[Zb] at h3
  have h5:=yQ cs t _ h4
  rw[List.take_take,Zb,KI (by omega)] at h5
  exact⟨arr,h2,by rw[hl];omega,by rw[hl];exact sX hp _ _ _ h1 h5⟩
theorem lH{ps:List (V×V)}{x x':ah}(h:nK ps x x'):x'.live=x.live:=by
 rcases h with rfl | ⟨cs,cs',e,h1,⟨rfl,rfl⟩ | ⟨t,rfl,rfl⟩⟩ <;> rfl
theorem Er{ps:List (V×V)}(hp:∀ p∈ps,zF P w I ρ p){H':List ah}(h:e8 ps H H')(hi:Inv P w I ρ H):Inv P w I ρ H':=by
 have hg:∀(i:Nat) (x':ah),H'[i]? =some x'->∃ x,H[i]? =some x∧nK ps x x':=fun i x' hx=>by
  have hl:i<H.length:=by rw[h.1];exact(Za.1 hx).1
  exact⟨_,Zc hl,h.2 i _ x' (Zc hl) hx⟩
 refine⟨by rw[hi.len,h.1],fun i b x h1 h2 h3=> ?_,hi.ib,fun i b x h1 h2 h3=> ?_,fun i j b x y h1 h2 h3 h4 h5 h6=> ?_,fun i b x h1 h2=> ?_,hi.gl⟩
 ·obtain⟨y,h4,h5⟩:=hg i x h2
  exact hi.gC i b y h1 h4 (by rw[<- lH h5];exact h3)
 ·obtain⟨y,h4,h5⟩:=hg i x h2
  exact hi.live i b y h1 h4 (by rw[<- lH h5];exact h3)
 ·obtain⟨x2,h7,h8⟩:=hg i x h3
  obtain⟨y2,h9,h10⟩:=hg j y h4
  exact hi.fT i j b x2 y2 h1 h2 h7 h9 (by rw[<- lH h8];exact h5) (by rw[<- lH h10];exact h6)
 ·obtain⟨y,h4,h5⟩:=hg i x h2
  exact J2 hp h5 (hi.rel i b y h1 h4)
theorem zF.ext(h:Ext w I ρ w' J σ){p:V×V}(hp:zF P w I ρ p):zF P w' J σ p:=by
 obtain⟨a,n,c,h1,h2⟩:=hp
 exact⟨a,n,c,h1,aB.ext h h2⟩
theorem yA{v:V}{u:Value}(h:aB P w I ρ v u)(hs:R1 v=true):∃ a n c,u= .slice a n c:=by
 cases v with
 | row i len=>obtain⟨b,e,cap,_,hu,_⟩:=h;exact⟨_,_,_,hu⟩
 | z0=>obtain⟨a,hu⟩:=h;exact⟨_,_,_,hu⟩
 | raw a n c=>exact⟨a,n,c,h⟩
 | _=>cases hs
theorem M6:∀(cs:List V) (us:List Value),ag P w I ρ cs us->∃ cs' ps,cZ (nD ps) cs cs'∧ag P w I ρ cs' us∧∀ p∈ps,zF P w I ρ p
 | [],us,h=>⟨[],[],rfl,h,fun p hp=>by cases hp⟩
 | v::cs,_,⟨u,us',rfl,h1,h2⟩=>by
  obtain⟨cs',ps,h3,h4,h5⟩:=M6 cs us' h2
  cases hs:R1 v with
  | false=>exact⟨v::cs',ps,⟨v,cs',rfl,.inl ⟨hs,rfl⟩,h3⟩,⟨u,us',rfl,h1,h4⟩,h5⟩
  | true=>
   obtain⟨a,n,c,rfl⟩:=yA h1 hs
   refine⟨.raw a n c::cs',(.raw a n c,v)::ps,⟨_,_,rfl,.inr ⟨hs,⟨a,n,c,rfl⟩,Zt⟩,cZ.mono (fun x x' hx=> ?_) _ _ h3⟩,⟨_,us',rfl,rfl,h4⟩,fun p hp=> ?_⟩
   ·rcases hx with hx | ⟨k1,k2,k3⟩
    ·exact .inl hx
    ·exact .inr ⟨k1,k2,Zh _ k3⟩
   ·rcases Zr.1 hp with rfl | hp
    ·exact⟨a,n,c,rfl,h1⟩
    ·exact h5 p hp
theorem GV{um:V}{post:List V}(hs:R1 um=true):∀(pre:List V) (us:List Value),ag P w I ρ (pre++um::post) us->∃ a n c,ag P w I ρ (pre++ .raw a n c::post) us∧aB P w I ρ um (.slice a n c)
 | [],_,⟨u,us',rfl,h1,h2⟩=>by
  obtain⟨a,n,c,rfl⟩:=yA h1 hs
  exact⟨a,n,c,⟨_,us',rfl,rfl,h2⟩,h1⟩
 | p::pre,_,⟨u,us',rfl,h1,h2⟩=>by
  obtain⟨a,n,c,h3,h4⟩:=GV hs pre us' h2
  exact⟨a,n,c,⟨u,us',rfl,h1,h3⟩,h4⟩
theorem DT{k:Nat}{old new:ah}(hk:H[k]? =some old)(hl:old.live=true)(hr:∀ b,ρ[k]? =some b->cY P w I ρ old b->cY P w I ρ new b)(hi:Inv P w I ρ H):Inv P w I ρ (H.set k new):=by
 have pQ:k<ρ.length:=by rw[hi.len];exact(Za.1 hk).1
 have hb:=Zc pQ
 exact hi.write hb hk hl ⟨cA.refl _ _ _,ZE _⟩ rfl (fun _ _=>rfl) (hr _ hb (hi.rel k _ old hb hk))
theorem av.T4{f:FuncId}{args:List V}{Qr:V->List ah->Prop}{Qp:PV->List ah->Prop}
    (h:∀ w I ρ,Inv P w I ρ H->∃(H0:List ah) (ps:List (V×V)),Inv P w I ρ H0∧(∀ p∈ps,zF P w I ρ p)∧av P f args H0 (fun v H2=>∃ H3,e8 ps H2 H3∧Qr v H3) (fun y H2=>∃ H3,e8 ps H2 H3∧Qp y H3)):av P f args H Qr Qp:=by
 intro w I ρ us hi fX
 obtain⟨H0,ps,h1,h2,h3⟩:=h w I ρ hi
 refine(h3 w I ρ us h1 fX).mono ?_
 rintro e w' (⟨u,v,J,σ,H2,e1,⟨H3,ht,hq⟩,h4,h5,h6⟩ | ⟨u,y,J,σ,H2,e1,⟨H3,ht,hq⟩,h4,h5,h6⟩)
 ·exact .inl ⟨u,v,J,σ,H3,e1,hq,h4,Er (fun p hp=>(h2 p hp).ext h4) ht h5,h6⟩
 ·exact .inr ⟨u,y,J,σ,H3,e1,hq,h4,Er (fun p hp=>(h2 p hp).ext h4) ht h5,h6⟩
theorem av.Q6{f:FuncId}{args:List V}{Qr:V->List ah->Prop}{Qp:PV->List ah->Prop}(k:Nat){cs:List V}{e:TypeId}(hk:H[k]? =some (.row cs e))
    (h:∀ cs' ps,cZ (nD ps) cs cs'->av P f args (H.set k (.row cs' e)) (fun v H2=>∃ H3,e8 ps H2 H3∧Qr v H3) (fun y H2=>∃ H3,e8 ps H2 H3∧Qp y H3)):av P f args H Qr Qp:=by
 refine av.T4 fun w I ρ hi=> ?_
 have pQ:k<ρ.length:=by rw[hi.len];exact(Za.1 hk).1
 have hb:=Zc pQ
 obtain⟨arr,h1,h2,h3⟩:=hi.rel k _ _ hb hk
 obtain⟨cs',ps,h4,h5,h6⟩:=M6 cs _ h3
 have hl:=cZ.len _ _ h4
 exact⟨_,ps,DT hk rfl (fun b iu _=>by rw[hb] at iu;cases iu;exact⟨arr,h1,by rw[hl];exact h2,by rw[hl];exact h5⟩) hi,h6,h cs' ps h4⟩
theorem av.NW{f:FuncId}{args:List V}{Qr:V->List ah->Prop}{Qp:PV->List ah->Prop}(k:Nat){pre post:List V}{um:V}{e:TypeId}(hk:H[k]? =some (.cells (pre++um::post) e))(hs:R1 um=true)
    (h:∀ a n c,av P f args (H.set k (.cells (pre++ .raw a n c::post) e)) (fun v H2=>∃ H3,e8 [(.raw a n c,um)] H2 H3∧Qr v H3) (fun y H2=>∃ H3,e8 [(.raw a n c,um)] H2 H3∧Qp y H3)):av P f args H Qr Qp:=by
 refine av.T4 fun w I ρ hi=> ?_
 have pQ:k<ρ.length:=by rw[hi.len];exact(Za.1 hk).1
 have hb:=Zc pQ
 obtain⟨arr,h1,h3⟩:=hi.rel k _ _ hb hk
 obtain⟨a,n,c,h4,h5⟩:=GV hs pre _ h3
 exact⟨_,[(.raw a n c,um)],DT hk rfl (fun b iu _=>by rw[hb] at iu;cases iu;exact⟨arr,h1,h4⟩) hi,fun p hp=>by rw[ZI.1 hp];exact⟨a,n,c,rfl,h5⟩,h a n c⟩
theorem av.pad{f:FuncId}{args:List V}{Qr:V->List ah->Prop}{Qp:PV->List ah->Prop}(h:av P f args (H++[.dead]) Qr Qp):av P f args H Qr Qp:=by
 intro w I ρ us hi fX
 have oW:∀(i b:Nat) (x:ah),(ρ++[w.heap.size])[i]? =some b->(H++[.dead])[i]? =some x->x.live=true->ρ[i]? =some b∧H[i]? =some x:=fun i b x h1 h2 h3=>by
  rcases bB h2 with⟨h5,h6⟩ | ⟨h5,h6⟩
  ·rw[Zd (by rw[hi.len];exact h5)] at h1
   exact⟨h1,h6⟩
  ·rw[h6] at h3;cases h3
 have hp:Inv P w I (ρ++[w.heap.size]) (H++[.dead]):=by
  refine⟨by simp[hi.len],fun i b x h1 h2 h3=> ?_,hi.ib,fun i b x h1 h2 h3=> ?_,fun i j b x y h1 h2 h3 h4 h5 h6=> ?_,fun i b x h1 h2=> ?_,hi.gl⟩
  ·obtain⟨h4,h5⟩:=oW i b x h1 h2 h3
   exact hi.gC i b x h4 h5 h3
  ·obtain⟨h4,h5⟩:=oW i b x h1 h2 h3
   exact hi.live i b x h4 h5 h3
  ·obtain⟨h7,h8⟩:=oW i b x h1 h3 h5
   obtain⟨h9,h10⟩:=oW j b y h2 h4 h6
   exact hi.fT i j b x y h7 h9 h8 h10 h5 h6
  ·cases hl:x.live with
   | false=>exact cY.gE hl
   | true=>
    obtain⟨h4,h5⟩:=oW i b x h1 h2 hl
    exact cY.mono (fun _ h=>h) (fun _ _=>rfl) ⟨_,rfl⟩ (fun _ _ _ h=>h) rfl (hi.rel i b x h4 h5)
 have hE:∀(w':World) (J:Nat->Prop) (σ:List Nat),Ext w I (ρ++[w.heap.size]) w' J σ->Ext w I ρ w' J σ:=fun w' J σ h3=>
  ⟨⟨h3.w.os,h3.w.tape,h3.w.output,h3.w.size,fun b g1 g2=>h3.w.keep b g1 fun h=>by
      rcases Zo.1 h with h | h
      ·exact g2 h
      ·have:=ZI.1 h;omega,h3.w.shape,h3.w.lD,h3.w.bh,fun b h=>by
   rcases h3.w.eT b h with h | h | h
   ·exact .inl h
   ·rcases Zo.1 h with h | h
    ·exact .inr (.inl h)
    ·have:=ZI.1 h;exact .inr (.inr (by omega))
   ·exact .inr (.inr h),h3.w.cI,h3.w.ki,fun b h=>by
   rcases h3.w.new b h with h | h
   ·rcases Zo.1 h with h | h
    ·exact .inl h
    ·have:=ZI.1 h;exact .inr (by omega)
   ·exact .inr h⟩,(We ρ [w.heap.size]).trans h3.pre⟩
 have aan:ag P w I (ρ++[w.heap.size]) args us:=ag.mono (fun _ h=>h) (fun _ _=>rfl) ⟨_,rfl⟩ (fun _ _ _ h=>h) args us fX
 refine(h w I _ us hp aan).mono ?_
 rintro e w' (⟨u,v,J,σ,H2,e1,hq,h4,h5,h6⟩ | ⟨u,y,J,σ,H2,e1,hq,h4,h5,h6⟩)
 ·exact .inl ⟨u,v,J,σ,H2,e1,hq,hE _ _ _ h4,h5,h6⟩
 ·exact .inr ⟨u,y,J,σ,H2,e1,hq,hE _ _ _ h4,h5,h6⟩
end
section
variable {P:Program} {R:Option Nat} {N κ:Nat} {Q:Post} {T:Tm} {H:List ah} {o:Oper}
theorem aF.tW{c:Code}{H':List ah}(e:H'=H)(h:aF P R N κ c Q T H'):aF P R N κ c Q T H:=e▸h
theorem aa.Ih{x y:Operand}{t:TypeId}{kd:IntKind}{sz i n:Nat}{z:Int}(ho:o.op= .indexAddr t x y)(hx:ev T x=some (aZ i n))(hy:ev T y=some (.p (.int kd z)))(ht:eE P t=true)(he:nk P t=some sz)(h0:0<=z)(h1:z<(n:Int)):aa P N o T H (.ptr i (z.toNat*sz)) H:=by
 cases n with
 | zero=>omega
 | succ n=>exact aa.lC ho hx hy ht he h0 (by omega)
theorem aa.TZ(m k:Nat){g:FuncId}{args:List PV}{xs:List PV}{e:TypeId}{n:Nat}{x y:Int}(hp:ax P g (args.map .p) [] fun v H'=>v= .tuple [.row 0 n,.p (.int .i64 x),.p (.int .i64 y)]∧H'=[.row (xs.map .p) e])(hk:H.length=k)(hsc:iX (xs.map .p)=true){f:Operand}{ys:Array Operand}{ts:Array TypeId}{fv:V}{vs all:List V}(ho:o.op= .call {callee:= .value f,args:=ys,argTypes:=ts})(hf:ev T f=some fv)
    (hxs:jT T ys.toList=some vs)(hc:callee vs fv=some (g,all))(hb:cT (bU H m) all=some args)(hg:ak P g=true):aa P N o T H (.tuple [.row k n,.p (.int .i64 x),.p (.int .i64 y)]) (H++[.row (xs.map .p) e]):=by
 have:=aa.Aa (N:=N) (T:=T) (H:=H) m hp rfl (by show(iX (xs.map .p)&&true)=true;rw[hsc];rfl) ho hf hxs hc hb hg
 rw[show([ah.row (xs.map V.p) e]:List ah).map (aE (Ff H.length))=[.row (xs.map .p) e] by show[ah.row (bA _ _) _]=_;rw[aP]] at this
 rw[show bf (Ff H.length) (.tuple [.row 0 n,.p (.int .i64 x),.p (.int .i64 y)])= .tuple [.row k n,.p (.int .i64 x),.p (.int .i64 y)] by show V.tuple [.row (H.length+0) n,_,_]=_;rw[hk];rfl] at this
 exact this
end
section
variable {P:Program} {R:Option Nat} {N κ:Nat} {Q:Post} {T T0:Tm} {H:List ah} {l:List Oper} {vs:Nat->V} {q:Nat}
theorem Gf{F:Fence}{n:Nat}{o:Oper}{a:Act}{w:World}{K K':Act->World->Prop}{QX QX':Exit->Act->World->Prop}(h:∀ a w,K a w->K' a w)(hq:∀ e a w,QX e a w->QX' e a w)(hl:LetsOut QX->LetsOut QX')(hh:o.wpIn F n P a w K QX):o.wpIn F n P a w K' QX':=by
 unfold Oper.wpIn at*
 refine⟨hh.1,?_⟩
 have hh:=hh.2
 generalize (o.semAt F.round a.eval).run P w=r at*
 cases r with
 | ok x w'=>
  cases x <;> simp only[Oper.uponIn] at hh ⊢ <;>
   first
    | exact h _ _ hh
    | exact⟨hh.1,CallsIn.mono hh.2 (fun e w'' he=>by cases e <;> first | exact h _ _ he | exact hq _ _ _ he | exact hl he)⟩
    | exact⟨hh.1,RowsIn.mono hh.2 (fun _ _ he=>h _ _ he)⟩
    | exact⟨hh.1,RoundIn.mono hh.2 (fun e w'' he=>by cases e <;> first | exact h _ _ he | exact hq _ _ _ he | exact hl he)⟩
 | halt x w'=>cases x <;> simp only[Oper.uponIn] at hh ⊢ <;> first | exact hh | exact hq _ _ _ hh
def NK(T0:Tm)(l:List Oper):Bool:=T0.all fun p=>l.all fun o=> !(o.dst==some p.1)
theorem Sq:∀{T:Tm} {s:Nat} {v:V},lk T s=some v->∃ p∈T,p.1=s
 | (t,x)::T,s,v,h=>by
  unfold lk at h
  cases hb:Nat.beq t s with
  | true=>exact⟨_,Zt,ZM hb⟩
  | false=>
   rw[hb] at h
   obtain⟨p,h1,h2⟩:=Sq h
   exact⟨p,Zh _ h1,h2⟩
theorem N1:∀{A B:Tm} {s:Nat} {v:V},lk (A++B) s=some v->lk A s=some v∨lk B s=some v
 | [],B,s,v,h=> .inr h
 | (t,x)::A,B,s,v,h=>by
  simp only[OK,lk] at h ⊢
  cases hb:Nat.beq t s with
  | true=>rw[hb] at h;exact .inl h
  | false=>rw[hb] at h;exact N1 h
theorem IZ(hk:fB (q+1) l)(hm:q<l.length){o0:Oper}(KQ:l[q]? =some o0)(TY:o0.guard=none){B:mC}{w0:World}{I0:Nat->Prop}{ρ0:List Nat}{QX:Exit->Act->World->Prop}{Tx:Nat->Tm}(h0:Tx 0=T)
    (h1:∀ i o,i<q->l[i]? =some o->bg N o.dst=true∧YJ P N l.toArray o (Tx i) H (vs i)∧Tx (i+1)=fN (Tx i) o.dst (vs i))(hs0:Sub T0 T)(hk0:NK T0 (l.take q)=true)
    (hF:∀ a w I ρ,cA w0 I0 ρ0 w I ρ->Inv P w I ρ H->bu P w I ρ N (bI l.toArray o0 (Tx q)++T0) a.tmps->Marks κ B w I ρ a.defers->wpListIn (Fr R) 0 P l.toArray (fun e a w=>e≠ .normal∧QX e a w) [o0] a w):
    ∀(fuel:Nat) (listed:Array Bool) (a:Act) (w:World),listed.toList.count false=fuel->listed.size=l.length->(∀ i o,l[i]? =some o->fl listed i=true->∀ e∈o.after,Region.binds .any e=true->fl listed e.on=true)->(∀ i,q<=i->fl listed i=false)->
    SI κ P N H l T vs B w0 I0 ρ0 (fl listed) a w->wpAnyIn (Fr R) 0 P .any l.toArray QX fuel listed a w:=by
 intro fuel
 have hlk:=xj (vs:=vs) hk (M:=q) (by omega) h0 (fun i o hi ho=>(h1 i o hi ho).2.2)
 induction fuel with
 | zero=>
  intro listed a w mV hsz hcl xW hsi
  have hlt:q<listed.size:=by omega
  have h2:=List.count_eq_zero.1 mV
  have h4:=xW q (Zf _)
  unfold fl at h4
  simp[hlt] at h4
  exact absurd (by rw[<- h4];exact Array.mem_toList_iff.2 (Array.getElem_mem hlt)) h2
 | succ fuel ih=>
  intro listed a w mV hsz hcl xW hsi
  obtain⟨i0,nA,hmin⟩:∃ i0,(i0<q+1∧fl listed i0=false)∧∀ j,j<i0->fl listed j=true:=by
   have hex:∃ i,i<q+1∧fl listed i=false:=⟨q,by omega,xW q (Zf _)⟩
   obtain⟨k,⟨h3,h4⟩,h5⟩:=exists_least _ hex
   refine⟨k,⟨h3,h4⟩,fun j hj=> ?_⟩
   cases h:fl listed j with
   | true=>rfl
   | false=>have:=h5 j ⟨by omega,h⟩;omega
  have hoi:l[i0]? =some (l[i0]'(by omega)):=Zc _
  have zW:i0∈Region.ready .any l.toArray listed:=by
   refine mem_ready.2 ⟨?_,(l[i0]'(by omega)),by rw[List.getElem?_toArray];exact hoi,fun e he hb=>hmin e.on (hk.back i0 _ hoi e he hb)⟩
   have:=nA.2
   unfold fl at this
   have hlt:i0<listed.size:=by omega
   simp[hlt] at this ⊢
   exact this
  refine⟨(fun h=>by rw[h] at zW;cases zW),fun i hi=> ?_⟩
  obtain⟨h3,o,ho',Wd⟩:=mem_ready.1 hi
  have ho:l[i]? =some o:=by simpa using ho'
  have hilt:=cC ho
  have wO:∀ j oj,l[j]? =some oj->(decide (j=i)||fl listed j)=true->∀ e∈oj.after,Region.binds .any e=true->(decide (e.on=i)||fl listed e.on)=true:=fun j oj hj uI e he hb=>by
   exact kO
  have pY:i<q+1:=by
   rcases ZS i (q+1) with h | h
   ·exact h
   ·have:=hk.tail (fun j=>decide (j=i)||fl listed j) wO i h hilt (by simp) i0 (by omega)
    have hne:¬ i0=i:=by omega
    simp[hne,nA.2] at this
  have tY:fl listed i=false:=by
   exact kG
  obtain⟨I,ρ,he,hinv,hs,cE,hmk⟩:=hsi
  have mB:i<=q->∀ s v,lk (bI l.toArray o (Tx i)) s=some v->aB P w I ρ v (a.tmps.getD s undef):=by
   intro FR s v hv
   unfold bI at hv
   rw[mc] at hv
   split at hv
   ·rename_i hs'
    rw[hlk i FR] at hv
    refine cE s v ?_
    rw[<- hv]
    refine gU hk fun j oj hj hd=> ?_
    by_cases hji:j=i
    ·subst hji;rw[tY];simp
    ·exact BA
   ·cases hv
  unfold wpOpIn
  simp only[ho']
  by_cases FR:i=q
  ·subst FR
   have:o=o0:=by rw[ho] at KQ;exact ZD KQ
   subst this
   have AW:bu P w I ρ N (bI l.toArray o (Tx i)++T0) a.tmps:=⟨hs,fun s v hv=>by
    rcases N1 hv with h | h
    ·exact mB (Zf _) s v h
    ·refine cE s v ?_
     rw[me (fun j oj hj uI hd=> ?_)]
     ·exact hs0 s v h
     ·obtain⟨p,hp1,Sa⟩:=Sq h
      have h5:=Zx.1 hk0 p hp1
      have hjq:j<i:=by
       rcases ZS j i with h | h
       ·exact h
       ·rw[xW j h] at uI;cases uI
      have h6:=Zx.1 h5 oj (Zg (by rw[ZV,if_pos hjq];exact hj))
      rw[Sa,hd] at h6
      simp at h6⟩
   have hA:=hF a w I ρ he hinv AW hmk
   simp only[wpListIn,Region.wanted,TY,if_true] at hA ⊢
   exact Gf (QX:=fun e a w=>e≠ .normal∧QX e a w) (fun a w h=>absurd rfl (show Exit.normal≠ .normal∧_ from h).1) (fun e a w h=>h.2) (fun⟨a,w,h⟩=>⟨a,w,h.2⟩) hA
  ·have abn:i<q:=by omega
   obtain⟨sA,hy,_⟩:=h1 i o abn ho
   have AW:bu P w I ρ N (bI l.toArray o (Tx i)) a.tmps:=⟨hs,mB (by omega)⟩
   have next:∀ u w' I' ρ',Ext w I ρ w' I' ρ'->Inv P w' I' ρ' H->aB P w' I' ρ' (vs i) u->wpAnyIn (Fr R) 0 P .any l.toArray QX fuel (listed.setIfInBounds i true) (a.put o.dst u) w':=by
    exact nH
   rcases hy with⟨hg,hop⟩ | ⟨j,want,s,c,x,v',hg,o4,DW,hb,hc,hv,hop⟩
   ·exact lg
   ·exact nT
theorem aF.EM{id:Nat}(q:Nat)(T0:Tm){o0:Oper}(KQ:l[q]? =some o0)(TY:o0.guard=none)(FK:P.follows .mixedOrders=true)(hk:kr (q+1) l=true)(hs0:Sub T0 T)(hk0:NK T0 (l.take q)=true)
    (h:aA P N l.toArray H (fun T'=>aj P R N κ l.toArray [o0] (fun x T1 H1=>(∃ y,x= .panic y)∧Q x T1 H1) (bI l.toArray o0 T'++T0) H) (l.take q) T):aF P R N κ (.region id l.toArray true) Q T H:=by
 intro B w I ρ a hi ht hmk
 obtain⟨vs,Tx,h0,h1,h2⟩:=aA.vals h
 have Ox:=cC KQ
 have hlen:(l.take q).length=q:=by simp;omega
 rw[hlen] at h2
 refine wpIn_region_any FK ?_
 have hi':Inv P w.drew I ρ H:=hi.drew
 refine IZ (κ:=κ) (fB.of hk) Ox KQ TY (B:=B) (w0:=w) (I0:=I) (ρ0:=ρ) h0 (fun i o pY ho=>h1 i o (by rw[ZV,if_pos pY];exact ho)) hs0 hk0 ?_ _ _ a w.drew (by simp) (by simp) ?_ ?_ ?_
 ·intro a' w' I' ρ' he hi2 oR hm2
  refine h2 _ B w' I' ρ' a' hi2 oR hm2 fun e a2 w2 qc=> ?_
  obtain⟨x,J,σ,T',H',e1,⟨⟨y,rfl⟩,e2⟩,e3⟩:=qc
  refine⟨?_,QC.ext he ⟨.panic y,J,σ,T',H',e1,e2,e3⟩⟩
  rintro rfl
  exact e1
 ·exact kK
 ·exact lu
 ·exact BG
theorem aa.JH{o:Oper}{x y:Operand}{t:TypeId}{i n h sz:Nat}{kd:IntKind}(ho:o.op= .slice t x none (some y) none)(hx:ev T x=some (.row i n))(hy:ev T y=some (.p (.int kd (h:Int))))(ht:eE P t=true)(he:nk P t=some sz)(h2:h<=n):aa P N o T H (.row i h) H:=
 aa.aO (by simp[ho]) fun w I ρ a hi' hT=>by
  cases hu:P.underlying t with
  | none=>simp[eE,hu] at ht
  | some d=>
   cases d <;> simp[eE,hu] at ht
   rename_i e
   simp only[nk,hu,Zi] at he
   obtain⟨⟨b,m⟩,htm,rfl⟩:=he
   obtain⟨blk,e2,cap,hb,o4,hsh,hle⟩:=hT.ev hx
   have J8:=lR (OT:=true) (cap:=cap) (l:=0) (lo:=none) (hi:=some y) (len:=n) hT rfl ⟨kd,hy⟩ (Zs h) (by omega)
   refine⟨.slice (some ⟨blk,0,none⟩) h cap,?_,blk,e2,cap,hb,rfl,hsh,by omega⟩
   simp only[Option.map_none,Ri] at J8
   simp[execOp,ho,Instr.sliceAt,run_underlying hu,o4,Instr.slice,J8,aM htm,cK]
end
section
variable {P:Program} {R:Option Nat} {N κ:Nat} {Q:Post} {T:Tm} {H H2:List ah} {o:Oper} {ops:Array Oper} {rest:List Oper} {K:Tm->Prop}
theorem aJ.put{v:V}(hd:o.dst=none)(hg:o.guard=none)(hop:aa P N o (bI ops o T) H v H2)(next:aJ P N ops H H2 K true rest T):aJ P N ops H H2 K false (o::rest) T:=
 ⟨v,by rw[hd];rfl,.inr ⟨rfl,hg,hop,by rw[hd];exact next⟩⟩
theorem ax.uH{f g:FuncId}{fn:Func}{c0 c1 cm c2:Code}{id dm:Nat}{om od:Oper}{args caps:List V}{T1:Tm}{H1:List ah}{Qr:V->List ah->Prop}{ts:Array TypeId}(hf:P.funcs[f]? =some fn)(hb:fn.body=some (.seq c0 (.seq c1 (.seq cm (.seq (.region id #[om,od] false) c2)))))(hN:fn.ntmps=N)(hn:args.length<=N)
    (h01:aF P none N H.length c0 (AX.then (aF P none N H.length c1 (AX.then (aF P none N H.length cm (AX.then (fun T' H'=>Sub T1 T'∧H'=H1) (lP P N fn Qr))) (lP P N fn Qr))) (lP P N fn Qr)) (c8 0 args) H)
    (hom:aa P N om T1 H1 (.func (.func g) [] caps) H1)(hdm:om.dst=some dm)(hgm:om.guard=none)(hm:bg N (some dm)=true)(hod:od.op= .defer {callee:= .value (.tmp dm),args:= #[],argTypes:=ts})(hgd:od.guard=none)(hdd:od.dst=none)(hg:ak P g=true)
    (h2:aF P none N H1.length c2 (aa1 P N fn g caps Qr) ((dm,.func (.func g) [] caps)::T1) H1):ax P f args H Qr:=by
 subst hN
 intro w I ρ us hi fX
 have hl:=ag.length fX
 refine callsIn_of_wp_marks hf hb trivial ?_ rfl
 have ht:bu P w I ρ fn.ntmps (c8 0 args) (us.toArray++Array.replicate (fn.ntmps - us.toArray.size) undef):=by
  exact mZ
 -- it leaves before it defers
 have early:∀(a':Act) (w':World) (T':Tm) (H':List ah) (I':Nat->Prop) (ρ':List Nat) (rs:List Nat),(∃ v,en P fn.ntmps fn T' H' v∧Qr v H')->cA w I ρ w' I' ρ'->Inv P w' I' ρ' H'->bu P w' I' ρ' fn.ntmps T' a'.tmps->ρ<+:ρ'->a'.defers=(rs.map fun r=>{target:= .collected r,args:= #[]})++[]->rs.Nodup->(∀ r∈rs,w'.heap[r]? =some (Obj.deferred (some []))∧¬ I' r∧w.heap.size<=r)->
     LeavesInM Fence.wide 0 P fn a'.tmps (fun e w'=>∃ u v I' ρ' H',e= .returned u∧Qr v H'∧Ext w I ρ w' I' ρ'∧Inv P w' I' ρ' H'∧aB P w' I' ρ' v u) a'.defers .returning w':=by
  rintro a' w' T' H' I' ρ' rs ⟨v,hv,hq⟩ h3 h4 h5 hpre h6 h7 h8
  rw[h6]
  refine o7 (by simp) rs w' h7 (fun r hr=>(h8 r hr).1) ?_
  intro w2 k1 k2 k3 k4 k5
  obtain⟨m1,m2,m3,m4⟩:=jy h3 h4 h5 hpre h8 k1 k2 k3 k4 k5
  obtain⟨u,hu1,Gb⟩:=hv w2 I' ρ' a'.tmps m1 m2
  simp only[LeavesInM,LeavesIn]
  exact⟨u,hu1,u,v,I',ρ',H',rfl,hq,m3,m1,Gb⟩
 -- behind the deferred call
 have late:∀(a1:Act) (w1:World) (I1:Nat->Prop) (ρ1:List Nat),cA w I ρ w1 I1 ρ1->ρ<+:ρ1->Inv P w1 I1 ρ1 H1->bu P w1 I1 ρ1 fn.ntmps T1 a1.tmps->∀ rs:List Nat,a1.defers=(rs.map fun r=>{target:= .collected r,args:= #[]})++[]->rs.Nodup->(∀ r∈rs,w1.heap[r]? =some (Obj.deferred (some []))∧¬ I1 r∧w.heap.size<=r)->
     (Code.seq (.region id #[om,od] false) c2).wpIn Fence.wide 0 P (bodyPostM Fence.wide 0 P fn fun e w'=>∃ u v I' ρ' H',e= .returned u∧Qr v H'∧Ext w I ρ w' I' ρ'∧Inv P w' I' ρ' H'∧aB P w' I' ρ' v u) a1 w1:=by
  intro a1 w1 I1 ρ1 xV Z3 hi1 Y0 rs Vt aaM Q4
  refine wpIn_seq (wpIn_region_lit ?_)
  refine wpListIn_plain hgm fun K hK=> ?_
  refine hom none w1 I1 ρ1 a1 hi1 Y0 K _ fun u w2 I2 ρ2 o3 hi2 hv=>hK _ _ ?_
  have oR:bu P w2 I2 ρ2 fn.ntmps ((dm,.func (.func g) [] caps)::T1) (a1.put om.dst u).tmps:=by
   have:=(Y0.ext o3).put (a:=a1) (dst:=om.dst) (by rw[hdm];exact hm) hv
   rw[hdm] at this ⊢
   exact this
  obtain⟨fi,ca,hu,hfi,hca⟩:=hv
  have aaW:fi.toList=[]:=hfi
  have aax:fi= #[]:=by apply Array.ext';simpa using aaW
  subst aax
  have hval:(a1.put om.dst u).eval (.tmp dm)=u:=by
   have hlt:dm<a1.tmps.size:=by
    have h3:dm<fn.ntmps:=by simpa[bg,Nat.blt,Zw] using hm
    rw[Y0.size];exact h3
   rw[hdm]
   simp[Act.put,Act.eval,hlt]
  refine wpListIn_plain hgd fun K hK=> ?_
  refine⟨fun _ _=>trivial,?_⟩
  obtain⟨D,hD⟩:∃ D:Deferred,D={target:= .fn (.func g) ca,args:= #[]}:=⟨_,rfl⟩
  have hrun:(Oper.semAt none (a1.put om.dst u).eval od).run P w2= .ok (.defer D) w2:=by
   rw[Oper.semAt_none,hD]
   rw[hu] at hval ⊢
   simp only[execOp,hod,Go.resolve,hval]
   simp[Deferred.ofValue]
  show od.uponIn Fence.wide 0 P (a1.put om.dst u) K _ ((Oper.semAt none (a1.put om.dst u).eval od).run P w2)
  rw[hrun,Oper.uponIn_defer,hdd]
  refine hK _ _ (wpListIn_nil ?_)
  have aaE:(a1.put om.dst u).defers=a1.defers:=by rw[hdm];rfl
  have hw2:=h2 ⟨w2.heap.size,ρ2,D::a1.defers⟩ w2 I2 ρ2 {(a1.put om.dst u) with defers:=D::(a1.put om.dst u).defers} hi2 oR ⟨Zf _,ON hi2.len,ZE _,[],by rw[aaE];rfl,Rk,fun _ h=>by cases h⟩
  have tail:∀(a':Act) (w3:World) (I3:Nat->Prop) (ρ3:List Nat) (T3:Tm) (H3:List ah) (y:Option PV) (md:FrameMode),ya P g caps H3 y (fun H'=>∃ v,en P fn.ntmps fn T3 H' v∧Qr v H')->NH w3 I3 y md->cA w2 I2 ρ2 w3 I3 ρ3->Inv P w3 I3 ρ3 H3->bu P w3 I3 ρ3 fn.ntmps T3 a'.tmps->Marks H1.length ⟨w2.heap.size,ρ2,D::a1.defers⟩ w3 I3 ρ3 a'.defers->
      LeavesInM Fence.wide 0 P fn a'.tmps (fun e w'=>∃ u v I' ρ' H',e= .returned u∧Qr v H'∧Ext w I ρ w' I' ρ'∧Inv P w' I' ρ' H'∧aB P w' I' ρ' v u) a'.defers md w3:=by
   rintro a' w3 I3 ρ3 T3 H3 y md FU hmd q4 q5 q6 ⟨hB,_,hpre,rs3,q7,q8,q9⟩
   have R3:md≠ .run:=by
    cases y with
    | none=>rw[show md= .returning from hmd];simp
    | some x=>obtain⟨v,e,_⟩:=hmd;rw[e];simp
   rw[q7]
   refine o7 R3 rs3 w3 q8 (fun r hr=>(q9 r hr).1) ?_
   intro w4 k1 k2 k3 k4 k5
   obtain⟨m1,m2,m3,m4⟩:=jy q4 q5 q6 hpre q9 k1 k2 k3 k4 k5
   have aaF:NH w4 I3 y md:=by
    cases y with
    | none=>exact hmd
    | some x=>obtain⟨v,e,hv⟩:=hmd;exact⟨v,e,Rel.mono (fun _ h=>h) m4 _ _ hv⟩
   have aah:ag P w4 I3 ρ3 caps ca.toList:=ag.ext m3 hca
   subst hD
   refine⟨R3,.inr ⟨(by intro h;cases h),_,_,g,ca.toList.toArray,rfl,?_,fun _ _=>trivial,?_⟩⟩
   ·show(Go.invoke (.fn (.func g) ca) #[]).run P w4=_
    simp only[Go.invoke,fP hg]
    simp
   ·refine CallsDIn.mono (FU w4 I3 ρ3 ca.toList md m1 aah aaF) ?_
    rintro e u' w5 ⟨rfl,jv,I5,ρ5,H5,hq5,hE5,hi5⟩
    show LeavesInM _ _ _ _ _ _ a1.defers (settle u') w5
    rw[jv]
    have Pc:Ext w1 I1 ρ1 w5 I5 ρ5:=(o3.trans m3).trans hE5
    exact early {tmps:=a'.tmps,defers:=a1.defers} w5 T3 H5 I5 ρ5 rs hq5 (xV.trans Pc.w) hi5 (m2.ext hE5) (Z3.trans Pc.pre) Vt aaM fun r hr=>⟨Pc.w.cI r (Q4 r hr).1,fun h=>(Q4 r hr).2.1 (Pc.w.ki r (Q4 r hr).1 h),(Q4 r hr).2.2⟩
  refine wpIn_mono hw2 ?_
  rintro e a' w3 ⟨z,I3,ρ3,T3,H3,q1,q2,q4,q5,q6,q7⟩
  cases z <;> cases e <;> first | exact q1.elim | exact q2.elim | skip
  ·exact tail a' w3 I3 ρ3 T3 H3 none .returning q2 rfl q4 q5 q6 q7
  ·exact tail a' w3 I3 ρ3 T3 H3 none .returning q2 rfl q4 q5 q6 q7
  ·obtain⟨x,rfl,q2⟩:=q2
   obtain⟨v,rfl,hv⟩:=q1
   exact tail a' w3 I3 ρ3 T3 H3 (some x) _ q2 ⟨v,rfl,hv⟩ q4 q5 q6 q7
 have out:∀(z:AX) (e:Exit) (a':Act) (w':World),z≠ .normal->QC H.length ⟨w.heap.size,ρ,[]⟩ P fn.ntmps (fun x T H=>x=z∧lP P fn.ntmps fn Qr x T H) w I ρ e a' w'->
     bodyPostM Fence.wide 0 P fn (fun e w'=>∃ u v I' ρ' H',e= .returned u∧Qr v H'∧Ext w I ρ w' I' ρ'∧Inv P w' I' ρ' H'∧aB P w' I' ρ' v u) e a' w':=by
  rintro z e a' w' hz ⟨x,I',ρ',T',H',q1,⟨rfl,q2,q3⟩,q4,q5,q6,hB,_,hpre,rs,q7,q8,q9⟩
  rcases q2 with rfl | rfl
  ·exact absurd rfl hz
  ·cases e <;> first | exact q1.elim | exact early a' w' T' H' I' ρ' rs q3 q4 q5 q6 hpre q7 q8 q9
 refine wpIn_seq (wpIn_mono (h01 ⟨w.heap.size,ρ,[]⟩ w I ρ {tmps:=us.toArray++Array.replicate (fn.ntmps - us.toArray.size) undef,defers:=[]} hi ht ⟨Zf _,ON hi.len,ZE _,[],rfl,Rk,fun _ h=>by cases h⟩) ?_)
 rintro e a' w' ⟨z,I',ρ',T',H',q1,q2,q4,q5,q6,q7⟩
 cases z with
 | normal=>
  cases e <;> first | exact q1.elim | skip
  refine wpIn_seq (wpIn_mono (q2 ⟨w.heap.size,ρ,[]⟩ w' I' ρ' a' q5 q6 q7) ?_)
  rintro e a1 w1 ⟨z,I1,ρ1,T1',H1',r1,r2,r4,r5,r6,r7⟩
  cases z with
  | normal=>
   cases e <;> first | exact r1.elim | skip
   refine wpIn_seq (wpIn_mono (r2 ⟨w.heap.size,ρ,[]⟩ w1 I1 ρ1 a1 r5 r6 r7) ?_)
   rintro e a2 w2 ⟨z,I2,ρ2,T2,H2,p1,p2,p4,p5,p6,p7⟩
   cases z with
   | normal=>
    cases e <;> first | exact p1.elim | skip
    obtain⟨p2,rfl⟩:=p2
    obtain⟨hB,_,hpre,rs,p8,p9,p10⟩:=p7
    exact late a2 w2 I2 ρ2 ((q4.trans r4).trans p4) hpre p5 (p6.sub p2) rs p8 p9 p10
   | ret=>
    have:=out .ret e a2 w2 (by simp) ⟨.ret,I2,ρ2,T2,H2,p1,⟨rfl,p2⟩,(q4.trans r4).trans p4,p5,p6,p7⟩
    cases e <;> first | exact p1.elim | exact this
   | exit i=>exact absurd p2.1 (by rintro(h | h) <;> cases h)
   | panic v=>exact absurd p2.1 (by rintro(h | h) <;> cases h)
  | ret=>
   have:=out .ret e a1 w1 (by simp) ⟨.ret,I1,ρ1,T1',H1',r1,⟨rfl,r2⟩,q4.trans r4,r5,r6,r7⟩
   cases e <;> first | exact r1.elim | exact this
  | exit i=>exact absurd r2.1 (by rintro(h | h) <;> cases h)
  | panic v=>exact absurd r2.1 (by rintro(h | h) <;> cases h)
 | ret=>
  have:=out .ret e a' w' (by simp) ⟨.ret,I',ρ',T',H',q1,⟨rfl,q2⟩,q4,q5,q6,q7⟩
  cases e <;> first | exact q1.elim | exact this
 | exit i=>exact absurd q2.1 (by rintro(h | h) <;> cases h)
 | panic v=>exact absurd q2.1 (by rintro(h | h) <;> cases h)
end
theorem Q5{ks:List Nat}{xs:List ah}{H:List ah}{j i:Nat}{x:ah}(hn:ks.Nodup)(hl:xs.length=ks.length)(hk:ks[j]? =some i)(hx:xs[j]? =some x)(hi:i<H.length):(kB H ks xs)[i]? =some x:=by
 have h1:i<(kB H ks xs).length:=by rw[cO];exact hi
 have h2:=Zc h1
 rcases ld ks xs H i _ hn hl h2 with⟨j',k1,k2⟩ | ⟨k1,_⟩
 ·have e:j=j':=(Yi (Za.1 hk).1 hn).1 (hk.trans k1.symm)
  subst e
  rw[h2,<- k2,hx]
 ·exact absurd (Zg hk) k1
theorem Nh{ks:List Nat}{xs:List ah}{H:List ah}{i:Nat}(hn:ks.Nodup)(hl:xs.length=ks.length)(hi:i<H.length)(hk:i∉ks):(kB H ks xs)[i]? =H[i]? :=by
 have h1:i<(kB H ks xs).length:=by rw[cO];exact hi
 have h2:=Zc h1
 rcases ld ks xs H i _ hn hl h2 with⟨j',k1,_⟩ | ⟨_,k2⟩
 ·exact absurd (Zg k1) hk
 ·rw[h2,k2]
section
variable {H H0:List ah} {ks:List Nat}
theorem fy{j i:Nat}{x:ah}(hn:ks.Nodup)(hl:ks.length<=H0.length)(hk:ks[j]? =some i)(hi:i<H.length)(hx:H0[j]? =some x):(bp H ks H0)[i]? =some (aE (dS H ks) x):=by
 unfold bp
 rw[Zd (by rw[cO];exact hi)]
 refine Q5 hn (by rw[Zp,ZU];omega) hk ?_ hi
 rw[Zu,SW (Za.1 hk).1,hx]
 rfl
theorem dL{i:Nat}(hn:ks.Nodup)(hl:ks.length<=H0.length)(hi:i<H.length)(hk:i∉ks):(bp H ks H0)[i]? =H[i]? :=by
 unfold bp
 rw[Zd (by rw[cO];exact hi)]
 exact Nh hn (by rw[Zp,ZU];omega) hi hk
theorem Ku{j:Nat}{x:ah}(hx:H0[ks.length+j]? =some x):(bp H ks H0)[H.length+j]? =some (aE (dS H ks) x):=by
 unfold bp
 rw[Zj (by rw[cO];omega),cO,ZJ,Zu,St,hx]
 rfl
theorem tc(hl:ks.length<=H0.length):(bp H ks H0).length=H.length+(H0.length - ks.length):=by
 unfold bp
 rw[Zb,cO,Zp,KP]
def mI(H:List ah)(ks:List Nat)(j:Nat):Nat:=match ks[j]? with
 | some i=>i
 | none=>H.length+(j - ks.length)
theorem qR{j:Nat}{x:ah}(hn:ks.Nodup)(hl:ks.length<=H0.length)(hlt:∀ i∈ks,i<H.length)(hx:H0[j]? =some x):(bp H ks H0)[mI H ks j]? =some (aE (dS H ks) x):=by
 unfold mI
 cases hk:ks[j]? with
 | some i=>exact fy hn hl hk (hlt i (Zg hk)) hx
 | none=>
  have hj:ks.length<=j:=by simpa using hk
  obtain⟨m,rfl⟩:∃ m,j=ks.length+m:=⟨j - ks.length,by omega⟩
  rw[ZJ]
  exact Ku hx
theorem jm{j:Nat}{x:ah}(hK:fL H ks H0)(hx:H0[j]? =some x)(hl:x.live=true):dS H ks j=some (mI H ks j):=by
 unfold dS mI
 cases hk:ks[j]? with
 | some i=>
  show(if (H.getD i .dead).live=true then some i else none)=some i
  cases hlv:(H.getD i .dead).live with
  | true=>rw[if_pos rfl]
  | false=>rw[hK.2 j i x hk hlv hx] at hl;cases hl
 | none=>rfl
theorem O6{i j:Nat}(hn:ks.Nodup)(hlt:∀ i∈ks,i<H.length)(h:mI H ks i=mI H ks j):i=j:=by
 unfold mI at h
 cases hi:ks[i]? with
 | some a=>
  have ha:=hlt a (Zg hi)
  cases hj:ks[j]? with
  | some b=>
   rw[hi,hj] at h
   have h:a=b:=h
   subst h
   exact(Yi (Za.1 hi).1 hn).1 (hi.trans hj.symm)
  | none=>rw[hi,hj] at h;have h:a=H.length+(j - ks.length):=h;omega
 | none=>
  have h1:ks.length<=i:=by simpa using hi
  cases hj:ks[j]? with
  | some b=>rw[hi,hj] at h;have h:H.length+(i - ks.length)=b:=h;have:=hlt b (Zg hj);omega
  | none=>
   have h2:ks.length<=j:=by simpa using hj
   rw[hi,hj] at h
   have h:H.length+(i - ks.length)=H.length+(j - ks.length):=h
   omega
theorem nI{j n:Nat}{cs:List V}{e:TypeId}(hK:fL H ks H0)(hx:H0[j]? =some (dU cs e n)):bf (dS H ks) (aZ j n)=aZ (mI H ks j) n:=by
 cases n with
 | zero=>rfl
 | succ n=>exact cJ (jm hK hx rfl)
theorem sY{l:List Nat}(hn:ks.Nodup)(hlt:∀ i∈ks,i<H.length)(h:l.Nodup):(l.map (mI H ks)).Nodup:=by
 induction l with
 | nil=>exact Rk
 | cons x l ih=>
  rw[ZC] at h
  rw[Zz,ZC]
  refine⟨fun hm=> ?_,ih h.2⟩
  obtain⟨y,h1,h2⟩:=uE.1 hm
  rw[O6 hn hlt h2] at h1
  exact h.1 h1
end
theorem Rel.BF{w:World}{I:Nat->Prop}{u:Value}(h:Rel w I .nilSlice u):Rel w I (.is [] 0) u:= .inl ⟨⟨none,0,h⟩,rfl⟩
theorem ax.SV{P:Program}{f:FuncId}{args args2:List V}{H:List ah}{Q:V->List ah->Prop}(h:ax P f args H Q)(hs:∀ w I ρ us,ag P w I ρ args2 us->ag P w I ρ args us):ax P f args2 H Q:=fun w I ρ us hi hu=>h w I ρ us hi (hs w I ρ us hu)
theorem Pure.R4{P:Program}{f:FuncId}{a r:PV}(h:Pure P f [a,.is [] 0,.is [] 0] r):Pure P f [a,.nilSlice,.nilSlice] r:=
 ax.SV h fun w I ρ us hu=>by
  obtain⟨u1,s1,rfl,h1,u2,s2,rfl,h2,u3,s3,rfl,h3,h4⟩:=hu
  exact⟨u1,_,rfl,h1,u2,_,rfl,Rel.BF h2,u3,_,rfl,Rel.BF h3,h4⟩
def SZ(P:Program)(N:Nat)(o:Oper)(T:Tm)(H:List ah)(v:V)(G:List ah->Prop):Prop:=
 ∀ R w I ρ a,Inv P w I ρ H->bu P w I ρ N T a.tmps->∀(K:Act->World->Prop) (QX:Exit->Act->World->Prop),
  (∀ u w' I' ρ' H2,G H2->Ext w I ρ w' I' ρ'->Inv P w' I' ρ' H2->aB P w' I' ρ' v u->K (a.put o.dst u) w')->o.wpIn (Fr R) 0 P a w K QX
def WE(P:Program)(G:List ah->Prop)(H:List ah)(b:Bool)(w:World)(I:Nat->Prop)(ρ:List Nat):Prop:=∃ H2,(bif b then G H2 else H2=H)∧Inv P w I ρ H2
def UK(P:Program)(N:Nat)(ops:Array Oper)(o:Oper)(T:Tm)(H:List ah)(v:V)(G:List ah->Prop):Prop:=
 (o.guard=none∧SZ P N o (bI ops o T) H v G)∨∃ j want s x T2,o.guard=some (j,want)∧pg ops j=some s∧bg N (some s)=true∧lk (bI ops o T) s=some x∧rQ want x=some true∧sH T2 (bI ops o T)∧SZ P N o T2 H v G
def ay(P:Program)(N:Nat)(ops:Array Oper)(H:List ah)(G:List ah->Prop)(K:Tm->Prop):Bool->List Oper->Tm->Prop
 | b,[],T=>b=true∧K T
 | b,o::rest,T=>∃ v,bg N o.dst=true∧(((∀ H0,(H0=H∨G H0)->YJ P N ops o T H0 v)∧ay P N ops H G K b rest (fN T o.dst v))∨(b=false∧UK P N ops o T H v G∧ay P N ops H G K true rest (fN T o.dst v)))
section
variable {P:Program} {R:Option Nat} {N κ:Nat} {Q:Post} {T:Tm} {H:List ah} {G:List ah->Prop} {o:Oper} {ops:Array Oper} {K:Tm->Prop} {rest:List Oper} {b:Bool}
theorem SZ.eY{f:Operand}{xs:Array Operand}{ts:Array TypeId}{fv:V}{vs all:List V}{g:FuncId}{v:V}{Qr:V->List ah->Prop}(hp:av P g all H Qr (fun _ _=>False))(hv:∀ x H2,Qr x H2->x=v∧G H2)(ho:o.op= .call {callee:= .value f,args:=xs,argTypes:=ts})(hf:ev T f=some fv)
    (hxs:jT T xs.toList=some vs)(hc:callee vs fv=some (g,all))(hg:ak P g=true):SZ P N o T H v G:=by
 intro R w I ρ a hi ht K QX hK
 refine⟨bD,?_⟩
 rw[bG _ _ _ (by simp[ho])]
 obtain⟨us,h1,h2⟩:=dP ho ht hf hxs hc hg
 rw[h2]
 refine⟨(fun h=>by cases h),?_⟩
 refine CallsIn.mono (cz R (hp w I ρ us hi h1)) ?_
 rintro e w' (⟨u,v',J,σ,H2,rfl,hQ,h3,h4,h5⟩ | ⟨u,y,J,σ,H2,rfl,hQ,_⟩)
 ·obtain⟨rfl,hG⟩:=hv _ _ hQ
  exact hK u w' J σ H2 hG h3 h4 h5
 ·exact hQ.elim
theorem ay.nil(h:K T):ay P N ops H G K true [] T:=⟨rfl,h⟩
theorem ay.cons(d:Nat){v:V}(hd:o.dst=some d)(hdN:bg N (some d)=true)(hg:o.guard=none)(hop:∀ H0,(H0=H∨G H0)->aa P N o (bI ops o T) H0 v H0)(next:ay P N ops H G K b rest ((d,v)::T)):ay P N ops H G K b (o::rest) T:=
 ⟨v,by rw[hd];exact hdN,.inl ⟨fun H0 h0=> .inl ⟨hg,hop H0 h0⟩,by rw[hd];exact next⟩⟩
theorem ay.lay(d:Nat){v:V}(hd:o.dst=some d)(hdN:bg N (some d)=true)(hg:o.guard=none)(hop:SZ P N o (bI ops o T) H v G)(next:ay P N ops H G K true rest ((d,v)::T)):ay P N ops H G K false (o::rest) T:=
 ⟨v,by rw[hd];exact hdN,.inr ⟨rfl,.inl ⟨hg,hop⟩,by rw[hd];exact next⟩⟩
section
variable {m:Nat} {l:List Oper} {vs:Nat->V}
theorem ay.vals{ops:Array Oper}:∀{b:Bool} {l':List Oper} {T:Tm},ay P N ops H G K b l' T->∃(vs:Nat->V) (Tx:Nat->Tm) (q:Nat),Tx 0=T∧(b=false->q<l'.length)∧(b=true->q=l'.length)∧(∀ i o,l'[i]? =some o->bg N o.dst=true∧((i≠q∧∀ H0,(H0=H∨G H0)->YJ P N ops o (Tx i) H0 (vs i))∨(i=q∧UK P N ops o (Tx i) H (vs i) G))∧Tx (i+1)=fN (Tx i) o.dst (vs i))∧K (Tx l'.length)
 | b,[],T,h=>⟨fun _=> .top,fun _=>T,0,rfl,(fun hb=>by have:=h.1;rw[hb] at this;cases this),fun _=>rfl,fun i o ho=>by simp at ho,h.2⟩
 | b,o::l',T,h=>by
  obtain⟨v,hd,h⟩:=h
  rcases h with⟨hy,hn⟩ | ⟨hb,hop,hn⟩
  ·obtain⟨vs,Tx,q,h0,FV,OL,h1,h2⟩:=ay.vals hn
   refine⟨fun i=>match i with | 0=>v | i+1=>vs i,fun i=>match i with | 0=>T | i+1=>Tx i,q+1,rfl,fun hb=>by have:=FV hb;simp;omega,fun hb=>by have:=OL hb;simp;omega,fun i x hx=> ?_,h2⟩
   cases i with
   | zero=>simp at hx;subst hx;exact⟨hd,.inl ⟨by omega,hy⟩,h0⟩
   | succ i=>
    exact vD
  ·obtain⟨vs,Tx,q,h0,FV,OL,h1,h2⟩:=ay.vals hn
   refine⟨fun i=>match i with | 0=>v | i+1=>vs i,fun i=>match i with | 0=>T | i+1=>Tx i,0,rfl,fun _=>by simp,(fun hb'=>by rw[hb] at hb';cases hb'),fun i x hx=> ?_,h2⟩
   cases i with
   | zero=>simp at hx;subst hx;exact⟨hd,.inr ⟨rfl,hop⟩,h0⟩
   | succ i=>
    exact CZ
def SIE(κ:Nat)(P:Program)(N:Nat)(H:List ah)(G:List ah->Prop)(q:Nat)(l:List Oper)(T:Tm)(vs:Nat->V)(B:mC)(w0:World)(I0:Nat->Prop)(ρ0:List Nat)(f:Nat->Bool)(a:Act)(w:World):Prop:=
 ∃ I ρ,cA w0 I0 ρ0 w I ρ∧WE P G H (f q) w I ρ∧a.tmps.size=N∧(∀ s v,tl l T vs f s=some v->aB P w I ρ v (a.tmps.getD s undef))∧Marks κ B w I ρ a.defers
theorem GI(hk:fB m l)(hm:m<=l.length){q:Nat}(hq:q<m){B:mC}{w0:World}{I0:Nat->Prop}{ρ0:List Nat}{QX:Exit->Act->World->Prop}{Tx:Nat->Tm}(h0:Tx 0=T)
    (h1:∀ i o,i<m->l[i]? =some o->bg N o.dst=true∧((i≠q∧∀ H0,(H0=H∨G H0)->YJ P N l.toArray o (Tx i) H0 (vs i))∨(i=q∧UK P N l.toArray o (Tx i) H (vs i) G))∧Tx (i+1)=fN (Tx i) o.dst (vs i))
    (hK:∀ H2,G H2->∀ a w I ρ,cA w0 I0 ρ0 w I ρ->Inv P w I ρ H2->bu P w I ρ N (Tx m) a.tmps->Marks κ B w I ρ a.defers->wpListIn (Fr R) 0 P l.toArray QX (l.drop m) a w):
    ∀(fuel:Nat) (listed:Array Bool) (a:Act) (w:World),listed.toList.count false=fuel->listed.size=l.length->(∀ i o,l[i]? =some o->fl listed i=true->∀ e∈o.after,Region.binds .any e=true->fl listed e.on=true)->(∀ i,m<=i->fl listed i=false)->
    SIE κ P N H G q l T vs B w0 I0 ρ0 (fl listed) a w->wpAnyIn (Fr R) 0 P .any l.toArray QX fuel listed a w:=by
 intro fuel
 have hlk:=xj (vs:=vs) hk hm h0 (fun i o hi ho=>(h1 i o hi ho).2.2)
 have done:∀(fuel:Nat) (listed:Array Bool) (a:Act) (w:World),listed.toList.count false=fuel->listed.size=l.length->(∀ i,m<=i->fl listed i=false)->(∀ i,i<m->fl listed i=true)->SIE κ P N H G q l T vs B w0 I0 ρ0 (fl listed) a w->wpAnyIn (Fr R) 0 P .any l.toArray QX fuel listed a w:=by
  intro fuel listed a w mV hsz xW hall hsi
  obtain⟨I,ρ,he,hi,hs,cE,hmk⟩:=hsi
  rw[hall q hq] at hi
  obtain⟨H2,hG,hi⟩:=hi
  have hG:G H2:=hG
  have hfl:∀ i,fl listed i=decide (i<m):=fun i=>by
   by_cases h:i<m
   ·rw[hall i h];simp[h]
   ·rw[xW i (by omega)];simp[h]
  have FC:fuel+m=l.length:=by
   exact D4
  refine sC hk fuel m listed a w FC (Zf _) hsz (fun i _=>hfl i) (hK H2 hG a w I ρ he hi ⟨hs,fun s v hv=>cE s v ?_⟩ hmk)
  rw[<- hv,hlk m (Zf _)]
  exact gU hk fun j o hj hd=>hfl j
 induction fuel with
 | zero=>
  exact nW
 | succ fuel ih=>
  intro listed a w mV hsz hcl xW hsi
  by_cases hall:∀ i,i<m->fl listed i=true
  ·exact nY
  ·obtain⟨i0,nA,hmin⟩:∃ i0,(i0<m∧fl listed i0=false)∧∀ j,j<i0->fl listed j=true:=by
     exact mU
   have KQ:l[i0]? =some (l[i0]'(by omega)):=Zc _
   have zW:i0∈Region.ready .any l.toArray listed:=by
    exact nc
   refine⟨(fun h=>by rw[h] at zW;cases zW),fun i hi=> ?_⟩
   obtain⟨h3,o,ho',Wd⟩:=mem_ready.1 hi
   have ho:l[i]? =some o:=by simpa using ho'
   have hilt:=cC ho
   have wO:∀ j oj,l[j]? =some oj->(decide (j=i)||fl listed j)=true->∀ e∈oj.after,Region.binds .any e=true->(decide (e.on=i)||fl listed e.on)=true:=fun j oj hj uI e he hb=>by
    exact kO
   have pY:i<m:=by
    exact mX
   have tY:fl listed i=false:=by
    exact kG
   obtain⟨sA,hy,_⟩:=h1 i o pY ho
   obtain⟨I,ρ,he,hinv,hs,cE,hmk⟩:=hsi
   have mB:∀ s v,lk (bI l.toArray o (Tx i)) s=some v->aB P w I ρ v (a.tmps.getD s undef):=by
    exact mT
   have AW:bu P w I ρ N (bI l.toArray o (Tx i)) a.tmps:=⟨hs,mB⟩
   have next:∀ u w' I' ρ',Ext w I ρ w' I' ρ'->WE P G H (fl (listed.setIfInBounds i true) q) w' I' ρ'->aB P w' I' ρ' (vs i) u->wpAnyIn (Fr R) 0 P .any l.toArray QX fuel (listed.setIfInBounds i true) (a.put o.dst u) w':=by
    exact nH
   have step:∀(H0:List ah),Inv P w I ρ H0->(∀ u w' I' ρ',Ext w I ρ w' I' ρ'->Inv P w' I' ρ' H0->aB P w' I' ρ' (vs i) u->wpAnyIn (Fr R) 0 P .any l.toArray QX fuel (listed.setIfInBounds i true) (a.put o.dst u) w')->YJ P N l.toArray o (Tx i) H0 (vs i)->
       wpOpIn (Fr R) 0 P l.toArray QX i (wpAnyIn (Fr R) 0 P .any l.toArray QX fuel (listed.setIfInBounds i true)) a w:=by
    intro H0 hinv next hy
    unfold wpOpIn
    simp only[ho']
    rcases hy with⟨hg,hop⟩ | ⟨j,want,s,c,x,v',hg,o4,DW,hb,hc,hv,hop⟩
    ·exact lg
    ·exact nT
   rcases hy with⟨FR,hy⟩ | ⟨FR,hop⟩
   ·have e:fl (listed.setIfInBounds i true) q=fl listed q:=by
      rw[gP (by omega)]
      simp[Ne.symm FR]
    rw[e] at next
    obtain⟨H0,hG,hinv⟩:=hinv
    refine step H0 hinv (fun u w' I' ρ' g1 g2 g3=>next u w' I' ρ' g1 ⟨H0,hG,g2⟩ g3) (hy H0 ?_)
    cases hfq:fl listed q with
    | true=>rw[hfq] at hG;exact .inr hG
    | false=>rw[hfq] at hG;exact .inl hG
   ·subst FR
    rw[tY] at hinv
    obtain⟨H0,rfl,hinv⟩:=hinv
    rw[show fl (listed.setIfInBounds i true) i=true by rw[gP (by omega)];simp] at next
    unfold wpOpIn
    simp only[ho']
    rcases hop with⟨hg,hop⟩ | ⟨j,want,s,x,T2,hg,o4,DW,hb,hc,h2,hop⟩
    ·simp only[Region.wanted,hg,if_true]
     exact hop R w I ρ a hinv AW _ _ fun u w' I' ρ' H2 g0 g1 g2 g3=>next u w' I' ρ' g1 ⟨H2,g0,g2⟩ g3
    ·have vI:=lF o4 AW DW hb hc
     simp only[Region.wanted,hg,vI,if_true]
     exact hop R w I ρ a hinv (AW.sH h2) _ _ fun u w' I' ρ' H2 g0 g1 g2 g3=>next u w' I' ρ' g1 ⟨H2,g0,g2⟩ g3
theorem aF.mR{id:Nat}(m:Nat)(G:List ah->Prop)(FK:P.follows .mixedOrders=true)(hk:kr m l=true)(hm:m<=l.length)(h:ay P N l.toArray H G (fun T'=>∀ H2,G H2->aj P R N κ l.toArray (l.drop m) Q T' H2) false (l.take m) T):aF P R N κ (.region id l.toArray true) Q T H:=by
 intro B w I ρ a hi ht hmk
 obtain⟨vs,Tx,q,h0,FV,_,h1,h2⟩:=ay.vals h
 have hq:q<m:=by have:=FV rfl;simp at this;omega
 have hlen:(l.take m).length=m:=by simp;omega
 rw[hlen] at h2
 refine wpIn_region_any FK ?_
 have hi':Inv P w.drew I ρ H:=hi.drew
 refine GI (κ:=κ) (G:=G) (fB.of hk) hm hq (B:=B) (w0:=w) (I0:=I) (ρ0:=ρ) h0 (fun i o pY ho=>h1 i o (by rw[ZV,if_pos pY];exact ho)) ?_ _ _ a w.drew (by simp) (by simp) ?_ ?_ ?_
 ·intro H2 hG a' w' I' ρ' he hi2 oR hm2
  exact h2 H2 hG _ B w' I' ρ' a' hi2 oR hm2 fun e a2 w2 q=>QC.ext he q
 ·exact kK
 ·exact lu
 ·have e0:fl (Array.replicate l.length false) q=false:=by
    exact vB
  refine⟨I,ρ,Ext.drew.w,⟨H,(show(bif fl (Array.replicate l.length false) q then G H else H=H) from by rw[e0];rfl),hi'⟩,ht.size,fun s v hv=> ?_,hmk.ext Ext.drew⟩
  exact rK
end
end
def Sv(P:Program)(k0 i:Nat)(cell:Nat->ah)(f:FuncId)(mk:V->List V)(xs:List (List V)):Prop:=
 ∀(l κ n:Nat) (inv:Nat->List ah->Prop) (fin:List ah->Prop),k0<=κ->κ<=n->(∀ k h,inv k h->h.length=n∧h[i]? =some (cell k))->(∀ h,fin h->h.length=n)->
  (∀ k h x,inv k h->xs[k]? =some x->tA P l κ (h.set i (cell (k+1))) x fun b h'=>if b=true then inv (k+1) h' else fin h')->
  ∀ h0,inv 0 h0->jY P κ f (mk (kA l)) h0 fun _ h'=>inv xs.length h'∨fin h'
section
variable {P:Program} {R:Option Nat} {N κ:Nat} {Q Q':Post} {T T' T2 T3:Tm} {H H' H2 H3:List ah} {o:Oper} {ops:Array Oper} {rest:List Oper}
theorem aF.Gc{g:Operand}{ps:Array Tmp}{fC body:Code}{fv:V}{f:FuncId}{mk:V->List V}{xs:List (List V)}(k0 κ2 i:Nat)(cell:Nat->ah)(hg:ev T g=some fv)(hc:∀ y,callee [y] fv=some (f,mk y))(hf:ak P f=true)(Fl:Sv P k0 i cell f mk xs)
    (hk0:k0<=κ2)(hκ:κ<=κ2)(hκn:κ2<=H.length)(hR:∀ l0,R=some l0->∃(i0:Nat) (r0:vH) (st:LoopState) (pe:Option Code),r0.l=l0∧H[i0]? =some (.loop r0 st pe))(hps:∀ x∈xs,x.length=ps.size)(hlt:ps.toList.all (fun p=>Nat.blt p N)=true)
    (J:Nat->List ah->Prop)(Jx:Code->List ah->Prop)(hJ:∀ k h,J k h->h.length=H.length∧h[i]? =some (cell k))(NI:∀ c h,Jx c h->h.length=H.length)(h0:J 0 H)
    (round:∀ l tmps k h x,J k h->xs[k]? =some x->Round P N κ2 ⟨l,tmps,T,ps,fC,body⟩ k H.length J Jx (mM T ps.toList x) (h.set i (cell (k+1))++[.loop ⟨l,tmps,T,ps,fC,body⟩ .ready none]))
    (done:∀ h,J xs.length h->Q .normal T (h++[.dead]))(stop:∀ c h,Jx c h->aF P R N κ c Q T (h++[.dead])):aF P R N κ (.rangeFunc g ps fC body) Q T H:=by
 intro B w I ρ a hi ht hm
 refine wpIn_rangeFunc ?_
 intro fn _
 -- the record
 have entry:∃(l:Nat) (mark:List Deferred) (w1:World),(Instr.enterLoop fn a.tmps ps fC body R).run P w= .ok (l,mark) w1∧Ext w I ρ w1 I (ρ++[l])∧
     Inv P w1 I (ρ++[l]) (H++[.loop ⟨l,a.tmps,T,ps,fC,body⟩ .ready none])∧Marks κ B w1 I (ρ++[l]) (mark++a.defers):=by
  cases R with
  | none=>
   have hi1:=Inv.dW hi (.deferred (some []))
   have W8:=Ext.dW hi (.deferred (some []))
   let ob:Obj:= .loop {state:= .ready,pending:=none,fn,tmps:=a.tmps,params:=ps,assign:=fC,body,defers:=w.heap.size}
   have J7:Ext (w.alloc (.deferred (some []))) I ρ _ I _:=Ext.aQ hi1 ob
   have hE:=W8.trans J7
   have hsz:(w.alloc (.deferred (some []))).heap.size=w.heap.size+1:=by simp
   rw[hsz] at hE
   refine⟨w.heap.size+1,_,_,run_enterLoop_outer fn a.tmps ps fC body,hE,?_,?_⟩
   ·have hx:cY P ((w.alloc (.deferred (some []))).alloc ob) I (ρ++[w.heap.size+1]) (.loop ⟨w.heap.size+1,a.tmps,T,ps,fC,body⟩ .ready none) (w.heap.size+1):=by
      exact vY
    have:=Inv.aQ hi1 ob (blk:= .loop ⟨w.heap.size+1,a.tmps,T,ps,fC,body⟩ .ready none) (by rw[hsz];exact hx)
    rwa [hsz] at this
   ·exact wP
  | some l0=>
   obtain⟨i0,r0,st,pe,hl0,hH0⟩:=hR l0 rfl
   exact EO
 obtain⟨l,mark,w1,YU,hE,hi1,GA⟩:=entry
 obtain⟨d,us,fX,hres,hinv⟩:=kD (ht.ext hE) hg (hc (kA l)) hf
 refine⟨l,mark,w1,d,w1,f,us.toArray,w1,YU,hres,(fun _ _=>trivial),hinv,(fun h=>by cases h),?_⟩
 have A9:∀ k h,(∃ h0,J k h0∧h=h0++[ah.loop ⟨l,a.tmps,T,ps,fC,body⟩ .ready none])->h.length=H.length+1∧h[i]? =some (cell k):=by
  rintro k h ⟨h0,h1,rfl⟩
  have h2:=(hJ k h0 h1).2
  exact⟨by simp[(hJ k h0 h1).1],by rw[Zd (Za.1 h2).1];exact h2⟩
 have CY:=Fl l κ2 (H.length+1) (fun k h=>∃ h0,J k h0∧h=h0++[ah.loop ⟨l,a.tmps,T,ps,fC,body⟩ .ready none]) (fun h=>∃ h0 c,Jx c h0∧h=h0++[ah.loop ⟨l,a.tmps,T,ps,fC,body⟩ .done (some c)])
  hk0 (by omega) A9 (by rintro h ⟨h0,c,h1,rfl⟩;simp[NI c h0 h1]) (by
   rintro k h x ⟨h0,h1,rfl⟩ hx
   have hlt2:=(Za.1 (hJ k h0 h1).2).1
   have:=Round.ok (r:=⟨l,a.tmps,T,ps,fC,body⟩) (h:=h0.set i (cell (k+1))) (by rw[ZZ];exact(hJ k h0 h1).1) (fun h e=>(hJ (k+1) h e).1) NI (hps x (Zg hx)) (fun p hp=>by
    have:=(Zx.1 hlt) p hp
    simpa[Nat.blt,Zw] using this) ht.size (round l a.tmps k h0 x h1 hx)
   rw[List.set_append_left _ _ hlt2]
   exact this) _ ⟨H,h0,rfl⟩ B.pre w1 I (ρ++[l]) us hi1 fX (GA.2.2.1) (ZW GA.2.1 hκ)
 refine CallsIn.mono (cz R CY) ?_
 rintro e w3 ⟨u,v,I3,ρ3,H3,rfl,Gk,h1,h2,h3,h4⟩
 have IJ:∀(h':List ah) (st:LoopState) (pe:Option Code),h'.length=H.length->st≠ .busy->H3=h'++[.loop ⟨l,a.tmps,T,ps,fC,body⟩ st pe]->
     ∃ w4,(Instr.endLoop l).run P w3= .ok pe w4∧cA w I ρ w4 I3 ρ3∧Inv P w4 I3 ρ3 (h'++[.dead])∧bu P w4 I3 ρ3 N T a.tmps∧Marks κ B w4 I3 ρ3 (mark++a.defers):=by
  rintro h' st pe hl' hst rfl
  have eD:(h'++[ah.loop ⟨l,a.tmps,T,ps,fC,body⟩ st pe])[H.length]? =some (.loop ⟨l,a.tmps,T,ps,fC,body⟩ st pe):=by rw[<- hl'];simp
  obtain⟨_,⟨fn3,d3,OQ⟩,YR⟩:=j3 h2 eD
  obtain⟨Rh,yc⟩:=oo (st':= .exhausted) (Tn:=pe) h2 eD OQ _ rfl
  refine⟨_,run_endLoop OQ hst,(hE.w.trans h1).trans Rh.w,?_,⟨ht.size,fun s v hv=>(YR s v hv).ext Rh⟩,(GA.Ka h1 h4).ext Rh⟩
  have:=yc.kill H.length
  rw[<- hl',jx,jx] at this
  exact this
 rcases Gk with⟨h',hj,rfl⟩ | ⟨h',c,hj,rfl⟩
 ·obtain⟨w4,e1,e2,e3,e4,e5⟩:=IJ h' .ready none (hJ _ _ hj).1 (by simp) rfl
  exact⟨none,w4,e1,.normal,I3,ρ3,T,_,trivial,done h' hj,e2,e3,e4,e5⟩
 ·exact Bl
theorem aj.Vo(k d:Nat){l:Nat}{f:Operand}{xs:Array Operand}{ts:Array TypeId}{vs:List V}{Qb:Bool->List ah->Prop}(hk:k<=κ)(hκ:κ<=H.length)(ho:o.op= .call {callee:= .value f,args:=xs,argTypes:=ts})(hd:o.dst=some d)(hN:bg N (some d)=true)
    (hg:o.guard=none)(hf:ev T f=some (kA l))(hxs:jT T xs.toList=some vs)(hb:tA P l κ H vs Qb)
    (next:∀ b h',Qb b h'->aj P R N κ ops rest Q ((d,.p (.bool b))::Ee k T) h'):aj P R N κ ops (o::rest) Q T H:=by
 intro QX B w I ρ a hi ht hm hq
 refine wpListIn_plain hg fun K hK=>⟨bD,?_⟩
 rw[bG _ _ _ (by simp[ho])]
 have h1:=ht.ev hf
 have h2:=ht.jT hxs
 obtain⟨us,vs',hu,h3,h4⟩:=h1
 simp only[aW] at h3 h4
 have fX:us= #[]:=by simpa using h3
 have Vm:vs'= #[]:=by simpa using h4
 subst fX Vm
 obtain⟨fn,tmps,fC,body,hy,hr⟩:=hb (ρ.take κ) w I ρ _ hi h2 (List.take_prefix _ _) (by rw[ZU];omega)
 have e:(execOp a.eval o).run P w= .ok (.round l fn tmps fC body) w:=by
  exact E9
 rw[e]
 refine⟨(fun h=>by cases h),RoundIn.mono (xo _ hr) ?_⟩
 rintro e w' ⟨b,I',ρ',h',rfl,h5,h6,h7,h8⟩
 have h9:ρ.take k<+:ρ':=(List.take_prefix_take_left hk).trans h8
 have h10:B.pre<+:ρ':=by
  refine List.IsPrefix.trans ?_ h8
  obtain⟨t,ht⟩:=hm.2.2.1
  rw[<- ht,List.take_append,OI hm.2.1]
  exact We _ _
 have hto:=ht.Ee h6 h9
 have hput:bu P w' I' ρ' N (fN (Ee k T) o.dst (.p (.bool b))) (a.put o.dst (.bool b)).tmps:=bu.put (by rw[hd];exact hN) hto (by simp[aB,Rel])
 rw[hd] at hput
 refine hK _ _ ?_
 rw[hd]
 exact next b h' h5 QX B w' I' ρ' _ h7 hput (hm.Ka h6 h10).put fun e a2 w2 q=>hq e a2 w2 (QC.ext h6 q)
end
class aL {α:Type} (x:α) (y:outParam α):Prop where
 h:x=y
theorem an{α:Type}{x y:α}[h:aL x y]:x=y:=h.h
section
variable {P:Program} {R:Option Nat} {N κ:Nat} {Q:Post} {T:Tm} {H H':List ah} {o:Oper} {ops:Array Oper} {K:Tm->Prop} {rest:List Oper}
theorem Kc{d:Nat}{v:V}(hop:aa P N o T H v H')(next:aj P R N κ ops rest Q ((d,v)::T) H')(hd:o.dst=some d:=by rfl)(hN:bg N (some d)=true:=by rfl)(hg:o.guard=none:=by rfl):aj P R N κ ops (o::rest) Q T H:=aj.c d hd hN hg hop next
theorem Kz{v:V}(hop:aa P N o T H v H')(next:aj P R N κ ops rest Q T H')(hd:o.dst=none:=by rfl)(hg:o.guard=none:=by rfl):aj P R N κ ops (o::rest) Q T H:=aj.c0 hd hg hop next
theorem Kq{d:Nat}{v:V}(hop:aa P N o (bI ops o T) H v H)(next:aA P N ops H K rest ((d,v)::T))(hd:o.dst=some d:=by rfl)(hN:bg N (some d)=true:=by rfl)(hg:o.guard=none:=by rfl):aA P N ops H K (o::rest) T:=aA.cons d hd hN hg hop next
theorem Kl{x:Operand}{t:TypeId}{b:Bool}{n:Nat}{p:V}(v:V)(ho:o.op= .load t x:=by rfl)(hx:ev T x=some p:=by rfl)(ht:fc P t=some (b,n):=by exact an)(hl:cN H b n p=some v:=by rfl):aa P N o T H v H:=aa.load ho hx ht hl
theorem Kp{g:FuncId}{args:List PV}{r:PV}(hp:Pure P g args r){f:Operand}{xs:Array Operand}{ts:Array TypeId}{fv:V}{vs:List V}(ho:o.op= .call {callee:= .value f,args:=xs,argTypes:=ts}:=by rfl)(hf:ev T f=some fv:=by rfl)
    (hxs:jT T xs.toList=some vs:=by rfl)(hc:callee vs fv=some (g,args.map .p):=by rfl)(hg:ak P g=true:=by exact an):aa P N o T H (.p r) H:=aa.eY hp ho hf hxs hc hg
theorem Kg(d s r:Nat){j:Nat}{want c:Bool}{x v v0:V}(hv:lk T r=some v0)(hop:c=true->aa P N o [(r,v0)] H v H)(next:aj P R N κ ops rest Q ((d,.opt c v)::T) H)(hd:o.dst=some d:=by rfl)(hN:bg N (some d)=true:=by rfl)(hg:o.guard=some (j,want):=by rfl)(hs:pg ops j=some s:=by rfl)(DW:bg N (some s)=true:=by rfl)
    (hb:lk T s=some x:=by rfl)(hc:rQ want x=some c:=by rfl):aj P R N κ ops (o::rest) Q T H:=aj.g d s hd hN hg hs DW hb hc [(r,v0)] (fun h=>And.intro (.inl hv) trivial) hop next
theorem Kh(d s r:Nat){j:Nat}{want c:Bool}{x v v0:V}(hb:lk T s=some x)(hg:o.guard=some (j,want))(hc:rQ want x=some c)(hv:lk T r=some (.opt c v0))(hop:c=true->aa P N o [(r,v0)] H v H)(next:aj P R N κ ops rest Q ((d,.opt c v)::T) H)(hd:o.dst=some d:=by rfl)(hN:bg N (some d)=true:=by rfl)(hs:pg ops j=some s:=by rfl)(DW:bg N (some s)=true:=by rfl)
    :aj P R N κ ops (o::rest) Q T H:=aj.g d s hd hN hg hs DW hb hc [(r,v0)] (fun h=>And.intro (.inr ⟨_,hv,h⟩) trivial) hop next
theorem Ki{c:Operand}{x y:Code}{b:Bool}(ht:b=true->aF P R N κ x Q T H)(hf:b=false->aF P R N κ y Q T H)(hc:ev T c=some (.p (.bool b)):=by rfl):aF P R N κ (.cond c x y) Q T H:=aF.cond b hc ht hf
theorem Kf{f:FuncId}{fn:Func}{c:Code}{args:List PV}{r:PV}(hf:P.funcs[f]? =some fn)(h:aF P none N 0 c (Fin P N fn r) (c8 0 (args.map .p)) [])(hb:fn.body=some c:=by rfl)(hN:fn.ntmps=N:=by rfl)(hn:Nat.ble args.length N=true:=by rfl):Pure P f args r:=Pure.start hf hb hN (ZR hn) h
theorem Kn{a b:Nat}(h:Nat.ble a b=true:=by rfl):a<=b:=ZR h
theorem KS{T2:Tm}(h:Sub T2 T:=by repeat (first | exact Sub.nil | refine Sub.cons rfl ?_)):Sub T2 T:=h
end
theorem af{A B:Prop}(x:A)(h:A->B:=by
 intro ha
 first
 | refine aj.c _ rfl rfl rfl (aa.assign rfl rfl) ?_
 | refine aj.c _ rfl rfl rfl (aa.move rfl rfl) ?_
 | refine aj.nil ?_
 | refine aF.seq ?_
 | refine aF.region ?_
 | refine aj.c _ rfl rfl rfl (aa.fieldAddr rfl rfl an rfl) ?_
 | refine aj.c _ rfl rfl rfl (aa.load rfl rfl an rfl) ?_
 | refine aF.skip ?_
 | refine aF.ret ?_
 | refine aA.cons _ rfl rfl rfl (aa.move rfl rfl) ?_
 | refine aA.cons _ rfl rfl rfl (aa.fieldAddr rfl rfl an rfl) ?_
 | refine aA.cons _ rfl rfl rfl (aa.load rfl rfl an rfl) ?_
 | refine aj.c0 rfl rfl (aa.store rfl rfl rfl rfl rfl an rfl rfl) ?_
 | refine aj.c _ rfl rfl rfl (aa.extract rfl rfl rfl) ?_
 | refine aj.c _ rfl rfl rfl (aa.bq rfl rfl an rfl) ?_
 | refine aF.block ?_
 | refine aj.c _ rfl rfl rfl (aa.lss rfl rfl rfl) ?_
 | refine aj.c _ rfl rfl rfl (aa.aQ rfl an rfl) ?_
 | refine aj.c _ rfl rfl rfl (aa.build rfl an rfl rfl) ?_
 | refine aj.c _ rfl rfl rfl (aa.UM rfl rfl rfl) ?_
 | refine aj.c _ rfl rfl rfl (aa.gr rfl rfl) ?_
 | refine aj.c _ rfl rfl rfl (aa.eql rfl rfl rfl) ?_
 | refine aj.c _ rfl rfl rfl (aa.neq rfl rfl rfl) ?_
 | refine aj.c _ rfl rfl rfl (aa.geq rfl rfl rfl) ?_
 | refine aj.c _ rfl rfl rfl (aa.leq rfl rfl rfl) ?_
 | refine aj.c _ rfl rfl rfl (aa.gtr rfl rfl rfl) ?_
 | refine aj.c _ rfl rfl rfl (aa.nilCheck rfl rfl) ?_
 | refine aA.cons _ rfl rfl rfl (aa.assign rfl rfl) ?_
 | refine br.cons _ rfl rfl rfl (fun _=>(aa.move rfl rfl)) rfl ?_
 | refine br.cons _ rfl rfl rfl (fun _=>(aa.fieldAddr rfl rfl an rfl)) rfl ?_
 | refine aF.scope ?_
 | refine aF.label ?_
 exact ha):B:=h x
theorem aa.XW{P:Program}{N:Nat}{T:Tm}{H:List ah}{o:Oper}{x y:Operand}{t t' e:TypeId}{n off:Nat}{cs:List PV}(ho:o.op= .binOp .eql t x y t')(hx:ev T x=some (.p (.ip cs off)))(hy:ev T y=some (.p .nilPtr))(ht:x7 P t=some (e,n)):aa P N o T H (.p (.bool false)) H:=
 aa.aO (by simp[ho]) fun w I ρ ac hi hT=>by
  obtain⟨b,o',hb0,e1,_⟩:=hT.ev hx
  have e2:ac.eval y= .pointer none:=hT.ev hy
  obtain⟨hu,j,hj,_⟩:=jo ht
  have hb:(binOp .eql t (.pointer (some ⟨b,o'+off,none⟩)) (.pointer none)).run P w= .ok (.bool false) w:=by
   simp only[binOp]
   have hq:(Op.equal t (.pointer (some ⟨b,o'+off,none⟩)) (.pointer none)).run P w= .ok false w:=by
    show(Op.equalIn (9999+1) t (.pointer (some ⟨b,o'+off,none⟩)) (.pointer none)).run P w= .ok false w
    exact wK
   simp[hq]
  exact⟨.bool false,by simp[execOp,ho,e1,e2,eqGuard,hb],by simp[aB,Rel]⟩
section
variable {P:Program} {R:Option Nat} {N κ:Nat} {Q:Post} {T:Tm} {H:List ah} {o:Oper}
theorem th{w:World}{I J:Nat->Prop}{ρ:List Nat}{f:V->Option PV}(hf:∀ v x u,Np v=true->f v=some x->aB P w J ρ v u->Rel w I x u):∀(vs:List V) (xs:List PV) (us:List Value),iX vs=true->cT f vs=some xs->ag P w J ρ vs us->aW w I xs us
 | [],xs,us,_,h,hr=>by cases h;exact hr
 | v::vs,xs,us,hs,h,hr=>by
  obtain⟨u,us',rfl,h1,h2⟩:=hr
  unfold iX at hs
  rw[Zn] at hs
  simp only[cT] at h
  split at h
  ·rename_i x ys e1 e2
   cases h
   exact⟨u,us',rfl,hf v x u hs.1 e1 h1,th hf vs ys us' hs.2 e2 h2⟩
  ·cases h
theorem Nz{w:World}{I J:Nat->Prop}{ρ:List Nat}(hi:Inv P w J ρ H)(hB:H.all Wc=true)(hI:∀ b∈ρ,b<w.heap.size->I b):∀(n:Nat) (v:V) (x:PV) (u:Value),Np v=true->bU H n v=some x->aB P w J ρ v u->Rel w I x u:=by
 intro n
 induction n with
 | zero=>
  intro v x u hs h hr
  cases v <;> simp[bU] at h
  subst h
  exact Rel.sc _ u hs hr
 | succ n ih=>
  intro v x u hs h hr
  have at_:∀(i:Nat) (cs:List V) (xs:List PV),bJ H[i]? =some cs->cT (bU H n) cs=some xs->∃ b,ρ[i]? =some b∧I b∧aX w I xs b 0:=fun i cs xs hc hx=>by
   obtain⟨b,arr,e,hρ,hw,hl,hrl⟩:=gN hi hc
   have hsc:iX cs=true:=by
    cases hb:H[i]? with
    | none=>rw[hb] at hc;cases hc
    | some blk=>
     have:=Zx.1 hB blk (Zg hb)
     rw[hb] at hc
     cases blk <;> cases hc <;> exact this
   refine⟨b,hρ,hI b (Zg hρ) (uk hw),aX.lZ xs (arr.toList.take cs.length) 0 (th ih cs xs _ hsc hx hrl) fun j v hj=> ?_⟩
   exact xd
  cases v with
  | p y=>simp[bU] at h;subst h;exact Rel.sc _ u hs hr
  | ptr i off=>
   simp only[bU] at h
   split at h
   ·rename_i cs hc
    simp only[Zi] at h
    obtain⟨xs,h1,rfl⟩:=h
    obtain⟨b,hρ,hb,eD⟩:=at_ i cs xs hc h1
    obtain⟨b',pV,hu⟩:=hr
    rw[hρ] at pV
    cases pV
    exact⟨b,0,hb,by simpa using hu,eD⟩
   ·cases h
  | row i len=>
   simp only[bU] at h
   split at h
   ·rename_i cs hc
    simp only[Zi] at h
    obtain⟨xs,h1,rfl⟩:=h
    obtain⟨b,hρ,hb,eD⟩:=at_ i cs xs hc h1
    obtain⟨b',e,cap,pV,hu,_,hl⟩:=hr
    rw[hρ] at pV
    cases pV
    exact .inr ⟨b,0,cap,fun _=>hb,hl,hu,eD⟩
   ·cases h
  | agg cs=>
   exact D0
  | tuple cs=>
   exact D0
  | z0=>
   exact BX
  | iface t v=>
   simp only[bU,Zi] at h
   obtain⟨y,h1,rfl⟩:=h
   obtain⟨z,hu,k1⟩:=hr
   exact⟨z,hu,ih v y z hs h1 k1⟩
  | sl i off len=>
   simp only[bU] at h
   split at h
   ·rename_i cs hc
    simp only[Zi] at h
    obtain⟨xs,h1,rfl⟩:=h
    obtain⟨b,hρ,hb,eD⟩:=at_ i cs xs hc h1
    obtain⟨b',cap,pV,hu,hl⟩:=hr
    rw[hρ] at pV
    cases pV
    refine .inr ⟨b,off,cap,fun _=>hb,hl,hu,?_⟩
    have:=eD.drop off
    simpa using this
   ·cases h
  | map i=>
   simp only[bU] at h
   split at h
   ·rename_i ks vs hH
    have:=Zx.1 hB _ (Zg hH)
    cases this
   ·cases h
  | func fn fi ca=>cases hs
  | opt g v=>simp[bU] at h
  | raw a n c=>simp[bU] at h
  | top=>simp[bU] at h
theorem aa.Lu(n m:Nat){g:FuncId}{args:List PV}{v0:V}{H0:List ah}{r:PV}(hp:ax P g (args.map .p) [] fun v H'=>v=v0∧H'=H0)(hv:Np v0=true)(hB:H0.all Wc=true)(hr:bU H0 m v0=some r){f:Operand}{xs:Array Operand}{ts:Array TypeId}{fv:V}{vs all:List V}(ho:o.op= .call {callee:= .value f,args:=xs,argTypes:=ts})(hf:ev T f=some fv)
    (hxs:jT T xs.toList=some vs)(hc:callee vs fv=some (g,all))(hb:cT (bU H n) all=some args)(hg:ak P g=true):aa P N o T H (.p r) H:=by
 intro R w I ρ a hi hT K QX hK
 refine⟨bD,?_⟩
 rw[bG _ _ _ (by simp[ho])]
 obtain⟨us,h1,h2⟩:=dP ho hT hf hxs hc hg
 rw[h2]
 have h1':ag P w (fun b=>b<w.heap.size) [] (args.map .p) us:=ag.pure.2 (fu (mP hi n) all args us hb h1)
 have hi2:Inv P w (fun b=>b<w.heap.size) [] []:=⟨rfl,(fun _ _ _ h=>by simp at h),fun _ h=>h,(fun _ _ _ h=>by simp at h),(fun _ _ _ _ _ h=>by simp at h),(fun _ _ _ h=>by simp at h),hi.gl.mono hi.ib (fun _ _=>rfl)⟩
 refine⟨(fun h=>by cases h),?_⟩
 refine CallsIn.mono (cz R (hp w _ [] us hi2 h1')) ?_
 rintro e' w' ⟨u,v,J,σ,H',rfl,⟨rfl,rfl⟩,h3,h4,h5⟩
 have hnew:∀ b,b∈σ->w.heap.size<=b:=fun b hb=>by
  rcases h3.w.new b hb with h | h
  ·cases h
  ·exact h
 have hlt:∀ b,(I b∨b∈σ∧b<w'.heap.size)->b<w'.heap.size:=fun b h=>by
  rcases h with h | h
  ·exact ZQ (hi.ib b h) h3.w.size
  ·exact h.2
 have he:Ext w I [] w' (fun b=>I b∨b∈σ∧b<w'.heap.size) []:=⟨⟨h3.w.os,h3.w.tape,h3.w.output,h3.w.size,h3.w.keep,h3.w.shape,fun _ h=> .inl h,fun b h=>h3.w.keep b (hi.ib b h) (by simp),fun b h=>by
  rcases h with h | h
  ·exact .inl h
  ·exact .inr (.inr (hnew b h.1)),h3.w.cI,fun b hd h=>by
  rcases h with h | h
  ·exact h
  ·have:=uk hd
   have:=hnew b h.1
   omega,fun b h=>by cases h⟩,ZE _⟩
 have yc:Inv P w' (fun b=>I b∨b∈σ∧b<w'.heap.size) [] []:=⟨rfl,(fun _ _ _ h=>by simp at h),hlt,(fun _ _ _ h=>by simp at h),(fun _ _ _ _ _ h=>by simp at h),(fun _ _ _ h=>by simp at h),hi.gl.mono (fun _ h=> .inl h) he.w.bh⟩
 obtain⟨h6,h7⟩:=Inv.frame hi he yc
 exact hK u w' _ ρ h6 h7 (Nz h4 hB (fun b hb hl=> .inr ⟨hb,hl⟩) m v r u hv hr h5)
end
structure ER (P:Program) {K:Type} [DecidableEq K] (enc:K->PV) (k:TypeId) (val:K->Value):Prop where
 rel:∀(w:World) (I:Nat->Prop) (a:K) (u:Value),Rel w I (enc a) u↔u=val a
 und:∃ d,P.underlying k=some d∧∀ a v,Instr.sameNow d (val a) v=none
 same:∀(w:World) (a b:K),(Op.equal k (val a) (val b)).run P w= .ok (decide (a=b)) w
 check:∀(b:Bool) (w:World) (a:K),(Instr.checkKey b 10000 k (val a)).run P w= .ok () w
 bits:∀ a,Instr.sameBits 10000 (val a) (val a)=true
section
variable {P:Program} {R:Option Nat} {N κ:Nat} {Q:Post} {T:Tm} {H:List ah} {o:Oper}
variable {K α:Type} [DecidableEq K] {enc:K->PV} {g:α->V} {k:TypeId} {val:K->Value}
theorem tI(hk:ER P enc k val){w:World}{I:Nat->Prop}{ρ:List Nat}(n:K):∀(ms:List (K×α)) (es:List MapEntry) (i:Nat),ag P w I ρ (ms.map fun m=> .p (enc m.1)) (es.map (·.key))->ag P w I ρ (ms.map fun m=>g m.2) (es.map (·.val))->
    (bM n ms=none∧mix n ms i=none∧(Instr.findAsking k (val n) es i).run P w= .ok none w)∨
    ∃(a:α) (j:Nat) (e:MapEntry),bM n ms=some a∧mix n ms i=some (i+j)∧es[j]? =some e∧ms[j]? =some (n,a)∧e.key=val n∧aB P w I ρ (g a) e.val∧(Instr.findAsking k (val n) es i).run P w= .ok (some (i+j,e.val)) w
 | [],es,i,h1,h2=>by
  have:es=[]:=by simpa[ag] using h1
  subst this
  exact .inl ⟨rfl,rfl,by simp[Instr.findAsking]⟩
 | m::ms,es,i,h1,h2=>by
  cases es with
  | nil=>obtain⟨u,us,h,_⟩:=h1;simp at h
  | cons e es=>
   obtain⟨u,us,h,h3,h4⟩:=h1
   simp at h
   obtain⟨rfl,rfl⟩:=h
   obtain⟨u,us,h,h5,h6⟩:=h2
   simp at h
   obtain⟨rfl,rfl⟩:=h
   have hkey:e.key=val m.1:=(hk.rel w I m.1 e.key).1 h3
   have hs:=hk.same w n m.1
   by_cases hn:n=m.1
   ·subst hn
    refine .inr ⟨m.2,0,e,by simp[bM],by simp[mix],rfl,rfl,hkey,h5,?_⟩
    rw[decide_eq_true rfl] at hs
    simp[Instr.findAsking,hkey,hs]
   ·rw[decide_eq_false hn] at hs
    have e0:(Instr.findAsking k (val n) (e::es) i).run P w=(Instr.findAsking k (val n) es (i+1)).run P w:=by
     simp[Instr.findAsking,hkey,hs]
    rw[e0]
    simp only[bM,mix,if_neg hn]
    rcases tI hk n ms es (i+1) h4 h6 with⟨k1,k2,k3⟩ | ⟨a,j,e',k1,k2,k3,k4,k5,k6,k7⟩
    ·exact .inl ⟨k1,k2,k3⟩
    ·exact .inr ⟨a,j+1,e',k1,by rw[k2];congr 1;omega,by simpa using k3,by simpa using k4,k5,k6,by rw[k7,show i+1+j=i+(j+1) by omega]⟩
theorem tU(hk:ER P enc k val){w:World}{I:Nat->Prop}{ρ:List Nat}(n:K)(ms:List (K×α))(es:List MapEntry)(h1:ag P w I ρ (ms.map fun m=> .p (enc m.1)) (es.map (·.key)))(h2:ag P w I ρ (ms.map fun m=>g m.2) (es.map (·.val))):
    (bM n ms=none∧mix n ms 0=none∧(Instr.findKey k (val n) es).run P w= .ok none w)∨
    ∃(a:α) (j:Nat) (e:MapEntry),bM n ms=some a∧mix n ms 0=some j∧es[j]? =some e∧ms[j]? =some (n,a)∧e.key=val n∧aB P w I ρ (g a) e.val∧(Instr.findKey k (val n) es).run P w= .ok (some (j,e.val)) w:=by
 have e0:(Instr.findKey k (val n) es).run P w=(Instr.findAsking k (val n) es 0).run P w:=by
  obtain⟨d,hd,aaT⟩:=hk.und
  cases es with
  | nil=>simp[Instr.findKey,run_underlying hd,Instr.findNow,Instr.findAsking]
  | cons e es=>simp[Instr.findKey,run_underlying hd,Instr.findNow,aaT]
 rw[e0]
 rcases tI hk n ms es 0 h1 h2 with h | ⟨a,j,e,k1,k2,k3⟩
 ·exact .inl h
 ·rw[uf] at k2 k3
  exact .inr ⟨a,j,e,k1,k2,k3⟩
def Fj(P:Program)(t:TypeId):Option (TypeId×PV):=
 match P.underlying t with
 | some (.map k e)=>(cB P e).map fun z=>(k,z)
 | _=>none
theorem y8{t k:TypeId}{z:PV}(h:Fj P t=some (k,z)):∃ e,P.underlying t=some (.map k e)∧cB P e=some z:=by
 unfold Fj at h
 split at h
 ·rename_i k' e hu
  rw[Zi] at h
  obtain⟨z',h1,h2⟩:=h
  cases h2
  exact⟨e,hu,h1⟩
 ·cases h
theorem Df(hk:ER P enc k val){w:World}{I:Nat->Prop}{ρ:List Nat}{t:TypeId}{z:PV}{ms:List (K×α)}{es:Array MapEntry}{r:Nat}{clock:Nat}{n:K}{ok:Bool}(ht:Fj P t=some (k,z))(h1:ag P w I ρ (ms.map fun m=> .p (enc m.1)) (es.toList.map (·.key)))(h2:ag P w I ρ (ms.map fun m=>g m.2) (es.toList.map (·.val)))
    (hr:w.heap[r]? =some (.map es clock)):∃ u,(Instr.lookup t (.map (some r)) (val n) ok).run P w= .ok u w∧aB P w I ρ (x5 z ok ((bM n ms).map g)) u:=by
 obtain⟨e,hu,hz⟩:=y8 ht
 obtain⟨zu,hz1,Av⟩:=jK hz w
 have mD:=hk.check es.isEmpty w n
 have hstart:(Instr.lookup t (.map (some r)) (val n) ok).run P w=(do
     let (v,ok') <- match <- Instr.findKey k (val n) es.toList with
      | some (_,v)=>pure (v,true)
      | none=>pure (<- zeroValue e,false)
     pure (if ok then .tuple #[v,.bool ok'] else v):Sem Value).run P w:=by
  simp[Instr.lookup,run_underlying hu,getObj,Sem.run_bind,Sem.run,hr,Result.andThen] at mD ⊢
  simp[mD]
  rfl
 rw[hstart]
 rcases tU hk n ms es.toList h1 h2 with⟨k1,k2,k3⟩ | ⟨a,j,e',k1,k2,k3,k4,k5,k6,k7⟩
 ·refine⟨if ok then .tuple #[zu,.bool false] else zu,?_,?_⟩
  ·simp[k3,hz1]
  ·exact Bc
 ·refine⟨if ok then .tuple #[e'.val,.bool true] else e'.val,?_,?_⟩
  ·simp[k7]
  ·exact CU
theorem HN(hk:ER P enc k val){w:World}{I:Nat->Prop}{ρ:List Nat}{a:Act}(ht:bu P w I ρ N T a.tmps){x:Operand}{n:K}(h:ev T x=some (.p (enc n))):a.eval x=val n:=(hk.rel w I n _).1 (ht.ev h)
theorem aa.PT(hk:ER P enc k val){x y:Operand}{t:TypeId}{z:PV}{ms:List (K×α)}{i:Nat}{n:K}{ok:Bool}(ho:o.op= .lookup t x y ok)(hx:ev T x=some (.map i))(hH:H[i]? =some (gO enc g ms))(hy:ev T y=some (.p (enc n)))(ht:Fj P t=some (k,z)):aa P N o T H (x5 z ok ((bM n ms).map g)) H:=
 aa.aO (by simp[ho]) fun w I ρ a hi hT=>by
  obtain⟨b,hb,hu⟩:=hT.ev hx
  obtain⟨es,clock,h1,h2,h3,_⟩:=hi.rel i b _ hb hH
  obtain⟨u,h4,h5⟩:=Df hk (n:=n) (ok:=ok) ht h2 h3 h1
  refine⟨u,?_,h5⟩
  simp[execOp,ho,HN hk hT hy,hu,h4]
theorem vE(hk:ER P enc k val){w:World}{I:Nat->Prop}{ρ:List Nat}{t:TypeId}{z:PV}{ms:List (K×α)}{i b:Nat}{n:K}{x:α}{u:Value}(hi:Inv P w I ρ H)(hb:ρ[i]? =some b)(hH:H[i]? =some (gO enc g ms))(ht:Fj P t=some (k,z))(hu:aB P w I ρ (g x) u):
    ∃ w',(Instr.mapUpdate t (.map (some b)) (val n) u).run P w= .ok () w'∧Ext w I ρ w' I ρ∧Inv P w' I ρ (H.set i (gO enc g (aU n x ms))):=by
 obtain⟨e,XM,_⟩:=y8 ht
 obtain⟨es,clock,h1,h2,h3,h4⟩:=hi.rel i b _ hb hH
 have mD:=hk.check false w n
 have jv:∀ ob:Obj,(setObj b ob).run P w= .ok () (w.putObj b ob):=fun ob=>by simp[setObj,Sem.run,h1,World.putObj]
 rcases tU hk n ms es.toList h2 h3 with⟨k1,k2,k3⟩ | ⟨a,j,e',k1,k2,k3,k4,k5,k6,k7⟩
 ·have hT:=rL (ms':=aU n x ms) (es':=es.push {key:=val n,val:=u,born:=clock}) (clock':=clock+1) hi hb hH h1 (by
    rw[mS n x ms k1]
    simp only[ZA,Zz,zx,Us]
    exact ag.append h2 ⟨_,_,rfl,(hk.rel w I n _).2 rfl,by simp[ag]⟩) (by
    rw[mS n x ms k1]
    simp only[ZA,Zz,zx,Us]
    exact ag.append h3 ⟨_,_,rfl,hu,by simp[ag]⟩) (by
    obtain⟨h5,h6⟩:=h4
    refine⟨?_,fun e he=> ?_⟩
    ·exact DD
    ·simp only[Us,Zo,ZI] at he
     rcases he with he | rfl
     ·have:=h6 e he;omega
     ·simp)
  refine⟨_,?_,hT⟩
  simp[Instr.mapUpdate,run_underlying XM,getObj,Sem.run_bind,h1,mD,k3,jv]
  simp[Sem.run,h1,Result.andThen] at mD k3 jv ⊢
  simp[mD,k3,jv]
 ·have Ux:es[j]? =some e':=by simpa using k3
  have hjl:j<es.size:=(ZL.1 Ux).1
  have DK:=run_keyThatStays (P:=P) (w:=w) (hk.bits n)
  have hT:=rL (ms':=aU n x ms) (es':=es.modify j fun e=>{e with key:=val n,val:=u}) (clock':=clock) hi hb hH h1 (by
   rw[nF n x ms 0 j (by rw[uf];exact k2),List.map_set]
   have:(es.modify j fun e=>{e with key:=val n,val:=u}).toList.map (·.key)=(es.toList.map (·.key)).set j (val n):=by
    exact qD
   rw[this]
   exact ag.set (v:= .p (enc n)) ((hk.rel w I n _).2 rfl) j h2) (by
   rw[nF n x ms 0 j (by rw[uf];exact k2),List.map_set]
   have:(es.modify j fun e=>{e with key:=val n,val:=u}).toList.map (·.val)=(es.toList.map (·.val)).set j u:=by
    exact qD
   rw[this]
   exact ag.set hu j h3) (by
   obtain⟨h5,h6⟩:=h4
   have:(es.modify j fun e=>{e with key:=val n,val:=u}).toList.map (·.born)=es.toList.map (·.born):=by
    exact Cc
   refine⟨by rw[this];exact h5,fun e he=> ?_⟩
   have hm:e.born∈es.toList.map (·.born):=by rw[<- this];exact List.mem_map_of_mem he
   rw[uE] at hm
   obtain⟨e2,J7,h7⟩:=hm
   rw[<- h7]
   exact h6 e2 J7)
  refine⟨_,?_,hT⟩
  have hkey:((es[j]?).map (·.key)).getD (val n)=val n:=by rw[Ux];simp[k5]
  simp[Instr.mapUpdate,run_underlying XM,getObj,Sem.run_bind,h1,mD,k7,hkey,DK,jv]
  simp[Sem.run,h1,Result.andThen] at mD k7 DK jv ⊢
  simp[mD,k7,hkey,DK,jv]
theorem aa.Gr(hk:ER P enc k val){x y v:Operand}{t:TypeId}{z:PV}{ms:List (K×α)}{i:Nat}{n:K}{c:α}(ho:o.op= .mapUpdate t x y v∨o.op= .insert t x y v)(hx:ev T x=some (.map i))(hH:H[i]? =some (gO enc g ms))(hy:ev T y=some (.p (enc n)))(hv:ev T v=some (g c))(ht:Fj P t=some (k,z)):
    aa P N o T H .top (H.set i (gO enc g (aU n c ms))):=
 aa.dB (by rcases ho with ho | ho <;> simp[ho]) fun w I ρ a hi hT=>by
  obtain⟨b,hb,hu⟩:=hT.ev hx
  obtain⟨w',h1,h2,h3⟩:=vE hk (n:=n) hi hb hH ht (hT.ev hv)
  refine⟨undef,w',I,ρ,.inr ⟨?_,rfl⟩,h2,h3,trivial⟩
  rcases ho with ho | ho <;> simp[execOp,ho,HN hk hT hy,hu,h1]
theorem yH{g:TypeId->Option (List TypeDesc)}:∀(L:List Field) (off:Nat) (l:List TypeDesc),FF g P L off=some l->∀ f∈L,f.name≠ "_" ∧∃ l1 b1 n1,g f.type=some l1∧fc P f.type=some (b1,n1)∧n1=l1.length∧(b1=false->n1=1)∧f.offset+n1<=off+l.length
 | [],_,_,_,f,hf=>by cases hf
 | f0::L,off,l,h,f,hf=>by
  simp only[FF] at h
  split at h
  ·rename_i l1 b1 n1 h1 h2
   split at h
   ·rename_i hc
    rw[Zi] at h
    obtain⟨l2,h3,rfl⟩:=h
    obtain⟨c1,c2,c3,c4⟩:=hc
    rw[Zb]
    rcases Zr.1 hf with rfl | hf
    ·exact⟨c2,l1,b1,n1,h1,h2,c3,c4,by omega⟩
    ·obtain⟨k1,a,b,c,k2,k3,k4,k5,k6⟩:=yH L _ l2 h3 f hf
     exact⟨k1,a,b,c,k2,k3,k4,k5,by omega⟩
   ·cases h
  ·cases h
theorem jt{w:World}(em:Bool):∀(d:Nat) (t:TypeId) (l:List TypeDesc) (b:Bool) (n:Nat),eqTy P d t=some l->fc P t=some (b,n)->n=l.length->∀(m:Nat) (us:List Value),us.length=n->(Instr.checkKey em (d+m) t (valOf b us)).run P w= .ok () w
 | 0,_,_,_,_,h,_,_,_,_,_=>by simp[eqTy] at h
 | d+1,t,l,b,n,h,ht,hn,m,us,fX=>by
  obtain⟨dd,inf,hu,hi,zX,hsz⟩:=gw ht
  unfold eqTy at h
  rw[hu] at h
  rw[show d+1+m=d+m+1 by omega,Instr.checkKey]
  simp only[Sem.run_bind,run_underlying hu,Result.andThen_ok]
  cases dd <;> simp only[Wg] at h <;> try (cases h;done)
  case bool=>simp
  case int ik=>simp
  case string=>simp
  case struct fs=>
   split at h
   ·cases h
   ·have x9:b=true:=by rw[<- zX];rfl
    subst x9
    simp only[valOf,if_true]
    rw[<- Array.forIn_toList]
    have each:=yH fs.toList 0 l h
    generalize fs.toList=L at each
    clear h
    induction L with
    | nil=>simp
    | cons f L ih=>
     obtain⟨c2,l1,b1,n1,h1,h2,c3,c4,c5⟩:=each f (by simp)
     have p1:=jn (P:=P) (w:=w) (off:=f.offset) (us:=us) h2 c4 (by omega)
     have p2:=jt (w:=w) em d f.type l1 b1 n1 h1 h2 c3 m ((us.drop f.offset).take n1) (by rw[ZU,KP];omega)
     simp only[List.forIn_cons,Sem.run_bind,c2,ne_eq,not_false_eq_true,if_true,Result.andThen_ok,p1,p2,Sem.run_pure]
     have k:=ih (fun y hy=>each y (by simp[hy]))
     simp only[Sem.run_bind,ne_eq,Sem.run_pure] at k ⊢
     exact k
  case array k e=>
   split at h
   ·rename_i l1 b1 m1 h1 h2
    split at h
    ·rename_i hc
     simp at h
     subst h
     have x9:b=true:=by rw[<- zX];rfl
     subst x9
     simp only[valOf,if_true]
     obtain⟨_,aaD,_,hi2,_,hs2⟩:=gw h2
     have aav:=aM (P:=P) (w:=w) h2
     have hl:k*m1=us.length:=by rw[fX,hn,List.length_flatten];simp[hc.1]
     simp only[Std.Legacy.Range.forIn_eq_forIn_range',Std.Legacy.Range.size,Nat.sub_zero,Nat.add_one_sub_one,Nat.div_one]
     have each:∀ j∈List.range' 0 k,j<k:=fun j hj=>by have:=K5.1 hj;omega
     generalize List.range' 0 k=is at each
     induction is with
     | nil=>simp
     | cons j is ih=>
      have hj:=each j (by simp)
      have hle:j*m1+m1<=us.length:=by rw[<- hl,<- Nat.succ_mul];exact FT _ hj
      have p1:=jn (P:=P) (w:=w) (off:=j*m1) (us:=us) h2 hc.2 hle
      have p2:=jt (w:=w) em d e l1 b1 m1 h1 h2 hc.1 m ((us.drop (j*m1)).take m1) (by rw[ZU,KP];omega)
      simp only[List.forIn_cons,Sem.run_bind,aav,Result.andThen_ok,p1,p2,Sem.run_pure]
      have k:=ih (fun y hy=>each y (by simp[hy]))
      simp only[Sem.run_bind,Sem.run_pure] at k ⊢
      exact k
    ·cases h
   ·cases h
end
end Go.AF
end
