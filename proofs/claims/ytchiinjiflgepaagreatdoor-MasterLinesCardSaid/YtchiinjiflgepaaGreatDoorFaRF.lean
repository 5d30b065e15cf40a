/-
 The frame rule of calls that may panic, where what the call leaves behind is kept when it panics too. No condition; generic over any program.
 Calls that read own blocks as content and hand back own blocks, whatever they are. No condition; generic over any program.
 Slices without room (nil, or empty ones that were just made): their values; own slices that are such as long as they are empty. No condition; generic over any program.
 A call that returns or panics, by a condition. No condition; generic over any program.
 A range over a function that panics before it has ended. No condition; generic over any program.
 Slices that have no room as long as they are empty: made, copied, appended to, stored, handed back by a call. No condition; generic over any program.
 Regions that draw their order, in which one operation turns the own blocks. No condition; generic over any program.
 Exact slices in the place of what is known of them: a call that is proved for all exact slices in cells of an own block is proved for what these cells hold, and what it leaves may be told in the same words again. No condition; generic over any program.
 Own blocks written in another way; an element of an own slice that may have no room. No condition; generic over any program.
 Regions that draw their order, in which one operation always panics. No condition; generic over any program.
 A function that defers a closure behind three pieces of code; a drawn region in which one store turns the own blocks. No condition; generic over any program.
 What a call on some of the own blocks leaves, place by place. No condition; generic over any program.
 A contract whose arguments are weakened (a nil slice is an empty one). No condition; generic over any program.
 Regions that draw their order, in which one operation turns the own blocks into some that are as G says. No condition; generic over any program.
 Ranges over functions that store in an own cell of their caller before they yield. No condition; generic over any program.
 Facts that are found by themselves; steps that need no word. No condition; generic over any program.
 A pointer to content is not nil. No condition; generic over any program.
 A call whose new result is content at once: own blocks are read as content, and what is new is left to nobody. Generic over any program.
-/
import Derived.Test.YtchiinjiflgepaaGreatDoorFaRE
theorem TU{A:Prop}(h:A:=by
 refine⟨false,(fun h=>by cases h),run _ _ h1 ?_⟩
 show(Op.equalIn (9999+1) t _ (.slice none 0 0)).run P w= .ok false w
 generalize 9999=dd
 simp[Op.equalIn,run_underlying hu]):A:=h
theorem Tw{A:Prop}(h:A:=by
 simp only[ct,Zm] at h
 obtain⟨xs,h1,rfl⟩:=h
 obtain⟨us,hu,k1⟩:=hr
 exact⟨us,hu,sx ih cs xs _ hs h1 k1⟩):A:=h
theorem aa7{A:Prop}(h:A:=by
 rw[Zu] at h2
 split at h2
 ·rename_i e1;subst e1;exact⟨_,hH,rfl⟩
 ·exact⟨_,h2,h3⟩):A:=h
set_option linter.unnecessarySimpa false
set_option linter.unusedSimpArgs false
set_option linter.unusedVariables false
section
namespace Go.AF
open Go
section
variable {P:Program} {R:Option Nat} {N κ:Nat} {Q:Post} {T:Tm} {H:List ak} {o:Oper}
def gC(H:List ak)(ks:List Nat)(H':List ak):Prop:=ks.length<=H'.length∧∀(j i:Nat) (y:ak),ks[j]? =some i->(H.getD i .dead).live=false->H'[j]? =some y->y.live=false
theorem aD.zH{g:FuncId}{args ko:List V}{H0:List ak}{Qr:V->List ak->Prop}{Qp:PV->List ak->Prop}(ks:List Nat)(hp:aD P g ko H0 Qr Qp)(ha:bE (oX H ks) args=ko)(h0:(ks.map fun i=>aM (oX H ks) (H.getD i .dead))=H0)
    (hks:(ks.all (fun i=>Nat.blt i H.length)&&decide ks.Nodup)=true)(hQ:∀ v H',Qr v H'->gC H ks H')(jJ:∀ v H',Qp v H'->gC H ks H'):
    aD P g args H (fun v H'=>∃ v0 uw,Qr v0 uw∧v=aZ (eV H ks) v0∧H'=bA H ks uw) (fun y H'=>∃ uw,Qp y uw∧H'=bA H ks uw):=by
 intro w I ρ us hi ij
 simp only[Zo,ZC,Zl] at hks
 have hlt:∀ i∈ks,i<H.length:=fun i h=>by have:=hks.1 i h;simpa[Nat.blt,ZA] using this
 have o9:∀ i,i<H.length->H[i]? =some (H.getD i .dead):=fun i h=>by simp[h]
 obtain⟨ρ2,eρ2⟩:∃ ρ2,ρ2=ks.map fun i=>if (H.getD i .dead).live=true then ρ.getD i 0 else w.heap.size:=⟨_,rfl⟩
 have j6:ρ2.length=ks.length:=by rw[eρ2,Zr]
 have rT:∀ j i:Nat,ks[j]? =some i->(H.getD i .dead).live=true->ρ2[j]? =ρ[i]? :=fun j i h hl=>by
  exact XX
 have hρd:∀ j i:Nat,ks[j]? =some i->(H.getD i .dead).live=false->ρ2[j]? =some w.heap.size:=fun j i h hl=>by
  exact Tv
 have xU:∀ b,b∈ρ2->b∈ρ∨b=w.heap.size:=fun b hb=>by
  exact Yc
 have hσ:∀ i j b:Nat,oX H ks i=some j->ρ[i]? =some b->ρ2[j]? =some b:=fun i j b h hb=>by
  exact VS
 have fD:∀(j b:Nat) (blk:ak),ρ2[j]? =some b->H0[j]? =some blk->∃ i x,ks[j]? =some i∧H[i]? =some x∧blk=aM (oX H ks) x∧(x.live=true->ρ[i]? =some b):=by
  exact abe
 have hsub:Inv P w I ρ2 H0:=by
  exact RH
 have hargs:aj P w I ρ2 ko us:=by rw[<- ha];exact fm hσ args us ij
 -- what an own block that is at none of the places has, stays
 have HL:∀(i b:Nat) (x:ak),ρ[i]? =some b->H[i]? =some x->x.live=true->i∉ks->b∉ρ2:=fun i b x g1 g2 g3 g4 hb=>by
  exact TS
 have key:∀(w':World) (J:Nat->Prop) (σ:List Nat) (H2:List ak),Ext w I ρ2 w' J σ->Inv P w' J σ H2->gC H ks H2->∃ ext,σ=ρ2++ext∧Ext w I ρ w' J (ρ++ext)∧Inv P w' J (ρ++ext) (bA H ks H2)∧∀ j i b:Nat,eV H ks j=some i->(ρ2++ext)[j]? =some b->(ρ++ext)[i]? =some b:=by
  intro w' J σ H2 h3 h4 ⟨ug,Q2⟩
  obtain⟨ext,Vw⟩:=h3.pre
  subst Vw
  have No:(ρ2++ext).length=H2.length:=h4.len
  rw[Zc,j6] at No
  have hleft:∀ j,j<ks.length->(ρ2++ext)[j]? =ρ2[j]? :=fun j hj=>Zd (by rw[j6];exact hj)
  have hright:∀ j,(ρ2++ext)[ks.length+j]? =ext[j]? :=fun j=>by rw[Zj (by rw[j6];omega),j6,ZK]
  have yV:∀ j,(ρ++ext)[H.length+j]? =ext[j]? :=fun j=>by rw[Zj (by rw[hi.len];omega),hi.len,ZK]
  have hτ:∀ j i b:Nat,eV H ks j=some i->(ρ2++ext)[j]? =some b->(ρ++ext)[i]? =some b:=fun j i b h hb=>by
   exact aax
  have J1:∀ b,b∈ext->b∈ρ∨w.heap.size<=b:=fun b hb=>by
   exact Y1
  have hE:Ext w I ρ w' J (ρ++ext):=⟨⟨h3.w.os,h3.w.tape,h3.w.output,h3.w.size,fun b g1 g2=>h3.w.keep b g1 fun h=>by
      rcases xU b h with h | h
      ·exact g2 h
      ·omega,h3.w.shape,h3.w.mB,h3.w.bu,fun b h=>by
   rcases h3.w.fk b h with h | h | h
   ·exact .inl h
   ·exact Rl
   ·exact .inr (.inr h),h3.w.cL,h3.w.kX,fun b h=>by
   rcases Zs.1 h with h | h
   ·exact .inl h
   ·exact J1 b h⟩,⟨ext,rfl⟩⟩
  have hout:∀(i b:Nat) (x:ak),ρ[i]? =some b->H[i]? =some x->x.live=true->i∉ks->b∉ρ2++ext:=fun i b x g1 g2 g3 g4 hb=>by
   exact Yd
  have VR:(lC H ks ((H2.take ks.length).map (aM (eV H ks)))).length=H.length:=cS _ _ _
  have Gb:∀(i:Nat) (blk:ak),(bA H ks H2)[i]? =some blk->blk.live=true->(∃(j:Nat) (x:ak),H2[j]? =some x∧blk=aM (eV H ks) x∧(ρ2++ext)[j]? =(ρ++ext)[i]? ∧(ks[j]? =some i∨(ks.length<=j∧i=H.length+(j - ks.length))))∨(i<H.length∧i∉ks∧H[i]? =some blk):=fun i blk h hlv=>by
   exact YU
  have hI:Inv P w' J (ρ++ext) (bA H ks H2):=by
   exact Ue
  exact⟨ext,rfl,hE,hI,hτ⟩
 refine CallsIn.mono (hp w I _ us hsub hargs) ?_
 rintro e w' (⟨u,v0,J,σ,H2,rfl,hq,h3,h4,h5⟩ | ⟨u,y,J,σ,H2,rfl,hy,h3,h4,h5⟩)
 ·obtain⟨ext,rfl,hE,hI,hτ⟩:=key w' J σ H2 h3 h4 (hQ _ _ hq)
  exact .inl ⟨u,_,J,ρ++ext,_,rfl,⟨v0,H2,hq,rfl,rfl⟩,hE,hI,fU hτ v0 u h5⟩
 ·obtain⟨ext,rfl,hE,hI,hτ⟩:=key w' J σ H2 h3 h4 (jJ _ _ hy)
  exact .inr ⟨u,y,J,ρ++ext,_,rfl,⟨H2,hy,rfl⟩,hE,hI,h5⟩
theorem aq.ES(d:Nat)(ks:List Nat){ko:List V}{H0:List ak}{ops:Array Oper}{rest:List Oper}{f:Operand}{xs:Array Operand}{ts:Array TypeId}{fv:V}{vs all:List V}{g:FuncId}{Qr:V->List ak->Prop}{Qp:PV->List ak->Prop}(hp:aD P g ko H0 Qr Qp)(ha:bE (oX H ks) all=ko)(h0:(ks.map fun i=>aM (oX H ks) (H.getD i .dead))=H0)
    (hks:(ks.all (fun i=>Nat.blt i H.length)&&decide ks.Nodup)=true)(hQ:∀ v H',Qr v H'->gC H ks H')(jJ:∀ v H',Qp v H'->gC H ks H')
    (ho:o.op= .call {callee:= .value f,args:=xs,argTypes:=ts})(hd:o.dst=some d)(hN:bC N (some d)=true)(hgd:o.guard=none)(hf:ev T f=some fv)
    (hxs:lG T xs.toList=some vs)(hc:callee vs fv=some (g,all))(hg:an P g=true)(zW:∀ y uw,Qp y uw->Q (.panic (.p y)) T (bA H ks uw))(next:∀ v H',Qr v H'->aq P R N κ ops rest Q ((d,aZ (eV H ks) v)::T) (bA H ks H')):aq P R N κ ops (o::rest) Q T H:=
 aq.fT d (hp.zH ks ha h0 hks hQ jJ) ho hd hN hgd hf hxs hc hg (fun y H' ⟨uw,h,e⟩=>by subst e;exact zW y uw h) fun v H' ⟨v0,uw,hq,e1,e2⟩=>by
  subst e1
  subst e2
  exact next v0 uw hq
end
section
mutual
def KX:V->Bool
 | .p x=>GN x
 | .ptr _ _=>true
 | .row _ _=>true
 | .sl _ _ _=>true
 | .map _=>true
 | .agg cs=>jK cs
 | .tuple cs=>jK cs
 | .iface _ v=>KX v
 | .top=>true
 | .raw _ _ _=>true
 | .z0=>true
 | _=>false
def jK:List V->Bool
 | []=>true
 | v::vs=>KX v&&jK vs
end
def XA:ak->Bool
 | .cells cs _=>jK cs
 | .row cs _=>jK cs
 | .dead=>true
 | _=>false
mutual
theorem aG.I6{P:Program}{w:World}{I J:Nat->Prop}{ρ:List Nat}:∀(v:V) (u:Value),KX v=true->aG P w J ρ v u->aG P w I ρ v u
 | .p x,u,h,hr=>Rel.sc x u h hr
 | .ptr _ _,u,_,hr=>hr
 | .row _ _,u,_,hr=>hr
 | .sl _ _ _,u,_,hr=>hr
 | .map _,u,_,hr=>hr
 | .agg cs,u,h,hr=>by
  obtain⟨us,h1,h2⟩:=hr
  exact⟨us,h1,aj.I6 cs _ h h2⟩
 | .tuple cs,u,h,hr=>by
  obtain⟨us,h1,h2⟩:=hr
  exact⟨us,h1,aj.I6 cs _ h h2⟩
 | .iface t v,u,h,hr=>by
  obtain⟨x,h1,h2⟩:=hr
  exact⟨x,h1,aG.I6 v _ h h2⟩
 | .top,u,_,_=>trivial
 | .raw _ _ _,u,_,hr=>hr
 | .z0,u,_,hr=>hr
 | .opt _ _,_,h,_=>by cases h
 | .func _ _ _,_,h,_=>by cases h
theorem aj.I6{P:Program}{w:World}{I J:Nat->Prop}{ρ:List Nat}:∀(vs:List V) (us:List Value),jK vs=true->aj P w J ρ vs us->aj P w I ρ vs us
 | [],us,_,hr=>hr
 | v::vs,us,h,hr=>by
  obtain⟨u,us',h1,h2,h3⟩:=hr
  unfold jK at h
  rw[Zo] at h
  exact⟨u,us',h1,aG.I6 v u h.1 h2,aj.I6 vs us' h.2 h3⟩
end
theorem dz.I6{P:Program}{w:World}{I J:Nat->Prop}{ρ:List Nat}{x:ak}{b:Nat}(h:XA x=true)(hr:dz P w J ρ x b):dz P w I ρ x b:=by
 cases x with
 | cells cs e=>
  obtain⟨arr,h1,h2⟩:=hr
  exact⟨arr,h1,aj.I6 cs _ h h2⟩
 | row cs e=>
  obtain⟨arr,h1,h2,h3⟩:=hr
  exact⟨arr,h1,h2,aj.I6 cs _ h h3⟩
 | dead=>trivial
 | _=>cases h
end
section
variable {P:Program} {R:Option Nat} {N κ:Nat} {Q:Post} {T:Tm} {H:List ak} {o:Oper}
def CQ(n:Nat)(j:Nat):Option Nat:=some (n+j)
theorem aa.zE(n:Nat){g:FuncId}{args:List PV}{v0:V}{H0:List ak}(hp:aE P g (args.map .p) [] fun v H'=>v=v0∧H'=H0)(hv:KX v0=true)(hB:H0.all XA=true){f:Operand}{xs:Array Operand}{ts:Array TypeId}{fv:V}{vs all:List V}(ho:o.op= .call {callee:= .value f,args:=xs,argTypes:=ts})(hf:ev T f=some fv)
    (hxs:lG T xs.toList=some vs)(hc:callee vs fv=some (g,all))(hb:c9 (ct H n) all=some args)(hg:an P g=true):aa P N o T H (aZ (CQ H.length) v0) (H++H0.map (aM (CQ H.length))):=by
 intro R w I ρ a hi hT K QX hK
 refine⟨bQ,?_⟩
 rw[bT _ _ _ (by simp[ho])]
 obtain⟨us,h1,h2⟩:=ep ho hT hf hxs hc hg
 rw[h2]
 have h1':aj P w (fun b=>b<w.heap.size) [] (args.map .p) us:=aj.pure.2 (fR (oh hi n) all args us hb h1)
 have hi2:Inv P w (fun b=>b<w.heap.size) [] []:=⟨rfl,(fun _ _ _ h=>by simp at h),fun _ h=>h,(fun _ _ _ h=>by simp at h),(fun _ _ _ _ _ h=>by simp at h),(fun _ _ _ h=>by simp at h),hi.gl.mono hi.ib (fun _ _=>rfl)⟩
 refine⟨(fun h=>by cases h),?_⟩
 refine CallsIn.mono (cK R (hp w _ [] us hi2 h1')) ?_
 rintro e' w' ⟨u,v,J,σ,H',rfl,⟨rfl,rfl⟩,h3,h4,h5⟩
 have hnew:∀ b,b∈σ->w.heap.size<=b:=fun b hb=>by
  rcases h3.w.new b hb with h | h
  ·cases h
  ·exact h
 have he:=qy hi h3
 have Aw:Inv P w' I [] []:=⟨rfl,(fun _ _ _ h=>by simp at h),fun b h=>ZQ (hi.ib b h) h3.w.size,(fun _ _ _ h=>by simp at h),(fun _ _ _ _ _ h=>by simp at h),(fun _ _ _ h=>by simp at h),hi.gl.mono (fun _ h=>h) he.w.bu⟩
 obtain⟨h6,h7⟩:=Inv.frame hi he Aw
 have hE:Ext w I ρ w' I (ρ++σ):=⟨⟨h6.w.os,h6.w.tape,h6.w.output,h6.w.size,h6.w.keep,h6.w.shape,h6.w.mB,h6.w.bu,h6.w.fk,h6.w.cL,h6.w.kX,fun x hx=>by
  rcases Zs.1 hx with h | h
  ·exact .inl h
  ·exact .inr (hnew x h)⟩,⟨_,rfl⟩⟩
 have hτ:∀ j i b:Nat,CQ H.length j=some i->σ[j]? =some b->(ρ++σ)[i]? =some b:=fun j i b h hb=>by
  cases h
  rw[Zj (by rw[hi.len];omega),hi.len,ZK]
  exact hb
 have old:∀(j k:Nat) (blk:ak),(ρ++σ)[j]? =some k->(H++H'.map (aM (CQ H.length)))[j]? =some blk->(j<H.length∧ρ[j]? =some k∧H[j]? =some blk)∨(∃ m x,j=H.length+m∧σ[m]? =some k∧H'[m]? =some x∧blk=aM (CQ H.length) x):=fun j k blk h1 h2=>by
  rcases ZS j H.length with g | g
  ·rw[Zd (by rw[hi.len];exact g)] at h1
   rw[Zd g] at h2
   exact .inl ⟨g,h1,h2⟩
  ·obtain⟨m,rfl⟩:∃ m,j=H.length+m:=⟨j - H.length,by omega⟩
   rw[Zj (by rw[hi.len];omega),hi.len,ZK] at h1
   rw[Zj (by omega),ZK,Zt,Zm] at h2
   obtain⟨x,h2,rfl⟩:=h2
   exact .inr ⟨m,x,rfl,h1,h2,rfl⟩
 have Uy:Inv P w' I (ρ++σ) (H++H'.map (aM (CQ H.length))):=by
  refine⟨by rw[Zc,Zc,Zr,hi.len,h4.len],fun j k blk g1 g2 g3=> ?_,h7.ib,fun j k blk g1 g2 g3=> ?_,fun j j' k x y g1 g2 g3 g4 g5 g6=> ?_,fun j k blk g1 g2=> ?_,h7.gl⟩
  ·rcases old j k blk g1 g2 with⟨_,a1,a2⟩ | ⟨m,x,rfl,a1,a2,rfl⟩
   ·exact h7.iq j k blk a1 a2 g3
   ·rw[cC] at g3;exact h4.iq m k x a1 a2 g3
  ·rcases old j k blk g1 g2 with⟨_,a1,a2⟩ | ⟨m,x,rfl,a1,a2,rfl⟩
   ·exact h7.live j k blk a1 a2 g3
   ·intro h
    have:=hi.ib _ h
    have:=hnew k (Zi a1)
    omega
  ·rcases old j k x g1 g3 with⟨_,a1,a2⟩ | ⟨m,z,rfl,a1,a2,rfl⟩ <;> rcases old j' k y g2 g4 with⟨_,b1,b2⟩ | ⟨m',z',rfl,b1,b2,rfl⟩
   ·exact h7.gJ j j' k x y a1 b1 a2 b2 g5 g6
   ·have:=hi.iq j k x a1 a2 g5
    have:=hnew k (Zi b1)
    omega
   ·have:=hi.iq j' k y b1 b2 g6
    have:=hnew k (Zi a1)
    omega
   ·rw[cC] at g5 g6
    rw[h4.gJ m m' k z z' a1 b1 a2 b2 g5 g6]
  ·rcases old j k blk g1 g2 with⟨_,a1,a2⟩ | ⟨m,x,rfl,a1,a2,rfl⟩
   ·cases hlv:blk.live with
    | false=>exact dz.ie hlv
    | true=>exact dz.mono h6.w.mB h6.w.bu (Xi ρ σ) (fun b _ s hs=>h6.w.shape b s hs) (he.w.keep k (hi.iq j k blk a1 a2 hlv) (by simp)) (hi.rel j k blk a1 a2)
   ·exact kr hτ (dz.I6 (ZC.1 hB x (Zi a2)) (h4.rel m k x a1 a2))
 exact hK u w' I (ρ++σ) hE Uy (fU hτ v u (aG.I6 v u hv h5))
end
def bg(i:Nat):Nat->V
 | 0=> .z0
 | n+1=> .row i (n+1)
theorem IA{i n:Nat}(h:0<n):bg i n= .row i n:=by
 cases n with
 | zero=>omega
 | succ n=>rfl
theorem oQ{i n:Nat}(h:n=0):bg i n= .z0:=by subst h;rfl
theorem oW{cs:List V}{e:TypeId}{n:Nat}(h:n=0):dG cs e n= .dead:=by subst h;rfl
theorem cM{σ:Nat->Option Nat}{i j n:Nat}(h:σ i=some j):aZ σ (bg i n)=bg j n:=by
 cases n with
 | zero=>rfl
 | succ n=>simp only[bg,aZ,h]
theorem qX{i n:Nat}:Ds (bg i n)=some n:=by cases n <;> rfl
theorem BR{i n:Nat}:jT (bg i n)=true:=by cases n <;> rfl
theorem Oq{i n:Nat}:jk (bg i n)=true:=by cases n <;> rfl
theorem vT{i n:Nat}:eE (bg i n)=[bg i n]:=by cases n <;> rfl
theorem uq{i n:Nat}:KX (bg i n)=true:=by cases n <;> rfl
section
variable {P:Program} {R:Option Nat} {N κ:Nat} {Q:Post} {T:Tm} {H H':List ak} {o:Oper} {ops:Array Oper} {rest:List Oper}
theorem qT{m i n:Nat}{xs:List PV}{e:TypeId}(hH:H[i]? =some (dG (xs.map .p) e n))(h0:n=0->xs=[]):ct H (m+1) (bg i n)=some (.is xs n):=by
 cases n with
 | zero=>rw[h0 rfl];rfl
 | succ n=>exact VN (by rw[hH];rfl)
theorem To.z0(s:Nat)(hs:lk T s=some (.p .nilSlice)):To P κ N T H ((s,.z0)::js [s] T) H:=fun w I ρ tmps hi ht=>by
 refine⟨I,ρ,cR.refl _ _ _,hi,⟨ht.size,fun s' v hv=> ?_⟩,fun L hL _=>hL⟩
 simp only[lk] at hv
 cases hb:Nat.beq s s' with
 | false=>rw[hb] at hv;exact ht.at_ s' v (jv [s] T s' v hv)
 | true=>
  rw[hb] at hv
  have:=ZL hb
  subst this
  simp at hv
  subst hv
  exact⟨none,ht.at_ s _ hs⟩
def z0V:V->V
 | .p .nilSlice=> .z0
 | v=>v
theorem OC{w:World}{I:Nat->Prop}{ρ:List Nat}(v:V)(u:Value)(h:aG P w I ρ v u):aG P w I ρ (z0V v) u:=by
 unfold z0V
 split
 ·exact⟨none,h⟩
 ·exact h
theorem EE{w:World}{I:Nat->Prop}{ρ:List Nat}:∀(vs:List V) (us:List Value),aj P w I ρ vs us->aj P w I ρ (vs.map z0V) us
 | [],us,h=>h
 | c::cs,us,h=>by
  obtain⟨u,us',hu,h1,h2⟩:=h
  exact⟨u,us',hu,OC c u h1,EE cs us' h2⟩
theorem To.z0B(i:Nat){cs:List V}{e:TypeId}(hH:H[i]? =some (.cells cs e)):To P κ N T H T (H.set i (.cells (cs.map z0V) e)):=fun w I ρ tmps hi ht=>by
 refine⟨I,ρ,cR.refl _ _ _,⟨by simp[hi.len],fun j b blk h1 h2 h3=> ?_,hi.ib,fun j b blk h1 h2 h3=> ?_,fun j k b x y h1 h2 h3 h4 h5 h6=> ?_,fun j b blk h1 h2=> ?_,hi.gl⟩,ht,fun L hL _=>hL⟩
 ·obtain⟨x,hx,hl⟩:∃ x,H[j]? =some x∧x.live=true:=by
    exact aa7
  exact hi.iq j b x h1 hx hl
 ·obtain⟨x,hx,hl⟩:∃ x,H[j]? =some x∧x.live=true:=by
    exact aa7
  exact hi.live j b x h1 hx hl
 ·have at_:∀(j:Nat) (x:ak),(H.set i (.cells (cs.map z0V) e))[j]? =some x->x.live=true->∃ z,H[j]? =some z∧z.live=true:=fun j x h hl=>by
    rw[Zu] at h
    split at h
    ·rename_i e1;subst e1;exact⟨_,hH,rfl⟩
    ·exact⟨_,h,hl⟩
  obtain⟨x',hx,hxl⟩:=at_ j x h3 h5
  obtain⟨y',hy,xm⟩:=at_ k y h4 h6
  exact hi.gJ j k b x' y' h1 h2 hx hy hxl xm
 ·rw[Zu] at h2
  split at h2
  ·rename_i e1
   subst e1
   split at h2
   ·cases h2
    obtain⟨arr,k1,k2⟩:=hi.rel i b _ h1 hH
    exact⟨arr,k1,EE _ _ k2⟩
   ·cases h2
  ·exact hi.rel j b blk h1 h2
theorem aa.US{x y:Operand}{t e:TypeId}{z:List PV}{iM:Nat}(ho:o.op= .makeSlice t x y)(hx:ev T x=some (.p (.int .i64 0)))(hy:ev T y=some (.p (.int .i64 0)))(hs:nL P t=some (e,z))(hby:tU P e=some iM):aa P N o T H .z0 H:=
 aa.dZ (by simp[ho]) fun w I ρ a hi hT=>by
  obtain⟨hu,⟨b,ht⟩,wW,hz⟩:=fC hs
  obtain⟨uz,h1,h2⟩:=hz w
  obtain⟨inf,kN,rfl⟩:∃ inf,P.info? e=some inf∧inf.bytes=iM:=by
   exact XV
  have Bx:∀ k w,(askRoom k).run P w= .ok () w:=fun k w=>by
   exact FG
  have w0:IntKind.i64.wrap 0=0:=by decide
  have ex:a.eval x= .int .i64 0:=hT.ev hx
  have ey:a.eval y= .int .i64 0:=hT.ev hy
  refine⟨.slice (some ⟨w.heap.size,0,none⟩) 0 0,w.alloc (.cells #[] e),I,ρ,.inl ?_,Ext.fY hi _,Inv.fY hi _,⟨_,rfl⟩⟩
  have e0:Array.range 0= #[]:=by decide
  simp[execOp,ho,ex,ey,Instr.makeSlice,run_underlying hu,asInt,eT,run_typeInfo w kN,w0,Bx,aS ht,newRow,newObj,Sem.run,e0]
theorem aa.uj{t e:TypeId}{z:List PV}(ho:o.op= .buildSlice t 0 #[])(hs:nL P t=some (e,z)):aa P N o T H .z0 H:=
 aa.dZ (by simp[ho]) fun w I ρ a hi hT=>by
  have hv:jl T ([]:List (Nat×Operand))=some []:=rfl
  obtain⟨arr,h1,h2,h3⟩:=kH (P:=P) (w:=w) (I:=I) (ρ:=ρ) (len:=0) (parts:= #[]) (r:=[]) hs (by omega) hT hv rfl
  refine⟨_,_,I,ρ,.inl ?_,Ext.fY hi (.cells arr e),Inv.fY hi _,⟨some ⟨w.heap.size,0,none⟩,rfl⟩⟩
  simp only[execOp,ho,Sem.run_bind]
  have e1:(Array.map (fun(x:Nat×Operand)=>match x with | (i,x)=>(i,a.eval x)) (#[]:Array (Nat×Operand)))= #[]:=by simp
  rw[e1]
  have e2:((#[]:Array (Nat×Operand)).map fun(x:Nat×Operand)=>(x.1,a.eval x.2))= #[]:=by simp
  rw[e2] at h3
  rw[h3]
  rfl
theorem aa.zT{x y:Operand}{t t2 e:TypeId}{z:List PV}{n iM:Nat}{ys:List V}{yv:V}(ho:o.op= .call {callee:= .builtin .append,args:= #[x,y],argTypes:= #[t,t2]})(hx:ev T x=some .z0)(hy:ev T y=some yv)(hs:nL P t=some (e,z))(nF:eB P t2=true)
    (hsrc:ql H z.length yv=some (ys,n))(hn:0<n)(hone:ys.all jT=true)(hby:tU P e=some iM)(hb0:0<iM)(hb:(2*n+192)*iM<=281474976710656):
    aa P N o T H (.row H.length n) (H++[.row ys e]):=
 aa.dZ (by simp[ho]) fun w I ρ a hi hT=>by
  obtain⟨hu,⟨bb,nj⟩,wW,hz⟩:=fC hs
  obtain⟨bx,C6⟩:∃ bx,a.eval x= .slice bx 0 0:=hT.ev hx
  obtain⟨us,⟨ad,vU,Au⟩,hfc,_,cT,hlen⟩:=lO hi (hT.ev hy) hsrc
  have hce:P.cellsOf e=z.length:=by
   exact Eb
  have hinfo:∃ inf,P.info? e=some inf∧inf.bytes=iM:=by
   exact PX
  obtain⟨inf,kN,z6⟩:=hinfo
  have qh:∃ d2,P.underlying t2=some (.slice d2):=by
   exact Hr
  obtain⟨d2,qh⟩:=qh
  have xm:=aj.length cT
  have Ah:∀ q,0+n<=(Question.appendCap (0+n) 0 e).cut q:=fun q=>W7 _ _
  obtain⟨uz,hz1,DQ⟩:=hz w.drew
  have hzl:=aW.length (DQ I)
  have Hw:uz.cells.size=z.length:=by simpa using hzl
  have hnext:=kF (need:=0+n) (cap:=0) (by omega)
  have hsmall:¬ (Builtin.nextslicecap (0+n) 0*iM>2^48):=by
   exact Q5
  let newCap:=(Question.appendCap (0+n) 0 e).cut (w.tape w.drawn (.appendCap (0+n) 0 e))
  have hnc:0+n<=newCap:=Ah _
  have hnew:=hfc w.drew (fun _ _=>rfl)
  let fK:Array Value:= #[]++us.toArray++Builtin.zeroCells uz.cells (newCap - (0+n))
  have xq:Ext w I ρ w.drew I ρ:=Ext.drew
  have hi1:Inv P w.drew I ρ H:=hi.drew
  have pL:Ext w.drew I ρ (w.drew.alloc (.cells fK e)) I (ρ++[w.drew.heap.size]):=Ext.aI hi1 _
  have hi2:Inv P (w.drew.alloc (.cells fK e)) I (ρ++[w.drew.heap.size]) (H++[.row ys e]):=by
   exact abG
  refine⟨.slice (some ⟨w.heap.size,0,none⟩) (0+n) newCap,w.drew.alloc (.cells fK e),I,ρ++[w.drew.heap.size],.inl ?_,xq.trans pL,hi2,w.heap.size,e,newCap,by rw[<- hi.len];simp,by rw[tZ],?_,by omega⟩
  ·rw[Au] at hnew
   have nw:((0+n:Nat):Int)<=IntKind.i64.max:=by
    exact Np
   have hold:(Builtin.firstCells z.length 0 (.slice bx 0 0)).run P w.drew= .ok #[] w.drew:=by cases bx <;> simp[Builtin.firstCells,loadCells,loadCellsFrom]
   have:=run_append_grow (P:=P) (w:=w) (t:=t) (t2:=t2) (ty:=o.type) hu nj qh kN (by rw[z6];exact hsmall) nw (by omega) hold hnew hz1
   simp only[execOp,ho,Go.resolve,Go.invoke,Go.builtin,Sem.run_bind]
   exact Ri
  ·exact Q4
theorem aa.qN{x y:Operand}{t t2 e:TypeId}{z:List PV}{i len n iM:Nat}{cs ys:List V}{yv:V}(ho:o.op= .call {callee:= .builtin .append,args:= #[x,y],argTypes:= #[t,t2]})(hx:ev T x=some (bg i len))(hy:ev T y=some yv)(hs:nL P t=some (e,z))(nF:eB P t2=true)
    (hH:H[i]? =some (dG cs e len))(hcs:cs.length=len*z.length)(hsrc:ql H z.length yv=some (ys,n))(hn:0<n)(hone:ys.all jT=true)(hby:tU P e=some iM)(hb0:0<iM)(hb:(2*(len+n)+192)*iM<=281474976710656):
    aa P N o T H (.row H.length (len+n)) (H.set i .dead++[.row (cs++ys) e]):=by
 cases len with
 | zero=>
  have h0:cs=[]:=ZD (by simpa using hcs)
  subst h0
  rw[qA (show H[i]? =some ak.dead from hH),FF]
  have:=aa.zT (N:=N) ho hx hy hs nF hsrc hn hone hby hb0 (by simpa using hb)
  simpa using this
 | succ len=>exact aa.c6 ho hx hy hs nF hH hcs hsrc hone hby hb0 hb
theorem aa.MG{x y:Operand}{t t2 e:TypeId}{z:List PV}{ys:List V}{yv:V}(ho:o.op= .call {callee:= .builtin .append,args:= #[x,y],argTypes:= #[t,t2]})(hx:ev T x=some .z0)(hy:ev T y=some yv)(hs:nL P t=some (e,z))(nF:eB P t2=true)
    (hsrc:ql H z.length yv=some (ys,0)):aa P N o T H .z0 H:=
 aa.dZ (by simp[ho]) fun w I ρ a hi hT=>by
  obtain⟨hu,⟨bb,nj⟩,wW,hz⟩:=fC hs
  obtain⟨bx,C6⟩:∃ bx,a.eval x= .slice bx 0 0:=hT.ev hx
  obtain⟨us,⟨ad,vU,Au⟩,hfc,_,cT,hlen⟩:=lO hi (hT.ev hy) hsrc
  have qh:∃ d2,P.underlying t2=some (.slice d2):=by
   exact Hr
  obtain⟨d2,qh⟩:=qh
  have ij:us=[]:=ZD (by simpa using hlen)
  subst ij
  refine⟨.slice bx 0 0,w,I,ρ,.inl ?_,Ext.refl _ _ _,hi,⟨bx,rfl⟩⟩
  have h:=hfc w (fun _ _=>rfl)
  rw[Au] at h
  have hr:(Builtin.append_ #[t,t2] o.type #[.slice bx 0 0,.slice ad 0 vU]).run P w= .ok (.slice bx 0 0) w:=by
   cases bx with
   | none=>simp[Builtin.append_,run_underlying hu,aS nj,run_underlying qh,Builtin.lenOf,h,Result.andThen]
   | some bx=>simp[Builtin.append_,run_underlying hu,aS nj,run_underlying qh,Builtin.lenOf,h,Result.andThen,Go.storeCells,Sem.run]
  simp[execOp,ho,Go.resolve,Go.invoke,Go.builtin,C6,Au,hr,Result.andThen]
theorem aq.Ao(d:Nat){x y:Operand}{t t' e:TypeId}{cs z:List PV}{n:Nat}(ho:o.op= .binOp .eql t x y t')(hx:ev T x=some (.p (.is cs n)))(hy:ev T y=some (.p .nilSlice))(hs:nL P t=some (e,z))(hd:o.dst=some d)(hN:bC N (some d)=true)(hgd:o.guard=none)
    (next:∀ b:Bool,(b=true->n=0)->aq P R N κ ops rest Q ((d,.p (.bool b))::T) H):aq P R N κ ops (o::rest) Q T H:=by
 intro QX B w I ρ a hi ht hm hq
 have hu:=(fC hs).1
 have e2:a.eval y= .slice none 0 0:=ht.ev hy
 obtain⟨b,hb0,hb⟩:∃ b:Bool,(b=true->n=0)∧(execOp a.eval o).run P w= .ok (.value (.bool b)) w:=by
  have pE:(∃ ad cap,a.eval x= .slice ad 0 cap∧n=0)∨∃ q l cap,a.eval x= .slice (some q) l cap:=by
   rcases ht.ev hx with⟨⟨ad,cap,h1⟩,h2⟩ | ⟨b,o',cap,_,_,h1,_⟩
   ·exact .inl ⟨ad,cap,h1,h2⟩
   ·exact .inr ⟨_,_,_,h1⟩
  have run:∀(u:Value) (c:Bool),a.eval x=u->(Op.equal t u (.slice none 0 0)).run P w= .ok c w->(execOp a.eval o).run P w= .ok (.value (.bool c)) w:=fun u c h1 h2=>by
   have hb:(binOp .eql t u (.slice none 0 0)).run P w= .ok (.bool c) w:=by
    simp only[binOp]
    simp[h2]
   simp[execOp,ho,h1,e2,eqGuard,hb]
  rcases pE with⟨ad,cap,h1,h2⟩ | ⟨q,l,cap,h1⟩
  ·cases ad with
   | none=>
    refine⟨true,fun _=>h2,run _ _ h1 ?_⟩
    show(Op.equalIn (9999+1) t _ (.slice none 0 0)).run P w= .ok true w
    generalize 9999=dd
    simp[Op.equalIn,run_underlying hu]
   | some q=>
    exact TU
  ·exact TU
 refine wpListIn_plain hgd fun K hK=>⟨bQ,?_⟩
 rw[bT _ _ _ (by simp[ho]),hb]
 refine hK _ _ ?_
 exact next b hb0 QX B w I ρ (a.put o.dst (.bool b)) hi (by rw[hd];exact bR.put hN ht (by simp[aG,Rel])) hm.put hq
end
section
variable {P:Program} {R:Option Nat} {N κ:Nat} {Q:Post} {T:Tm} {H H':List ak} {o:Oper} {ops:Array Oper} {rest:List Oper}
theorem aq.cG(d:Nat){b:Bool}{xN r:PV}{g:FuncId}{args:List PV}(hp:b=true->Pure P g args r)(hn:b=false->tC P g args xN){f:Operand}{xs:Array Operand}{ts:Array TypeId}{fv:V}{vs:List V}
    (ho:o.op= .call {callee:= .value f,args:=xs,argTypes:=ts})(hd:o.dst=some d)(hN:bC N (some d)=true)(hgd:o.guard=none)(hf:ev T f=some fv)
    (hxs:lG T xs.toList=some vs)(hc:callee vs fv=some (g,args.map .p))(hg:an P g=true)(zW:b=false->Q (.panic (.p xN)) T H)(next:b=true->aq P R N κ ops rest Q ((d,.p r)::T) H):aq P R N κ ops (o::rest) Q T H:=by
 cases b with
 | true=>
  have:=aq.cons (rest:=rest) (Q:=Q) hgd (by rw[hd];exact hN) (aa.fT (N:=N) (T:=T) (H:=H) (hp rfl) ho hf hxs hc hg) (by rw[hd];exact next rfl)
  exact this
 | false=>exact aq.wA d (hn rfl) ho hd hN hgd hf hxs hc hg (zW rfl)
theorem vP{h:List ak}(hb:∀ blk∈h,aM (below h.length) blk=blk):Xn P h:=fun blk hm w I ρ b hr=>by
 have h1:=kr (σ:=below h.length) (ρ2:=ρ.take h.length) (fun i j b g1 g2=>by
  unfold below at g1
  split at g1
  ·rename_i g3
   cases g1
   exact u9 (by simpa[Nat.blt,ZA] using g3) g2
  ·cases g1) hr
 rwa [hb blk hm] at h1
theorem To.cut{ext:List ak}{T2:Tm}(hw:Xn P H)(hκ:κ<=H.length)(hT:Sub T2 T)(hl:fG (below H.length) T2=T2):To P κ N T (H++ext) T2 H:=by
 intro w I ρ tmps hi ht
 have hρ:ρ.length=H.length+ext.length:=by rw[hi.len,Zc]
 have t1:∀(i b:Nat),(ρ.take H.length)[i]? =some b->i<H.length∧ρ[i]? =some b:=fun i b e=>by
  exact Tq
 have t2:∀(i:Nat) (blk:ak),H[i]? =some blk->(H++ext)[i]? =some blk:=fun i blk e=>by
  rw[Zd (Za.1 e).1]
  exact e
 refine⟨I,ρ.take H.length,?_,?_,?_,fun B hB hκ2=> ?_⟩
 ·exact Tc
 ·exact S4
 ·have h4:=(ht.sub hT).ren (σ:=below H.length) (ρ2:=ρ.take H.length) (fun i j b g1 g2=>by
    unfold below at g1
    split at g1
    ·rename_i g3
     cases g1
     exact u9 (by simpa[Nat.blt,ZA] using g3) g2
    ·cases g1)
  rwa [hl] at h4
 ·exact aaz
end
def zo(P:Program)(κ:Nat)(f:FuncId)(args:List V)(H:List ak)(xN:PV)(Hq:List ak->Prop):Prop:=
 ∀(B:List Nat) w I ρ us,Inv P w I ρ H->aj P w I ρ args us->B<+:ρ->B.length<=κ->
  CallsIn Fence.wide 0 P f us.toArray w fun e w'=>∃ u I' ρ' H',e= .panicked [{v:=u,recovered:=false}]∧Hq H'∧cR w I ρ w' I' ρ'∧Inv P w' I' ρ' H'∧Rel w' I' xN u∧B<+:ρ'
def aco(xN:PV)(Hq:List ak->Prop):Post
 | .panic v,_,H=>v= .p xN∧Hq H
 | _,_,_=>False
def SR(P:Program)(f:FuncId)(mk:V->List V)(xs:List (List V))(xN:PV):Prop:=
 ∀(l κ n:Nat) (inv:Nat->List ak->Prop),κ<=n->(∀ k h,inv k h->h.length=n)->
  (∀ k h x,inv k h->xs[k]? =some x->pU P l κ h x fun b h'=>b=true∧inv (k+1) h')->
  ∀ h0,inv 0 h0->zo P κ f (mk (lp l)) h0 xN fun h'=>∃ k,inv k h'
section
variable {P:Program} {R:Option Nat} {N κ:Nat} {Q:Post} {T:Tm} {H:List ak}
theorem zo.iS{f:FuncId}{fn:Func}{c:Code}{args:List V}{xN:PV}{Hq:List ak->Prop}(hf:P.funcs[f]? =some fn)(hb:fn.body=some c)(hN:fn.ntmps=N)(hn:args.length<=N)
    (h:aC P none N κ c (aco xN Hq) (dB 0 args) H):zo P κ f args H xN Hq:=by
 subst hN
 intro B w I ρ us hi ij hBp XI
 have hl:=aj.length ij
 refine callsIn_of_wp_marks hf hb trivial ?_ rfl
 have ht:bR P w I ρ fn.ntmps (dB 0 args) (us.toArray++Array.replicate (fn.ntmps - us.toArray.size) undef):=by
  exact Fz
 refine wpIn_mono (h ⟨w.heap.size,B,[]⟩ w I ρ {tmps:=us.toArray++Array.replicate (fn.ntmps - us.toArray.size) undef,defers:=[]} hi ht ⟨Zg _,XI,hBp,[],rfl,Qw,fun _ h=>by cases h⟩) ?_
 rintro e a' w' ⟨z,I',ρ',T',H',h1,h2,h3,h4,h5,hB,_,hpre,rs,h6,h7,h8⟩
 cases z with
 | panic v=>
  cases e <;> first | exact h1.elim | skip
  obtain⟨rfl,hy⟩:=h2
  obtain⟨u,rfl,hu⟩:=h1
  show LeavesInM _ _ _ _ _ _ _ _ _
  rw[h6]
  show LeavesInM _ _ _ _ _ _ (_++[]) _ _
  rw[ZY]
  refine pM rs w' h7 (fun r hr=>(h8 r hr).1) ?_
  intro w2 k1 k2 k3 k4 k5
  have kI:∀ b,I' b->w2.heap[b]? =w'.heap[b]? :=fun b hb=>k1 b (fun hm=>(h8 b hm).2.1 hb)
  have kρ:∀ b:Nat,w'.heap[b]? ≠some (Obj.deferred (some []))->w2.heap[b]? =w'.heap[b]? :=fun b hb=>k1 b (fun hm=>hb (h8 b hm).1)
  have ks:∀ b s,w'.shape? b=some s->w2.shape? b=some s:=fun b s hs=>by
   exact Gk
  have hi2:Inv P w2 I' ρ' H':=h4.marks k5 kI kρ ks
  have hlow:∀ b,b<w.heap.size->w2.heap[b]? =w'.heap[b]? :=fun b hb=>k1 b (fun hm=>by have:=(h8 b hm).2.2;simp only at this;omega)
  refine⟨u,I',ρ',H',rfl,hy,?_,hi2,Rel.mono (fun _ h=>h) kI _ _ hu,hpre⟩
  exact Sg
 | _=>exact h2.elim
theorem aC.CT{g:Operand}{ps:Array Tmp}{gX body:Code}{fv:V}{f:FuncId}{mk:V->List V}{xs:List (List V)}{xN:PV}(κ2:Nat)(hg:ev T g=some fv)(hc:∀ y,callee [y] fv=some (f,mk y))(hf:an P f=true)(zV:SR P f mk xs xN)
    (hκ:κ<=κ2)(Ui:κ2<=H.length)(hps:∀ x∈xs,x.length=ps.size)(hlt:ps.toList.all (fun p=>Nat.blt p N)=true)
    (J:Nat->List ak->Prop)(hJ:∀ k h,J k h->h.length=H.length)(h0:J 0 H)
    (round:∀ l tmps k h x,J k h->xs[k]? =some x->Round P N κ2 ⟨l,tmps,T,ps,gX,body⟩ k H.length J (fun _ _=>False) (nt T ps.toList x) (h++[.loop ⟨l,tmps,T,ps,gX,body⟩ .ready none]))
    (pan:∀ h,Q (.panic (.p xN)) T h):aC P none N κ (.rangeFunc g ps gX body) Q T H:=by
 intro B w I ρ a hi ht hm
 refine wpIn_rangeFunc ?_
 intro fn _
 have entry:∃(l:Nat) (mark:List Deferred) (w1:World),(Instr.enterLoop fn a.tmps ps gX body none).run P w= .ok (l,mark) w1∧Ext w I ρ w1 I (ρ++[l])∧
     Inv P w1 I (ρ++[l]) (H++[.loop ⟨l,a.tmps,T,ps,gX,body⟩ .ready none])∧Marks κ B w1 I (ρ++[l]) (mark++a.defers):=by
  have hi1:=Inv.fY hi (.deferred (some []))
  have he1:=Ext.fY hi (.deferred (some []))
  let ob:Obj:= .loop {state:= .ready,pending:=none,fn,tmps:=a.tmps,params:=ps,assign:=gX,body,defers:=w.heap.size}
  have P2:Ext (w.alloc (.deferred (some []))) I ρ _ I _:=Ext.aI hi1 ob
  have hE:=he1.trans P2
  have hsz:(w.alloc (.deferred (some []))).heap.size=w.heap.size+1:=by simp
  rw[hsz] at hE
  refine⟨w.heap.size+1,_,_,run_enterLoop_outer fn a.tmps ps gX body,hE,?_,?_⟩
  ·have hx:dz P ((w.alloc (.deferred (some []))).alloc ob) I (ρ++[w.heap.size+1]) (.loop ⟨w.heap.size+1,a.tmps,T,ps,gX,body⟩ .ready none) (w.heap.size+1):=by
     exact TG
   have:=Inv.aI hi1 ob (blk:= .loop ⟨w.heap.size+1,a.tmps,T,ps,gX,body⟩ .ready none) (by rw[hsz];exact hx)
   rwa [hsz] at this
  ·exact Uo
 obtain⟨l,mark,w1,hen,hE,hi1,Ln⟩:=entry
 obtain⟨d,us,ij,hres,hinv⟩:=pJ (ht.ext hE) hg (hc (lp l)) hf
 refine⟨l,mark,w1,d,w1,f,us.toArray,w1,hen,hres,(fun _ _=>trivial),hinv,(fun h=>by cases h),?_⟩
 have Ji:∀ k h,(∃ h0,J k h0∧h=h0++[ak.loop ⟨l,a.tmps,T,ps,gX,body⟩ .ready none])->h.length=H.length+1:=by
  rintro k h ⟨h0,h1,rfl⟩
  simp[hJ k h0 h1]
 have LZ:=zV l κ2 (H.length+1) (fun k h=>∃ h0,J k h0∧h=h0++[ak.loop ⟨l,a.tmps,T,ps,gX,body⟩ .ready none])
  (by omega) Ji (by
   rintro k h x ⟨h0,h1,rfl⟩ hx
   have:=Round.ok (r:=⟨l,a.tmps,T,ps,gX,body⟩) (Jx:=fun _ _=>False) (hJ k h0 h1) (hJ (k+1)) (fun _ _ h=>h.elim) (hps x (Zi hx)) (fun p hp=>by
    have:=(ZC.1 hlt) p hp
    simpa[Nat.blt,ZA] using this) ht.size (round l a.tmps k h0 x h1 hx)
   intro B2 w2 I2 ρ2 us2 q1 q2 q3 q4
   obtain⟨fn2,Re,abO,abt,q5,q6⟩:=this B2 w2 I2 ρ2 us2 q1 q2 q3 q4
   refine⟨fn2,Re,abO,abt,q5,RoundIn.mono q6 ?_⟩
   rintro e w' ⟨b,I',ρ',h',rfl,q7,q8⟩
   cases b with
   | true=>exact⟨true,I',ρ',h',rfl,⟨rfl,by rwa [if_pos rfl] at q7⟩,q8⟩
   | false=>
    rw[if_neg (by decide)] at q7
    obtain⟨_,_,q9,_⟩:=q7
    exact q9.elim) _ ⟨H,h0,rfl⟩ B.pre w1 I (ρ++[l]) us hi1 ij (Ln.2.2.1) (Zz Ln.2.1 hκ)
 refine CallsIn.mono (cK none LZ) ?_
 rintro e w3 ⟨u,I3,ρ3,H3,rfl,⟨k,h',hj,rfl⟩,h1,h2,h3,h4⟩
 have fD:(h'++[ak.loop ⟨l,a.tmps,T,ps,gX,body⟩ .ready none])[H.length]? =some (.loop ⟨l,a.tmps,T,ps,gX,body⟩ .ready none):=by rw[<- hJ k h' hj];simp
 obtain⟨_,_,hT3⟩:=mS h2 fD
 exact⟨.panic (.p xN),I3,ρ3,T,_,⟨u,rfl,h3⟩,pan _,hE.w.trans h1,h2,⟨ht.size,fun s v hv=>hT3 s v hv⟩,Ln.Ks h1 h4⟩
end
section
variable {P:Program} {R:Option Nat} {N κ:Nat} {Q:Post} {T:Tm} {H H':List ak} {o:Oper} {ops:Array Oper} {rest:List Oper}
theorem bS{σ:Nat->Option Nat}{xs:List PV}{e n:Nat}:aM σ (dG (xs.map .p) e n)=dG (xs.map .p) e n:=by
 cases n with
 | zero=>rfl
 | succ n=>show ak.row (bE σ _) e=_;rw[aP];rfl
theorem cj{σ:Nat->Option Nat}{cs:List V}{e:TypeId}:aM σ (.cells cs e)= .cells (bE σ cs) e:=rfl
theorem bY{σ:Nat->Option Nat}{v:V}{vs:List V}:bE σ (v::vs)=aZ σ v::bE σ vs:=rfl
theorem cD{σ:Nat->Option Nat}:bE σ []=[]:=rfl
theorem eZ{σ:Nat->Option Nat}{x:PV}:aZ σ (.p x)= .p x:=rfl
theorem iP{σ:Nat->Option Nat}{a:Option Addr}{n c:Nat}:aZ σ (.raw a n c)= .raw a n c:=rfl
theorem fX{σ:Nat->Option Nat}:aM σ .dead= .dead:=rfl
theorem dc{n0 i n:Nat}{ms:List Nat}(h:i<n0):aZ (sg n0 ms) (bg i n)=bg i n:=cM (by
 unfold sg
 rw[show Nat.blt i n0=true by simpa[Nat.blt,ZA] using h]
 rfl)
theorem Jc{m i n:Nat}(h:i<m):aZ (below m) (bg i n)=bg i n:=cM (by
 unfold below
 rw[if_pos (by simpa[Nat.blt,ZA] using h)])
theorem aa.aaK{v:V}(h:aa P N o T H v H):aa P N o T H v (H++[.dead]):=fun R w I ρ a hi ht K QX hK=>h R w I ρ a hi ht K QX fun u w' I' ρ' hE hi' hv=>by
 have hp:Ext w' I' ρ' w' I' (ρ'++[w'.heap.size]):=Fv
 exact hK u w' I' _ (hE.trans hp) (QT hi') (hv.ext hp)
theorem aa.ru{x y:Operand}{t t2 e:TypeId}{z:List PV}{n iM:Nat}{ys:List V}{yv:V}(ho:o.op= .call {callee:= .builtin .append,args:= #[x,y],argTypes:= #[t,t2]})(hx:ev T x=some .z0)(hy:ev T y=some yv)(hs:nL P t=some (e,z))(nF:eB P t2=true)
    (hsrc:ql H z.length yv=some (ys,n))(hone:ys.all jT=true)(hby:tU P e=some iM)(hb0:0<iM)(hb:(2*n+192)*iM<=281474976710656):
    aa P N o T H (bg H.length n) (H++[dG ys e n]):=by
 cases n with
 | zero=>exact aa.aaK (aa.MG ho hx hy hs nF hsrc)
 | succ n=>exact aa.zT ho hx hy hs nF hsrc (Wo _) hone hby hb0 hb
theorem aa.YT{x y:Operand}{t e:TypeId}{z:List PV}{n iM:Nat}(ho:o.op= .makeSlice t x y)(hx:ev T x=some (.p (.int .i64 (n:Int))))(hy:ev T y=some (.p (.int .i64 (n:Int))))(hs:nL P t=some (e,z))(hby:tU P e=some iM)(hb0:0<iM)
    (hb:iM*n<=281474976710656):aa P N o T H (bg H.length n) (H++[dG ((List.replicate n z).flatten.map .p) e n]):=by
 cases n with
 | zero=>exact aa.aaK (aa.US ho hx hy hs hby)
 | succ n=>exact aa.makeSlice ho hx hy hs hby hb0 (Zg _) hb
theorem aa.wq{x y:Operand}{t:TypeId}{b:Bool}{i off j n:Nat}{H':List ak}(ho:o.op= .store t x y)(hx:ev T x=some (.ptr i off))(hy:ev T y=some (bg j n))(ht:fN P t=some (b,1))(hs:gU H i off [bg j n]=some H'):aa P N o T H .top H':=by
 refine aa.store ho hx hy Oq (by cases n <;> rfl) ht (by rw[vT];rfl) (by rw[vT];exact hs)
theorem aa.XW{x y:Operand}{t t2 e:TypeId}{z:List PV}{i n:Nat}{zs xs:List PV}(ho:o.op= .call {callee:= .builtin .copy,args:= #[x,y],argTypes:= #[t,t2]})(hx:ev T x=some (bg i n))(hy:ev T y=some (.p (.is xs n)))(hs:nL P t=some (e,z))
    (hH:H[i]? =some (dG (zs.map .p) e n))(hlen:xs.length=n*z.length)(hz:zs.length=xs.length)(hone:(xs.map V.p).all jT=true)(hsrc:ql H z.length (.p (.is xs n))=some (xs.map .p,n)):aa P N o T H (.p (.int .i64 (n:Int))) (H.set i (dG (xs.map .p) e n)):=by
 cases n with
 | zero=>
  have e0:H.set i (dG (xs.map .p) e 0)=H:=qA hH
  rw[e0]
  exact aa.dZ (by simp[ho]) fun w I ρ a hi hT=>by
   obtain⟨hu,⟨bb,nj⟩,wW,hzz⟩:=fC hs
   obtain⟨bx,C6⟩:∃ bx,a.eval x= .slice bx 0 0:=hT.ev hx
   obtain⟨us,⟨ad,vU,Au⟩,_,hfc,cT,j6⟩:=lO hi (hT.ev hy) hsrc
   have hf:=hfc 0 (Zg _)
   refine⟨.int .i64 0,w,I,ρ,.inl ?_,Ext.refl _ _ _,hi,rfl⟩
   rw[Au] at hf
   have hlo:(Builtin.lenOf (.slice ad 0 vU)).run P w= .ok 0 w:=by simp[Builtin.lenOf]
   rw[Nat.zero_mul,JP] at hf
   cases bx with
   | none=>simp[execOp,ho,Go.resolve,Go.invoke,Go.builtin,Builtin.copy_,run_underlying hu,C6,aS nj,Au,hlo,hf,goInt]
   | some bx=>simp[execOp,ho,Go.resolve,Go.invoke,Go.builtin,Builtin.copy_,run_underlying hu,C6,aS nj,Au,hlo,hf,goInt,Go.storeCells,Sem.run]
 | succ n=>
  have:=aa.Pm (N:=N) (len:=n+1) ho hx hy hs hH hsrc (Zg _) (by rw[Zr,Zr,hz];exact Zg _) hone
  have e1:=yN (xs.map V.p) (zs.map V.p) [] (by simp[hz])
  simp only[FF,CP] at e1
  rw[e1] at this
  exact this
theorem fz{α:Type}{f:α->List PV}(h:∀ x,jK ((f x).map .p)=true):∀ l:List α,jK ((l.flatMap f).map .p)=true:=by
 have app:∀ a b:List V,jK a=true->jK b=true->jK (a++b)=true:=fun a b=>by
  induction a with
  | nil=>intro _ h;exact h
  | cons x a ih=>
   intro h1 h2
   unfold jK at h1
   rw[Zo] at h1
   show(KX x&&jK (a++b))=true
   rw[h1.1,ih h1.2 h2];rfl
 intro l
 induction l with
 | nil=>rfl
 | cons x l ih=>rw[ZJ,Zy];exact app _ _ (h x) ih
theorem aa.FH(m k:Nat){g:FuncId}{args:List PV}{xs:List PV}{e n:Nat}(hp:aE P g (args.map .p) [] fun v H'=>v=bg 0 n∧H'=[dG (xs.map .p) e n])(hk:H.length=k)(hsc:jK (xs.map .p)=true){f:Operand}{ys:Array Operand}{ts:Array TypeId}{fv:V}{vs all:List V}(ho:o.op= .call {callee:= .value f,args:=ys,argTypes:=ts})(hf:ev T f=some fv)
    (hxs:lG T ys.toList=some vs)(hc:callee vs fv=some (g,all))(hb:c9 (ct H m) all=some args)(hg:an P g=true):aa P N o T H (bg k n) (H++[dG (xs.map .p) e n]):=by
 have:=aa.zE (N:=N) (T:=T) (H:=H) m hp uq (by
  cases n with
  | zero=>rfl
  | succ n=>show(jK (xs.map .p)&&true)=true;rw[hsc];rfl) ho hf hxs hc hb hg
 rw[cM (σ:=CQ H.length) (i:=0) (j:=k) (by unfold CQ;rw[hk,Il])] at this
 rwa [show([dG (xs.map V.p) e n]:List ak).map (aM (CQ H.length))=[dG (xs.map .p) e n] by rw[ZE,bS];rfl] at this
end
section
variable {P:Program} {R:Option Nat} {N κ:Nat} {Q:Post} {T:Tm} {H H2:List ak} {o:Oper} {l:List Oper}
theorem aC.kQ{id:Nat}(m:Nat)(H2:List ak)(DR:P.follows .mixedOrders=true)(hk:ld m l=true)(hm:m<=l.length)(h:aN P N l.toArray H H2 (fun T'=>aq P R N κ l.toArray (l.drop m) Q T' H2) false (l.take m) T):aC P R N κ (.region id l.toArray true) Q T H:=by
 intro B w I ρ a hi ht hmk
 obtain⟨vs,Tx,q,h0,DA,_,h1,h2⟩:=aN.vals h
 have hq:q<m:=by have:=DA rfl;simp at this;omega
 have hlen:(l.take m).length=m:=by simp;omega
 rw[hlen] at h2
 refine wpIn_region_any DR ?_
 have hi':Inv P w.drew I ρ H:=hi.drew
 refine qm (κ:=κ) (H:=H) (G:=(· =H2)) (gS.of hk) hm (q:=q) (B:=B) (w0:=w) (I0:=I) (ρ0:=ρ) h0 (fun i o tG ho=>by
  obtain⟨k1,k2,k3⟩:=h1 i o (by rw[ZU,if_pos tG];exact ho)
  refine⟨k1,?_,k3⟩
  rcases k2 with⟨a1,a2,a3⟩ | ⟨a1,a2,a3⟩
  ·exact .inl ⟨a1,fun H0 h0=>by rcases h0 with rfl | rfl <;> assumption⟩
  ·exact .inr ⟨a1,a2,fun R w I ρ a hi ht K QX hK=>a3 R w I ρ a hi ht K QX fun u w' I' ρ' e1 e2 e3=>hK u w' I' ρ' _ rfl e1 e2 e3⟩) ?_ _ _ a w.drew (by simp) (by simp) ?_ ?_ ?_
 ·intro H3 hG a' w' I' ρ' he hi2 nF hm2
  have hG:H3=H2:=by simpa[hq] using hG
  subst hG
  exact Lg
 ·exact DS
 ·exact BI
 ·have e0:fl (Array.replicate l.length false) q=false:=by
    exact QZ
  refine⟨I,ρ,Ext.drew.w,⟨H,(show(bif fl (Array.replicate l.length false) q then _ else H=H) from by rw[e0];rfl),hi'⟩,ht.size,fun s v hv=> ?_,hmk.ext Ext.drew⟩
  exact Fp
end
def SX:V->Bool
 | .row _ _=>true
 | .z0=>true
 | .raw _ _ _=>true
 | _=>false
def dx(R:V->V->Prop):List V->List V->Prop
 | [],l=>l=[]
 | c::cs,l=>∃ d ds,l=d::ds∧R c d∧dx R cs ds
theorem dx.mono{R S:V->V->Prop}(h:∀ v v',R v v'->S v v'):∀(cs l:List V),dx R cs l->dx S cs l
 | [],_,hl=>hl
 | _::cs,_,⟨d,ds,e,h1,h2⟩=>⟨d,ds,e,h _ _ h1,dx.mono h cs ds h2⟩
theorem dx.len{R:V->V->Prop}:∀(cs l:List V),dx R cs l->l.length=cs.length
 | [],_,hl=>by rw[show _=_ from hl]
 | _::cs,_,⟨d,ds,e,_,h2⟩=>by rw[e,Zp,Zp,dx.len cs ds h2]
theorem dx.app{R:V->V->Prop}:∀(cs l Ei l2:List V),dx R cs l->dx R Ei l2->dx R (cs++Ei) (l++l2)
 | [],_,_,_,hl,h2=>by rw[show _=_ from hl];exact h2
 | _::cs,_,Ei,l2,⟨d,ds,e,h1,h2⟩,h3=>⟨d,ds++l2,by rw[e];rfl,h1,dx.app cs ds Ei l2 h2 h3⟩
theorem dx.refl{R:V->V->Prop}(h:∀ v,R v v):∀ cs:List V,dx R cs cs
 | []=>rfl
 | c::cs=>⟨c,cs,rfl,h c,dx.refl h cs⟩
theorem dx.split{R:V->V->Prop}:∀(cs Ei l:List V),dx R (cs++Ei) l->∃ l1 l2,l=l1++l2∧dx R cs l1∧dx R Ei l2
 | [],_,l,h=>⟨[],l,rfl,rfl,h⟩
 | c::cs,Ei,_,⟨d,ds,e,h1,h2⟩=>by
  obtain⟨l1,l2,e2,h3,h4⟩:=dx.split cs Ei ds h2
  exact⟨d::l1,l2,by rw[e,e2];rfl,⟨d,l1,rfl,h1,h3⟩,h4⟩
section
variable {P:Program} {w w':World} {I J:Nat->Prop} {ρ σ:List Nat} {H:List ak}
def yX(P:Program)(w:World)(I:Nat->Prop)(ρ:List Nat)(p:V×V):Prop:=∃ a n c,p.1= .raw a n c∧aG P w I ρ p.2 (.slice a n c)
def iD(ps:List (V×V))(v v':V):Prop:=v=v'∨(v,v')∈ps
def oC(ps:List (V×V))(v v':V):Prop:=(SX v=false∧v'=v)∨(SX v=true∧(∃ a n c,v'= .raw a n c)∧(v',v)∈ps)
def oA(ps:List (V×V))(x x':ak):Prop:=x=x'∨∃ cs cs' e,dx (iD ps) cs cs'∧((x= .cells cs e∧x'= .cells cs' e)∨∃ t,x= .row (cs++t) e∧x'= .row cs' e)
def ff(ps:List (V×V))(H H':List ak):Prop:=H.length=H'.length∧∀(i:Nat) (x x':ak),H[i]? =some x->H'[i]? =some x'->oA ps x x'
theorem iD.refl{ps:List (V×V)}(v:V):iD ps v v:= .inl rfl
theorem uX{ps:List (V×V)}:∀(cs cs':List V),dx (oC ps) cs cs'->dx (iD ps) cs' cs
 | [],_,h=>by rw[show _=_ from h];exact rfl
 | c::cs,_,⟨d,ds,e,h1,h2⟩=>by
  subst e
  refine⟨c,cs,rfl,?_,uX cs ds h2⟩
  rcases h1 with⟨_,h⟩ | ⟨_,_,h⟩
  ·exact .inl h
  ·exact .inr h
theorem ff.set{ps:List (V×V)}{H:List ak}{k:Nat}{x x':ak}(h:H[k]? =some x)(hx:oA ps x x'):ff ps H (H.set k x'):=by
 refine⟨by rw[yl],fun i y y' h1 h2=> ?_⟩
 rw[Zu] at h2
 split at h2
 ·rename_i e
  subst e
  split at h2
  ·cases h2
   rw[h] at h1;cases h1;exact hx
  ·cases h2
 ·rw[h1] at h2;cases h2;exact .inl rfl
theorem IV{ps:List (V×V)}(hp:∀ p∈ps,yX P w I ρ p){v v':V}{u:Value}(h:iD ps v v')(hr:aG P w I ρ v u):aG P w I ρ v' u:=by
 rcases h with rfl | h
 ·exact hr
 ·obtain⟨a,n,c,h1,h2⟩:=hp _ h
  dsimp only at h1 h2
  rw[h1] at hr
  rw[show u=_ from hr]
  exact h2
theorem sJ{ps:List (V×V)}(hp:∀ p∈ps,yX P w I ρ p):∀(vs vs':List V) (us:List Value),dx (iD ps) vs vs'->aj P w I ρ vs us->aj P w I ρ vs' us
 | [],_,us,h,hr=>by rw[show _=_ from h];exact hr
 | v::vs,_,us,⟨d,ds,e,h1,h2⟩,⟨u,us',e2,h3,h4⟩=>by
  rw[e]
  exact⟨u,us',e2,IV hp h1 h3,sJ hp vs ds us' h2 h4⟩
theorem yF:∀(cs t:List V) (us:List Value),aj P w I ρ (cs++t) us->aj P w I ρ cs (us.take cs.length)
 | [],t,us,h=>by rw[CP,JP];rfl
 | c::cs,t,_,⟨u,us',rfl,h1,h2⟩=>⟨u,us'.take cs.length,rfl,h1,yF cs t us' h2⟩
theorem Gt{ps:List (V×V)}(hp:∀ p∈ps,yX P w I ρ p){x x':ak}{b:Nat}(h:oA ps x x')(hr:dz P w I ρ x b):dz P w I ρ x' b:=by
 rcases h with rfl | ⟨cs,cs',e,h1,⟨rfl,rfl⟩ | ⟨t,rfl,rfl⟩⟩
 ·exact hr
 ·obtain⟨arr,h2,h3⟩:=hr
  exact⟨arr,h2,sJ hp _ _ _ h1 h3⟩
 ·obtain⟨arr,h2,h3,h4⟩:=hr
  have hl:=dx.len _ _ h1
  rw[Zc] at h3
  have h5:=yF cs t _ h4
  rw[List.take_take,Zc,Hl (by omega)] at h5
  exact⟨arr,h2,by rw[hl];omega,by rw[hl];exact sJ hp _ _ _ h1 h5⟩
theorem mY{ps:List (V×V)}{x x':ak}(h:oA ps x x'):x'.live=x.live:=by
 rcases h with rfl | ⟨cs,cs',e,h1,⟨rfl,rfl⟩ | ⟨t,rfl,rfl⟩⟩ <;> rfl
theorem AL{ps:List (V×V)}(hp:∀ p∈ps,yX P w I ρ p){H':List ak}(h:ff ps H H')(hi:Inv P w I ρ H):Inv P w I ρ H':=by
 have hg:∀(i:Nat) (x':ak),H'[i]? =some x'->∃ x,H[i]? =some x∧oA ps x x':=fun i x' hx=>by
  have hl:i<H.length:=by rw[h.1];exact(Za.1 hx).1
  exact⟨_,Zb hl,h.2 i _ x' (Zb hl) hx⟩
 refine⟨by rw[hi.len,h.1],fun i b x h1 h2 h3=> ?_,hi.ib,fun i b x h1 h2 h3=> ?_,fun i j b x y h1 h2 h3 h4 h5 h6=> ?_,fun i b x h1 h2=> ?_,hi.gl⟩
 ·obtain⟨y,h4,h5⟩:=hg i x h2
  exact hi.iq i b y h1 h4 (by rw[<- mY h5];exact h3)
 ·obtain⟨y,h4,h5⟩:=hg i x h2
  exact hi.live i b y h1 h4 (by rw[<- mY h5];exact h3)
 ·obtain⟨x2,h7,h8⟩:=hg i x h3
  obtain⟨y2,h9,h10⟩:=hg j y h4
  exact hi.gJ i j b x2 y2 h1 h2 h7 h9 (by rw[<- mY h8];exact h5) (by rw[<- mY h10];exact h6)
 ·obtain⟨y,h4,h5⟩:=hg i x h2
  exact Gt hp h5 (hi.rel i b y h1 h4)
theorem yX.ext(h:Ext w I ρ w' J σ){p:V×V}(hp:yX P w I ρ p):yX P w' J σ p:=by
 obtain⟨a,n,c,h1,h2⟩:=hp
 exact⟨a,n,c,h1,aG.ext h h2⟩
theorem yT{v:V}{u:Value}(h:aG P w I ρ v u)(hs:SX v=true):∃ a n c,u= .slice a n c:=by
 cases v with
 | row i len=>obtain⟨b,e,cap,_,hu,_⟩:=h;exact⟨_,_,_,hu⟩
 | z0=>obtain⟨a,hu⟩:=h;exact⟨_,_,_,hu⟩
 | raw a n c=>exact⟨a,n,c,h⟩
 | _=>cases hs
theorem LY:∀(cs:List V) (us:List Value),aj P w I ρ cs us->∃ cs' ps,dx (oC ps) cs cs'∧aj P w I ρ cs' us∧∀ p∈ps,yX P w I ρ p
 | [],us,h=>⟨[],[],rfl,h,fun p hp=>by cases hp⟩
 | v::cs,_,⟨u,us',rfl,h1,h2⟩=>by
  obtain⟨cs',ps,h3,h4,h5⟩:=LY cs us' h2
  cases hs:SX v with
  | false=>exact⟨v::cs',ps,⟨v,cs',rfl,.inl ⟨hs,rfl⟩,h3⟩,⟨u,us',rfl,h1,h4⟩,h5⟩
  | true=>
   obtain⟨a,n,c,rfl⟩:=yT h1 hs
   refine⟨.raw a n c::cs',(.raw a n c,v)::ps,⟨_,_,rfl,.inr ⟨hs,⟨a,n,c,rfl⟩,Zx⟩,dx.mono (fun x x' hx=> ?_) _ _ h3⟩,⟨_,us',rfl,rfl,h4⟩,fun p hp=> ?_⟩
   ·rcases hx with hx | ⟨k1,k2,k3⟩
    ·exact .inl hx
    ·exact .inr ⟨k1,k2,Zk _ k3⟩
   ·rcases Zv.1 hp with rfl | hp
    ·exact⟨a,n,c,rfl,h1⟩
    ·exact h5 p hp
theorem Fe{um:V}{post:List V}(hs:SX um=true):∀(pre:List V) (us:List Value),aj P w I ρ (pre++um::post) us->∃ a n c,aj P w I ρ (pre++ .raw a n c::post) us∧aG P w I ρ um (.slice a n c)
 | [],_,⟨u,us',rfl,h1,h2⟩=>by
  obtain⟨a,n,c,rfl⟩:=yT h1 hs
  exact⟨a,n,c,⟨_,us',rfl,rfl,h2⟩,h1⟩
 | p::pre,_,⟨u,us',rfl,h1,h2⟩=>by
  obtain⟨a,n,c,h3,h4⟩:=Fe hs pre us' h2
  exact⟨a,n,c,⟨u,us',rfl,h1,h3⟩,h4⟩
theorem BW{k:Nat}{old new:ak}(hk:H[k]? =some old)(hl:old.live=true)(hr:∀ b,ρ[k]? =some b->dz P w I ρ old b->dz P w I ρ new b)(hi:Inv P w I ρ H):Inv P w I ρ (H.set k new):=by
 have vS:k<ρ.length:=by rw[hi.len];exact(Za.1 hk).1
 have hb:=Zb vS
 exact hi.write hb hk hl ⟨cR.refl _ _ _,ZG _⟩ rfl (fun _ _=>rfl) (hr _ hb (hi.rel k _ old hb hk))
theorem aD.UE{f:FuncId}{args:List V}{Qr:V->List ak->Prop}{Qp:PV->List ak->Prop}
    (h:∀ w I ρ,Inv P w I ρ H->∃(H0:List ak) (ps:List (V×V)),Inv P w I ρ H0∧(∀ p∈ps,yX P w I ρ p)∧aD P f args H0 (fun v H2=>∃ H3,ff ps H2 H3∧Qr v H3) (fun y H2=>∃ H3,ff ps H2 H3∧Qp y H3)):aD P f args H Qr Qp:=by
 intro w I ρ us hi ij
 obtain⟨H0,ps,h1,h2,h3⟩:=h w I ρ hi
 refine(h3 w I ρ us h1 ij).mono ?_
 rintro e w' (⟨u,v,J,σ,H2,e1,⟨H3,ht,hq⟩,h4,h5,h6⟩ | ⟨u,y,J,σ,H2,e1,⟨H3,ht,hq⟩,h4,h5,h6⟩)
 ·exact .inl ⟨u,v,J,σ,H3,e1,hq,h4,AL (fun p hp=>(h2 p hp).ext h4) ht h5,h6⟩
 ·exact .inr ⟨u,y,J,σ,H3,e1,hq,h4,AL (fun p hp=>(h2 p hp).ext h4) ht h5,h6⟩
theorem aD.O6{f:FuncId}{args:List V}{Qr:V->List ak->Prop}{Qp:PV->List ak->Prop}(k:Nat){cs:List V}{e:TypeId}(hk:H[k]? =some (.row cs e))
    (h:∀ cs' ps,dx (oC ps) cs cs'->aD P f args (H.set k (.row cs' e)) (fun v H2=>∃ H3,ff ps H2 H3∧Qr v H3) (fun y H2=>∃ H3,ff ps H2 H3∧Qp y H3)):aD P f args H Qr Qp:=by
 refine aD.UE fun w I ρ hi=> ?_
 have vS:k<ρ.length:=by rw[hi.len];exact(Za.1 hk).1
 have hb:=Zb vS
 obtain⟨arr,h1,h2,h3⟩:=hi.rel k _ _ hb hk
 obtain⟨cs',ps,h4,h5,h6⟩:=LY cs _ h3
 have hl:=dx.len _ _ h4
 exact⟨_,ps,BW hk rfl (fun b iY _=>by rw[hb] at iY;cases iY;exact⟨arr,h1,by rw[hl];exact h2,by rw[hl];exact h5⟩) hi,h6,h cs' ps h4⟩
theorem aD.KD{f:FuncId}{args:List V}{Qr:V->List ak->Prop}{Qp:PV->List ak->Prop}(k:Nat){pre post:List V}{um:V}{e:TypeId}(hk:H[k]? =some (.cells (pre++um::post) e))(hs:SX um=true)
    (h:∀ a n c,aD P f args (H.set k (.cells (pre++ .raw a n c::post) e)) (fun v H2=>∃ H3,ff [(.raw a n c,um)] H2 H3∧Qr v H3) (fun y H2=>∃ H3,ff [(.raw a n c,um)] H2 H3∧Qp y H3)):aD P f args H Qr Qp:=by
 refine aD.UE fun w I ρ hi=> ?_
 have vS:k<ρ.length:=by rw[hi.len];exact(Za.1 hk).1
 have hb:=Zb vS
 obtain⟨arr,h1,h3⟩:=hi.rel k _ _ hb hk
 obtain⟨a,n,c,h4,h5⟩:=Fe hs pre _ h3
 exact⟨_,[(.raw a n c,um)],BW hk rfl (fun b iY _=>by rw[hb] at iY;cases iY;exact⟨arr,h1,h4⟩) hi,fun p hp=>by rw[Zw.1 hp];exact⟨a,n,c,rfl,h5⟩,h a n c⟩
theorem aD.pad{f:FuncId}{args:List V}{Qr:V->List ak->Prop}{Qp:PV->List ak->Prop}(h:aD P f args (H++[.dead]) Qr Qp):aD P f args H Qr Qp:=by
 intro w I ρ us hi ij
 have o9:∀(i b:Nat) (x:ak),(ρ++[w.heap.size])[i]? =some b->(H++[.dead])[i]? =some x->x.live=true->ρ[i]? =some b∧H[i]? =some x:=fun i b x h1 h2 h3=>by
  rcases bO h2 with⟨h5,h6⟩ | ⟨h5,h6⟩
  ·rw[Zd (by rw[hi.len];exact h5)] at h1
   exact⟨h1,h6⟩
  ·rw[h6] at h3;cases h3
 have hp:Inv P w I (ρ++[w.heap.size]) (H++[.dead]):=by
  refine⟨by simp[hi.len],fun i b x h1 h2 h3=> ?_,hi.ib,fun i b x h1 h2 h3=> ?_,fun i j b x y h1 h2 h3 h4 h5 h6=> ?_,fun i b x h1 h2=> ?_,hi.gl⟩
  ·obtain⟨h4,h5⟩:=o9 i b x h1 h2 h3
   exact hi.iq i b x h4 h5 h3
  ·obtain⟨h4,h5⟩:=o9 i b x h1 h2 h3
   exact hi.live i b x h4 h5 h3
  ·obtain⟨h7,h8⟩:=o9 i b x h1 h3 h5
   obtain⟨h9,h10⟩:=o9 j b y h2 h4 h6
   exact hi.gJ i j b x y h7 h9 h8 h10 h5 h6
  ·cases hl:x.live with
   | false=>exact dz.ie hl
   | true=>
    obtain⟨h4,h5⟩:=o9 i b x h1 h2 hl
    exact dz.mono (fun _ h=>h) (fun _ _=>rfl) ⟨_,rfl⟩ (fun _ _ _ h=>h) rfl (hi.rel i b x h4 h5)
 have hE:∀(w':World) (J:Nat->Prop) (σ:List Nat),Ext w I (ρ++[w.heap.size]) w' J σ->Ext w I ρ w' J σ:=fun w' J σ h3=>
  ⟨⟨h3.w.os,h3.w.tape,h3.w.output,h3.w.size,fun b g1 g2=>h3.w.keep b g1 fun h=>by
      rcases Zs.1 h with h | h
      ·exact g2 h
      ·have:=Zw.1 h;omega,h3.w.shape,h3.w.mB,h3.w.bu,fun b h=>by
   rcases h3.w.fk b h with h | h | h
   ·exact .inl h
   ·rcases Zs.1 h with h | h
    ·exact .inr (.inl h)
    ·have:=Zw.1 h;exact .inr (.inr (by omega))
   ·exact .inr (.inr h),h3.w.cL,h3.w.kX,fun b h=>by
   rcases h3.w.new b h with h | h
   ·rcases Zs.1 h with h | h
    ·exact .inl h
    ·have:=Zw.1 h;exact .inr (by omega)
   ·exact .inr h⟩,(Xi ρ [w.heap.size]).trans h3.pre⟩
 have abW:aj P w I (ρ++[w.heap.size]) args us:=aj.mono (fun _ h=>h) (fun _ _=>rfl) ⟨_,rfl⟩ (fun _ _ _ h=>h) args us ij
 refine(h w I _ us hp abW).mono ?_
 rintro e w' (⟨u,v,J,σ,H2,e1,hq,h4,h5,h6⟩ | ⟨u,y,J,σ,H2,e1,hq,h4,h5,h6⟩)
 ·exact .inl ⟨u,v,J,σ,H2,e1,hq,hE _ _ _ h4,h5,h6⟩
 ·exact .inr ⟨u,y,J,σ,H2,e1,hq,hE _ _ _ h4,h5,h6⟩
end
section
variable {P:Program} {R:Option Nat} {N κ:Nat} {Q:Post} {T:Tm} {H:List ak} {o:Oper}
theorem aC.uG{c:Code}{H':List ak}(e:H'=H)(h:aC P R N κ c Q T H'):aC P R N κ c Q T H:=e▸h
theorem aa.Es{x y:Operand}{t:TypeId}{kd:IntKind}{sz i n:Nat}{z:Int}(ho:o.op= .indexAddr t x y)(hx:ev T x=some (bg i n))(hy:ev T y=some (.p (.int kd z)))(ht:eB P t=true)(he:nq P t=some sz)(h0:0<=z)(h1:z<(n:Int)):aa P N o T H (.ptr i (z.toNat*sz)) H:=by
 cases n with
 | zero=>omega
 | succ n=>exact aa.iF ho hx hy ht he h0 (by omega)
theorem aa.Wd(m k:Nat){g:FuncId}{args:List PV}{xs:List PV}{e:TypeId}{n:Nat}{x y:Int}(hp:aE P g (args.map .p) [] fun v H'=>v= .tuple [.row 0 n,.p (.int .i64 x),.p (.int .i64 y)]∧H'=[.row (xs.map .p) e])(hk:H.length=k)(hsc:jK (xs.map .p)=true){f:Operand}{ys:Array Operand}{ts:Array TypeId}{fv:V}{vs all:List V}(ho:o.op= .call {callee:= .value f,args:=ys,argTypes:=ts})(hf:ev T f=some fv)
    (hxs:lG T ys.toList=some vs)(hc:callee vs fv=some (g,all))(hb:c9 (ct H m) all=some args)(hg:an P g=true):aa P N o T H (.tuple [.row k n,.p (.int .i64 x),.p (.int .i64 y)]) (H++[.row (xs.map .p) e]):=by
 have:=aa.zE (N:=N) (T:=T) (H:=H) m hp rfl (by show(jK (xs.map .p)&&true)=true;rw[hsc];rfl) ho hf hxs hc hb hg
 rw[show([ak.row (xs.map V.p) e]:List ak).map (aM (CQ H.length))=[.row (xs.map .p) e] by show[ak.row (bE _ _) _]=_;rw[aP]] at this
 rw[show aZ (CQ H.length) (.tuple [.row 0 n,.p (.int .i64 x),.p (.int .i64 y)])= .tuple [.row k n,.p (.int .i64 x),.p (.int .i64 y)] by show V.tuple [.row (H.length+0) n,_,_]=_;rw[hk];rfl] at this
 exact this
end
section
variable {P:Program} {R:Option Nat} {N κ:Nat} {Q:Post} {T T0:Tm} {H:List ak} {l:List Oper} {vs:Nat->V} {q:Nat}
theorem Dx{F:Fence}{n:Nat}{o:Oper}{a:Act}{w:World}{K K':Act->World->Prop}{QX QX':Exit->Act->World->Prop}(h:∀ a w,K a w->K' a w)(hq:∀ e a w,QX e a w->QX' e a w)(hl:LetsOut QX->LetsOut QX')(hh:o.wpIn F n P a w K QX):o.wpIn F n P a w K' QX':=by
 unfold Oper.wpIn at*
 refine⟨hh.1,?_⟩
 have hh:=hh.2
 generalize (o.semAt F.round a.eval).run P w=r at*
 cases r with
 | ok x w'=>
  cases x <;> simp only[Oper.uponIn] at hh ⊢ <;>
   first
    | exact h _ _ hh
    | exact⟨hh.1,CallsIn.mono hh.2 (fun e w'' he=>by cases e <;> first | exact h _ _ he | exact hq _ _ _ he | exact hl he)⟩
    | exact⟨hh.1,RowsIn.mono hh.2 (fun _ _ he=>h _ _ he)⟩
    | exact⟨hh.1,RoundIn.mono hh.2 (fun e w'' he=>by cases e <;> first | exact h _ _ he | exact hq _ _ _ he | exact hl he)⟩
 | halt x w'=>cases x <;> simp only[Oper.uponIn] at hh ⊢ <;> first | exact hh | exact hq _ _ _ hh
def LP(T0:Tm)(l:List Oper):Bool:=T0.all fun p=>l.all fun o=> !(o.dst==some p.1)
theorem Rk:∀{T:Tm} {s:Nat} {v:V},lk T s=some v->∃ p∈T,p.1=s
 | (t,x)::T,s,v,h=>by
  unfold lk at h
  cases hb:Nat.beq t s with
  | true=>exact⟨_,Zx,ZL hb⟩
  | false=>
   rw[hb] at h
   obtain⟨p,h1,h2⟩:=Rk h
   exact⟨p,Zk _ h1,h2⟩
theorem MV:∀{A B:Tm} {s:Nat} {v:V},lk (A++B) s=some v->lk A s=some v∨lk B s=some v
 | [],B,s,v,h=> .inr h
 | (t,x)::A,B,s,v,h=>by
  simp only[NS,lk] at h ⊢
  cases hb:Nat.beq t s with
  | true=>rw[hb] at h;exact .inl h
  | false=>rw[hb] at h;exact MV h
theorem GO(hk:gS (q+1) l)(hm:q<l.length){o0:Oper}(NL:l[q]? =some o0)(Uv:o0.guard=none){B:pV}{w0:World}{I0:Nat->Prop}{ρ0:List Nat}{QX:Exit->Act->World->Prop}{Tx:Nat->Tm}(h0:Tx 0=T)
    (h1:∀ i o,i<q->l[i]? =some o->bC N o.dst=true∧YJ P N l.toArray o (Tx i) H (vs i)∧Tx (i+1)=gN (Tx i) o.dst (vs i))(hs0:Sub T0 T)(hk0:LP T0 (l.take q)=true)
    (hF:∀ a w I ρ,cR w0 I0 ρ0 w I ρ->Inv P w I ρ H->bR P w I ρ N (cu l.toArray o0 (Tx q)++T0) a.tmps->Marks κ B w I ρ a.defers->wpListIn (Fr R) 0 P l.toArray (fun e a w=>e≠ .normal∧QX e a w) [o0] a w):
    ∀(fuel:Nat) (listed:Array Bool) (a:Act) (w:World),listed.toList.count false=fuel->listed.size=l.length->(∀ i o,l[i]? =some o->fl listed i=true->∀ e∈o.after,Region.binds .any e=true->fl listed e.on=true)->(∀ i,q<=i->fl listed i=false)->
    SI κ P N H l T vs B w0 I0 ρ0 (fl listed) a w->wpAnyIn (Fr R) 0 P .any l.toArray QX fuel listed a w:=by
 intro fuel
 have hlk:=B1 (vs:=vs) hk (M:=q) (by omega) h0 (fun i o hi ho=>(h1 i o hi ho).2.2)
 induction fuel with
 | zero=>
  intro listed a w sF hsz hcl CL hsi
  have hlt:q<listed.size:=by omega
  have h2:=List.count_eq_zero.1 sF
  have h4:=CL q (Zg _)
  unfold fl at h4
  simp[hlt] at h4
  exact absurd (by rw[<- h4];exact Array.mem_toList_iff.2 (Array.getElem_mem hlt)) h2
 | succ fuel ih=>
  intro listed a w sF hsz hcl CL hsi
  obtain⟨i0,rU,hmin⟩:∃ i0,(i0<q+1∧fl listed i0=false)∧∀ j,j<i0->fl listed j=true:=by
   have hex:∃ i,i<q+1∧fl listed i=false:=⟨q,by omega,CL q (Zg _)⟩
   obtain⟨k,⟨h3,h4⟩,h5⟩:=exists_least _ hex
   refine⟨k,⟨h3,h4⟩,fun j hj=> ?_⟩
   cases h:fl listed j with
   | true=>rfl
   | false=>have:=h5 j ⟨by omega,h⟩;omega
  have hoi:l[i0]? =some (l[i0]'(by omega)):=Zb _
  have Gr:i0∈Region.ready .any l.toArray listed:=by
   refine mem_ready.2 ⟨?_,(l[i0]'(by omega)),by rw[List.getElem?_toArray];exact hoi,fun e he hb=>hmin e.on (hk.back i0 _ hoi e he hb)⟩
   have:=rU.2
   unfold fl at this
   have hlt:i0<listed.size:=by omega
   simp[hlt] at this ⊢
   exact this
  refine⟨(fun h=>by rw[h] at Gr;cases Gr),fun i hi=> ?_⟩
  obtain⟨h3,o,ho',hev⟩:=mem_ready.1 hi
  have ho:l[i]? =some o:=by simpa using ho'
  have hilt:=cZ ho
  have BK:∀ j oj,l[j]? =some oj->(decide (j=i)||fl listed j)=true->∀ e∈oj.after,Region.binds .any e=true->(decide (e.on=i)||fl listed e.on)=true:=fun j oj hj wZ e he hb=>by
   exact IM
  have tG:i<q+1:=by
   rcases ZS i (q+1) with h | h
   ·exact h
   ·exact abn
  have w7:fl listed i=false:=by
   exact KK
  obtain⟨I,ρ,he,hinv,hs,cT,hmk⟩:=hsi
  have tD:i<=q->∀ s v,lk (cu l.toArray o (Tx i)) s=some v->aG P w I ρ v (a.tmps.getD s undef):=by
   intro Kr s v hv
   unfold cu at hv
   rw[mX] at hv
   split at hv
   ·rename_i hs'
    rw[hlk i Kr] at hv
    refine cT s v ?_
    rw[<- hv]
    refine iR hk fun j oj hj hd=> ?_
    by_cases hji:j=i
    ·subst hji;rw[w7];simp
    ·exact SQ
   ·cases hv
  unfold wpOpIn
  simp only[ho']
  by_cases Kr:i=q
  ·subst Kr
   have:o=o0:=by rw[ho] at NL;exact ZB NL
   subst this
   have Bb:bR P w I ρ N (cu l.toArray o (Tx i)++T0) a.tmps:=⟨hs,fun s v hv=>by
    rcases MV hv with h | h
    ·exact tD (Zg _) s v h
    ·refine cT s v ?_
     rw[ng (fun j oj hj wZ hd=> ?_)]
     ·exact hs0 s v h
     ·obtain⟨p,hp1,D4⟩:=Rk h
      have h5:=ZC.1 hk0 p hp1
      have hjq:j<i:=by
       rcases ZS j i with h | h
       ·exact h
       ·rw[CL j h] at wZ;cases wZ
      have h6:=ZC.1 h5 oj (Zi (by rw[ZU,if_pos hjq];exact hj))
      rw[D4,hd] at h6
      simp at h6⟩
   have hA:=hF a w I ρ he hinv Bb hmk
   simp only[wpListIn,Region.wanted,Uv,if_true] at hA ⊢
   exact Dx (QX:=fun e a w=>e≠ .normal∧QX e a w) (fun a w h=>absurd rfl (show Exit.normal≠ .normal∧_ from h).1) (fun e a w h=>h.2) (fun⟨a,w,h⟩=>⟨a,w,h.2⟩) hA
  ·have abY:i<q:=by omega
   obtain⟨v7,hy,_⟩:=h1 i o abY ho
   have Bb:bR P w I ρ N (cu l.toArray o (Tx i)) a.tmps:=⟨hs,tD (by omega)⟩
   have next:∀ u w' I' ρ',Ext w I ρ w' I' ρ'->Inv P w' I' ρ' H->aG P w' I' ρ' (vs i) u->wpAnyIn (Fr R) 0 P .any l.toArray QX fuel (listed.setIfInBounds i true) (a.put o.dst u) w':=by
    exact Qk
   rcases hy with⟨hg,hop⟩ | ⟨j,want,s,c,x,v',hg,pE,GS,hb,hc,hv,hop⟩
   ·exact Eh
   ·exact Rj
theorem aC.BD{id:Nat}(q:Nat)(T0:Tm){o0:Oper}(NL:l[q]? =some o0)(Uv:o0.guard=none)(DR:P.follows .mixedOrders=true)(hk:ld (q+1) l=true)(hs0:Sub T0 T)(hk0:LP T0 (l.take q)=true)
    (h:ay P N l.toArray H (fun T'=>aq P R N κ l.toArray [o0] (fun x T1 H1=>(∃ y,x= .panic y)∧Q x T1 H1) (cu l.toArray o0 T'++T0) H) (l.take q) T):aC P R N κ (.region id l.toArray true) Q T H:=by
 intro B w I ρ a hi ht hmk
 obtain⟨vs,Tx,h0,h1,h2⟩:=ay.vals h
 have Iv:=cZ NL
 have hlen:(l.take q).length=q:=by simp;omega
 rw[hlen] at h2
 refine wpIn_region_any DR ?_
 have hi':Inv P w.drew I ρ H:=hi.drew
 refine GO (κ:=κ) (gS.of hk) Iv NL Uv (B:=B) (w0:=w) (I0:=I) (ρ0:=ρ) h0 (fun i o tG ho=>h1 i o (by rw[ZU,if_pos tG];exact ho)) hs0 hk0 ?_ _ _ a w.drew (by simp) (by simp) ?_ ?_ ?_
 ·intro a' w' I' ρ' he hi2 nF hm2
  refine h2 _ B w' I' ρ' a' hi2 nF hm2 fun e a2 w2 qc=> ?_
  obtain⟨x,J,σ,T',H',e1,⟨⟨y,rfl⟩,e2⟩,e3⟩:=qc
  refine⟨?_,QC.ext he ⟨.panic y,J,σ,T',H',e1,e2,e3⟩⟩
  rintro rfl
  exact e1
 ·exact DS
 ·exact BI
 ·refine⟨I,ρ,Ext.drew.w,hi',ht.size,fun s v hv=> ?_,hmk.ext Ext.drew⟩
  exact Fp
theorem aa.Gm{o:Oper}{x y:Operand}{t:TypeId}{i n h sz:Nat}{kd:IntKind}(ho:o.op= .slice t x none (some y) none)(hx:ev T x=some (.row i n))(hy:ev T y=some (.p (.int kd (h:Int))))(ht:eB P t=true)(he:nq P t=some sz)(h2:h<=n):aa P N o T H (.row i h) H:=
 aa.aR (by simp[ho]) fun w I ρ a hi' hT=>by
  cases hu:P.underlying t with
  | none=>simp[eB,hu] at ht
  | some d=>
   cases d <;> simp[eB,hu] at ht
   rename_i e
   simp only[nq,hu,Zm] at he
   obtain⟨⟨b,m⟩,htm,rfl⟩:=he
   obtain⟨blk,e2,cap,hb,pE,hsh,hle⟩:=hT.ev hx
   have FZ:=mN (NV:=true) (cap:=cap) (l:=0) (lo:=none) (hi:=some y) (len:=n) hT rfl ⟨kd,hy⟩ (Zn h) (by omega)
   refine⟨.slice (some ⟨blk,0,none⟩) h cap,?_,blk,e2,cap,hb,rfl,hsh,by omega⟩
   simp only[Option.map_none,QA] at FZ
   simp[execOp,ho,Instr.sliceAt,run_underlying hu,pE,Instr.slice,FZ,aS htm,cN]
end
section
variable {P:Program} {R:Option Nat} {N κ:Nat} {Q:Post} {T:Tm} {H H2:List ak} {o:Oper} {ops:Array Oper} {rest:List Oper} {K:Tm->Prop}
theorem aN.put{v:V}(hd:o.dst=none)(hg:o.guard=none)(hop:aa P N o (cu ops o T) H v H2)(next:aN P N ops H H2 K true rest T):aN P N ops H H2 K false (o::rest) T:=
 ⟨v,by rw[hd];rfl,.inr ⟨rfl,hg,hop,by rw[hd];exact next⟩⟩
theorem aE.ur{f g:FuncId}{fn:Func}{c0 c1 cm c2:Code}{id dm:Nat}{om od:Oper}{args caps:List V}{T1:Tm}{H1:List ak}{Qr:V->List ak->Prop}{ts:Array TypeId}(hf:P.funcs[f]? =some fn)(hb:fn.body=some (.seq c0 (.seq c1 (.seq cm (.seq (.region id #[om,od] false) c2)))))(hN:fn.ntmps=N)(hn:args.length<=N)
    (h01:aC P none N H.length c0 (AX.then (aC P none N H.length c1 (AX.then (aC P none N H.length cm (AX.then (fun T' H'=>Sub T1 T'∧H'=H1) (nk P N fn Qr))) (nk P N fn Qr))) (nk P N fn Qr)) (dB 0 args) H)
    (hom:aa P N om T1 H1 (.func (.func g) [] caps) H1)(hdm:om.dst=some dm)(hgm:om.guard=none)(hm:bC N (some dm)=true)(hod:od.op= .defer {callee:= .value (.tmp dm),args:= #[],argTypes:=ts})(hgd:od.guard=none)(hdd:od.dst=none)(hg:an P g=true)
    (h2:aC P none N H1.length c2 (acE P N fn g caps Qr) ((dm,.func (.func g) [] caps)::T1) H1):aE P f args H Qr:=by
 subst hN
 intro w I ρ us hi ij
 have hl:=aj.length ij
 refine callsIn_of_wp_marks hf hb trivial ?_ rfl
 have ht:bR P w I ρ fn.ntmps (dB 0 args) (us.toArray++Array.replicate (fn.ntmps - us.toArray.size) undef):=by
  exact Fz
 -- it leaves before it defers
 have early:∀(a':Act) (w':World) (T':Tm) (H':List ak) (I':Nat->Prop) (ρ':List Nat) (rs:List Nat),(∃ v,fE P fn.ntmps fn T' H' v∧Qr v H')->cR w I ρ w' I' ρ'->Inv P w' I' ρ' H'->bR P w' I' ρ' fn.ntmps T' a'.tmps->ρ<+:ρ'->a'.defers=(rs.map fun r=>{target:= .collected r,args:= #[]})++[]->rs.Nodup->(∀ r∈rs,w'.heap[r]? =some (Obj.deferred (some []))∧¬ I' r∧w.heap.size<=r)->
     LeavesInM Fence.wide 0 P fn a'.tmps (fun e w'=>∃ u v I' ρ' H',e= .returned u∧Qr v H'∧Ext w I ρ w' I' ρ'∧Inv P w' I' ρ' H'∧aG P w' I' ρ' v u) a'.defers .returning w':=by
  rintro a' w' T' H' I' ρ' rs ⟨v,hv,hq⟩ h3 h4 h5 hpre h6 h7 h8
  rw[h6]
  refine pP (by simp) rs w' h7 (fun r hr=>(h8 r hr).1) ?_
  intro w2 k1 k2 k3 k4 k5
  obtain⟨m1,m2,m3,m4⟩:=kq h3 h4 h5 hpre h8 k1 k2 k3 k4 k5
  obtain⟨u,hu1,PZ⟩:=hv w2 I' ρ' a'.tmps m1 m2
  simp only[LeavesInM,LeavesIn]
  exact⟨u,hu1,u,v,I',ρ',H',rfl,hq,m3,m1,PZ⟩
 -- behind the deferred call
 have late:∀(a1:Act) (w1:World) (I1:Nat->Prop) (ρ1:List Nat),cR w I ρ w1 I1 ρ1->ρ<+:ρ1->Inv P w1 I1 ρ1 H1->bR P w1 I1 ρ1 fn.ntmps T1 a1.tmps->∀ rs:List Nat,a1.defers=(rs.map fun r=>{target:= .collected r,args:= #[]})++[]->rs.Nodup->(∀ r∈rs,w1.heap[r]? =some (Obj.deferred (some []))∧¬ I1 r∧w.heap.size<=r)->
     (Code.seq (.region id #[om,od] false) c2).wpIn Fence.wide 0 P (bodyPostM Fence.wide 0 P fn fun e w'=>∃ u v I' ρ' H',e= .returned u∧Qr v H'∧Ext w I ρ w' I' ρ'∧Inv P w' I' ρ' H'∧aG P w' I' ρ' v u) a1 w1:=by
  intro a1 w1 I1 ρ1 xq Yp hi1 XS rs WU acK Pn
  refine wpIn_seq (wpIn_region_lit ?_)
  refine wpListIn_plain hgm fun K hK=> ?_
  refine hom none w1 I1 ρ1 a1 hi1 XS K _ fun u w2 I2 ρ2 pL hi2 hv=>hK _ _ ?_
  have nF:bR P w2 I2 ρ2 fn.ntmps ((dm,.func (.func g) [] caps)::T1) (a1.put om.dst u).tmps:=by
   have:=(XS.ext pL).put (a:=a1) (dst:=om.dst) (by rw[hdm];exact hm) hv
   rw[hdm] at this ⊢
   exact this
  obtain⟨fi,ca,hu,V5,hca⟩:=hv
  have acO:fi.toList=[]:=V5
  have aci:fi= #[]:=by apply Array.ext';simpa using acO
  subst aci
  have hval:(a1.put om.dst u).eval (.tmp dm)=u:=by
   have hlt:dm<a1.tmps.size:=by
    have h3:dm<fn.ntmps:=by simpa[bC,Nat.blt,ZA] using hm
    rw[XS.size];exact h3
   rw[hdm]
   simp[Act.put,Act.eval,hlt]
  refine wpListIn_plain hgd fun K hK=> ?_
  refine⟨fun _ _=>trivial,?_⟩
  obtain⟨D,hD⟩:∃ D:Deferred,D={target:= .fn (.func g) ca,args:= #[]}:=⟨_,rfl⟩
  have hrun:(Oper.semAt none (a1.put om.dst u).eval od).run P w2= .ok (.defer D) w2:=by
   rw[Oper.semAt_none,hD]
   rw[hu] at hval ⊢
   simp only[execOp,hod,Go.resolve,hval]
   simp[Deferred.ofValue]
  show od.uponIn Fence.wide 0 P (a1.put om.dst u) K _ ((Oper.semAt none (a1.put om.dst u).eval od).run P w2)
  rw[hrun,Oper.uponIn_defer,hdd]
  refine hK _ _ (wpListIn_nil ?_)
  have acA:(a1.put om.dst u).defers=a1.defers:=by rw[hdm];rfl
  have hw2:=h2 ⟨w2.heap.size,ρ2,D::a1.defers⟩ w2 I2 ρ2 {(a1.put om.dst u) with defers:=D::(a1.put om.dst u).defers} hi2 nF ⟨Zg _,NY hi2.len,ZG _,[],by rw[acA];rfl,Qw,fun _ h=>by cases h⟩
  have tail:∀(a':Act) (w3:World) (I3:Nat->Prop) (ρ3:List Nat) (T3:Tm) (H3:List ak) (y:Option PV) (md:FrameMode),xw P g caps H3 y (fun H'=>∃ v,fE P fn.ntmps fn T3 H' v∧Qr v H')->JN w3 I3 y md->cR w2 I2 ρ2 w3 I3 ρ3->Inv P w3 I3 ρ3 H3->bR P w3 I3 ρ3 fn.ntmps T3 a'.tmps->Marks H1.length ⟨w2.heap.size,ρ2,D::a1.defers⟩ w3 I3 ρ3 a'.defers->
      LeavesInM Fence.wide 0 P fn a'.tmps (fun e w'=>∃ u v I' ρ' H',e= .returned u∧Qr v H'∧Ext w I ρ w' I' ρ'∧Inv P w' I' ρ' H'∧aG P w' I' ρ' v u) a'.defers md w3:=by
   rintro a' w3 I3 ρ3 T3 H3 y md LM hmd q4 q5 q6 ⟨hB,_,hpre,rs3,q7,q8,q9⟩
   have Rw:md≠ .run:=by
    cases y with
    | none=>rw[show md= .returning from hmd];simp
    | some x=>obtain⟨v,e,_⟩:=hmd;rw[e];simp
   rw[q7]
   refine pP Rw rs3 w3 q8 (fun r hr=>(q9 r hr).1) ?_
   intro w4 k1 k2 k3 k4 k5
   obtain⟨m1,m2,m3,m4⟩:=kq q4 q5 q6 hpre q9 k1 k2 k3 k4 k5
   have abX:JN w4 I3 y md:=by
    cases y with
    | none=>exact hmd
    | some x=>obtain⟨v,e,hv⟩:=hmd;exact⟨v,e,Rel.mono (fun _ h=>h) m4 _ _ hv⟩
   have acC:aj P w4 I3 ρ3 caps ca.toList:=aj.ext m3 hca
   subst hD
   refine⟨Rw,.inr ⟨(by intro h;cases h),_,_,g,ca.toList.toArray,rfl,?_,fun _ _=>trivial,?_⟩⟩
   ·show(Go.invoke (.fn (.func g) ca) #[]).run P w4=_
    simp only[Go.invoke,gI hg]
    simp
   ·refine CallsDIn.mono (LM w4 I3 ρ3 ca.toList md m1 acC abX) ?_
    rintro e u' w5 ⟨rfl,o8,I5,ρ5,H5,hq5,hE5,hi5⟩
    show LeavesInM _ _ _ _ _ _ a1.defers (settle u') w5
    rw[o8]
    have Of:Ext w1 I1 ρ1 w5 I5 ρ5:=(pL.trans m3).trans hE5
    exact early {tmps:=a'.tmps,defers:=a1.defers} w5 T3 H5 I5 ρ5 rs hq5 (xq.trans Of.w) hi5 (m2.ext hE5) (Yp.trans Of.pre) WU acK fun r hr=>⟨Of.w.cL r (Pn r hr).1,fun h=>(Pn r hr).2.1 (Of.w.kX r (Pn r hr).1 h),(Pn r hr).2.2⟩
  refine wpIn_mono hw2 ?_
  rintro e a' w3 ⟨z,I3,ρ3,T3,H3,q1,q2,q4,q5,q6,q7⟩
  cases z <;> cases e <;> first | exact q1.elim | exact q2.elim | skip
  ·exact tail a' w3 I3 ρ3 T3 H3 none .returning q2 rfl q4 q5 q6 q7
  ·exact tail a' w3 I3 ρ3 T3 H3 none .returning q2 rfl q4 q5 q6 q7
  ·obtain⟨x,rfl,q2⟩:=q2
   obtain⟨v,rfl,hv⟩:=q1
   exact tail a' w3 I3 ρ3 T3 H3 (some x) _ q2 ⟨v,rfl,hv⟩ q4 q5 q6 q7
 have out:∀(z:AX) (e:Exit) (a':Act) (w':World),z≠ .normal->QC H.length ⟨w.heap.size,ρ,[]⟩ P fn.ntmps (fun x T H=>x=z∧nk P fn.ntmps fn Qr x T H) w I ρ e a' w'->
     bodyPostM Fence.wide 0 P fn (fun e w'=>∃ u v I' ρ' H',e= .returned u∧Qr v H'∧Ext w I ρ w' I' ρ'∧Inv P w' I' ρ' H'∧aG P w' I' ρ' v u) e a' w':=by
  rintro z e a' w' hz ⟨x,I',ρ',T',H',q1,⟨rfl,q2,q3⟩,q4,q5,q6,hB,_,hpre,rs,q7,q8,q9⟩
  rcases q2 with rfl | rfl
  ·exact absurd rfl hz
  ·cases e <;> first | exact q1.elim | exact early a' w' T' H' I' ρ' rs q3 q4 q5 q6 hpre q7 q8 q9
 refine wpIn_seq (wpIn_mono (h01 ⟨w.heap.size,ρ,[]⟩ w I ρ {tmps:=us.toArray++Array.replicate (fn.ntmps - us.toArray.size) undef,defers:=[]} hi ht ⟨Zg _,NY hi.len,ZG _,[],rfl,Qw,fun _ h=>by cases h⟩) ?_)
 rintro e a' w' ⟨z,I',ρ',T',H',q1,q2,q4,q5,q6,q7⟩
 cases z with
 | normal=>
  cases e <;> first | exact q1.elim | skip
  refine wpIn_seq (wpIn_mono (q2 ⟨w.heap.size,ρ,[]⟩ w' I' ρ' a' q5 q6 q7) ?_)
  rintro e a1 w1 ⟨z,I1,ρ1,T1',H1',r1,r2,r4,r5,r6,r7⟩
  cases z with
  | normal=>
   cases e <;> first | exact r1.elim | skip
   refine wpIn_seq (wpIn_mono (r2 ⟨w.heap.size,ρ,[]⟩ w1 I1 ρ1 a1 r5 r6 r7) ?_)
   rintro e a2 w2 ⟨z,I2,ρ2,T2,H2,p1,p2,p4,p5,p6,p7⟩
   cases z with
   | normal=>
    cases e <;> first | exact p1.elim | skip
    obtain⟨p2,rfl⟩:=p2
    obtain⟨hB,_,hpre,rs,p8,p9,p10⟩:=p7
    exact late a2 w2 I2 ρ2 ((q4.trans r4).trans p4) hpre p5 (p6.sub p2) rs p8 p9 p10
   | ret=>
    have:=out .ret e a2 w2 (by simp) ⟨.ret,I2,ρ2,T2,H2,p1,⟨rfl,p2⟩,(q4.trans r4).trans p4,p5,p6,p7⟩
    cases e <;> first | exact p1.elim | exact this
   | exit i=>exact absurd p2.1 (by rintro(h | h) <;> cases h)
   | panic v=>exact absurd p2.1 (by rintro(h | h) <;> cases h)
  | ret=>
   have:=out .ret e a1 w1 (by simp) ⟨.ret,I1,ρ1,T1',H1',r1,⟨rfl,r2⟩,q4.trans r4,r5,r6,r7⟩
   cases e <;> first | exact r1.elim | exact this
  | exit i=>exact absurd r2.1 (by rintro(h | h) <;> cases h)
  | panic v=>exact absurd r2.1 (by rintro(h | h) <;> cases h)
 | ret=>
  have:=out .ret e a' w' (by simp) ⟨.ret,I',ρ',T',H',q1,⟨rfl,q2⟩,q4,q5,q6,q7⟩
  cases e <;> first | exact q1.elim | exact this
 | exit i=>exact absurd q2.1 (by rintro(h | h) <;> cases h)
 | panic v=>exact absurd q2.1 (by rintro(h | h) <;> cases h)
end
theorem OY{ks:List Nat}{xs:List ak}{H:List ak}{j i:Nat}{x:ak}(hn:ks.Nodup)(hl:xs.length=ks.length)(hk:ks[j]? =some i)(hx:xs[j]? =some x)(hi:i<H.length):(lC H ks xs)[i]? =some x:=by
 have h1:i<(lC H ks xs).length:=by rw[cS];exact hi
 have h2:=Zb h1
 rcases lH ks xs H i _ hn hl h2 with⟨j',k1,k2⟩ | ⟨k1,_⟩
 ·have e:j=j':=(ZbO (Za.1 hk).1 hn).1 (hk.trans k1.symm)
  subst e
  rw[h2,<- k2,hx]
 ·exact absurd (Zi hk) k1
theorem Mc{ks:List Nat}{xs:List ak}{H:List ak}{i:Nat}(hn:ks.Nodup)(hl:xs.length=ks.length)(hi:i<H.length)(hk:i∉ks):(lC H ks xs)[i]? =H[i]? :=by
 have h1:i<(lC H ks xs).length:=by rw[cS];exact hi
 have h2:=Zb h1
 rcases lH ks xs H i _ hn hl h2 with⟨j',k1,_⟩ | ⟨_,k2⟩
 ·exact absurd (Zi k1) hk
 ·rw[h2,k2]
section
variable {H H0:List ak} {ks:List Nat}
theorem fP{j i:Nat}{x:ak}(hn:ks.Nodup)(hl:ks.length<=H0.length)(hk:ks[j]? =some i)(hi:i<H.length)(hx:H0[j]? =some x):(bA H ks H0)[i]? =some (aM (eV H ks) x):=by
 unfold bA
 rw[Zd (by rw[cS];exact hi)]
 refine OY hn (by rw[Zr,zC];omega) hk ?_ hi
 rw[Zt,Rv (Za.1 hk).1,hx]
 rfl
theorem dX{i:Nat}(hn:ks.Nodup)(hl:ks.length<=H0.length)(hi:i<H.length)(hk:i∉ks):(bA H ks H0)[i]? =H[i]? :=by
 unfold bA
 rw[Zd (by rw[cS];exact hi)]
 exact Mc hn (by rw[Zr,zC];omega) hi hk
theorem Gg{j:Nat}{x:ak}(hx:H0[ks.length+j]? =some x):(bA H ks H0)[H.length+j]? =some (aM (eV H ks) x):=by
 unfold bA
 rw[Zj (by rw[cS];omega),cS,ZK,Zt,Rd,hx]
 rfl
theorem sI(hl:ks.length<=H0.length):(bA H ks H0).length=H.length+(H0.length - ks.length):=by
 unfold bA
 rw[Zc,cS,Zr,OS]
def nE(H:List ak)(ks:List Nat)(j:Nat):Nat:=match ks[j]? with
 | some i=>i
 | none=>H.length+(j - ks.length)
theorem qD{j:Nat}{x:ak}(hn:ks.Nodup)(hl:ks.length<=H0.length)(hlt:∀ i∈ks,i<H.length)(hx:H0[j]? =some x):(bA H ks H0)[nE H ks j]? =some (aM (eV H ks) x):=by
 unfold nE
 cases hk:ks[j]? with
 | some i=>exact fP hn hl hk (hlt i (Zi hk)) hx
 | none=>
  have hj:ks.length<=j:=by simpa using hk
  obtain⟨m,rfl⟩:∃ m,j=ks.length+m:=⟨j - ks.length,by omega⟩
  rw[ZK]
  exact Gg hx
theorem jV{j:Nat}{x:ak}(hK:gC H ks H0)(hx:H0[j]? =some x)(hl:x.live=true):eV H ks j=some (nE H ks j):=by
 unfold eV nE
 cases hk:ks[j]? with
 | some i=>
  show(if (H.getD i .dead).live=true then some i else none)=some i
  cases hlv:(H.getD i .dead).live with
  | true=>rw[if_pos rfl]
  | false=>rw[hK.2 j i x hk hlv hx] at hl;cases hl
 | none=>rfl
theorem Pe{i j:Nat}(hn:ks.Nodup)(hlt:∀ i∈ks,i<H.length)(h:nE H ks i=nE H ks j):i=j:=by
 unfold nE at h
 cases hi:ks[i]? with
 | some a=>
  have ha:=hlt a (Zi hi)
  cases hj:ks[j]? with
  | some b=>
   rw[hi,hj] at h
   have h:a=b:=h
   subst h
   exact(ZbO (Za.1 hi).1 hn).1 (hi.trans hj.symm)
  | none=>rw[hi,hj] at h;have h:a=H.length+(j - ks.length):=h;omega
 | none=>
  have h1:ks.length<=i:=by simpa using hi
  cases hj:ks[j]? with
  | some b=>rw[hi,hj] at h;have h:H.length+(i - ks.length)=b:=h;have:=hlt b (Zi hj);omega
  | none=>
   have h2:ks.length<=j:=by simpa using hj
   rw[hi,hj] at h
   have h:H.length+(i - ks.length)=H.length+(j - ks.length):=h
   omega
theorem oq{j n:Nat}{cs:List V}{e:TypeId}(hK:gC H ks H0)(hx:H0[j]? =some (dG cs e n)):aZ (eV H ks) (bg j n)=bg (nE H ks j) n:=by
 cases n with
 | zero=>rfl
 | succ n=>exact cM (jV hK hx rfl)
theorem tA{l:List Nat}(hn:ks.Nodup)(hlt:∀ i∈ks,i<H.length)(h:l.Nodup):(l.map (nE H ks)).Nodup:=by
 induction l with
 | nil=>exact Qw
 | cons x l ih=>
  rw[ZF] at h
  rw[ZE,ZF]
  refine⟨fun hm=> ?_,ih h.2⟩
  obtain⟨y,h1,h2⟩:=xS.1 hm
  rw[Pe hn hlt h2] at h1
  exact h.1 h1
end
theorem Rel.Sr{w:World}{I:Nat->Prop}{u:Value}(h:Rel w I .nilSlice u):Rel w I (.is [] 0) u:= .inl ⟨⟨none,0,h⟩,rfl⟩
theorem aE.X6{P:Program}{f:FuncId}{args args2:List V}{H:List ak}{Q:V->List ak->Prop}(h:aE P f args H Q)(hs:∀ w I ρ us,aj P w I ρ args2 us->aj P w I ρ args us):aE P f args2 H Q:=fun w I ρ us hi hu=>h w I ρ us hi (hs w I ρ us hu)
theorem Pure.So{P:Program}{f:FuncId}{a r:PV}(h:Pure P f [a,.is [] 0,.is [] 0] r):Pure P f [a,.nilSlice,.nilSlice] r:=
 aE.X6 h fun w I ρ us hu=>by
  obtain⟨u1,s1,rfl,h1,u2,s2,rfl,h2,u3,s3,rfl,h3,h4⟩:=hu
  exact⟨u1,_,rfl,h1,u2,_,rfl,Rel.Sr h2,u3,_,rfl,Rel.Sr h3,h4⟩
def cA(P:Program)(N:Nat)(ops:Array Oper)(H:List ak)(G:List ak->Prop)(K:Tm->Prop):Bool->List Oper->Tm->Prop
 | b,[],T=>b=true∧K T
 | b,o::rest,T=>∃ v,bC N o.dst=true∧(((∀ H0,(H0=H∨G H0)->YJ P N ops o T H0 v)∧cA P N ops H G K b rest (gN T o.dst v))∨(b=false∧o.guard=none∧Wv P N o (cu ops o T) H v G∧cA P N ops H G K true rest (gN T o.dst v)))
section
variable {P:Program} {R:Option Nat} {N κ:Nat} {Q:Post} {T:Tm} {H:List ak} {G:List ak->Prop} {o:Oper} {ops:Array Oper} {K:Tm->Prop} {rest:List Oper} {b:Bool}
theorem Wv.fT{f:Operand}{xs:Array Operand}{ts:Array TypeId}{fv:V}{vs all:List V}{g:FuncId}{v:V}{Qr:V->List ak->Prop}(hp:aD P g all H Qr (fun _ _=>False))(hv:∀ x H2,Qr x H2->x=v∧G H2)(ho:o.op= .call {callee:= .value f,args:=xs,argTypes:=ts})(hf:ev T f=some fv)
    (hxs:lG T xs.toList=some vs)(hc:callee vs fv=some (g,all))(hg:an P g=true):Wv P N o T H v G:=by
 intro R w I ρ a hi ht K QX hK
 refine⟨bQ,?_⟩
 rw[bT _ _ _ (by simp[ho])]
 obtain⟨us,h1,h2⟩:=ep ho ht hf hxs hc hg
 rw[h2]
 refine⟨(fun h=>by cases h),?_⟩
 refine CallsIn.mono (cK R (hp w I ρ us hi h1)) ?_
 rintro e w' (⟨u,v',J,σ,H2,rfl,hQ,h3,h4,h5⟩ | ⟨u,y,J,σ,H2,rfl,hQ,_⟩)
 ·obtain⟨rfl,hG⟩:=hv _ _ hQ
  exact hK u w' J σ H2 hG h3 h4 h5
 ·exact hQ.elim
theorem cA.nil(h:K T):cA P N ops H G K true [] T:=⟨rfl,h⟩
theorem cA.cons(d:Nat){v:V}(hd:o.dst=some d)(xe:bC N (some d)=true)(hg:o.guard=none)(hop:∀ H0,(H0=H∨G H0)->aa P N o (cu ops o T) H0 v H0)(next:cA P N ops H G K b rest ((d,v)::T)):cA P N ops H G K b (o::rest) T:=
 ⟨v,by rw[hd];exact xe,.inl ⟨fun H0 h0=> .inl ⟨hg,hop H0 h0⟩,by rw[hd];exact next⟩⟩
theorem cA.lay(d:Nat){v:V}(hd:o.dst=some d)(xe:bC N (some d)=true)(hg:o.guard=none)(hop:Wv P N o (cu ops o T) H v G)(next:cA P N ops H G K true rest ((d,v)::T)):cA P N ops H G K false (o::rest) T:=
 ⟨v,by rw[hd];exact xe,.inr ⟨rfl,hg,hop,by rw[hd];exact next⟩⟩
section
variable {m:Nat} {l:List Oper} {vs:Nat->V}
theorem cA.vals{ops:Array Oper}:∀{b:Bool} {l':List Oper} {T:Tm},cA P N ops H G K b l' T->∃(vs:Nat->V) (Tx:Nat->Tm) (q:Nat),Tx 0=T∧(b=false->q<l'.length)∧(b=true->q=l'.length)∧(∀ i o,l'[i]? =some o->bC N o.dst=true∧((i≠q∧∀ H0,(H0=H∨G H0)->YJ P N ops o (Tx i) H0 (vs i))∨(i=q∧o.guard=none∧Wv P N o (cu ops o (Tx i)) H (vs i) G))∧Tx (i+1)=gN (Tx i) o.dst (vs i))∧K (Tx l'.length)
 | b,[],T,h=>⟨fun _=> .top,fun _=>T,0,rfl,(fun hb=>by have:=h.1;rw[hb] at this;cases this),fun _=>rfl,fun i o ho=>by simp at ho,h.2⟩
 | b,o::l',T,h=>by
  obtain⟨v,hd,h⟩:=h
  rcases h with⟨hy,hn⟩ | ⟨hb,hg,hop,hn⟩
  ·obtain⟨vs,Tx,q,h0,DA,NN,h1,h2⟩:=cA.vals hn
   refine⟨fun i=>match i with | 0=>v | i+1=>vs i,fun i=>match i with | 0=>T | i+1=>Tx i,q+1,rfl,fun hb=>by have:=DA hb;simp;omega,fun hb=>by have:=NN hb;simp;omega,fun i x hx=> ?_,h2⟩
   cases i with
   | zero=>simp at hx;subst hx;exact⟨hd,.inl ⟨by omega,hy⟩,h0⟩
   | succ i=>
    exact Rm
  ·obtain⟨vs,Tx,q,h0,DA,NN,h1,h2⟩:=cA.vals hn
   exact YD
theorem aC.BY{id:Nat}(m:Nat)(G:List ak->Prop)(DR:P.follows .mixedOrders=true)(hk:ld m l=true)(hm:m<=l.length)(h:cA P N l.toArray H G (fun T'=>∀ H2,G H2->aq P R N κ l.toArray (l.drop m) Q T' H2) false (l.take m) T):aC P R N κ (.region id l.toArray true) Q T H:=by
 intro B w I ρ a hi ht hmk
 obtain⟨vs,Tx,q,h0,DA,_,h1,h2⟩:=cA.vals h
 have hq:q<m:=by have:=DA rfl;simp at this;omega
 have hlen:(l.take m).length=m:=by simp;omega
 rw[hlen] at h2
 refine wpIn_region_any DR ?_
 have hi':Inv P w.drew I ρ H:=hi.drew
 refine qm (κ:=κ) (G:=G) (q:=q) (gS.of hk) hm (B:=B) (w0:=w) (I0:=I) (ρ0:=ρ) h0 (fun i o tG ho=>h1 i o (by rw[ZU,if_pos tG];exact ho)) ?_ _ _ a w.drew (by simp) (by simp) ?_ ?_ ?_
 ·intro H2 hG a' w' I' ρ' he hi2 nF hm2
  have hG:G H2:=by simpa[hq] using hG
  exact h2 H2 hG _ B w' I' ρ' a' hi2 nF hm2 fun e a2 w2 q=>QC.ext he q
 ·exact DS
 ·exact BI
 ·have e0:fl (Array.replicate l.length false) q=false:=by
    exact QZ
  refine⟨I,ρ,Ext.drew.w,⟨H,(show(bif fl (Array.replicate l.length false) q then G H else H=H) from by rw[e0];rfl),hi'⟩,ht.size,fun s v hv=> ?_,hmk.ext Ext.drew⟩
  exact Fp
end
end
def Ss(P:Program)(k0 i:Nat)(cell:Nat->ak)(f:FuncId)(mk:V->List V)(xs:List (List V)):Prop:=
 ∀(l κ n:Nat) (inv:Nat->List ak->Prop) (fin:List ak->Prop),k0<=κ->κ<=n->(∀ k h,inv k h->h.length=n∧h[i]? =some (cell k))->(∀ h,fin h->h.length=n)->
  (∀ k h x,inv k h->xs[k]? =some x->pU P l κ (h.set i (cell (k+1))) x fun b h'=>if b=true then inv (k+1) h' else fin h')->
  ∀ h0,inv 0 h0->jR P κ f (mk (lp l)) h0 fun _ h'=>inv xs.length h'∨fin h'
section
variable {P:Program} {R:Option Nat} {N κ:Nat} {Q Q':Post} {T T' T2 T3:Tm} {H H' H2 H3:List ak} {o:Oper} {ops:Array Oper} {rest:List Oper}
theorem aC.DY{g:Operand}{ps:Array Tmp}{gX body:Code}{fv:V}{f:FuncId}{mk:V->List V}{xs:List (List V)}(k0 κ2 i:Nat)(cell:Nat->ak)(hg:ev T g=some fv)(hc:∀ y,callee [y] fv=some (f,mk y))(hf:an P f=true)(zV:Ss P k0 i cell f mk xs)
    (hk0:k0<=κ2)(hκ:κ<=κ2)(Ui:κ2<=H.length)(hR:∀ l0,R=some l0->∃(i0:Nat) (r0:uf) (st:LoopState) (pe:Option Code),r0.l=l0∧H[i0]? =some (.loop r0 st pe))(hps:∀ x∈xs,x.length=ps.size)(hlt:ps.toList.all (fun p=>Nat.blt p N)=true)
    (J:Nat->List ak->Prop)(Jx:Code->List ak->Prop)(hJ:∀ k h,J k h->h.length=H.length∧h[i]? =some (cell k))(Ii:∀ c h,Jx c h->h.length=H.length)(h0:J 0 H)
    (round:∀ l tmps k h x,J k h->xs[k]? =some x->Round P N κ2 ⟨l,tmps,T,ps,gX,body⟩ k H.length J Jx (nt T ps.toList x) (h.set i (cell (k+1))++[.loop ⟨l,tmps,T,ps,gX,body⟩ .ready none]))
    (done:∀ h,J xs.length h->Q .normal T (h++[.dead]))(stop:∀ c h,Jx c h->aC P R N κ c Q T (h++[.dead])):aC P R N κ (.rangeFunc g ps gX body) Q T H:=
 aC.u5 k0 κ2 (fun k h=>h.set i (cell (k+1))) (fun k h=>h[i]? =some (cell k)) hg hc hf zV hk0 hκ Ui hR hps hlt J Jx (fun k h hk=>⟨(hJ k h hk).1,fun e=>by rw[Zd (Za.1 (hJ k h hk).2).1];exact(hJ k h hk).2⟩)
  (fun k h hk=>⟨by rw[yl];exact(hJ k h hk).1,fun e=>List.set_append_left _ _ (Za.1 (hJ k h hk).2).1⟩) Ii h0 round done stop
theorem aq.VK(k d:Nat){l:Nat}{f:Operand}{xs:Array Operand}{ts:Array TypeId}{vs:List V}{Qb:Bool->List ak->Prop}(hk:k<=κ)(hκ:κ<=H.length)(ho:o.op= .call {callee:= .value f,args:=xs,argTypes:=ts})(hd:o.dst=some d)(hN:bC N (some d)=true)
    (hg:o.guard=none)(hf:ev T f=some (lp l))(hxs:lG T xs.toList=some vs)(hb:pU P l κ H vs Qb)
    (next:∀ b h',Qb b h'->aq P R N κ ops rest Q ((d,.p (.bool b))::BU k T) h'):aq P R N κ ops (o::rest) Q T H:=by
 intro QX B w I ρ a hi ht hm hq
 refine wpListIn_plain hg fun K hK=>⟨bQ,?_⟩
 rw[bT _ _ _ (by simp[ho])]
 have h1:=ht.ev hf
 have h2:=ht.lG hxs
 obtain⟨us,vs',hu,h3,h4⟩:=h1
 simp only[aW] at h3 h4
 have ij:us= #[]:=by simpa using h3
 have Wy:vs'= #[]:=by simpa using h4
 subst ij Wy
 obtain⟨fn,tmps,gX,body,hy,hr⟩:=hb (ρ.take κ) w I ρ _ hi h2 (List.take_prefix _ _) (by rw[zC];omega)
 have e:(execOp a.eval o).run P w= .ok (.round l fn tmps gX body) w:=by
  exact RO
 rw[e]
 refine⟨(fun h=>by cases h),RoundIn.mono (ve _ hr) ?_⟩
 rintro e w' ⟨b,I',ρ',h',rfl,h5,h6,h7,h8⟩
 have h9:ρ.take k<+:ρ':=(List.take_prefix_take_left hk).trans h8
 have h10:B.pre<+:ρ':=by
  refine List.IsPrefix.trans ?_ h8
  obtain⟨t,ht⟩:=hm.2.2.1
  rw[<- ht,List.take_append,NP hm.2.1]
  exact Xi _ _
 have hto:=ht.BU h6 h9
 have hput:bR P w' I' ρ' N (gN (BU k T) o.dst (.p (.bool b))) (a.put o.dst (.bool b)).tmps:=bR.put (by rw[hd];exact hN) hto (by simp[aG,Rel])
 rw[hd] at hput
 refine hK _ _ ?_
 rw[hd]
 exact next b h' h5 QX B w' I' ρ' _ h7 hput (hm.Ks h6 h10).put fun e a2 w2 q=>hq e a2 w2 (QC.ext h6 q)
end
class aH {α:Type} (x:α) (y:outParam α):Prop where
 h:x=y
theorem ai{α:Type}{x y:α}[h:aH x y]:x=y:=h.h
section
variable {P:Program} {R:Option Nat} {N κ:Nat} {Q:Post} {T:Tm} {H H':List ak} {o:Oper} {ops:Array Oper} {K:Tm->Prop} {rest:List Oper}
theorem Kc{d:Nat}{v:V}(hop:aa P N o T H v H')(next:aq P R N κ ops rest Q ((d,v)::T) H')(hd:o.dst=some d:=by rfl)(hN:bC N (some d)=true:=by rfl)(hg:o.guard=none:=by rfl):aq P R N κ ops (o::rest) Q T H:=aq.c d hd hN hg hop next
theorem Kz{v:V}(hop:aa P N o T H v H')(next:aq P R N κ ops rest Q T H')(hd:o.dst=none:=by rfl)(hg:o.guard=none:=by rfl):aq P R N κ ops (o::rest) Q T H:=aq.c0 hd hg hop next
theorem Kq{d:Nat}{v:V}(hop:aa P N o (cu ops o T) H v H)(next:ay P N ops H K rest ((d,v)::T))(hd:o.dst=some d:=by rfl)(hN:bC N (some d)=true:=by rfl)(hg:o.guard=none:=by rfl):ay P N ops H K (o::rest) T:=ay.cons d hd hN hg hop next
theorem Kl{x:Operand}{t:TypeId}{b:Bool}{n:Nat}{p:V}(v:V)(ho:o.op= .load t x:=by rfl)(hx:ev T x=some p:=by rfl)(ht:fN P t=some (b,n):=by exact ai)(hl:di H b n p=some v:=by rfl):aa P N o T H v H:=aa.load ho hx ht hl
theorem Kp{g:FuncId}{args:List PV}{r:PV}(hp:Pure P g args r){f:Operand}{xs:Array Operand}{ts:Array TypeId}{fv:V}{vs:List V}(ho:o.op= .call {callee:= .value f,args:=xs,argTypes:=ts}:=by rfl)(hf:ev T f=some fv:=by rfl)
    (hxs:lG T xs.toList=some vs:=by rfl)(hc:callee vs fv=some (g,args.map .p):=by rfl)(hg:an P g=true:=by exact ai):aa P N o T H (.p r) H:=aa.fT hp ho hf hxs hc hg
theorem Kg(d s r:Nat){j:Nat}{want c:Bool}{x v v0:V}(hv:lk T r=some v0)(hop:c=true->aa P N o [(r,v0)] H v H)(next:aq P R N κ ops rest Q ((d,.opt c v)::T) H)(hd:o.dst=some d:=by rfl)(hN:bC N (some d)=true:=by rfl)(hg:o.guard=some (j,want):=by rfl)(hs:qW ops j=some s:=by rfl)(GS:bC N (some s)=true:=by rfl)
    (hb:lk T s=some x:=by rfl)(hc:tH want x=some c:=by rfl):aq P R N κ ops (o::rest) Q T H:=aq.g d s hd hN hg hs GS hb hc [(r,v0)] (fun h=>And.intro (.inl hv) trivial) hop next
theorem Kh(d s r:Nat){j:Nat}{want c:Bool}{x v v0:V}(hb:lk T s=some x)(hg:o.guard=some (j,want))(hc:tH want x=some c)(hv:lk T r=some (.opt c v0))(hop:c=true->aa P N o [(r,v0)] H v H)(next:aq P R N κ ops rest Q ((d,.opt c v)::T) H)(hd:o.dst=some d:=by rfl)(hN:bC N (some d)=true:=by rfl)(hs:qW ops j=some s:=by rfl)(GS:bC N (some s)=true:=by rfl)
    :aq P R N κ ops (o::rest) Q T H:=aq.g d s hd hN hg hs GS hb hc [(r,v0)] (fun h=>And.intro (.inr ⟨_,hv,h⟩) trivial) hop next
theorem Ki{c:Operand}{x y:Code}{b:Bool}(ht:b=true->aC P R N κ x Q T H)(hf:b=false->aC P R N κ y Q T H)(hc:ev T c=some (.p (.bool b)):=by rfl):aC P R N κ (.cond c x y) Q T H:=aC.cond b hc ht hf
theorem Kf{f:FuncId}{fn:Func}{c:Code}{args:List PV}{r:PV}(hf:P.funcs[f]? =some fn)(h:aC P none N 0 c (Fin P N fn r) (dB 0 (args.map .p)) [])(hb:fn.body=some c:=by rfl)(hN:fn.ntmps=N:=by rfl)(hn:Nat.ble args.length N=true:=by rfl):Pure P f args r:=Pure.start hf hb hN (ZR hn) h
theorem Kn{a b:Nat}(h:Nat.ble a b=true:=by rfl):a<=b:=ZR h
theorem KS{T2:Tm}(h:Sub T2 T:=by repeat (first | exact Sub.nil | refine Sub.cons rfl ?_)):Sub T2 T:=h
end
theorem af{A B:Prop}(x:A)(h:A->B:=by
 intro ha
 first
 | refine aq.c _ rfl rfl rfl (aa.assign rfl rfl) ?_
 | refine aq.c _ rfl rfl rfl (aa.move rfl rfl) ?_
 | refine aq.nil ?_
 | refine aC.seq ?_
 | refine aC.region ?_
 | refine aq.c _ rfl rfl rfl (aa.fieldAddr rfl rfl ai rfl) ?_
 | refine aq.c _ rfl rfl rfl (aa.load rfl rfl ai rfl) ?_
 | refine aC.skip ?_
 | refine aC.ret ?_
 | refine ay.cons _ rfl rfl rfl (aa.move rfl rfl) ?_
 | refine ay.cons _ rfl rfl rfl (aa.fieldAddr rfl rfl ai rfl) ?_
 | refine ay.cons _ rfl rfl rfl (aa.load rfl rfl ai rfl) ?_
 | refine aq.c0 rfl rfl (aa.store rfl rfl rfl rfl rfl ai rfl rfl) ?_
 | refine aq.c _ rfl rfl rfl (aa.extract rfl rfl rfl) ?_
 | refine aq.c _ rfl rfl rfl (aa.bJ rfl rfl ai rfl) ?_
 | refine aC.block ?_
 | refine aq.c _ rfl rfl rfl (aa.lss rfl rfl rfl) ?_
 | refine aq.c _ rfl rfl rfl (aa.aI rfl ai rfl) ?_
 | refine aq.c _ rfl rfl rfl (aa.build rfl ai rfl rfl) ?_
 | refine aq.c _ rfl rfl rfl (aa.Ub rfl rfl rfl) ?_
 | refine aq.c _ rfl rfl rfl (aa.fI rfl rfl) ?_
 | refine aq.c _ rfl rfl rfl (aa.eql rfl rfl rfl) ?_
 | refine aq.c _ rfl rfl rfl (aa.neq rfl rfl rfl) ?_
 | refine aq.c _ rfl rfl rfl (aa.geq rfl rfl rfl) ?_
 | refine aq.c _ rfl rfl rfl (aa.leq rfl rfl rfl) ?_
 | refine aq.c _ rfl rfl rfl (aa.gtr rfl rfl rfl) ?_
 | refine aq.c _ rfl rfl rfl (aa.nilCheck rfl rfl) ?_
 | refine ay.cons _ rfl rfl rfl (aa.assign rfl rfl) ?_
 | refine aX.cons _ rfl rfl rfl (fun _=>(aa.move rfl rfl)) rfl ?_
 | refine aX.cons _ rfl rfl rfl (fun _=>(aa.fieldAddr rfl rfl ai rfl)) rfl ?_
 | refine aC.scope ?_
 | refine aC.label ?_
 exact ha):B:=h x
theorem aa.aaC{P:Program}{N:Nat}{T:Tm}{H:List ak}{o:Oper}{x y:Operand}{t t' e:TypeId}{n off:Nat}{cs:List PV}(ho:o.op= .binOp .eql t x y t')(hx:ev T x=some (.p (.ip cs off)))(hy:ev T y=some (.p .nilPtr))(ht:xx P t=some (e,n)):aa P N o T H (.p (.bool false)) H:=
 aa.aR (by simp[ho]) fun w I ρ ac hi hT=>by
  obtain⟨b,o',hb0,e1,_⟩:=hT.ev hx
  have e2:ac.eval y= .pointer none:=hT.ev hy
  obtain⟨hu,j,hj,_⟩:=j4 ht
  have hb:(binOp .eql t (.pointer (some ⟨b,o'+off,none⟩)) (.pointer none)).run P w= .ok (.bool false) w:=by
   simp only[binOp]
   have hq:(Op.equal t (.pointer (some ⟨b,o'+off,none⟩)) (.pointer none)).run P w= .ok false w:=by
    show(Op.equalIn (9999+1) t (.pointer (some ⟨b,o'+off,none⟩)) (.pointer none)).run P w= .ok false w
    exact Rs
   simp[hq]
  exact⟨.bool false,by simp[execOp,ho,e1,e2,eqGuard,hb],by simp[aG,Rel]⟩
section
variable {P:Program} {R:Option Nat} {N κ:Nat} {Q:Post} {T:Tm} {H:List ak} {o:Oper}
theorem sx{w:World}{I J:Nat->Prop}{ρ:List Nat}{f:V->Option PV}(hf:∀ v x u,KX v=true->f v=some x->aG P w J ρ v u->Rel w I x u):∀(vs:List V) (xs:List PV) (us:List Value),jK vs=true->c9 f vs=some xs->aj P w J ρ vs us->aW w I xs us
 | [],xs,us,_,h,hr=>by cases h;exact hr
 | v::vs,xs,us,hs,h,hr=>by
  obtain⟨u,us',rfl,h1,h2⟩:=hr
  unfold jK at hs
  rw[Zo] at hs
  simp only[c9] at h
  split at h
  ·rename_i x ys e1 e2
   cases h
   exact⟨u,us',rfl,hf v x u hs.1 e1 h1,sx hf vs ys us' hs.2 e2 h2⟩
  ·cases h
theorem J6{w:World}{I J:Nat->Prop}{ρ:List Nat}(hi:Inv P w J ρ H)(hB:H.all XA=true)(hI:∀ b∈ρ,b<w.heap.size->I b):∀(n:Nat) (v:V) (x:PV) (u:Value),KX v=true->ct H n v=some x->aG P w J ρ v u->Rel w I x u:=by
 intro n
 induction n with
 | zero=>
  intro v x u hs h hr
  cases v <;> simp[ct] at h
  subst h
  exact Rel.sc _ u hs hr
 | succ n ih=>
  intro v x u hs h hr
  have at_:∀(i:Nat) (cs:List V) (xs:List PV),b6 H[i]? =some cs->c9 (ct H n) cs=some xs->∃ b,ρ[i]? =some b∧I b∧aY w I xs b 0:=fun i cs xs hc hx=>by
   obtain⟨b,arr,e,hρ,hw,hl,hrl⟩:=iH hi hc
   have hsc:jK cs=true:=by
    cases hb:H[i]? with
    | none=>rw[hb] at hc;cases hc
    | some blk=>
     have:=ZC.1 hB blk (Zi hb)
     rw[hb] at hc
     cases blk <;> cases hc <;> exact this
   refine⟨b,hρ,hI b (Zi hρ) (uo hw),aY.mK xs (arr.toList.take cs.length) 0 (sx ih cs xs _ hsc hx hrl) fun j v hj=> ?_⟩
   exact PK
  cases v with
  | p y=>simp[ct] at h;subst h;exact Rel.sc _ u hs hr
  | ptr i off=>
   simp only[ct] at h
   split at h
   ·rename_i cs hc
    simp only[Zm] at h
    obtain⟨xs,h1,rfl⟩:=h
    obtain⟨b,hρ,hb,fD⟩:=at_ i cs xs hc h1
    obtain⟨b',qf,hu⟩:=hr
    rw[hρ] at qf
    cases qf
    exact⟨b,0,hb,by simpa using hu,fD⟩
   ·cases h
  | row i len=>
   simp only[ct] at h
   split at h
   ·rename_i cs hc
    simp only[Zm] at h
    obtain⟨xs,h1,rfl⟩:=h
    obtain⟨b,hρ,hb,fD⟩:=at_ i cs xs hc h1
    obtain⟨b',e,cap,qf,hu,_,hl⟩:=hr
    rw[hρ] at qf
    cases qf
    exact .inr ⟨b,0,cap,fun _=>hb,hl,hu,fD⟩
   ·cases h
  | agg cs=>
   exact Tw
  | tuple cs=>
   exact Tw
  | z0=>
   exact WO
  | iface t v=>
   simp only[ct,Zm] at h
   obtain⟨y,h1,rfl⟩:=h
   obtain⟨z,hu,k1⟩:=hr
   exact⟨z,hu,ih v y z hs h1 k1⟩
  | sl i off len=>
   simp only[ct] at h
   split at h
   ·rename_i cs hc
    simp only[Zm] at h
    obtain⟨xs,h1,rfl⟩:=h
    obtain⟨b,hρ,hb,fD⟩:=at_ i cs xs hc h1
    obtain⟨b',cap,qf,hu,hl⟩:=hr
    rw[hρ] at qf
    cases qf
    refine .inr ⟨b,off,cap,fun _=>hb,hl,hu,?_⟩
    have:=fD.drop off
    simpa using this
   ·cases h
  | map i=>
   simp only[ct] at h
   split at h
   ·rename_i ks vs hH
    have:=ZC.1 hB _ (Zi hH)
    cases this
   ·cases h
  | func fn fi ca=>cases hs
  | opt g v=>simp[ct] at h
  | raw a n c=>simp[ct] at h
  | top=>simp[ct] at h
theorem aa.IC(n m:Nat){g:FuncId}{args:List PV}{v0:V}{H0:List ak}{r:PV}(hp:aE P g (args.map .p) [] fun v H'=>v=v0∧H'=H0)(hv:KX v0=true)(hB:H0.all XA=true)(hr:ct H0 m v0=some r){f:Operand}{xs:Array Operand}{ts:Array TypeId}{fv:V}{vs all:List V}(ho:o.op= .call {callee:= .value f,args:=xs,argTypes:=ts})(hf:ev T f=some fv)
    (hxs:lG T xs.toList=some vs)(hc:callee vs fv=some (g,all))(hb:c9 (ct H n) all=some args)(hg:an P g=true):aa P N o T H (.p r) H:=by
 intro R w I ρ a hi hT K QX hK
 refine⟨bQ,?_⟩
 rw[bT _ _ _ (by simp[ho])]
 obtain⟨us,h1,h2⟩:=ep ho hT hf hxs hc hg
 rw[h2]
 have h1':aj P w (fun b=>b<w.heap.size) [] (args.map .p) us:=aj.pure.2 (fR (oh hi n) all args us hb h1)
 have hi2:Inv P w (fun b=>b<w.heap.size) [] []:=⟨rfl,(fun _ _ _ h=>by simp at h),fun _ h=>h,(fun _ _ _ h=>by simp at h),(fun _ _ _ _ _ h=>by simp at h),(fun _ _ _ h=>by simp at h),hi.gl.mono hi.ib (fun _ _=>rfl)⟩
 refine⟨(fun h=>by cases h),?_⟩
 refine CallsIn.mono (cK R (hp w _ [] us hi2 h1')) ?_
 rintro e' w' ⟨u,v,J,σ,H',rfl,⟨rfl,rfl⟩,h3,h4,h5⟩
 have hnew:∀ b,b∈σ->w.heap.size<=b:=fun b hb=>by
  rcases h3.w.new b hb with h | h
  ·cases h
  ·exact h
 have hlt:∀ b,(I b∨b∈σ∧b<w'.heap.size)->b<w'.heap.size:=fun b h=>by
  rcases h with h | h
  ·exact ZQ (hi.ib b h) h3.w.size
  ·exact h.2
 have he:Ext w I [] w' (fun b=>I b∨b∈σ∧b<w'.heap.size) []:=⟨⟨h3.w.os,h3.w.tape,h3.w.output,h3.w.size,h3.w.keep,h3.w.shape,fun _ h=> .inl h,fun b h=>h3.w.keep b (hi.ib b h) (by simp),fun b h=>by
  rcases h with h | h
  ·exact .inl h
  ·exact .inr (.inr (hnew b h.1)),h3.w.cL,fun b hd h=>by
  rcases h with h | h
  ·exact h
  ·have:=uo hd
   have:=hnew b h.1
   omega,fun b h=>by cases h⟩,ZG _⟩
 have Aw:Inv P w' (fun b=>I b∨b∈σ∧b<w'.heap.size) [] []:=⟨rfl,(fun _ _ _ h=>by simp at h),hlt,(fun _ _ _ h=>by simp at h),(fun _ _ _ _ _ h=>by simp at h),(fun _ _ _ h=>by simp at h),hi.gl.mono (fun _ h=> .inl h) he.w.bu⟩
 obtain⟨h6,h7⟩:=Inv.frame hi he Aw
 exact hK u w' _ ρ h6 h7 (J6 h4 hB (fun b hb hl=> .inr ⟨hb,hl⟩) m v r u hv hr h5)
end
end Go.AF
end
