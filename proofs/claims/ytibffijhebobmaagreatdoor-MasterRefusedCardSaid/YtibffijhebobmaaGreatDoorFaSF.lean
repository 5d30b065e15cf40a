/-
 The frame rule of calls that may panic, where what the call leaves behind is kept when it panics too. No condition; generic over any program.
 Calls that read own blocks as content and hand back own blocks, whatever they are. No condition; generic over any program.
 Slices without room (nil, or empty ones that were just made): their values; own slices that are such as long as they are empty. No condition; generic over any program.
 A call that returns or panics, by a condition. No condition; generic over any program.
 A range over a function that panics before it has ended. No condition; generic over any program.
 Slices that have no room as long as they are empty: made, copied, appended to, stored, handed back by a call. No condition; generic over any program.
 Regions that draw their order, in which one operation turns the own blocks. No condition; generic over any program.
 Exact slices in the place of what is known of them: a call that is proved for all exact slices in cells of an own block is proved for what these cells hold, and what it leaves may be told in the same words again. No condition; generic over any program.
 Own blocks written in another way; an element of an own slice that may have no room. No condition; generic over any program.
 Regions that draw their order, in which one operation always panics. No condition; generic over any program.
 A function that defers a closure behind three pieces of code; a drawn region in which one store turns the own blocks. No condition; generic over any program.
 What a call on some of the own blocks leaves, place by place. No condition; generic over any program.
 A contract whose arguments are weakened (a nil slice is an empty one). No condition; generic over any program.
 Regions that draw their order, in which one operation turns the own blocks into some that are as G says. No condition; generic over any program.
 Ranges over functions that store in an own cell of their caller before they yield. No condition; generic over any program.
 Facts that are found by themselves; steps that need no word. No condition; generic over any program.
 A pointer to content is not nil. No condition; generic over any program.
 A call whose new result is content at once: own blocks are read as content, and what is new is left to nobody. Generic over any program.
 Maps whose keys are compared by asking (structures, arrays): looked up and written. Generic over any program.
 A guarded call that turns the own blocks, where the guard is known; cells at the end of the own blocks. No condition; generic over any program.
-/
import Derived.Test.YtibffijhebobmaaGreatDoorFaSE
theorem Dx{A:Prop}(h:A:=by
 refine⟨false,(fun h=>by cases h),run _ _ h1 ?_⟩
 show(Op.equalIn (9999+1) t _ (.slice none 0 0)).run P w= .ok false w
 generalize 9999=dd
 simp[Op.equalIn,run_underlying hu]):A:=h
theorem EO{A:Prop}(h:A:=by
 simp only[bS,Zi] at h
 obtain⟨xs,h1,rfl⟩:=h
 obtain⟨us,hu,k1⟩:=hr
 exact⟨us,hu,sO ih cs xs _ hs h1 k1⟩):A:=h
theorem BD{A:Prop}(h:A:=by
 rw[Zt] at h2
 split at h2
 ·rename_i e1;subst e1;exact⟨_,hH,rfl⟩
 ·exact⟨_,h2,h3⟩):A:=h
set_option linter.unnecessarySimpa false
set_option linter.unusedSectionVars false
set_option linter.unusedSimpArgs false
set_option linter.unusedVariables false
section
namespace Go.AF
open Go
section
variable {P:Program} {R:Option Nat} {N κ:Nat} {Q:Post} {T:Tm} {H:List ai} {o:Oper}
def fQ(H:List ai)(ks:List Nat)(H':List ai):Prop:=ks.length<=H'.length∧∀(j i:Nat) (y:ai),ks[j]? =some i->(H.getD i .dead).live=false->H'[j]? =some y->y.live=false
theorem ay.zy{g:FuncId}{args jI:List V}{H0:List ai}{Qr:V->List ai->Prop}{Qp:PV->List ai->Prop}(ks:List Nat)(hp:ay P g jI H0 Qr Qp)(ha:bw (oD H ks) args=jI)(h0:(ks.map fun i=>aH (oD H ks) (H.getD i .dead))=H0)
    (hks:(ks.all (fun i=>Nat.blt i H.length)&&decide ks.Nodup)=true)(hQ:∀ v H',Qr v H'->fQ H ks H')(iz:∀ v H',Qp v H'->fQ H ks H'):
    ay P g args H (fun v H'=>∃ v0 uh,Qr v0 uh∧v=aY (dR H ks) v0∧H'=bg H ks uh) (fun y H'=>∃ uh,Qp y uh∧H'=bg H ks uh):=by
 intro w I ρ us hi gz
 simp only[Zm,Zz,Zn] at hks
 have hlt:∀ i∈ks,i<H.length:=fun i h=>by have:=hks.1 i h;simpa[Nat.blt,Zx] using this
 have oX:∀ i,i<H.length->H[i]? =some (H.getD i .dead):=fun i h=>by simp[h]
 obtain⟨ρ2,WG⟩:∃ ρ2,ρ2=ks.map fun i=>if (H.getD i .dead).live=true then ρ.getD i 0 else w.heap.size:=⟨_,rfl⟩
 have ju:ρ2.length=ks.length:=by rw[WG,Zr]
 have rR:∀ j i:Nat,ks[j]? =some i->(H.getD i .dead).live=true->ρ2[j]? =ρ[i]? :=fun j i h hl=>by
  exact DD
 have hρd:∀ j i:Nat,ks[j]? =some i->(H.getD i .dead).live=false->ρ2[j]? =some w.heap.size:=fun j i h hl=>by
  exact AW
 have yc:∀ b,b∈ρ2->b∈ρ∨b=w.heap.size:=fun b hb=>by
  exact Dm
 have hσ:∀ i j b:Nat,oD H ks i=some j->ρ[i]? =some b->ρ2[j]? =some b:=fun i j b h hb=>by
  exact Ed
 have ef:∀(j b:Nat) (blk:ai),ρ2[j]? =some b->H0[j]? =some blk->∃ i x,ks[j]? =some i∧H[i]? =some x∧blk=aH (oD H ks) x∧(x.live=true->ρ[i]? =some b):=by
  exact EG
 have hsub:Inv P w I ρ2 H0:=by
  exact Em
 have hargs:ah P w I ρ2 jI us:=by rw[<- ha];exact ep hσ args us gz
 -- what an own block that is at none of the places has, stays
 have JF:∀(i b:Nat) (x:ai),ρ[i]? =some b->H[i]? =some x->x.live=true->i∉ks->b∉ρ2:=fun i b x g1 g2 g3 g4 hb=>by
  exact Dh
 have key:∀(w':World) (J:Nat->Prop) (σ:List Nat) (H2:List ai),Ext w I ρ2 w' J σ->Inv P w' J σ H2->fQ H ks H2->∃ ext,σ=ρ2++ext∧Ext w I ρ w' J (ρ++ext)∧Inv P w' J (ρ++ext) (bg H ks H2)∧∀ j i b:Nat,dR H ks j=some i->(ρ2++ext)[j]? =some b->(ρ++ext)[i]? =some b:=by
  intro w' J σ H2 h3 h4 ⟨vP,Tb⟩
  obtain⟨ext,Uq⟩:=h3.pre
  subst Uq
  have M4:(ρ2++ext).length=H2.length:=h4.len
  rw[Zc,ju] at M4
  have hleft:∀ j,j<ks.length->(ρ2++ext)[j]? =ρ2[j]? :=fun j hj=>Zd (by rw[ju];exact hj)
  have hright:∀ j,(ρ2++ext)[ks.length+j]? =ext[j]? :=fun j=>by rw[Zj (by rw[ju];omega),ju,ZH]
  have Au:∀ j,(ρ++ext)[H.length+j]? =ext[j]? :=fun j=>by rw[Zj (by rw[hi.len];omega),hi.len,ZH]
  have hτ:∀ j i b:Nat,dR H ks j=some i->(ρ2++ext)[j]? =some b->(ρ++ext)[i]? =some b:=fun j i b h hb=>by
   exact Ek
  have Mc:∀ b,b∈ext->b∈ρ∨w.heap.size<=b:=fun b hb=>by
   exact A6
  have hE:Ext w I ρ w' J (ρ++ext):=⟨⟨h3.w.os,h3.w.tape,h3.w.output,h3.w.size,fun b g1 g2=>h3.w.keep b g1 fun h=>by
      rcases yc b h with h | h
      ·exact g2 h
      ·omega,h3.w.shape,h3.w.lF,h3.w.aZ,fun b h=>by
   rcases h3.w.eK b h with h | h | h
   ·exact .inl h
   ·exact wH
   ·exact .inr (.inr h),h3.w.cE,h3.w.kz,fun b h=>by
   rcases Zq.1 h with h | h
   ·exact .inl h
   ·exact Mc b h⟩,⟨ext,rfl⟩⟩
  have hout:∀(i b:Nat) (x:ai),ρ[i]? =some b->H[i]? =some x->x.live=true->i∉ks->b∉ρ2++ext:=fun i b x g1 g2 g3 g4 hb=>by
   exact Cc
  have Vi:(ki H ks ((H2.take ks.length).map (aH (dR H ks)))).length=H.length:=cL _ _ _
  have Jb:∀(i:Nat) (blk:ai),(bg H ks H2)[i]? =some blk->blk.live=true->(∃(j:Nat) (x:ai),H2[j]? =some x∧blk=aH (dR H ks) x∧(ρ2++ext)[j]? =(ρ++ext)[i]? ∧(ks[j]? =some i∨(ks.length<=j∧i=H.length+(j - ks.length))))∨(i<H.length∧i∉ks∧H[i]? =some blk):=fun i blk h hlv=>by
   exact ED
  have hI:Inv P w' J (ρ++ext) (bg H ks H2):=by
   exact Dv
  exact⟨ext,rfl,hE,hI,hτ⟩
 refine CallsIn.mono (hp w I _ us hsub hargs) ?_
 rintro e w' (⟨u,v0,J,σ,H2,rfl,hq,h3,h4,h5⟩ | ⟨u,y,J,σ,H2,rfl,hy,h3,h4,h5⟩)
 ·obtain⟨ext,rfl,hE,hI,hτ⟩:=key w' J σ H2 h3 h4 (hQ _ _ hq)
  exact .inl ⟨u,_,J,ρ++ext,_,rfl,⟨v0,H2,hq,rfl,rfl⟩,hE,hI,fm hτ v0 u h5⟩
 ·obtain⟨ext,rfl,hE,hI,hτ⟩:=key w' J σ H2 h3 h4 (iz _ _ hy)
  exact .inr ⟨u,y,J,ρ++ext,_,rfl,⟨H2,hy,rfl⟩,hE,hI,h5⟩
theorem aj.GW(d:Nat)(ks:List Nat){jI:List V}{H0:List ai}{ops:Array Oper}{rest:List Oper}{f:Operand}{xs:Array Operand}{ts:Array TypeId}{fv:V}{vs all:List V}{g:FuncId}{Qr:V->List ai->Prop}{Qp:PV->List ai->Prop}(hp:ay P g jI H0 Qr Qp)(ha:bw (oD H ks) all=jI)(h0:(ks.map fun i=>aH (oD H ks) (H.getD i .dead))=H0)
    (hks:(ks.all (fun i=>Nat.blt i H.length)&&decide ks.Nodup)=true)(hQ:∀ v H',Qr v H'->fQ H ks H')(iz:∀ v H',Qp v H'->fQ H ks H')
    (ho:o.op= .call {callee:= .value f,args:=xs,argTypes:=ts})(hd:o.dst=some d)(hN:aU N (some d)=true)(hgd:o.guard=none)(hf:ev T f=some fv)
    (hxs:jU T xs.toList=some vs)(hc:callee vs fv=some (g,all))(hg:ak P g=true)(zD:∀ y uh,Qp y uh->Q (.panic (.p y)) T (bg H ks uh))(next:∀ v H',Qr v H'->aj P R N κ ops rest Q ((d,aY (dR H ks) v)::T) (bg H ks H')):aj P R N κ ops (o::rest) Q T H:=
 aj.dH d (hp.zy ks ha h0 hks hQ iz) ho hd hN hgd hf hxs hc hg (fun y H' ⟨uh,h,e⟩=>by subst e;exact zD y uh h) fun v H' ⟨v0,uh,hq,e1,e2⟩=>by
  subst e1
  subst e2
  exact next v0 uh hq
end
section
mutual
def Lq:V->Bool
 | .p x=>IC x
 | .ptr _ _=>true
 | .row _ _=>true
 | .sl _ _ _=>true
 | .map _=>true
 | .agg cs=>iZ cs
 | .tuple cs=>iZ cs
 | .iface _ v=>Lq v
 | .top=>true
 | .raw _ _ _=>true
 | .z0=>true
 | _=>false
def iZ:List V->Bool
 | []=>true
 | v::vs=>Lq v&&iZ vs
end
def Wz:ai->Bool
 | .cells cs _=>iZ cs
 | .row cs _=>iZ cs
 | .dead=>true
 | _=>false
mutual
theorem aC.NV{P:Program}{w:World}{I J:Nat->Prop}{ρ:List Nat}:∀(v:V) (u:Value),Lq v=true->aC P w J ρ v u->aC P w I ρ v u
 | .p x,u,h,hr=>Rel.sc x u h hr
 | .ptr _ _,u,_,hr=>hr
 | .row _ _,u,_,hr=>hr
 | .sl _ _ _,u,_,hr=>hr
 | .map _,u,_,hr=>hr
 | .agg cs,u,h,hr=>by
  obtain⟨us,h1,h2⟩:=hr
  exact⟨us,h1,ah.NV cs _ h h2⟩
 | .tuple cs,u,h,hr=>by
  obtain⟨us,h1,h2⟩:=hr
  exact⟨us,h1,ah.NV cs _ h h2⟩
 | .iface t v,u,h,hr=>by
  obtain⟨x,h1,h2⟩:=hr
  exact⟨x,h1,aC.NV v _ h h2⟩
 | .top,u,_,_=>trivial
 | .raw _ _ _,u,_,hr=>hr
 | .z0,u,_,hr=>hr
 | .opt _ _,_,h,_=>by cases h
 | .func _ _ _,_,h,_=>by cases h
theorem ah.NV{P:Program}{w:World}{I J:Nat->Prop}{ρ:List Nat}:∀(vs:List V) (us:List Value),iZ vs=true->ah P w J ρ vs us->ah P w I ρ vs us
 | [],us,_,hr=>hr
 | v::vs,us,h,hr=>by
  obtain⟨u,us',h1,h2,h3⟩:=hr
  unfold iZ at h
  rw[Zm] at h
  exact⟨u,us',h1,aC.NV v u h.1 h2,ah.NV vs us' h.2 h3⟩
end
theorem cW.NV{P:Program}{w:World}{I J:Nat->Prop}{ρ:List Nat}{x:ai}{b:Nat}(h:Wz x=true)(hr:cW P w J ρ x b):cW P w I ρ x b:=by
 cases x with
 | cells cs e=>
  obtain⟨arr,h1,h2⟩:=hr
  exact⟨arr,h1,ah.NV cs _ h h2⟩
 | row cs e=>
  obtain⟨arr,h1,h2,h3⟩:=hr
  exact⟨arr,h1,h2,ah.NV cs _ h h3⟩
 | dead=>trivial
 | _=>cases h
end
section
variable {P:Program} {R:Option Nat} {N κ:Nat} {Q:Post} {T:Tm} {H:List ai} {o:Oper}
def ES(n:Nat)(j:Nat):Option Nat:=some (n+j)
theorem aa.zP(n:Nat){g:FuncId}{args:List PV}{v0:V}{H0:List ai}(hp:az P g (args.map .p) [] fun v H'=>v=v0∧H'=H0)(hv:Lq v0=true)(hB:H0.all Wz=true){f:Operand}{xs:Array Operand}{ts:Array TypeId}{fv:V}{vs all:List V}(ho:o.op= .call {callee:= .value f,args:=xs,argTypes:=ts})(hf:ev T f=some fv)
    (hxs:jU T xs.toList=some vs)(hc:callee vs fv=some (g,all))(hb:cS (bS H n) all=some args)(hg:ak P g=true):aa P N o T H (aY (ES H.length) v0) (H++H0.map (aH (ES H.length))):=by
 intro R w I ρ a hi hT K QX hK
 refine⟨bB,?_⟩
 rw[bG _ _ _ (by simp[ho])]
 obtain⟨us,h1,h2⟩:=dD ho hT hf hxs hc hg
 rw[h2]
 have h1':ah P w (fun b=>b<w.heap.size) [] (args.map .p) us:=ah.pure.2 (fz (mZ hi n) all args us hb h1)
 have hi2:Inv P w (fun b=>b<w.heap.size) [] []:=⟨rfl,(fun _ _ _ h=>by simp at h),fun _ h=>h,(fun _ _ _ h=>by simp at h),(fun _ _ _ _ _ h=>by simp at h),(fun _ _ _ h=>by simp at h),hi.gl.mono hi.ib (fun _ _=>rfl)⟩
 refine⟨(fun h=>by cases h),?_⟩
 refine CallsIn.mono (cj R (hp w _ [] us hi2 h1')) ?_
 rintro e' w' ⟨u,v,J,σ,H',rfl,⟨rfl,rfl⟩,h3,h4,h5⟩
 have hnew:∀ b,b∈σ->w.heap.size<=b:=fun b hb=>by
  rcases h3.w.new b hb with h | h
  ·cases h
  ·exact h
 have he:=rj hi h3
 have yw:Inv P w' I [] []:=⟨rfl,(fun _ _ _ h=>by simp at h),fun b h=>ZJ (hi.ib b h) h3.w.size,(fun _ _ _ h=>by simp at h),(fun _ _ _ _ _ h=>by simp at h),(fun _ _ _ h=>by simp at h),hi.gl.mono (fun _ h=>h) he.w.aZ⟩
 obtain⟨h6,h7⟩:=Inv.frame hi he yw
 have hE:Ext w I ρ w' I (ρ++σ):=⟨⟨h6.w.os,h6.w.tape,h6.w.output,h6.w.size,h6.w.keep,h6.w.shape,h6.w.lF,h6.w.aZ,h6.w.eK,h6.w.cE,h6.w.kz,fun x hx=>by
  rcases Zq.1 hx with h | h
  ·exact .inl h
  ·exact .inr (hnew x h)⟩,⟨_,rfl⟩⟩
 have hτ:∀ j i b:Nat,ES H.length j=some i->σ[j]? =some b->(ρ++σ)[i]? =some b:=fun j i b h hb=>by
  cases h
  rw[Zj (by rw[hi.len];omega),hi.len,ZH]
  exact hb
 have old:∀(j k:Nat) (blk:ai),(ρ++σ)[j]? =some k->(H++H'.map (aH (ES H.length)))[j]? =some blk->(j<H.length∧ρ[j]? =some k∧H[j]? =some blk)∨(∃ m x,j=H.length+m∧σ[m]? =some k∧H'[m]? =some x∧blk=aH (ES H.length) x):=fun j k blk h1 h2=>by
  rcases ZM j H.length with g | g
  ·rw[Zd (by rw[hi.len];exact g)] at h1
   rw[Zd g] at h2
   exact .inl ⟨g,h1,h2⟩
  ·obtain⟨m,rfl⟩:∃ m,j=H.length+m:=⟨j - H.length,by omega⟩
   rw[Zj (by rw[hi.len];omega),hi.len,ZH] at h1
   rw[Zj (by omega),ZH,Zs,Zi] at h2
   obtain⟨x,h2,rfl⟩:=h2
   exact .inr ⟨m,x,rfl,h1,h2,rfl⟩
 have Vl:Inv P w' I (ρ++σ) (H++H'.map (aH (ES H.length))):=by
  refine⟨by rw[Zc,Zc,Zr,hi.len,h4.len],fun j k blk g1 g2 g3=> ?_,h7.ib,fun j k blk g1 g2 g3=> ?_,fun j j' k x y g1 g2 g3 g4 g5 g6=> ?_,fun j k blk g1 g2=> ?_,h7.gl⟩
  ·rcases old j k blk g1 g2 with⟨_,a1,a2⟩ | ⟨m,x,rfl,a1,a2,rfl⟩
   ·exact h7.gH j k blk a1 a2 g3
   ·rw[b7] at g3;exact h4.gH m k x a1 a2 g3
  ·rcases old j k blk g1 g2 with⟨_,a1,a2⟩ | ⟨m,x,rfl,a1,a2,rfl⟩
   ·exact h7.live j k blk a1 a2 g3
   ·intro h
    have:=hi.ib _ h
    have:=hnew k (Zh a1)
    omega
  ·rcases old j k x g1 g3 with⟨_,a1,a2⟩ | ⟨m,z,rfl,a1,a2,rfl⟩ <;> rcases old j' k y g2 g4 with⟨_,b1,b2⟩ | ⟨m',z',rfl,b1,b2,rfl⟩
   ·exact h7.fX j j' k x y a1 b1 a2 b2 g5 g6
   ·have:=hi.gH j k x a1 a2 g5
    have:=hnew k (Zh b1)
    omega
   ·have:=hi.gH j' k y b1 b2 g6
    have:=hnew k (Zh a1)
    omega
   ·rw[b7] at g5 g6
    rw[h4.fX m m' k z z' a1 b1 a2 b2 g5 g6]
  ·rcases old j k blk g1 g2 with⟨_,a1,a2⟩ | ⟨m,x,rfl,a1,a2,rfl⟩
   ·cases hlv:blk.live with
    | false=>exact cW.gJ hlv
    | true=>exact cW.mono h6.w.lF h6.w.aZ (V6 ρ σ) (fun b _ s hs=>h6.w.shape b s hs) (he.w.keep k (hi.gH j k blk a1 a2 hlv) (by simp)) (hi.rel j k blk a1 a2)
   ·exact jy hτ (cW.NV (Zz.1 hB x (Zh a2)) (h4.rel m k x a1 a2))
 exact hK u w' I (ρ++σ) hE Vl (fm hτ v u (aC.NV v u hv h5))
end
def aW(i:Nat):Nat->V
 | 0=> .z0
 | n+1=> .row i (n+1)
theorem KN{i n:Nat}(h:0<n):aW i n= .row i n:=by
 cases n with
 | zero=>omega
 | succ n=>rfl
theorem oH{i n:Nat}(h:n=0):aW i n= .z0:=by subst h;rfl
theorem oE{cs:List V}{e:TypeId}{n:Nat}(h:n=0):dA cs e n= .dead:=by subst h;rfl
theorem cC{σ:Nat->Option Nat}{i j n:Nat}(h:σ i=some j):aY σ (aW i n)=aW j n:=by
 cases n with
 | zero=>rfl
 | succ n=>simp only[aW,aY,h]
theorem qC{i n:Nat}:FB (aW i n)=some n:=by cases n <;> rfl
theorem DU{i n:Nat}:jj (aW i n)=true:=by cases n <;> rfl
theorem QH{i n:Nat}:iI (aW i n)=true:=by cases n <;> rfl
theorem xK{i n:Nat}:dK (aW i n)=[aW i n]:=by cases n <;> rfl
theorem uw{i n:Nat}:Lq (aW i n)=true:=by cases n <;> rfl
section
variable {P:Program} {R:Option Nat} {N κ:Nat} {Q:Post} {T:Tm} {H H':List ai} {o:Oper} {ops:Array Oper} {rest:List Oper}
theorem qI{m i n:Nat}{xs:List PV}{e:TypeId}(hH:H[i]? =some (dA (xs.map .p) e n))(h0:n=0->xs=[]):bS H (m+1) (aW i n)=some (.is xs n):=by
 cases n with
 | zero=>rw[h0 rfl];rfl
 | succ n=>exact VG (by rw[hH];rfl)
theorem To.z0(s:Nat)(hs:lk T s=some (.p .nilSlice)):To P κ N T H ((s,.z0)::jh [s] T) H:=fun w I ρ tmps hi ht=>by
 refine⟨I,ρ,cA.refl _ _ _,hi,⟨ht.size,fun s' v hv=> ?_⟩,fun L hL _=>hL⟩
 simp only[lk] at hv
 cases hb:Nat.beq s s' with
 | false=>rw[hb] at hv;exact ht.at_ s' v (jx [s] T s' v hv)
 | true=>
  rw[hb] at hv
  have:=ZO hb
  subst this
  simp at hv
  subst hv
  exact⟨none,ht.at_ s _ hs⟩
def Yw:V->V
 | .p .nilSlice=> .z0
 | v=>v
theorem QJ{w:World}{I:Nat->Prop}{ρ:List Nat}(v:V)(u:Value)(h:aC P w I ρ v u):aC P w I ρ (Yw v) u:=by
 unfold Yw
 split
 ·exact⟨none,h⟩
 ·exact h
theorem G1{w:World}{I:Nat->Prop}{ρ:List Nat}:∀(vs:List V) (us:List Value),ah P w I ρ vs us->ah P w I ρ (vs.map Yw) us
 | [],us,h=>h
 | c::cs,us,h=>by
  obtain⟨u,us',hu,h1,h2⟩:=h
  exact⟨u,us',hu,QJ c u h1,G1 cs us' h2⟩
theorem To.z0B(i:Nat){cs:List V}{e:TypeId}(hH:H[i]? =some (.cells cs e)):To P κ N T H T (H.set i (.cells (cs.map Yw) e)):=fun w I ρ tmps hi ht=>by
 refine⟨I,ρ,cA.refl _ _ _,⟨by simp[hi.len],fun j b blk h1 h2 h3=> ?_,hi.ib,fun j b blk h1 h2 h3=> ?_,fun j k b x y h1 h2 h3 h4 h5 h6=> ?_,fun j b blk h1 h2=> ?_,hi.gl⟩,ht,fun L hL _=>hL⟩
 ·obtain⟨x,hx,hl⟩:∃ x,H[j]? =some x∧x.live=true:=by
    exact BD
  exact hi.gH j b x h1 hx hl
 ·obtain⟨x,hx,hl⟩:∃ x,H[j]? =some x∧x.live=true:=by
    exact BD
  exact hi.live j b x h1 hx hl
 ·have at_:∀(j:Nat) (x:ai),(H.set i (.cells (cs.map Yw) e))[j]? =some x->x.live=true->∃ z,H[j]? =some z∧z.live=true:=fun j x h hl=>by
    rw[Zt] at h
    split at h
    ·rename_i e1;subst e1;exact⟨_,hH,rfl⟩
    ·exact⟨_,h,hl⟩
  obtain⟨x',hx,hxl⟩:=at_ j x h3 h5
  obtain⟨y',hy,vb⟩:=at_ k y h4 h6
  exact hi.fX j k b x' y' h1 h2 hx hy hxl vb
 ·rw[Zt] at h2
  split at h2
  ·rename_i e1
   subst e1
   split at h2
   ·cases h2
    obtain⟨arr,k1,k2⟩:=hi.rel i b _ h1 hH
    exact⟨arr,k1,G1 _ _ k2⟩
   ·cases h2
  ·exact hi.rel j b blk h1 h2
theorem aa.VZ{x y:Operand}{t e:TypeId}{z:List PV}{gX:Nat}(ho:o.op= .makeSlice t x y)(hx:ev T x=some (.p (.int .i64 0)))(hy:ev T y=some (.p (.int .i64 0)))(hs:oU P t=some (e,z))(hby:wj P e=some gX):aa P N o T H .z0 H:=
 aa.dB (by simp[ho]) fun w I ρ a hi hT=>by
  obtain⟨hu,⟨b,ht⟩,xm,hz⟩:=eJ hs
  obtain⟨uz,h1,h2⟩:=hz w
  obtain⟨inf,jW,rfl⟩:∃ inf,P.info? e=some inf∧inf.bytes=gX:=by
   exact Ca
  have CU:∀ k w,(askRoom k).run P w= .ok () w:=fun k w=>by
   exact qV
  have w0:IntKind.i64.wrap 0=0:=by decide
  have ex:a.eval x= .int .i64 0:=hT.ev hx
  have ey:a.eval y= .int .i64 0:=hT.ev hy
  refine⟨.slice (some ⟨w.heap.size,0,none⟩) 0 0,w.alloc (.cells #[] e),I,ρ,.inl ?_,Ext.dL hi _,Inv.dL hi _,⟨_,rfl⟩⟩
  have e0:Array.range 0= #[]:=by decide
  simp[execOp,ho,ex,ey,Instr.makeSlice,run_underlying hu,asInt,dU,run_typeInfo w jW,w0,CU,aK ht,newRow,newObj,Sem.run,e0]
theorem aa.ug{t e:TypeId}{z:List PV}(ho:o.op= .buildSlice t 0 #[])(hs:oU P t=some (e,z)):aa P N o T H .z0 H:=
 aa.dB (by simp[ho]) fun w I ρ a hi hT=>by
  have hv:iJ T ([]:List (Nat×Operand))=some []:=rfl
  obtain⟨arr,h1,h2,h3⟩:=jM (P:=P) (w:=w) (I:=I) (ρ:=ρ) (len:=0) (parts:= #[]) (r:=[]) hs (by omega) hT hv rfl
  refine⟨_,_,I,ρ,.inl ?_,Ext.dL hi (.cells arr e),Inv.dL hi _,⟨some ⟨w.heap.size,0,none⟩,rfl⟩⟩
  simp only[execOp,ho,Sem.run_bind]
  have e1:(Array.map (fun(x:Nat×Operand)=>match x with | (i,x)=>(i,a.eval x)) (#[]:Array (Nat×Operand)))= #[]:=by simp
  rw[e1]
  have e2:((#[]:Array (Nat×Operand)).map fun(x:Nat×Operand)=>(x.1,a.eval x.2))= #[]:=by simp
  rw[e2] at h3
  rw[h3]
  rfl
theorem aa.zW{x y:Operand}{t t2 e:TypeId}{z:List PV}{n gX:Nat}{ys:List V}{yv:V}(ho:o.op= .call {callee:= .builtin .append,args:= #[x,y],argTypes:= #[t,t2]})(hx:ev T x=some .z0)(hy:ev T y=some yv)(hs:oU P t=some (e,z))(oS:dZ P t2=true)
    (hsrc:pH H z.length yv=some (ys,n))(hn:0<n)(hone:ys.all jj=true)(hby:wj P e=some gX)(hb0:0<gX)(hb:(2*n+192)*gX<=281474976710656):
    aa P N o T H (.row H.length n) (H++[.row ys e]):=
 aa.dB (by simp[ho]) fun w I ρ a hi hT=>by
  obtain⟨hu,⟨bb,l6⟩,xm,hz⟩:=eJ hs
  obtain⟨bx,E3⟩:∃ bx,a.eval x= .slice bx 0 0:=hT.ev hx
  obtain⟨us,⟨ad,xE,AJ⟩,hfc,_,cu,hlen⟩:=lq hi (hT.ev hy) hsrc
  have hce:P.cellsOf e=z.length:=by
   exact nW
  have hinfo:∃ inf,P.info? e=some inf∧inf.bytes=gX:=by
   exact vZ
  obtain⟨inf,jW,An⟩:=hinfo
  have pS:∃ d2,P.underlying t2=some (.slice d2):=by
   exact rQ
  obtain⟨d2,pS⟩:=pS
  have vb:=ah.length cu
  have zG:∀ q,0+n<=(Question.appendCap (0+n) 0 e).cut q:=fun q=>Vx _ _
  obtain⟨uz,hz1,xP⟩:=hz w.drew
  have hzl:=aQ.length (xP I)
  have JN:uz.cells.size=z.length:=by simpa using hzl
  have hnext:=jB (need:=0+n) (cap:=0) (by omega)
  have hsmall:¬ (Builtin.nextslicecap (0+n) 0*gX>2^48):=by
   exact wq
  let newCap:=(Question.appendCap (0+n) 0 e).cut (w.tape w.drawn (.appendCap (0+n) 0 e))
  have hnc:0+n<=newCap:=zG _
  have hnew:=hfc w.drew (fun _ _=>rfl)
  let fh:Array Value:= #[]++us.toArray++Builtin.zeroCells uz.cells (newCap - (0+n))
  have vR:Ext w I ρ w.drew I ρ:=Ext.drew
  have hi1:Inv P w.drew I ρ H:=hi.drew
  have ox:Ext w.drew I ρ (w.drew.alloc (.cells fh e)) I (ρ++[w.drew.heap.size]):=Ext.aO hi1 _
  have hi2:Inv P (w.drew.alloc (.cells fh e)) I (ρ++[w.drew.heap.size]) (H++[.row ys e]):=by
   exact Cy
  refine⟨.slice (some ⟨w.heap.size,0,none⟩) (0+n) newCap,w.drew.alloc (.cells fh e),I,ρ++[w.drew.heap.size],.inl ?_,vR.trans ox,hi2,w.heap.size,e,newCap,by rw[<- hi.len];simp,by rw[zq],?_,by omega⟩
  ·rw[AJ] at hnew
   have mA:((0+n:Nat):Int)<=IntKind.i64.max:=by
    exact wZ
   have hold:(Builtin.firstCells z.length 0 (.slice bx 0 0)).run P w.drew= .ok #[] w.drew:=by cases bx <;> simp[Builtin.firstCells,loadCells,loadCellsFrom]
   have:=run_append_grow (P:=P) (w:=w) (t:=t) (t2:=t2) (ty:=o.type) hu l6 pS jW (by rw[An];exact hsmall) mA (by omega) hold hnew hz1
   simp only[execOp,ho,Go.resolve,Go.invoke,Go.builtin,Sem.run_bind]
   exact vB
  ·exact vU
theorem aa.qw{x y:Operand}{t t2 e:TypeId}{z:List PV}{i len n gX:Nat}{cs ys:List V}{yv:V}(ho:o.op= .call {callee:= .builtin .append,args:= #[x,y],argTypes:= #[t,t2]})(hx:ev T x=some (aW i len))(hy:ev T y=some yv)(hs:oU P t=some (e,z))(oS:dZ P t2=true)
    (hH:H[i]? =some (dA cs e len))(hcs:cs.length=len*z.length)(hsrc:pH H z.length yv=some (ys,n))(hn:0<n)(hone:ys.all jj=true)(hby:wj P e=some gX)(hb0:0<gX)(hb:(2*(len+n)+192)*gX<=281474976710656):
    aa P N o T H (.row H.length (len+n)) (H.set i .dead++[.row (cs++ys) e]):=by
 cases len with
 | zero=>
  have h0:cs=[]:=ZA (by simpa using hcs)
  subst h0
  rw[qp (show H[i]? =some ai.dead from hH),Px]
  have:=aa.zW (N:=N) ho hx hy hs oS hsrc hn hone hby hb0 (by simpa using hb)
  simpa using this
 | succ len=>exact aa.sj ho hx hy hs oS hH hcs hsrc hone hby hb0 hb
theorem aa.OE{x y:Operand}{t t2 e:TypeId}{z:List PV}{ys:List V}{yv:V}(ho:o.op= .call {callee:= .builtin .append,args:= #[x,y],argTypes:= #[t,t2]})(hx:ev T x=some .z0)(hy:ev T y=some yv)(hs:oU P t=some (e,z))(oS:dZ P t2=true)
    (hsrc:pH H z.length yv=some (ys,0)):aa P N o T H .z0 H:=
 aa.dB (by simp[ho]) fun w I ρ a hi hT=>by
  obtain⟨hu,⟨bb,l6⟩,xm,hz⟩:=eJ hs
  obtain⟨bx,E3⟩:∃ bx,a.eval x= .slice bx 0 0:=hT.ev hx
  obtain⟨us,⟨ad,xE,AJ⟩,hfc,_,cu,hlen⟩:=lq hi (hT.ev hy) hsrc
  have pS:∃ d2,P.underlying t2=some (.slice d2):=by
   exact rQ
  obtain⟨d2,pS⟩:=pS
  have gz:us=[]:=ZA (by simpa using hlen)
  subst gz
  refine⟨.slice bx 0 0,w,I,ρ,.inl ?_,Ext.refl _ _ _,hi,⟨bx,rfl⟩⟩
  have h:=hfc w (fun _ _=>rfl)
  rw[AJ] at h
  have hr:(Builtin.append_ #[t,t2] o.type #[.slice bx 0 0,.slice ad 0 xE]).run P w= .ok (.slice bx 0 0) w:=by
   cases bx with
   | none=>simp[Builtin.append_,run_underlying hu,aK l6,run_underlying pS,Builtin.lenOf,h,Result.andThen]
   | some bx=>simp[Builtin.append_,run_underlying hu,aK l6,run_underlying pS,Builtin.lenOf,h,Result.andThen,Go.storeCells,Sem.run]
  simp[execOp,ho,Go.resolve,Go.invoke,Go.builtin,E3,AJ,hr,Result.andThen]
theorem aj.Ar(d:Nat){x y:Operand}{t t' e:TypeId}{cs z:List PV}{n:Nat}(ho:o.op= .binOp .eql t x y t')(hx:ev T x=some (.p (.is cs n)))(hy:ev T y=some (.p .nilSlice))(hs:oU P t=some (e,z))(hd:o.dst=some d)(hN:aU N (some d)=true)(hgd:o.guard=none)
    (next:∀ b:Bool,(b=true->n=0)->aj P R N κ ops rest Q ((d,.p (.bool b))::T) H):aj P R N κ ops (o::rest) Q T H:=by
 intro QX B w I ρ a hi ht hm hq
 have hu:=(eJ hs).1
 have e2:a.eval y= .slice none 0 0:=ht.ev hy
 obtain⟨b,hb0,hb⟩:∃ b:Bool,(b=true->n=0)∧(execOp a.eval o).run P w= .ok (.value (.bool b)) w:=by
  have pV:(∃ ad cap,a.eval x= .slice ad 0 cap∧n=0)∨∃ q l cap,a.eval x= .slice (some q) l cap:=by
   rcases ht.ev hx with⟨⟨ad,cap,h1⟩,h2⟩ | ⟨b,o',cap,_,_,h1,_⟩
   ·exact .inl ⟨ad,cap,h1,h2⟩
   ·exact .inr ⟨_,_,_,h1⟩
  have run:∀(u:Value) (c:Bool),a.eval x=u->(Op.equal t u (.slice none 0 0)).run P w= .ok c w->(execOp a.eval o).run P w= .ok (.value (.bool c)) w:=fun u c h1 h2=>by
   have hb:(binOp .eql t u (.slice none 0 0)).run P w= .ok (.bool c) w:=by
    simp only[binOp]
    simp[h2]
   simp[execOp,ho,h1,e2,eqGuard,hb]
  rcases pV with⟨ad,cap,h1,h2⟩ | ⟨q,l,cap,h1⟩
  ·cases ad with
   | none=>
    refine⟨true,fun _=>h2,run _ _ h1 ?_⟩
    show(Op.equalIn (9999+1) t _ (.slice none 0 0)).run P w= .ok true w
    generalize 9999=dd
    simp[Op.equalIn,run_underlying hu]
   | some q=>
    exact Dx
  ·exact Dx
 refine wpListIn_plain hgd fun K hK=>⟨bB,?_⟩
 rw[bG _ _ _ (by simp[ho]),hb]
 refine hK _ _ ?_
 exact next b hb0 QX B w I ρ (a.put o.dst (.bool b)) hi (by rw[hd];exact bq.put hN ht (by simp[aC,Rel])) hm.put hq
end
section
variable {P:Program} {R:Option Nat} {N κ:Nat} {Q:Post} {T:Tm} {H H':List ai} {o:Oper} {ops:Array Oper} {rest:List Oper}
theorem aj.ct(d:Nat){b:Bool}{yV r:PV}{g:FuncId}{args:List PV}(hp:b=true->Pure P g args r)(hn:b=false->tI P g args yV){f:Operand}{xs:Array Operand}{ts:Array TypeId}{fv:V}{vs:List V}
    (ho:o.op= .call {callee:= .value f,args:=xs,argTypes:=ts})(hd:o.dst=some d)(hN:aU N (some d)=true)(hgd:o.guard=none)(hf:ev T f=some fv)
    (hxs:jU T xs.toList=some vs)(hc:callee vs fv=some (g,args.map .p))(hg:ak P g=true)(zD:b=false->Q (.panic (.p yV)) T H)(next:b=true->aj P R N κ ops rest Q ((d,.p r)::T) H):aj P R N κ ops (o::rest) Q T H:=by
 cases b with
 | true=>
  have:=aj.cons (rest:=rest) (Q:=Q) hgd (by rw[hd];exact hN) (aa.dH (N:=N) (T:=T) (H:=H) (hp rfl) ho hf hxs hc hg) (by rw[hd];exact next rfl)
  exact this
 | false=>exact aj.vC d (hn rfl) ho hd hN hgd hf hxs hc hg (zD rfl)
theorem vk{h:List ai}(hb:∀ blk∈h,aH (below h.length) blk=blk):Wt P h:=fun blk hm w I ρ b hr=>by
 have h1:=jy (σ:=below h.length) (ρ2:=ρ.take h.length) (fun i j b g1 g2=>by
  unfold below at g1
  split at g1
  ·rename_i g3
   cases g1
   exact vG (by simpa[Nat.blt,Zx] using g3) g2
  ·cases g1) hr
 rwa [hb blk hm] at h1
theorem To.cut{ext:List ai}{T2:Tm}(hw:Wt P H)(hκ:κ<=H.length)(hT:Sub T2 T)(hl:eV (below H.length) T2=T2):To P κ N T (H++ext) T2 H:=by
 intro w I ρ tmps hi ht
 have hρ:ρ.length=H.length+ext.length:=by rw[hi.len,Zc]
 have t1:∀(i b:Nat),(ρ.take H.length)[i]? =some b->i<H.length∧ρ[i]? =some b:=fun i b e=>by
  exact AQ
 have t2:∀(i:Nat) (blk:ai),H[i]? =some blk->(H++ext)[i]? =some blk:=fun i blk e=>by
  rw[Zd (Za.1 e).1]
  exact e
 refine⟨I,ρ.take H.length,?_,?_,?_,fun B hB hκ2=> ?_⟩
 ·exact CW
 ·exact EC
 ·have h4:=(ht.sub hT).ren (σ:=below H.length) (ρ2:=ρ.take H.length) (fun i j b g1 g2=>by
    unfold below at g1
    split at g1
    ·rename_i g3
     cases g1
     exact vG (by simpa[Nat.blt,Zx] using g3) g2
    ·cases g1)
  rwa [hl] at h4
 ·exact Cb
end
def zU(P:Program)(κ:Nat)(f:FuncId)(args:List V)(H:List ai)(yV:PV)(Hq:List ai->Prop):Prop:=
 ∀(B:List Nat) w I ρ us,Inv P w I ρ H->ah P w I ρ args us->B<+:ρ->B.length<=κ->
  CallsIn Fence.wide 0 P f us.toArray w fun e w'=>∃ u I' ρ' H',e= .panicked [{v:=u,recovered:=false}]∧Hq H'∧cA w I ρ w' I' ρ'∧Inv P w' I' ρ' H'∧Rel w' I' yV u∧B<+:ρ'
def aa1(yV:PV)(Hq:List ai->Prop):Post
 | .panic v,_,H=>v= .p yV∧Hq H
 | _,_,_=>False
def S2(P:Program)(f:FuncId)(mk:V->List V)(xs:List (List V))(yV:PV):Prop:=
 ∀(l κ n:Nat) (inv:Nat->List ai->Prop),κ<=n->(∀ k h,inv k h->h.length=n)->
  (∀ k h x,inv k h->xs[k]? =some x->tj P l κ h x fun b h'=>b=true∧inv (k+1) h')->
  ∀ h0,inv 0 h0->zU P κ f (mk (kr l)) h0 yV fun h'=>∃ k,inv k h'
section
variable {P:Program} {R:Option Nat} {N κ:Nat} {Q:Post} {T:Tm} {H:List ai}
theorem zU.ir{f:FuncId}{fn:Func}{c:Code}{args:List V}{yV:PV}{Hq:List ai->Prop}(hf:P.funcs[f]? =some fn)(hb:fn.body=some c)(hN:fn.ntmps=N)(hn:args.length<=N)
    (h:aF P none N κ c (aa1 yV Hq) (c6 0 args) H):zU P κ f args H yV Hq:=by
 subst hN
 intro B w I ρ us hi gz hBp Wr
 have hl:=ah.length gz
 refine callsIn_of_wp_marks hf hb trivial ?_ rfl
 have ht:bq P w I ρ fn.ntmps (c6 0 args) (us.toArray++Array.replicate (fn.ntmps - us.toArray.size) undef):=by
  exact nX
 refine wpIn_mono (h ⟨w.heap.size,B,[]⟩ w I ρ {tmps:=us.toArray++Array.replicate (fn.ntmps - us.toArray.size) undef,defers:=[]} hi ht ⟨Zf _,Wr,hBp,[],rfl,Ra,fun _ h=>by cases h⟩) ?_
 rintro e a' w' ⟨z,I',ρ',T',H',h1,h2,h3,h4,h5,hB,_,hpre,rs,h6,h7,h8⟩
 cases z with
 | panic v=>
  cases e <;> first | exact h1.elim | skip
  obtain⟨rfl,hy⟩:=h2
  obtain⟨u,rfl,hu⟩:=h1
  show LeavesInM _ _ _ _ _ _ _ _ _
  rw[h6]
  show LeavesInM _ _ _ _ _ _ (_++[]) _ _
  rw[ZX]
  refine o3 rs w' h7 (fun r hr=>(h8 r hr).1) ?_
  intro w2 k1 k2 k3 k4 k5
  have kI:∀ b,I' b->w2.heap[b]? =w'.heap[b]? :=fun b hb=>k1 b (fun hm=>(h8 b hm).2.1 hb)
  have kρ:∀ b:Nat,w'.heap[b]? ≠some (Obj.deferred (some []))->w2.heap[b]? =w'.heap[b]? :=fun b hb=>k1 b (fun hm=>hb (h8 b hm).1)
  have ks:∀ b s,w'.shape? b=some s->w2.shape? b=some s:=fun b s hs=>by
   exact qx
  have hi2:Inv P w2 I' ρ' H':=h4.marks k5 kI kρ ks
  have hlow:∀ b,b<w.heap.size->w2.heap[b]? =w'.heap[b]? :=fun b hb=>k1 b (fun hm=>by have:=(h8 b hm).2.2;simp only at this;omega)
  refine⟨u,I',ρ',H',rfl,hy,?_,hi2,Rel.mono (fun _ h=>h) kI _ _ hu,hpre⟩
  exact Br
 | _=>exact h2.elim
theorem aF.Fh{g:Operand}{ps:Array Tmp}{fG body:Code}{fv:V}{f:FuncId}{mk:V->List V}{xs:List (List V)}{yV:PV}(κ2:Nat)(hg:ev T g=some fv)(hc:∀ y,callee [y] fv=some (f,mk y))(hf:ak P f=true)(FE:S2 P f mk xs yV)
    (hκ:κ<=κ2)(hκn:κ2<=H.length)(hps:∀ x∈xs,x.length=ps.size)(hlt:ps.toList.all (fun p=>Nat.blt p N)=true)
    (J:Nat->List ai->Prop)(hJ:∀ k h,J k h->h.length=H.length)(h0:J 0 H)
    (round:∀ l tmps k h x,J k h->xs[k]? =some x->Round P N κ2 ⟨l,tmps,T,ps,fG,body⟩ k H.length J (fun _ _=>False) (mX T ps.toList x) (h++[.loop ⟨l,tmps,T,ps,fG,body⟩ .ready none]))
    (pan:∀ h,Q (.panic (.p yV)) T h):aF P none N κ (.rangeFunc g ps fG body) Q T H:=by
 intro B w I ρ a hi ht hm
 refine wpIn_rangeFunc ?_
 intro fn _
 have entry:∃(l:Nat) (mark:List Deferred) (w1:World),(Instr.enterLoop fn a.tmps ps fG body none).run P w= .ok (l,mark) w1∧Ext w I ρ w1 I (ρ++[l])∧
     Inv P w1 I (ρ++[l]) (H++[.loop ⟨l,a.tmps,T,ps,fG,body⟩ .ready none])∧Marks κ B w1 I (ρ++[l]) (mark++a.defers):=by
  have hi1:=Inv.dL hi (.deferred (some []))
  have XV:=Ext.dL hi (.deferred (some []))
  let ob:Obj:= .loop {state:= .ready,pending:=none,fn,tmps:=a.tmps,params:=ps,assign:=fG,body,defers:=w.heap.size}
  have KZ:Ext (w.alloc (.deferred (some []))) I ρ _ I _:=Ext.aO hi1 ob
  have hE:=XV.trans KZ
  have hsz:(w.alloc (.deferred (some []))).heap.size=w.heap.size+1:=by simp
  rw[hsz] at hE
  refine⟨w.heap.size+1,_,_,run_enterLoop_outer fn a.tmps ps fG body,hE,?_,?_⟩
  ·have hx:cW P ((w.alloc (.deferred (some []))).alloc ob) I (ρ++[w.heap.size+1]) (.loop ⟨w.heap.size+1,a.tmps,T,ps,fG,body⟩ .ready none) (w.heap.size+1):=by
     exact uW
   have:=Inv.aO hi1 ob (blk:= .loop ⟨w.heap.size+1,a.tmps,T,ps,fG,body⟩ .ready none) (by rw[hsz];exact hx)
   rwa [hsz] at this
  ·exact wQ
 obtain⟨l,mark,w1,XP,hE,hi1,Fx⟩:=entry
 obtain⟨d,us,gz,hres,hinv⟩:=kq (ht.ext hE) hg (hc (kr l)) hf
 refine⟨l,mark,w1,d,w1,f,us.toArray,w1,XP,hres,(fun _ _=>trivial),hinv,(fun h=>by cases h),?_⟩
 have AT:∀ k h,(∃ h0,J k h0∧h=h0++[ai.loop ⟨l,a.tmps,T,ps,fG,body⟩ .ready none])->h.length=H.length+1:=by
  rintro k h ⟨h0,h1,rfl⟩
  simp[hJ k h0 h1]
 have D6:=FE l κ2 (H.length+1) (fun k h=>∃ h0,J k h0∧h=h0++[ai.loop ⟨l,a.tmps,T,ps,fG,body⟩ .ready none])
  (by omega) AT (by
   rintro k h x ⟨h0,h1,rfl⟩ hx
   have:=Round.ok (r:=⟨l,a.tmps,T,ps,fG,body⟩) (Jx:=fun _ _=>False) (hJ k h0 h1) (hJ (k+1)) (fun _ _ h=>h.elim) (hps x (Zh hx)) (fun p hp=>by
    have:=(Zz.1 hlt) p hp
    simpa[Nat.blt,Zx] using this) ht.size (round l a.tmps k h0 x h1 hx)
   intro B2 w2 I2 ρ2 us2 q1 q2 q3 q4
   obtain⟨fn2,SZ,aaB,YQ,q5,q6⟩:=this B2 w2 I2 ρ2 us2 q1 q2 q3 q4
   refine⟨fn2,SZ,aaB,YQ,q5,RoundIn.mono q6 ?_⟩
   rintro e w' ⟨b,I',ρ',h',rfl,q7,q8⟩
   cases b with
   | true=>exact⟨true,I',ρ',h',rfl,⟨rfl,by rwa [if_pos rfl] at q7⟩,q8⟩
   | false=>
    rw[if_neg (by decide)] at q7
    obtain⟨_,_,q9,_⟩:=q7
    exact q9.elim) _ ⟨H,h0,rfl⟩ B.pre w1 I (ρ++[l]) us hi1 gz (Fx.2.2.1) (ZS Fx.2.1 hκ)
 refine CallsIn.mono (cj none D6) ?_
 rintro e w3 ⟨u,I3,ρ3,H3,rfl,⟨k,h',hj,rfl⟩,h1,h2,h3,h4⟩
 have ef:(h'++[ai.loop ⟨l,a.tmps,T,ps,fG,body⟩ .ready none])[H.length]? =some (.loop ⟨l,a.tmps,T,ps,fG,body⟩ .ready none):=by rw[<- hJ k h' hj];simp
 obtain⟨_,_,YL⟩:=j5 h2 ef
 exact⟨.panic (.p yV),I3,ρ3,T,_,⟨u,rfl,h3⟩,pan _,hE.w.trans h1,h2,⟨ht.size,fun s v hv=>YL s v hv⟩,Fx.Ix h1 h4⟩
end
section
variable {P:Program} {R:Option Nat} {N κ:Nat} {Q:Post} {T:Tm} {H H':List ai} {o:Oper} {ops:Array Oper} {rest:List Oper}
theorem bC{σ:Nat->Option Nat}{xs:List PV}{e n:Nat}:aH σ (dA (xs.map .p) e n)=dA (xs.map .p) e n:=by
 cases n with
 | zero=>rfl
 | succ n=>show ai.row (bw σ _) e=_;rw[aX];rfl
theorem bR{σ:Nat->Option Nat}{cs:List V}{e:TypeId}:aH σ (.cells cs e)= .cells (bw σ cs) e:=rfl
theorem bK{σ:Nat->Option Nat}{v:V}{vs:List V}:bw σ (v::vs)=aY σ v::bw σ vs:=rfl
theorem b8{σ:Nat->Option Nat}:bw σ []=[]:=rfl
theorem dV{σ:Nat->Option Nat}{x:PV}:aY σ (.p x)= .p x:=rfl
theorem iq{σ:Nat->Option Nat}{a:Option Addr}{n c:Nat}:aY σ (.raw a n c)= .raw a n c:=rfl
theorem fA{σ:Nat->Option Nat}:aH σ .dead= .dead:=rfl
theorem cT{n0 i n:Nat}{ms:List Nat}(h:i<n0):aY (sg n0 ms) (aW i n)=aW i n:=cC (by
 unfold sg
 rw[show Nat.blt i n0=true by simpa[Nat.blt,Zx] using h]
 rfl)
theorem Me{m i n:Nat}(h:i<m):aY (below m) (aW i n)=aW i n:=cC (by
 unfold below
 rw[if_pos (by simpa[Nat.blt,Zx] using h)])
theorem aa.WE{v:V}(h:aa P N o T H v H):aa P N o T H v (H++[.dead]):=fun R w I ρ a hi ht K QX hK=>h R w I ρ a hi ht K QX fun u w' I' ρ' hE hi' hv=>by
 have hp:Ext w' I' ρ' w' I' (ρ'++[w'.heap.size]):=GI
 exact hK u w' I' _ (hE.trans hp) (PB hi') (hv.ext hp)
theorem aa.qM{x y:Operand}{t t2 e:TypeId}{z:List PV}{n gX:Nat}{ys:List V}{yv:V}(ho:o.op= .call {callee:= .builtin .append,args:= #[x,y],argTypes:= #[t,t2]})(hx:ev T x=some .z0)(hy:ev T y=some yv)(hs:oU P t=some (e,z))(oS:dZ P t2=true)
    (hsrc:pH H z.length yv=some (ys,n))(hone:ys.all jj=true)(hby:wj P e=some gX)(hb0:0<gX)(hb:(2*n+192)*gX<=281474976710656):
    aa P N o T H (aW H.length n) (H++[dA ys e n]):=by
 cases n with
 | zero=>exact aa.WE (aa.OE ho hx hy hs oS hsrc)
 | succ n=>exact aa.zW ho hx hy hs oS hsrc (Tu _) hone hby hb0 hb
theorem aa.Y9{x y:Operand}{t e:TypeId}{z:List PV}{n gX:Nat}(ho:o.op= .makeSlice t x y)(hx:ev T x=some (.p (.int .i64 (n:Int))))(hy:ev T y=some (.p (.int .i64 (n:Int))))(hs:oU P t=some (e,z))(hby:wj P e=some gX)(hb0:0<gX)
    (hb:gX*n<=281474976710656):aa P N o T H (aW H.length n) (H++[dA ((List.replicate n z).flatten.map .p) e n]):=by
 cases n with
 | zero=>exact aa.WE (aa.VZ ho hx hy hs hby)
 | succ n=>exact aa.makeSlice ho hx hy hs hby hb0 (Zf _) hb
theorem aa.vS{x y:Operand}{t:TypeId}{b:Bool}{i off j n:Nat}{H':List ai}(ho:o.op= .store t x y)(hx:ev T x=some (.ptr i off))(hy:ev T y=some (aW j n))(ht:fD P t=some (b,1))(hs:fI H i off [aW j n]=some H'):aa P N o T H .top H':=by
 refine aa.store ho hx hy QH (by cases n <;> rfl) ht (by rw[xK];rfl) (by rw[xK];exact hs)
theorem aa.Y1{x y:Operand}{t t2 e:TypeId}{z:List PV}{i n:Nat}{zs xs:List PV}(ho:o.op= .call {callee:= .builtin .copy,args:= #[x,y],argTypes:= #[t,t2]})(hx:ev T x=some (aW i n))(hy:ev T y=some (.p (.is xs n)))(hs:oU P t=some (e,z))
    (hH:H[i]? =some (dA (zs.map .p) e n))(hlen:xs.length=n*z.length)(hz:zs.length=xs.length)(hone:(xs.map V.p).all jj=true)(hsrc:pH H z.length (.p (.is xs n))=some (xs.map .p,n)):aa P N o T H (.p (.int .i64 (n:Int))) (H.set i (dA (xs.map .p) e n)):=by
 cases n with
 | zero=>
  have e0:H.set i (dA (xs.map .p) e 0)=H:=qp hH
  rw[e0]
  exact aa.dB (by simp[ho]) fun w I ρ a hi hT=>by
   obtain⟨hu,⟨bb,l6⟩,xm,hzz⟩:=eJ hs
   obtain⟨bx,E3⟩:∃ bx,a.eval x= .slice bx 0 0:=hT.ev hx
   obtain⟨us,⟨ad,xE,AJ⟩,_,hfc,cu,ju⟩:=lq hi (hT.ev hy) hsrc
   have hf:=hfc 0 (Zf _)
   refine⟨.int .i64 0,w,I,ρ,.inl ?_,Ext.refl _ _ _,hi,rfl⟩
   rw[AJ] at hf
   have hlo:(Builtin.lenOf (.slice ad 0 xE)).run P w= .ok 0 w:=by simp[Builtin.lenOf]
   rw[Nat.zero_mul,Mq] at hf
   cases bx with
   | none=>simp[execOp,ho,Go.resolve,Go.invoke,Go.builtin,Builtin.copy_,run_underlying hu,E3,aK l6,AJ,hlo,hf,goInt]
   | some bx=>simp[execOp,ho,Go.resolve,Go.invoke,Go.builtin,Builtin.copy_,run_underlying hu,E3,aK l6,AJ,hlo,hf,goInt,Go.storeCells,Sem.run]
 | succ n=>
  have:=aa.PK (N:=N) (len:=n+1) ho hx hy hs hH hsrc (Zf _) (by rw[Zr,Zr,hz];exact Zf _) hone
  have e1:=yN (xs.map V.p) (zs.map V.p) [] (by simp[hz])
  simp only[Px,Km] at e1
  rw[e1] at this
  exact this
theorem eT{α:Type}{f:α->List PV}(h:∀ x,iZ ((f x).map .p)=true):∀ l:List α,iZ ((l.flatMap f).map .p)=true:=by
 have app:∀ a b:List V,iZ a=true->iZ b=true->iZ (a++b)=true:=fun a b=>by
  induction a with
  | nil=>intro _ h;exact h
  | cons x a ih=>
   intro h1 h2
   unfold iZ at h1
   rw[Zm] at h1
   show(Lq x&&iZ (a++b))=true
   rw[h1.1,ih h1.2 h2];rfl
 intro l
 induction l with
 | nil=>rfl
 | cons x l ih=>rw[ZI,ZC];exact app _ _ (h x) ih
theorem aa.G4(m k:Nat){g:FuncId}{args:List PV}{xs:List PV}{e n:Nat}(hp:az P g (args.map .p) [] fun v H'=>v=aW 0 n∧H'=[dA (xs.map .p) e n])(hk:H.length=k)(hsc:iZ (xs.map .p)=true){f:Operand}{ys:Array Operand}{ts:Array TypeId}{fv:V}{vs all:List V}(ho:o.op= .call {callee:= .value f,args:=ys,argTypes:=ts})(hf:ev T f=some fv)
    (hxs:jU T ys.toList=some vs)(hc:callee vs fv=some (g,all))(hb:cS (bS H m) all=some args)(hg:ak P g=true):aa P N o T H (aW k n) (H++[dA (xs.map .p) e n]):=by
 have:=aa.zP (N:=N) (T:=T) (H:=H) m hp uw (by
  cases n with
  | zero=>rfl
  | succ n=>show(iZ (xs.map .p)&&true)=true;rw[hsc];rfl) ho hf hxs hc hb hg
 rw[cC (σ:=ES H.length) (i:=0) (j:=k) (by unfold ES;rw[hk,Kb])] at this
 rwa [show([dA (xs.map V.p) e n]:List ai).map (aH (ES H.length))=[dA (xs.map .p) e n] by rw[ZD,bC];rfl] at this
end
section
variable {P:Program} {R:Option Nat} {N κ:Nat} {Q:Post} {T:Tm} {H H2:List ai} {o:Oper} {l:List Oper}
theorem aF.iT{id:Nat}(m:Nat)(H2:List ai)(FN:P.follows .mixedOrders=true)(hk:kg m l=true)(hm:m<=l.length)(h:aA P N l.toArray H H2 (fun T'=>aj P R N κ l.toArray (l.drop m) Q T' H2) false (l.take m) T):aF P R N κ (.region id l.toArray true) Q T H:=by
 intro B w I ρ a hi ht hmk
 obtain⟨vs,Tx,q,h0,Fi,_,h1,h2⟩:=aA.vals h
 have hq:q<m:=by have:=Fi rfl;simp at this;omega
 have hlen:(l.take m).length=m:=by simp;omega
 rw[hlen] at h2
 refine wpIn_region_any FN ?_
 have hi':Inv P w.drew I ρ H:=hi.drew
 refine F6 (κ:=κ) (fH.of hk) hm hq (B:=B) (w0:=w) (I0:=I) (ρ0:=ρ) h0 (fun i o pU ho=>h1 i o (by rw[ZR,if_pos pU];exact ho)) ?_ _ _ a w.drew (by simp) (by simp) ?_ ?_ ?_
 ·exact rF
 ·exact lz
 ·exact kP
 ·have e0:fl (Array.replicate l.length false) q=false:=by
    exact vF
  refine⟨I,ρ,Ext.drew.w,by simpa[e0] using hi',ht.size,fun s v hv=> ?_,hmk.ext Ext.drew⟩
  exact rG
end
def Sj:V->Bool
 | .row _ _=>true
 | .z0=>true
 | .raw _ _ _=>true
 | _=>false
def cZ(R:V->V->Prop):List V->List V->Prop
 | [],l=>l=[]
 | c::cs,l=>∃ d ds,l=d::ds∧R c d∧cZ R cs ds
theorem cZ.mono{R S:V->V->Prop}(h:∀ v v',R v v'->S v v'):∀(cs l:List V),cZ R cs l->cZ S cs l
 | [],_,hl=>hl
 | _::cs,_,⟨d,ds,e,h1,h2⟩=>⟨d,ds,e,h _ _ h1,cZ.mono h cs ds h2⟩
theorem cZ.len{R:V->V->Prop}:∀(cs l:List V),cZ R cs l->l.length=cs.length
 | [],_,hl=>by rw[show _=_ from hl]
 | _::cs,_,⟨d,ds,e,_,h2⟩=>by rw[e,Zo,Zo,cZ.len cs ds h2]
theorem cZ.app{R:V->V->Prop}:∀(cs l Gy l2:List V),cZ R cs l->cZ R Gy l2->cZ R (cs++Gy) (l++l2)
 | [],_,_,_,hl,h2=>by rw[show _=_ from hl];exact h2
 | _::cs,_,Gy,l2,⟨d,ds,e,h1,h2⟩,h3=>⟨d,ds++l2,by rw[e];rfl,h1,cZ.app cs ds Gy l2 h2 h3⟩
theorem cZ.refl{R:V->V->Prop}(h:∀ v,R v v):∀ cs:List V,cZ R cs cs
 | []=>rfl
 | c::cs=>⟨c,cs,rfl,h c,cZ.refl h cs⟩
theorem cZ.split{R:V->V->Prop}:∀(cs Gy l:List V),cZ R (cs++Gy) l->∃ l1 l2,l=l1++l2∧cZ R cs l1∧cZ R Gy l2
 | [],_,l,h=>⟨[],l,rfl,rfl,h⟩
 | c::cs,Gy,_,⟨d,ds,e,h1,h2⟩=>by
  obtain⟨l1,l2,e2,h3,h4⟩:=cZ.split cs Gy ds h2
  exact⟨d::l1,l2,by rw[e,e2];rfl,⟨d,l1,rfl,h1,h3⟩,h4⟩
section
variable {P:Program} {w w':World} {I J:Nat->Prop} {ρ σ:List Nat} {H:List ai}
def Ac(P:Program)(w:World)(I:Nat->Prop)(ρ:List Nat)(p:V×V):Prop:=∃ a n c,p.1= .raw a n c∧aC P w I ρ p.2 (.slice a n c)
def gR(ps:List (V×V))(v v':V):Prop:=v=v'∨(v,v')∈ps
def nN(ps:List (V×V))(v v':V):Prop:=(Sj v=false∧v'=v)∨(Sj v=true∧(∃ a n c,v'= .raw a n c)∧(v',v)∈ps)
def mT(ps:List (V×V))(x x':ai):Prop:=x=x'∨∃ cs cs' e,cZ (gR ps) cs cs'∧((x= .cells cs e∧x'= .cells cs' e)∨∃ t,x= .row (cs++t) e∧x'= .row cs' e)
def eD(ps:List (V×V))(H H':List ai):Prop:=H.length=H'.length∧∀(i:Nat) (x x':ai),H[i]? =some x->H'[i]? =some x'->mT ps x x'
theorem gR.refl{ps:List (V×V)}(v:V):gR ps v v:= .inl rfl
theorem wg{ps:List (V×V)}:∀(cs cs':List V),cZ (nN ps) cs cs'->cZ (gR ps) cs' cs
 | [],_,h=>by rw[show _=_ from h];exact rfl
 | c::cs,_,⟨d,ds,e,h1,h2⟩=>by
  subst e
  refine⟨c,cs,rfl,?_,wg cs ds h2⟩
  rcases h1 with⟨_,h⟩ | ⟨_,_,h⟩
  ·exact .inl h
  ·exact .inr h
theorem eD.set{ps:List (V×V)}{H:List ai}{k:Nat}{x x':ai}(h:H[k]? =some x)(hx:mT ps x x'):eD ps H (H.set k x'):=by
 refine⟨by rw[yX],fun i y y' h1 h2=> ?_⟩
 rw[Zt] at h2
 split at h2
 ·rename_i e
  subst e
  split at h2
  ·cases h2
   rw[h] at h1;cases h1;exact hx
  ·cases h2
 ·rw[h1] at h2;cases h2;exact .inl rfl
theorem Lp{ps:List (V×V)}(hp:∀ p∈ps,Ac P w I ρ p){v v':V}{u:Value}(h:gR ps v v')(hr:aC P w I ρ v u):aC P w I ρ v' u:=by
 rcases h with rfl | h
 ·exact hr
 ·obtain⟨a,n,c,h1,h2⟩:=hp _ h
  dsimp only at h1 h2
  rw[h1] at hr
  rw[show u=_ from hr]
  exact h2
theorem tu{ps:List (V×V)}(hp:∀ p∈ps,Ac P w I ρ p):∀(vs vs':List V) (us:List Value),cZ (gR ps) vs vs'->ah P w I ρ vs us->ah P w I ρ vs' us
 | [],_,us,h,hr=>by rw[show _=_ from h];exact hr
 | v::vs,_,us,⟨d,ds,e,h1,h2⟩,⟨u,us',e2,h3,h4⟩=>by
  rw[e]
  exact⟨u,us',e2,Lp hp h1 h3,tu hp vs ds us' h2 h4⟩
theorem yL:∀(cs t:List V) (us:List Value),ah P w I ρ (cs++t) us->ah P w I ρ cs (us.take cs.length)
 | [],t,us,h=>by rw[Km,Mq];rfl
 | c::cs,t,_,⟨u,us',rfl,h1,h2⟩=>⟨u,us'.take cs.length,rfl,h1,yL cs t us' h2⟩
theorem Jt{ps:List (V×V)}(hp:∀ p∈ps,Ac P w I ρ p){x x':ai}{b:Nat}(h:mT ps x x')(hr:cW P w I ρ x b):cW P w I ρ x' b:=by
 rcases h with rfl | ⟨cs,cs',e,h1,⟨rfl,rfl⟩ | ⟨t,rfl,rfl⟩⟩
 ·exact hr
 ·obtain⟨arr,h2,h3⟩:=hr
  exact⟨arr,h2,tu hp _ _ _ h1 h3⟩
 ·obtain⟨arr,h2,h3,h4⟩:=hr
  have hl:=cZ.len _ _ h1
  rw[Zc] at h3
  have h5:=yL cs t _ h4
  rw[List.take_take,Zc,Kj (by omega)] at h5
  exact⟨arr,h2,by rw[hl];omega,by rw[hl];exact tu hp _ _ _ h1 h5⟩
theorem lR{ps:List (V×V)}{x x':ai}(h:mT ps x x'):x'.live=x.live:=by
 rcases h with rfl | ⟨cs,cs',e,h1,⟨rfl,rfl⟩ | ⟨t,rfl,rfl⟩⟩ <;> rfl
theorem CJ{ps:List (V×V)}(hp:∀ p∈ps,Ac P w I ρ p){H':List ai}(h:eD ps H H')(hi:Inv P w I ρ H):Inv P w I ρ H':=by
 have hg:∀(i:Nat) (x':ai),H'[i]? =some x'->∃ x,H[i]? =some x∧mT ps x x':=fun i x' hx=>by
  have hl:i<H.length:=by rw[h.1];exact(Za.1 hx).1
  exact⟨_,Zb hl,h.2 i _ x' (Zb hl) hx⟩
 refine⟨by rw[hi.len,h.1],fun i b x h1 h2 h3=> ?_,hi.ib,fun i b x h1 h2 h3=> ?_,fun i j b x y h1 h2 h3 h4 h5 h6=> ?_,fun i b x h1 h2=> ?_,hi.gl⟩
 ·obtain⟨y,h4,h5⟩:=hg i x h2
  exact hi.gH i b y h1 h4 (by rw[<- lR h5];exact h3)
 ·obtain⟨y,h4,h5⟩:=hg i x h2
  exact hi.live i b y h1 h4 (by rw[<- lR h5];exact h3)
 ·obtain⟨x2,h7,h8⟩:=hg i x h3
  obtain⟨y2,h9,h10⟩:=hg j y h4
  exact hi.fX i j b x2 y2 h1 h2 h7 h9 (by rw[<- lR h8];exact h5) (by rw[<- lR h10];exact h6)
 ·obtain⟨y,h4,h5⟩:=hg i x h2
  exact Jt hp h5 (hi.rel i b y h1 h4)
theorem Ac.ext(h:Ext w I ρ w' J σ){p:V×V}(hp:Ac P w I ρ p):Ac P w' J σ p:=by
 obtain⟨a,n,c,h1,h2⟩:=hp
 exact⟨a,n,c,h1,aC.ext h h2⟩
theorem zj{v:V}{u:Value}(h:aC P w I ρ v u)(hs:Sj v=true):∃ a n c,u= .slice a n c:=by
 cases v with
 | row i len=>obtain⟨b,e,cap,_,hu,_⟩:=h;exact⟨_,_,_,hu⟩
 | z0=>obtain⟨a,hu⟩:=h;exact⟨_,_,_,hu⟩
 | raw a n c=>exact⟨a,n,c,h⟩
 | _=>cases hs
theorem Oy:∀(cs:List V) (us:List Value),ah P w I ρ cs us->∃ cs' ps,cZ (nN ps) cs cs'∧ah P w I ρ cs' us∧∀ p∈ps,Ac P w I ρ p
 | [],us,h=>⟨[],[],rfl,h,fun p hp=>by cases hp⟩
 | v::cs,_,⟨u,us',rfl,h1,h2⟩=>by
  obtain⟨cs',ps,h3,h4,h5⟩:=Oy cs us' h2
  cases hs:Sj v with
  | false=>exact⟨v::cs',ps,⟨v,cs',rfl,.inl ⟨hs,rfl⟩,h3⟩,⟨u,us',rfl,h1,h4⟩,h5⟩
  | true=>
   obtain⟨a,n,c,rfl⟩:=zj h1 hs
   refine⟨.raw a n c::cs',(.raw a n c,v)::ps,⟨_,_,rfl,.inr ⟨hs,⟨a,n,c,rfl⟩,Zv⟩,cZ.mono (fun x x' hx=> ?_) _ _ h3⟩,⟨_,us',rfl,rfl,h4⟩,fun p hp=> ?_⟩
   ·rcases hx with hx | ⟨k1,k2,k3⟩
    ·exact .inl hx
    ·exact .inr ⟨k1,k2,Zl _ k3⟩
   ·rcases Zw.1 hp with rfl | hp
    ·exact⟨a,n,c,rfl,h1⟩
    ·exact h5 p hp
theorem GU{um:V}{post:List V}(hs:Sj um=true):∀(pre:List V) (us:List Value),ah P w I ρ (pre++um::post) us->∃ a n c,ah P w I ρ (pre++ .raw a n c::post) us∧aC P w I ρ um (.slice a n c)
 | [],_,⟨u,us',rfl,h1,h2⟩=>by
  obtain⟨a,n,c,rfl⟩:=zj h1 hs
  exact⟨a,n,c,⟨_,us',rfl,rfl,h2⟩,h1⟩
 | p::pre,_,⟨u,us',rfl,h1,h2⟩=>by
  obtain⟨a,n,c,h3,h4⟩:=GU hs pre us' h2
  exact⟨a,n,c,⟨u,us',rfl,h1,h3⟩,h4⟩
theorem AZ{k:Nat}{old new:ai}(hk:H[k]? =some old)(hl:old.live=true)(hr:∀ b,ρ[k]? =some b->cW P w I ρ old b->cW P w I ρ new b)(hi:Inv P w I ρ H):Inv P w I ρ (H.set k new):=by
 have tJ:k<ρ.length:=by rw[hi.len];exact(Za.1 hk).1
 have hb:=Zb tJ
 exact hi.write hb hk hl ⟨cA.refl _ _ _,ZE _⟩ rfl (fun _ _=>rfl) (hr _ hb (hi.rel k _ old hb hk))
theorem ay.Uy{f:FuncId}{args:List V}{Qr:V->List ai->Prop}{Qp:PV->List ai->Prop}
    (h:∀ w I ρ,Inv P w I ρ H->∃(H0:List ai) (ps:List (V×V)),Inv P w I ρ H0∧(∀ p∈ps,Ac P w I ρ p)∧ay P f args H0 (fun v H2=>∃ H3,eD ps H2 H3∧Qr v H3) (fun y H2=>∃ H3,eD ps H2 H3∧Qp y H3)):ay P f args H Qr Qp:=by
 intro w I ρ us hi gz
 obtain⟨H0,ps,h1,h2,h3⟩:=h w I ρ hi
 refine(h3 w I ρ us h1 gz).mono ?_
 rintro e w' (⟨u,v,J,σ,H2,e1,⟨H3,ht,hq⟩,h4,h5,h6⟩ | ⟨u,y,J,σ,H2,e1,⟨H3,ht,hq⟩,h4,h5,h6⟩)
 ·exact .inl ⟨u,v,J,σ,H3,e1,hq,h4,CJ (fun p hp=>(h2 p hp).ext h4) ht h5,h6⟩
 ·exact .inr ⟨u,y,J,σ,H3,e1,hq,h4,CJ (fun p hp=>(h2 p hp).ext h4) ht h5,h6⟩
theorem ay.Rp{f:FuncId}{args:List V}{Qr:V->List ai->Prop}{Qp:PV->List ai->Prop}(k:Nat){cs:List V}{e:TypeId}(hk:H[k]? =some (.row cs e))
    (h:∀ cs' ps,cZ (nN ps) cs cs'->ay P f args (H.set k (.row cs' e)) (fun v H2=>∃ H3,eD ps H2 H3∧Qr v H3) (fun y H2=>∃ H3,eD ps H2 H3∧Qp y H3)):ay P f args H Qr Qp:=by
 refine ay.Uy fun w I ρ hi=> ?_
 have tJ:k<ρ.length:=by rw[hi.len];exact(Za.1 hk).1
 have hb:=Zb tJ
 obtain⟨arr,h1,h2,h3⟩:=hi.rel k _ _ hb hk
 obtain⟨cs',ps,h4,h5,h6⟩:=Oy cs _ h3
 have hl:=cZ.len _ _ h4
 exact⟨_,ps,AZ hk rfl (fun b iW _=>by rw[hb] at iW;cases iW;exact⟨arr,h1,by rw[hl];exact h2,by rw[hl];exact h5⟩) hi,h6,h cs' ps h4⟩
theorem ay.Oh{f:FuncId}{args:List V}{Qr:V->List ai->Prop}{Qp:PV->List ai->Prop}(k:Nat){pre post:List V}{um:V}{e:TypeId}(hk:H[k]? =some (.cells (pre++um::post) e))(hs:Sj um=true)
    (h:∀ a n c,ay P f args (H.set k (.cells (pre++ .raw a n c::post) e)) (fun v H2=>∃ H3,eD [(.raw a n c,um)] H2 H3∧Qr v H3) (fun y H2=>∃ H3,eD [(.raw a n c,um)] H2 H3∧Qp y H3)):ay P f args H Qr Qp:=by
 refine ay.Uy fun w I ρ hi=> ?_
 have tJ:k<ρ.length:=by rw[hi.len];exact(Za.1 hk).1
 have hb:=Zb tJ
 obtain⟨arr,h1,h3⟩:=hi.rel k _ _ hb hk
 obtain⟨a,n,c,h4,h5⟩:=GU hs pre _ h3
 exact⟨_,[(.raw a n c,um)],AZ hk rfl (fun b iW _=>by rw[hb] at iW;cases iW;exact⟨arr,h1,h4⟩) hi,fun p hp=>by rw[ZK.1 hp];exact⟨a,n,c,rfl,h5⟩,h a n c⟩
theorem ay.pad{f:FuncId}{args:List V}{Qr:V->List ai->Prop}{Qp:PV->List ai->Prop}(h:ay P f args (H++[.dead]) Qr Qp):ay P f args H Qr Qp:=by
 intro w I ρ us hi gz
 have oX:∀(i b:Nat) (x:ai),(ρ++[w.heap.size])[i]? =some b->(H++[.dead])[i]? =some x->x.live=true->ρ[i]? =some b∧H[i]? =some x:=fun i b x h1 h2 h3=>by
  rcases bz h2 with⟨h5,h6⟩ | ⟨h5,h6⟩
  ·rw[Zd (by rw[hi.len];exact h5)] at h1
   exact⟨h1,h6⟩
  ·rw[h6] at h3;cases h3
 have hp:Inv P w I (ρ++[w.heap.size]) (H++[.dead]):=by
  refine⟨by simp[hi.len],fun i b x h1 h2 h3=> ?_,hi.ib,fun i b x h1 h2 h3=> ?_,fun i j b x y h1 h2 h3 h4 h5 h6=> ?_,fun i b x h1 h2=> ?_,hi.gl⟩
  ·obtain⟨h4,h5⟩:=oX i b x h1 h2 h3
   exact hi.gH i b x h4 h5 h3
  ·obtain⟨h4,h5⟩:=oX i b x h1 h2 h3
   exact hi.live i b x h4 h5 h3
  ·obtain⟨h7,h8⟩:=oX i b x h1 h3 h5
   obtain⟨h9,h10⟩:=oX j b y h2 h4 h6
   exact hi.fX i j b x y h7 h9 h8 h10 h5 h6
  ·cases hl:x.live with
   | false=>exact cW.gJ hl
   | true=>
    obtain⟨h4,h5⟩:=oX i b x h1 h2 hl
    exact cW.mono (fun _ h=>h) (fun _ _=>rfl) ⟨_,rfl⟩ (fun _ _ _ h=>h) rfl (hi.rel i b x h4 h5)
 have hE:∀(w':World) (J:Nat->Prop) (σ:List Nat),Ext w I (ρ++[w.heap.size]) w' J σ->Ext w I ρ w' J σ:=fun w' J σ h3=>
  ⟨⟨h3.w.os,h3.w.tape,h3.w.output,h3.w.size,fun b g1 g2=>h3.w.keep b g1 fun h=>by
      rcases Zq.1 h with h | h
      ·exact g2 h
      ·have:=ZK.1 h;omega,h3.w.shape,h3.w.lF,h3.w.aZ,fun b h=>by
   rcases h3.w.eK b h with h | h | h
   ·exact .inl h
   ·rcases Zq.1 h with h | h
    ·exact .inr (.inl h)
    ·have:=ZK.1 h;exact .inr (.inr (by omega))
   ·exact .inr (.inr h),h3.w.cE,h3.w.kz,fun b h=>by
   rcases h3.w.new b h with h | h
   ·rcases Zq.1 h with h | h
    ·exact .inl h
    ·have:=ZK.1 h;exact .inr (by omega)
   ·exact .inr h⟩,(V6 ρ [w.heap.size]).trans h3.pre⟩
 have aae:ah P w I (ρ++[w.heap.size]) args us:=ah.mono (fun _ h=>h) (fun _ _=>rfl) ⟨_,rfl⟩ (fun _ _ _ h=>h) args us gz
 refine(h w I _ us hp aae).mono ?_
 rintro e w' (⟨u,v,J,σ,H2,e1,hq,h4,h5,h6⟩ | ⟨u,y,J,σ,H2,e1,hq,h4,h5,h6⟩)
 ·exact .inl ⟨u,v,J,σ,H2,e1,hq,hE _ _ _ h4,h5,h6⟩
 ·exact .inr ⟨u,y,J,σ,H2,e1,hq,hE _ _ _ h4,h5,h6⟩
end
section
variable {P:Program} {R:Option Nat} {N κ:Nat} {Q:Post} {T:Tm} {H:List ai} {o:Oper}
theorem aF.xO{c:Code}{H':List ai}(e:H'=H)(h:aF P R N κ c Q T H'):aF P R N κ c Q T H:=e▸h
theorem aa.H8{x y:Operand}{t:TypeId}{kd:IntKind}{sz i n:Nat}{z:Int}(ho:o.op= .indexAddr t x y)(hx:ev T x=some (aW i n))(hy:ev T y=some (.p (.int kd z)))(ht:dZ P t=true)(he:oy P t=some sz)(h0:0<=z)(h1:z<(n:Int)):aa P N o T H (.ptr i (z.toNat*sz)) H:=by
 cases n with
 | zero=>omega
 | succ n=>exact aa.kX ho hx hy ht he h0 (by omega)
theorem aa.Uo(m k:Nat){g:FuncId}{args:List PV}{xs:List PV}{e:TypeId}{n:Nat}{x y:Int}(hp:az P g (args.map .p) [] fun v H'=>v= .tuple [.row 0 n,.p (.int .i64 x),.p (.int .i64 y)]∧H'=[.row (xs.map .p) e])(hk:H.length=k)(hsc:iZ (xs.map .p)=true){f:Operand}{ys:Array Operand}{ts:Array TypeId}{fv:V}{vs all:List V}(ho:o.op= .call {callee:= .value f,args:=ys,argTypes:=ts})(hf:ev T f=some fv)
    (hxs:jU T ys.toList=some vs)(hc:callee vs fv=some (g,all))(hb:cS (bS H m) all=some args)(hg:ak P g=true):aa P N o T H (.tuple [.row k n,.p (.int .i64 x),.p (.int .i64 y)]) (H++[.row (xs.map .p) e]):=by
 have:=aa.zP (N:=N) (T:=T) (H:=H) m hp rfl (by show(iZ (xs.map .p)&&true)=true;rw[hsc];rfl) ho hf hxs hc hb hg
 rw[show([ai.row (xs.map V.p) e]:List ai).map (aH (ES H.length))=[.row (xs.map .p) e] by show[ai.row (bw _ _) _]=_;rw[aX]] at this
 rw[show aY (ES H.length) (.tuple [.row 0 n,.p (.int .i64 x),.p (.int .i64 y)])= .tuple [.row k n,.p (.int .i64 x),.p (.int .i64 y)] by show V.tuple [.row (H.length+0) n,_,_]=_;rw[hk];rfl] at this
 exact this
end
section
variable {P:Program} {R:Option Nat} {N κ:Nat} {Q:Post} {T T0:Tm} {H:List ai} {l:List Oper} {vs:Nat->V} {q:Nat}
theorem E9{F:Fence}{n:Nat}{o:Oper}{a:Act}{w:World}{K K':Act->World->Prop}{QX QX':Exit->Act->World->Prop}(h:∀ a w,K a w->K' a w)(hq:∀ e a w,QX e a w->QX' e a w)(hl:LetsOut QX->LetsOut QX')(hh:o.wpIn F n P a w K QX):o.wpIn F n P a w K' QX':=by
 unfold Oper.wpIn at*
 refine⟨hh.1,?_⟩
 have hh:=hh.2
 generalize (o.semAt F.round a.eval).run P w=r at*
 cases r with
 | ok x w'=>
  cases x <;> simp only[Oper.uponIn] at hh ⊢ <;>
   first
    | exact h _ _ hh
    | exact⟨hh.1,CallsIn.mono hh.2 (fun e w'' he=>by cases e <;> first | exact h _ _ he | exact hq _ _ _ he | exact hl he)⟩
    | exact⟨hh.1,RowsIn.mono hh.2 (fun _ _ he=>h _ _ he)⟩
    | exact⟨hh.1,RoundIn.mono hh.2 (fun e w'' he=>by cases e <;> first | exact h _ _ he | exact hq _ _ _ he | exact hl he)⟩
 | halt x w'=>cases x <;> simp only[Oper.uponIn] at hh ⊢ <;> first | exact hh | exact hq _ _ _ hh
def NT(T0:Tm)(l:List Oper):Bool:=T0.all fun p=>l.all fun o=> !(o.dst==some p.1)
theorem SR:∀{T:Tm} {s:Nat} {v:V},lk T s=some v->∃ p∈T,p.1=s
 | (t,x)::T,s,v,h=>by
  unfold lk at h
  cases hb:Nat.beq t s with
  | true=>exact⟨_,Zv,ZO hb⟩
  | false=>
   rw[hb] at h
   obtain⟨p,h1,h2⟩:=SR h
   exact⟨p,Zl _ h1,h2⟩
theorem OM:∀{A B:Tm} {s:Nat} {v:V},lk (A++B) s=some v->lk A s=some v∨lk B s=some v
 | [],B,s,v,h=> .inr h
 | (t,x)::A,B,s,v,h=>by
  simp only[Po,lk] at h ⊢
  cases hb:Nat.beq t s with
  | true=>rw[hb] at h;exact .inl h
  | false=>rw[hb] at h;exact OM h
theorem JQ(hk:fH (q+1) l)(hm:q<l.length){o0:Oper}(Ka:l[q]? =some o0)(T4:o0.guard=none){B:mI}{w0:World}{I0:Nat->Prop}{ρ0:List Nat}{QX:Exit->Act->World->Prop}{Tx:Nat->Tm}(h0:Tx 0=T)
    (h1:∀ i o,i<q->l[i]? =some o->aU N o.dst=true∧YJ P N l.toArray o (Tx i) H (vs i)∧Tx (i+1)=fM (Tx i) o.dst (vs i))(hs0:Sub T0 T)(hk0:NT T0 (l.take q)=true)
    (hF:∀ a w I ρ,cA w0 I0 ρ0 w I ρ->Inv P w I ρ H->bq P w I ρ N (bE l.toArray o0 (Tx q)++T0) a.tmps->Marks κ B w I ρ a.defers->wpListIn (Fr R) 0 P l.toArray (fun e a w=>e≠ .normal∧QX e a w) [o0] a w):
    ∀(fuel:Nat) (listed:Array Bool) (a:Act) (w:World),listed.toList.count false=fuel->listed.size=l.length->(∀ i o,l[i]? =some o->fl listed i=true->∀ e∈o.after,Region.binds .any e=true->fl listed e.on=true)->(∀ i,q<=i->fl listed i=false)->
    SI κ P N H l T vs B w0 I0 ρ0 (fl listed) a w->wpAnyIn (Fr R) 0 P .any l.toArray QX fuel listed a w:=by
 intro fuel
 have hlk:=vg (vs:=vs) hk (M:=q) (by omega) h0 (fun i o hi ho=>(h1 i o hi ho).2.2)
 induction fuel with
 | zero=>
  intro listed a w nZ hsz hcl x5 hsi
  have hlt:q<listed.size:=by omega
  have h2:=List.count_eq_zero.1 nZ
  have h4:=x5 q (Zf _)
  unfold fl at h4
  simp[hlt] at h4
  exact absurd (by rw[<- h4];exact Array.mem_toList_iff.2 (Array.getElem_mem hlt)) h2
 | succ fuel ih=>
  intro listed a w nZ hsz hcl x5 hsi
  obtain⟨i0,uV,hmin⟩:∃ i0,(i0<q+1∧fl listed i0=false)∧∀ j,j<i0->fl listed j=true:=by
   have hex:∃ i,i<q+1∧fl listed i=false:=⟨q,by omega,x5 q (Zf _)⟩
   obtain⟨k,⟨h3,h4⟩,h5⟩:=exists_least _ hex
   refine⟨k,⟨h3,h4⟩,fun j hj=> ?_⟩
   cases h:fl listed j with
   | true=>rfl
   | false=>have:=h5 j ⟨by omega,h⟩;omega
  have hoi:l[i0]? =some (l[i0]'(by omega)):=Zb _
  have zo:i0∈Region.ready .any l.toArray listed:=by
   refine mem_ready.2 ⟨?_,(l[i0]'(by omega)),by rw[List.getElem?_toArray];exact hoi,fun e he hb=>hmin e.on (hk.back i0 _ hoi e he hb)⟩
   have:=uV.2
   unfold fl at this
   have hlt:i0<listed.size:=by omega
   simp[hlt] at this ⊢
   exact this
  refine⟨(fun h=>by rw[h] at zo;cases zo),fun i hi=> ?_⟩
  obtain⟨h3,o,ho',Wn⟩:=mem_ready.1 hi
  have ho:l[i]? =some o:=by simpa using ho'
  have hilt:=cv ho
  have vY:∀ j oj,l[j]? =some oj->(decide (j=i)||fl listed j)=true->∀ e∈oj.after,Region.binds .any e=true->(decide (e.on=i)||fl listed e.on)=true:=fun j oj hj uB e he hb=>by
   exact kV
  have pU:i<q+1:=by
   rcases ZM i (q+1) with h | h
   ·exact h
   ·have:=hk.tail (fun j=>decide (j=i)||fl listed j) vY i h hilt (by simp) i0 (by omega)
    have hne:¬ i0=i:=by omega
    simp[hne,uV.2] at this
  have tT:fl listed i=false:=by
   exact kG
  obtain⟨I,ρ,he,hinv,hs,cu,hmk⟩:=hsi
  have mC:i<=q->∀ s v,lk (bE l.toArray o (Tx i)) s=some v->aC P w I ρ v (a.tmps.getD s undef):=by
   intro EZ s v hv
   unfold bE at hv
   rw[mg] at hv
   split at hv
   ·rename_i hs'
    rw[hlk i EZ] at hv
    refine cu s v ?_
    rw[<- hv]
    refine ij hk fun j oj hj hd=> ?_
    by_cases hji:j=i
    ·subst hji;rw[tT];simp
    ·exact EM
   ·cases hv
  unfold wpOpIn
  simp only[ho']
  by_cases EZ:i=q
  ·subst EZ
   have:o=o0:=by rw[ho] at Ka;exact Zy Ka
   subst this
   have AI:bq P w I ρ N (bE l.toArray o (Tx i)++T0) a.tmps:=⟨hs,fun s v hv=>by
    rcases OM hv with h | h
    ·exact mC (Zf _) s v h
    ·refine cu s v ?_
     rw[lU (fun j oj hj uB hd=> ?_)]
     ·exact hs0 s v h
     ·obtain⟨p,hp1,Ss⟩:=SR h
      have h5:=Zz.1 hk0 p hp1
      have hjq:j<i:=by
       rcases ZM j i with h | h
       ·exact h
       ·rw[x5 j h] at uB;cases uB
      have h6:=Zz.1 h5 oj (Zh (by rw[ZR,if_pos hjq];exact hj))
      rw[Ss,hd] at h6
      simp at h6⟩
   have hA:=hF a w I ρ he hinv AI hmk
   simp only[wpListIn,Region.wanted,T4,if_true] at hA ⊢
   exact E9 (QX:=fun e a w=>e≠ .normal∧QX e a w) (fun a w h=>absurd rfl (show Exit.normal≠ .normal∧_ from h).1) (fun e a w h=>h.2) (fun⟨a,w,h⟩=>⟨a,w,h.2⟩) hA
  ·have aa8:i<q:=by omega
   obtain⟨rV,hy,_⟩:=h1 i o aa8 ho
   have AI:bq P w I ρ N (bE l.toArray o (Tx i)) a.tmps:=⟨hs,mC (by omega)⟩
   have next:∀ u w' I' ρ',Ext w I ρ w' I' ρ'->Inv P w' I' ρ' H->aC P w' I' ρ' (vs i) u->wpAnyIn (Fr R) 0 P .any l.toArray QX fuel (listed.setIfInBounds i true) (a.put o.dst u) w':=by
    exact nu
   rcases hy with⟨hg,hop⟩ | ⟨j,want,s,c,x,v',hg,pV,tX,hb,hc,hv,hop⟩
   ·exact kH
   ·exact mP
theorem aF.Dl{id:Nat}(q:Nat)(T0:Tm){o0:Oper}(Ka:l[q]? =some o0)(T4:o0.guard=none)(FN:P.follows .mixedOrders=true)(hk:kg (q+1) l=true)(hs0:Sub T0 T)(hk0:NT T0 (l.take q)=true)
    (h:av P N l.toArray H (fun T'=>aj P R N κ l.toArray [o0] (fun x T1 H1=>(∃ y,x= .panic y)∧Q x T1 H1) (bE l.toArray o0 T'++T0) H) (l.take q) T):aF P R N κ (.region id l.toArray true) Q T H:=by
 intro B w I ρ a hi ht hmk
 obtain⟨vs,Tx,h0,h1,h2⟩:=av.vals h
 have OP:=cv Ka
 have hlen:(l.take q).length=q:=by simp;omega
 rw[hlen] at h2
 refine wpIn_region_any FN ?_
 have hi':Inv P w.drew I ρ H:=hi.drew
 refine JQ (κ:=κ) (fH.of hk) OP Ka T4 (B:=B) (w0:=w) (I0:=I) (ρ0:=ρ) h0 (fun i o pU ho=>h1 i o (by rw[ZR,if_pos pU];exact ho)) hs0 hk0 ?_ _ _ a w.drew (by simp) (by simp) ?_ ?_ ?_
 ·intro a' w' I' ρ' he hi2 oS hm2
  refine h2 _ B w' I' ρ' a' hi2 oS hm2 fun e a2 w2 qc=> ?_
  obtain⟨x,J,σ,T',H',e1,⟨⟨y,rfl⟩,e2⟩,e3⟩:=qc
  refine⟨?_,QC.ext he ⟨.panic y,J,σ,T',H',e1,e2,e3⟩⟩
  rintro rfl
  exact e1
 ·exact lz
 ·exact kP
 ·exact CF
theorem aa.Jg{o:Oper}{x y:Operand}{t:TypeId}{i n h sz:Nat}{kd:IntKind}(ho:o.op= .slice t x none (some y) none)(hx:ev T x=some (.row i n))(hy:ev T y=some (.p (.int kd (h:Int))))(ht:dZ P t=true)(he:oy P t=some sz)(h2:h<=n):aa P N o T H (.row i h) H:=
 aa.aL (by simp[ho]) fun w I ρ a hi' hT=>by
  cases hu:P.underlying t with
  | none=>simp[dZ,hu] at ht
  | some d=>
   cases d <;> simp[dZ,hu] at ht
   rename_i e
   simp only[oy,hu,Zi] at he
   obtain⟨⟨b,m⟩,htm,rfl⟩:=he
   obtain⟨blk,e2,cap,hb,pV,hsh,hle⟩:=hT.ev hx
   have J5:=lK (O6:=true) (cap:=cap) (l:=0) (lo:=none) (hi:=some y) (len:=n) hT rfl ⟨kd,hy⟩ (Zp h) (by omega)
   refine⟨.slice (some ⟨blk,0,none⟩) h cap,?_,blk,e2,cap,hb,rfl,hsh,by omega⟩
   simp only[Option.map_none,Pm] at J5
   simp[execOp,ho,Instr.sliceAt,run_underlying hu,pV,Instr.slice,J5,aK htm,cF]
end
section
variable {P:Program} {R:Option Nat} {N κ:Nat} {Q:Post} {T:Tm} {H H2:List ai} {o:Oper} {ops:Array Oper} {rest:List Oper} {K:Tm->Prop}
theorem aA.put{v:V}(hd:o.dst=none)(hg:o.guard=none)(hop:aa P N o (bE ops o T) H v H2)(next:aA P N ops H H2 K true rest T):aA P N ops H H2 K false (o::rest) T:=
 ⟨v,by rw[hd];rfl,.inr ⟨rfl,hg,hop,by rw[hd];exact next⟩⟩
theorem az.uc{f g:FuncId}{fn:Func}{c0 c1 cm c2:Code}{id dm:Nat}{om od:Oper}{args caps:List V}{T1:Tm}{H1:List ai}{Qr:V->List ai->Prop}{ts:Array TypeId}(hf:P.funcs[f]? =some fn)(hb:fn.body=some (.seq c0 (.seq c1 (.seq cm (.seq (.region id #[om,od] false) c2)))))(hN:fn.ntmps=N)(hn:args.length<=N)
    (h01:aF P none N H.length c0 (AX.then (aF P none N H.length c1 (AX.then (aF P none N H.length cm (AX.then (fun T' H'=>Sub T1 T'∧H'=H1) (jV P N fn Qr))) (jV P N fn Qr))) (jV P N fn Qr)) (c6 0 args) H)
    (hom:aa P N om T1 H1 (.func (.func g) [] caps) H1)(hdm:om.dst=some dm)(hgm:om.guard=none)(hm:aU N (some dm)=true)(hod:od.op= .defer {callee:= .value (.tmp dm),args:= #[],argTypes:=ts})(hgd:od.guard=none)(hdd:od.dst=none)(hg:ak P g=true)
    (h2:aF P none N H1.length c2 (aab P N fn g caps Qr) ((dm,.func (.func g) [] caps)::T1) H1):az P f args H Qr:=by
 subst hN
 intro w I ρ us hi gz
 have hl:=ah.length gz
 refine callsIn_of_wp_marks hf hb trivial ?_ rfl
 have ht:bq P w I ρ fn.ntmps (c6 0 args) (us.toArray++Array.replicate (fn.ntmps - us.toArray.size) undef):=by
  exact nX
 -- it leaves before it defers
 have early:∀(a':Act) (w':World) (T':Tm) (H':List ai) (I':Nat->Prop) (ρ':List Nat) (rs:List Nat),(∃ v,eX P fn.ntmps fn T' H' v∧Qr v H')->cA w I ρ w' I' ρ'->Inv P w' I' ρ' H'->bq P w' I' ρ' fn.ntmps T' a'.tmps->ρ<+:ρ'->a'.defers=(rs.map fun r=>{target:= .collected r,args:= #[]})++[]->rs.Nodup->(∀ r∈rs,w'.heap[r]? =some (Obj.deferred (some []))∧¬ I' r∧w.heap.size<=r)->
     LeavesInM Fence.wide 0 P fn a'.tmps (fun e w'=>∃ u v I' ρ' H',e= .returned u∧Qr v H'∧Ext w I ρ w' I' ρ'∧Inv P w' I' ρ' H'∧aC P w' I' ρ' v u) a'.defers .returning w':=by
  rintro a' w' T' H' I' ρ' rs ⟨v,hv,hq⟩ h3 h4 h5 hpre h6 h7 h8
  rw[h6]
  refine o4 (by simp) rs w' h7 (fun r hr=>(h8 r hr).1) ?_
  intro w2 k1 k2 k3 k4 k5
  obtain⟨m1,m2,m3,m4⟩:=jR h3 h4 h5 hpre h8 k1 k2 k3 k4 k5
  obtain⟨u,hu1,PO⟩:=hv w2 I' ρ' a'.tmps m1 m2
  simp only[LeavesInM,LeavesIn]
  exact⟨u,hu1,u,v,I',ρ',H',rfl,hq,m3,m1,PO⟩
 -- behind the deferred call
 have late:∀(a1:Act) (w1:World) (I1:Nat->Prop) (ρ1:List Nat),cA w I ρ w1 I1 ρ1->ρ<+:ρ1->Inv P w1 I1 ρ1 H1->bq P w1 I1 ρ1 fn.ntmps T1 a1.tmps->∀ rs:List Nat,a1.defers=(rs.map fun r=>{target:= .collected r,args:= #[]})++[]->rs.Nodup->(∀ r∈rs,w1.heap[r]? =some (Obj.deferred (some []))∧¬ I1 r∧w.heap.size<=r)->
     (Code.seq (.region id #[om,od] false) c2).wpIn Fence.wide 0 P (bodyPostM Fence.wide 0 P fn fun e w'=>∃ u v I' ρ' H',e= .returned u∧Qr v H'∧Ext w I ρ w' I' ρ'∧Inv P w' I' ρ' H'∧aC P w' I' ρ' v u) a1 w1:=by
  intro a1 w1 I1 ρ1 vR XF hi1 XE rs Tl aaG Ry
  refine wpIn_seq (wpIn_region_lit ?_)
  refine wpListIn_plain hgm fun K hK=> ?_
  refine hom none w1 I1 ρ1 a1 hi1 XE K _ fun u w2 I2 ρ2 ox hi2 hv=>hK _ _ ?_
  have oS:bq P w2 I2 ρ2 fn.ntmps ((dm,.func (.func g) [] caps)::T1) (a1.put om.dst u).tmps:=by
   have:=(XE.ext ox).put (a:=a1) (dst:=om.dst) (by rw[hdm];exact hm) hv
   rw[hdm] at this ⊢
   exact this
  obtain⟨fi,ca,hu,hfi,hca⟩:=hv
  have aas:fi.toList=[]:=hfi
  have aaX:fi= #[]:=by apply Array.ext';simpa using aas
  subst aaX
  have hval:(a1.put om.dst u).eval (.tmp dm)=u:=by
   have hlt:dm<a1.tmps.size:=by
    have h3:dm<fn.ntmps:=by simpa[aU,Nat.blt,Zx] using hm
    rw[XE.size];exact h3
   rw[hdm]
   simp[Act.put,Act.eval,hlt]
  refine wpListIn_plain hgd fun K hK=> ?_
  refine⟨fun _ _=>trivial,?_⟩
  obtain⟨D,hD⟩:∃ D:Deferred,D={target:= .fn (.func g) ca,args:= #[]}:=⟨_,rfl⟩
  have hrun:(Oper.semAt none (a1.put om.dst u).eval od).run P w2= .ok (.defer D) w2:=by
   rw[Oper.semAt_none,hD]
   rw[hu] at hval ⊢
   simp only[execOp,hod,Go.resolve,hval]
   simp[Deferred.ofValue]
  show od.uponIn Fence.wide 0 P (a1.put om.dst u) K _ ((Oper.semAt none (a1.put om.dst u).eval od).run P w2)
  rw[hrun,Oper.uponIn_defer,hdd]
  refine hK _ _ (wpListIn_nil ?_)
  have aaA:(a1.put om.dst u).defers=a1.defers:=by rw[hdm];rfl
  have hw2:=h2 ⟨w2.heap.size,ρ2,D::a1.defers⟩ w2 I2 ρ2 {(a1.put om.dst u) with defers:=D::(a1.put om.dst u).defers} hi2 oS ⟨Zf _,Pa hi2.len,ZE _,[],by rw[aaA];rfl,Ra,fun _ h=>by cases h⟩
  have tail:∀(a':Act) (w3:World) (I3:Nat->Prop) (ρ3:List Nat) (T3:Tm) (H3:List ai) (y:Option PV) (md:FrameMode),x6 P g caps H3 y (fun H'=>∃ v,eX P fn.ntmps fn T3 H' v∧Qr v H')->KH w3 I3 y md->cA w2 I2 ρ2 w3 I3 ρ3->Inv P w3 I3 ρ3 H3->bq P w3 I3 ρ3 fn.ntmps T3 a'.tmps->Marks H1.length ⟨w2.heap.size,ρ2,D::a1.defers⟩ w3 I3 ρ3 a'.defers->
      LeavesInM Fence.wide 0 P fn a'.tmps (fun e w'=>∃ u v I' ρ' H',e= .returned u∧Qr v H'∧Ext w I ρ w' I' ρ'∧Inv P w' I' ρ' H'∧aC P w' I' ρ' v u) a'.defers md w3:=by
   rintro a' w3 I3 ρ3 T3 H3 y md KA hmd q4 q5 q6 ⟨hB,_,hpre,rs3,q7,q8,q9⟩
   have SC:md≠ .run:=by
    cases y with
    | none=>rw[show md= .returning from hmd];simp
    | some x=>obtain⟨v,e,_⟩:=hmd;rw[e];simp
   rw[q7]
   refine o4 SC rs3 w3 q8 (fun r hr=>(q9 r hr).1) ?_
   intro w4 k1 k2 k3 k4 k5
   obtain⟨m1,m2,m3,m4⟩:=jR q4 q5 q6 hpre q9 k1 k2 k3 k4 k5
   have aap:KH w4 I3 y md:=by
    cases y with
    | none=>exact hmd
    | some x=>obtain⟨v,e,hv⟩:=hmd;exact⟨v,e,Rel.mono (fun _ h=>h) m4 _ _ hv⟩
   have aaQ:ah P w4 I3 ρ3 caps ca.toList:=ah.ext m3 hca
   subst hD
   refine⟨SC,.inr ⟨(by intro h;cases h),_,_,g,ca.toList.toArray,rfl,?_,fun _ _=>trivial,?_⟩⟩
   ·show(Go.invoke (.fn (.func g) ca) #[]).run P w4=_
    simp only[Go.invoke,fY hg]
    simp
   ·refine CallsDIn.mono (KA w4 I3 ρ3 ca.toList md m1 aaQ aap) ?_
    rintro e u' w5 ⟨rfl,oV,I5,ρ5,H5,hq5,hE5,hi5⟩
    show LeavesInM _ _ _ _ _ _ a1.defers (settle u') w5
    rw[oV]
    have R0:Ext w1 I1 ρ1 w5 I5 ρ5:=(ox.trans m3).trans hE5
    exact early {tmps:=a'.tmps,defers:=a1.defers} w5 T3 H5 I5 ρ5 rs hq5 (vR.trans R0.w) hi5 (m2.ext hE5) (XF.trans R0.pre) Tl aaG fun r hr=>⟨R0.w.cE r (Ry r hr).1,fun h=>(Ry r hr).2.1 (R0.w.kz r (Ry r hr).1 h),(Ry r hr).2.2⟩
  refine wpIn_mono hw2 ?_
  rintro e a' w3 ⟨z,I3,ρ3,T3,H3,q1,q2,q4,q5,q6,q7⟩
  cases z <;> cases e <;> first | exact q1.elim | exact q2.elim | skip
  ·exact tail a' w3 I3 ρ3 T3 H3 none .returning q2 rfl q4 q5 q6 q7
  ·exact tail a' w3 I3 ρ3 T3 H3 none .returning q2 rfl q4 q5 q6 q7
  ·obtain⟨x,rfl,q2⟩:=q2
   obtain⟨v,rfl,hv⟩:=q1
   exact tail a' w3 I3 ρ3 T3 H3 (some x) _ q2 ⟨v,rfl,hv⟩ q4 q5 q6 q7
 have out:∀(z:AX) (e:Exit) (a':Act) (w':World),z≠ .normal->QC H.length ⟨w.heap.size,ρ,[]⟩ P fn.ntmps (fun x T H=>x=z∧jV P fn.ntmps fn Qr x T H) w I ρ e a' w'->
     bodyPostM Fence.wide 0 P fn (fun e w'=>∃ u v I' ρ' H',e= .returned u∧Qr v H'∧Ext w I ρ w' I' ρ'∧Inv P w' I' ρ' H'∧aC P w' I' ρ' v u) e a' w':=by
  rintro z e a' w' hz ⟨x,I',ρ',T',H',q1,⟨rfl,q2,q3⟩,q4,q5,q6,hB,_,hpre,rs,q7,q8,q9⟩
  rcases q2 with rfl | rfl
  ·exact absurd rfl hz
  ·cases e <;> first | exact q1.elim | exact early a' w' T' H' I' ρ' rs q3 q4 q5 q6 hpre q7 q8 q9
 refine wpIn_seq (wpIn_mono (h01 ⟨w.heap.size,ρ,[]⟩ w I ρ {tmps:=us.toArray++Array.replicate (fn.ntmps - us.toArray.size) undef,defers:=[]} hi ht ⟨Zf _,Pa hi.len,ZE _,[],rfl,Ra,fun _ h=>by cases h⟩) ?_)
 rintro e a' w' ⟨z,I',ρ',T',H',q1,q2,q4,q5,q6,q7⟩
 cases z with
 | normal=>
  cases e <;> first | exact q1.elim | skip
  refine wpIn_seq (wpIn_mono (q2 ⟨w.heap.size,ρ,[]⟩ w' I' ρ' a' q5 q6 q7) ?_)
  rintro e a1 w1 ⟨z,I1,ρ1,T1',H1',r1,r2,r4,r5,r6,r7⟩
  cases z with
  | normal=>
   cases e <;> first | exact r1.elim | skip
   refine wpIn_seq (wpIn_mono (r2 ⟨w.heap.size,ρ,[]⟩ w1 I1 ρ1 a1 r5 r6 r7) ?_)
   rintro e a2 w2 ⟨z,I2,ρ2,T2,H2,p1,p2,p4,p5,p6,p7⟩
   cases z with
   | normal=>
    cases e <;> first | exact p1.elim | skip
    obtain⟨p2,rfl⟩:=p2
    obtain⟨hB,_,hpre,rs,p8,p9,p10⟩:=p7
    exact late a2 w2 I2 ρ2 ((q4.trans r4).trans p4) hpre p5 (p6.sub p2) rs p8 p9 p10
   | ret=>
    have:=out .ret e a2 w2 (by simp) ⟨.ret,I2,ρ2,T2,H2,p1,⟨rfl,p2⟩,(q4.trans r4).trans p4,p5,p6,p7⟩
    cases e <;> first | exact p1.elim | exact this
   | exit i=>exact absurd p2.1 (by rintro(h | h) <;> cases h)
   | panic v=>exact absurd p2.1 (by rintro(h | h) <;> cases h)
  | ret=>
   have:=out .ret e a1 w1 (by simp) ⟨.ret,I1,ρ1,T1',H1',r1,⟨rfl,r2⟩,q4.trans r4,r5,r6,r7⟩
   cases e <;> first | exact r1.elim | exact this
  | exit i=>exact absurd r2.1 (by rintro(h | h) <;> cases h)
  | panic v=>exact absurd r2.1 (by rintro(h | h) <;> cases h)
 | ret=>
  have:=out .ret e a' w' (by simp) ⟨.ret,I',ρ',T',H',q1,⟨rfl,q2⟩,q4,q5,q6,q7⟩
  cases e <;> first | exact q1.elim | exact this
 | exit i=>exact absurd q2.1 (by rintro(h | h) <;> cases h)
 | panic v=>exact absurd q2.1 (by rintro(h | h) <;> cases h)
end
theorem Qm{ks:List Nat}{xs:List ai}{H:List ai}{j i:Nat}{x:ai}(hn:ks.Nodup)(hl:xs.length=ks.length)(hk:ks[j]? =some i)(hx:xs[j]? =some x)(hi:i<H.length):(ki H ks xs)[i]? =some x:=by
 have h1:i<(ki H ks xs).length:=by rw[cL];exact hi
 have h2:=Zb h1
 rcases kR ks xs H i _ hn hl h2 with⟨j',k1,k2⟩ | ⟨k1,_⟩
 ·have e:j=j':=(X0 (Za.1 hk).1 hn).1 (hk.trans k1.symm)
  subst e
  rw[h2,<- k2,hx]
 ·exact absurd (Zh hk) k1
theorem K6{ks:List Nat}{xs:List ai}{H:List ai}{i:Nat}(hn:ks.Nodup)(hl:xs.length=ks.length)(hi:i<H.length)(hk:i∉ks):(ki H ks xs)[i]? =H[i]? :=by
 have h1:i<(ki H ks xs).length:=by rw[cL];exact hi
 have h2:=Zb h1
 rcases kR ks xs H i _ hn hl h2 with⟨j',k1,_⟩ | ⟨_,k2⟩
 ·exact absurd (Zh k1) hk
 ·rw[h2,k2]
section
variable {H H0:List ai} {ks:List Nat}
theorem fk{j i:Nat}{x:ai}(hn:ks.Nodup)(hl:ks.length<=H0.length)(hk:ks[j]? =some i)(hi:i<H.length)(hx:H0[j]? =some x):(bg H ks H0)[i]? =some (aH (dR H ks) x):=by
 unfold bg
 rw[Zd (by rw[cL];exact hi)]
 refine Qm hn (by rw[Zr,EA];omega) hk ?_ hi
 rw[Zs,SA (Za.1 hk).1,hx]
 rfl
theorem dz{i:Nat}(hn:ks.Nodup)(hl:ks.length<=H0.length)(hi:i<H.length)(hk:i∉ks):(bg H ks H0)[i]? =H[i]? :=by
 unfold bg
 rw[Zd (by rw[cL];exact hi)]
 exact K6 hn (by rw[Zr,EA];omega) hi hk
theorem Js{j:Nat}{x:ai}(hx:H0[ks.length+j]? =some x):(bg H ks H0)[H.length+j]? =some (aH (dR H ks) x):=by
 unfold bg
 rw[Zj (by rw[cL];omega),cL,ZH,Zs,Sr,hx]
 rfl
theorem rY(hl:ks.length<=H0.length):(bg H ks H0).length=H.length+(H0.length - ks.length):=by
 unfold bg
 rw[Zc,cL,Zr,P1]
def mJ(H:List ai)(ks:List Nat)(j:Nat):Nat:=match ks[j]? with
 | some i=>i
 | none=>H.length+(j - ks.length)
theorem rO{j:Nat}{x:ai}(hn:ks.Nodup)(hl:ks.length<=H0.length)(hlt:∀ i∈ks,i<H.length)(hx:H0[j]? =some x):(bg H ks H0)[mJ H ks j]? =some (aH (dR H ks) x):=by
 unfold mJ
 cases hk:ks[j]? with
 | some i=>exact fk hn hl hk (hlt i (Zh hk)) hx
 | none=>
  have hj:ks.length<=j:=by simpa using hk
  obtain⟨m,rfl⟩:∃ m,j=ks.length+m:=⟨j - ks.length,by omega⟩
  rw[ZH]
  exact Js hx
theorem jn{j:Nat}{x:ai}(hK:fQ H ks H0)(hx:H0[j]? =some x)(hl:x.live=true):dR H ks j=some (mJ H ks j):=by
 unfold dR mJ
 cases hk:ks[j]? with
 | some i=>
  show(if (H.getD i .dead).live=true then some i else none)=some i
  cases hlv:(H.getD i .dead).live with
  | true=>rw[if_pos rfl]
  | false=>rw[hK.2 j i x hk hlv hx] at hl;cases hl
 | none=>rfl
theorem PG{i j:Nat}(hn:ks.Nodup)(hlt:∀ i∈ks,i<H.length)(h:mJ H ks i=mJ H ks j):i=j:=by
 unfold mJ at h
 cases hi:ks[i]? with
 | some a=>
  have ha:=hlt a (Zh hi)
  cases hj:ks[j]? with
  | some b=>
   rw[hi,hj] at h
   have h:a=b:=h
   subst h
   exact(X0 (Za.1 hi).1 hn).1 (hi.trans hj.symm)
  | none=>rw[hi,hj] at h;have h:a=H.length+(j - ks.length):=h;omega
 | none=>
  have h1:ks.length<=i:=by simpa using hi
  cases hj:ks[j]? with
  | some b=>rw[hi,hj] at h;have h:H.length+(i - ks.length)=b:=h;have:=hlt b (Zh hj);omega
  | none=>
   have h2:ks.length<=j:=by simpa using hj
   rw[hi,hj] at h
   have h:H.length+(i - ks.length)=H.length+(j - ks.length):=h
   omega
theorem nh{j n:Nat}{cs:List V}{e:TypeId}(hK:fQ H ks H0)(hx:H0[j]? =some (dA cs e n)):aY (dR H ks) (aW j n)=aW (mJ H ks j) n:=by
 cases n with
 | zero=>rfl
 | succ n=>exact cC (jn hK hx rfl)
theorem sF{l:List Nat}(hn:ks.Nodup)(hlt:∀ i∈ks,i<H.length)(h:l.Nodup):(l.map (mJ H ks)).Nodup:=by
 induction l with
 | nil=>exact Ra
 | cons x l ih=>
  rw[ZB] at h
  rw[ZD,ZB]
  refine⟨fun hm=> ?_,ih h.2⟩
  obtain⟨y,h1,h2⟩:=zl.1 hm
  rw[PG hn hlt h2] at h1
  exact h.1 h1
end
theorem Rel.LM{w:World}{I:Nat->Prop}{u:Value}(h:Rel w I .nilSlice u):Rel w I (.is [] 0) u:= .inl ⟨⟨none,0,h⟩,rfl⟩
theorem az.SX{P:Program}{f:FuncId}{args args2:List V}{H:List ai}{Q:V->List ai->Prop}(h:az P f args H Q)(hs:∀ w I ρ us,ah P w I ρ args2 us->ah P w I ρ args us):az P f args2 H Q:=fun w I ρ us hi hu=>h w I ρ us hi (hs w I ρ us hu)
theorem Pure.SG{P:Program}{f:FuncId}{a r:PV}(h:Pure P f [a,.is [] 0,.is [] 0] r):Pure P f [a,.nilSlice,.nilSlice] r:=
 az.SX h fun w I ρ us hu=>by
  obtain⟨u1,s1,rfl,h1,u2,s2,rfl,h2,u3,s3,rfl,h3,h4⟩:=hu
  exact⟨u1,_,rfl,h1,u2,_,rfl,Rel.LM h2,u3,_,rfl,Rel.LM h3,h4⟩
def NU(P:Program)(N:Nat)(o:Oper)(T:Tm)(H:List ai)(v:V)(G:List ai->Prop):Prop:=
 ∀ R w I ρ a,Inv P w I ρ H->bq P w I ρ N T a.tmps->∀(K:Act->World->Prop) (QX:Exit->Act->World->Prop),
  (∀ u w' I' ρ' H2,G H2->Ext w I ρ w' I' ρ'->Inv P w' I' ρ' H2->aC P w' I' ρ' v u->K (a.put o.dst u) w')->o.wpIn (Fr R) 0 P a w K QX
def YM(P:Program)(G:List ai->Prop)(H:List ai)(b:Bool)(w:World)(I:Nat->Prop)(ρ:List Nat):Prop:=∃ H2,(bif b then G H2 else H2=H)∧Inv P w I ρ H2
def V3(P:Program)(N:Nat)(ops:Array Oper)(o:Oper)(T:Tm)(H:List ai)(v:V)(G:List ai->Prop):Prop:=
 (o.guard=none∧NU P N o (bE ops o T) H v G)∨∃ j want s x T2,o.guard=some (j,want)∧kQ ops j=some s∧aU N (some s)=true∧lk (bE ops o T) s=some x∧mE want x=some true∧n8 T2 (bE ops o T)∧NU P N o T2 H v G
def aN(P:Program)(N:Nat)(ops:Array Oper)(H:List ai)(G:List ai->Prop)(K:Tm->Prop):Bool->List Oper->Tm->Prop
 | b,[],T=>b=true∧K T
 | b,o::rest,T=>∃ v,aU N o.dst=true∧(((∀ H0,(H0=H∨G H0)->YJ P N ops o T H0 v)∧aN P N ops H G K b rest (fM T o.dst v))∨(b=false∧V3 P N ops o T H v G∧aN P N ops H G K true rest (fM T o.dst v)))
section
variable {P:Program} {R:Option Nat} {N κ:Nat} {Q:Post} {T:Tm} {H:List ai} {G:List ai->Prop} {o:Oper} {ops:Array Oper} {K:Tm->Prop} {rest:List Oper} {b:Bool}
theorem NU.dH{f:Operand}{xs:Array Operand}{ts:Array TypeId}{fv:V}{vs all:List V}{g:FuncId}{v:V}{Qr:V->List ai->Prop}(hp:ay P g all H Qr (fun _ _=>False))(hv:∀ x H2,Qr x H2->x=v∧G H2)(ho:o.op= .call {callee:= .value f,args:=xs,argTypes:=ts})(hf:ev T f=some fv)
    (hxs:jU T xs.toList=some vs)(hc:callee vs fv=some (g,all))(hg:ak P g=true):NU P N o T H v G:=by
 intro R w I ρ a hi ht K QX hK
 refine⟨bB,?_⟩
 rw[bG _ _ _ (by simp[ho])]
 obtain⟨us,h1,h2⟩:=dD ho ht hf hxs hc hg
 rw[h2]
 refine⟨(fun h=>by cases h),?_⟩
 refine CallsIn.mono (cj R (hp w I ρ us hi h1)) ?_
 rintro e w' (⟨u,v',J,σ,H2,rfl,hQ,h3,h4,h5⟩ | ⟨u,y,J,σ,H2,rfl,hQ,_⟩)
 ·obtain⟨rfl,hG⟩:=hv _ _ hQ
  exact hK u w' J σ H2 hG h3 h4 h5
 ·exact hQ.elim
theorem aN.nil(h:K T):aN P N ops H G K true [] T:=⟨rfl,h⟩
theorem aN.cons(d:Nat){v:V}(hd:o.dst=some d)(hdN:aU N (some d)=true)(hg:o.guard=none)(hop:∀ H0,(H0=H∨G H0)->aa P N o (bE ops o T) H0 v H0)(next:aN P N ops H G K b rest ((d,v)::T)):aN P N ops H G K b (o::rest) T:=
 ⟨v,by rw[hd];exact hdN,.inl ⟨fun H0 h0=> .inl ⟨hg,hop H0 h0⟩,by rw[hd];exact next⟩⟩
theorem aN.lay(d:Nat){v:V}(hd:o.dst=some d)(hdN:aU N (some d)=true)(hg:o.guard=none)(hop:NU P N o (bE ops o T) H v G)(next:aN P N ops H G K true rest ((d,v)::T)):aN P N ops H G K false (o::rest) T:=
 ⟨v,by rw[hd];exact hdN,.inr ⟨rfl,.inl ⟨hg,hop⟩,by rw[hd];exact next⟩⟩
theorem aN.guard(d s:Nat){j:Nat}{want c:Bool}{x v:V}(hd:o.dst=some d)(hdN:aU N (some d)=true)(hg:o.guard=some (j,want))(hs:kQ ops j=some s)(tX:aU N (some s)=true)(hb:lk (bE ops o T) s=some x)(hc:mE want x=some c)
    (T2:Tm)(h2:c=true->n8 T2 (bE ops o T))(hop:c=true->∀ H0,(H0=H∨G H0)->aa P N o T2 H0 v H0)(next:aN P N ops H G K b rest ((d,.opt c v)::T)):aN P N ops H G K b (o::rest) T:=
 ⟨_,by rw[hd];exact hdN,.inl ⟨fun H0 h0=> .inr ⟨j,want,s,c,x,v,hg,hs,tX,hb,hc,rfl,fun h=>⟨T2,h2 h,hop h H0 h0⟩⟩,by rw[hd];exact next⟩⟩
theorem aN.QL(d s:Nat){j:Nat}{want c:Bool}{x v:V}(hd:o.dst=some d)(hdN:aU N (some d)=true)(hg:o.guard=some (j,want))(hs:kQ ops j=some s)(tX:aU N (some s)=true)(hb:lk (bE ops o T) s=some x)(hc:mE want x=some c)(hw:c=true)
    (T2:Tm)(h2:n8 T2 (bE ops o T))(hop:NU P N o T2 H v G)(next:aN P N ops H G K true rest ((d,v)::T)):aN P N ops H G K false (o::rest) T:=
 ⟨v,by rw[hd];exact hdN,.inr ⟨rfl,.inr ⟨j,want,s,x,T2,hg,hs,tX,hb,by rw[hc,hw],h2,hop⟩,by rw[hd];exact next⟩⟩
section
variable {m:Nat} {l:List Oper} {vs:Nat->V}
theorem aN.vals{ops:Array Oper}:∀{b:Bool} {l':List Oper} {T:Tm},aN P N ops H G K b l' T->∃(vs:Nat->V) (Tx:Nat->Tm) (q:Nat),Tx 0=T∧(b=false->q<l'.length)∧(b=true->q=l'.length)∧(∀ i o,l'[i]? =some o->aU N o.dst=true∧((i≠q∧∀ H0,(H0=H∨G H0)->YJ P N ops o (Tx i) H0 (vs i))∨(i=q∧V3 P N ops o (Tx i) H (vs i) G))∧Tx (i+1)=fM (Tx i) o.dst (vs i))∧K (Tx l'.length)
 | b,[],T,h=>⟨fun _=> .top,fun _=>T,0,rfl,(fun hb=>by have:=h.1;rw[hb] at this;cases this),fun _=>rfl,fun i o ho=>by simp at ho,h.2⟩
 | b,o::l',T,h=>by
  obtain⟨v,hd,h⟩:=h
  rcases h with⟨hy,hn⟩ | ⟨hb,hop,hn⟩
  ·obtain⟨vs,Tx,q,h0,Fi,O8,h1,h2⟩:=aN.vals hn
   refine⟨fun i=>match i with | 0=>v | i+1=>vs i,fun i=>match i with | 0=>T | i+1=>Tx i,q+1,rfl,fun hb=>by have:=Fi hb;simp;omega,fun hb=>by have:=O8 hb;simp;omega,fun i x hx=> ?_,h2⟩
   cases i with
   | zero=>simp at hx;subst hx;exact⟨hd,.inl ⟨by omega,hy⟩,h0⟩
   | succ i=>
    exact uL
  ·obtain⟨vs,Tx,q,h0,Fi,O8,h1,h2⟩:=aN.vals hn
   refine⟨fun i=>match i with | 0=>v | i+1=>vs i,fun i=>match i with | 0=>T | i+1=>Tx i,0,rfl,fun _=>by simp,(fun hb'=>by rw[hb] at hb';cases hb'),fun i x hx=> ?_,h2⟩
   cases i with
   | zero=>simp at hx;subst hx;exact⟨hd,.inr ⟨rfl,hop⟩,h0⟩
   | succ i=>
    exact BS
def SIE(κ:Nat)(P:Program)(N:Nat)(H:List ai)(G:List ai->Prop)(q:Nat)(l:List Oper)(T:Tm)(vs:Nat->V)(B:mI)(w0:World)(I0:Nat->Prop)(ρ0:List Nat)(f:Nat->Bool)(a:Act)(w:World):Prop:=
 ∃ I ρ,cA w0 I0 ρ0 w I ρ∧YM P G H (f q) w I ρ∧a.tmps.size=N∧(∀ s v,tl l T vs f s=some v->aC P w I ρ v (a.tmps.getD s undef))∧Marks κ B w I ρ a.defers
theorem F4(hk:fH m l)(hm:m<=l.length){q:Nat}(hq:q<m){B:mI}{w0:World}{I0:Nat->Prop}{ρ0:List Nat}{QX:Exit->Act->World->Prop}{Tx:Nat->Tm}(h0:Tx 0=T)
    (h1:∀ i o,i<m->l[i]? =some o->aU N o.dst=true∧((i≠q∧∀ H0,(H0=H∨G H0)->YJ P N l.toArray o (Tx i) H0 (vs i))∨(i=q∧V3 P N l.toArray o (Tx i) H (vs i) G))∧Tx (i+1)=fM (Tx i) o.dst (vs i))
    (hK:∀ H2,G H2->∀ a w I ρ,cA w0 I0 ρ0 w I ρ->Inv P w I ρ H2->bq P w I ρ N (Tx m) a.tmps->Marks κ B w I ρ a.defers->wpListIn (Fr R) 0 P l.toArray QX (l.drop m) a w):
    ∀(fuel:Nat) (listed:Array Bool) (a:Act) (w:World),listed.toList.count false=fuel->listed.size=l.length->(∀ i o,l[i]? =some o->fl listed i=true->∀ e∈o.after,Region.binds .any e=true->fl listed e.on=true)->(∀ i,m<=i->fl listed i=false)->
    SIE κ P N H G q l T vs B w0 I0 ρ0 (fl listed) a w->wpAnyIn (Fr R) 0 P .any l.toArray QX fuel listed a w:=by
 intro fuel
 have hlk:=vg (vs:=vs) hk hm h0 (fun i o hi ho=>(h1 i o hi ho).2.2)
 have done:∀(fuel:Nat) (listed:Array Bool) (a:Act) (w:World),listed.toList.count false=fuel->listed.size=l.length->(∀ i,m<=i->fl listed i=false)->(∀ i,i<m->fl listed i=true)->SIE κ P N H G q l T vs B w0 I0 ρ0 (fl listed) a w->wpAnyIn (Fr R) 0 P .any l.toArray QX fuel listed a w:=by
  intro fuel listed a w nZ hsz x5 hall hsi
  obtain⟨I,ρ,he,hi,hs,cu,hmk⟩:=hsi
  rw[hall q hq] at hi
  obtain⟨H2,hG,hi⟩:=hi
  have hG:G H2:=hG
  have hfl:∀ i,fl listed i=decide (i<m):=fun i=>by
   by_cases h:i<m
   ·rw[hall i h];simp[h]
   ·rw[x5 i (by omega)];simp[h]
  have Ff:fuel+m=l.length:=by
   exact Dd
  refine rW hk fuel m listed a w Ff (Zf _) hsz (fun i _=>hfl i) (hK H2 hG a w I ρ he hi ⟨hs,fun s v hv=>cu s v ?_⟩ hmk)
  rw[<- hv,hlk m (Zf _)]
  exact ij hk fun j o hj hd=>hfl j
 induction fuel with
 | zero=>
  exact ng
 | succ fuel ih=>
  intro listed a w nZ hsz hcl x5 hsi
  by_cases hall:∀ i,i<m->fl listed i=true
  ·exact nD
  ·obtain⟨i0,uV,hmin⟩:∃ i0,(i0<m∧fl listed i0=false)∧∀ j,j<i0->fl listed j=true:=by
     exact nE
   have Ka:l[i0]? =some (l[i0]'(by omega)):=Zb _
   have zo:i0∈Region.ready .any l.toArray listed:=by
    exact oc
   refine⟨(fun h=>by rw[h] at zo;cases zo),fun i hi=> ?_⟩
   obtain⟨h3,o,ho',Wn⟩:=mem_ready.1 hi
   have ho:l[i]? =some o:=by simpa using ho'
   have hilt:=cv ho
   have vY:∀ j oj,l[j]? =some oj->(decide (j=i)||fl listed j)=true->∀ e∈oj.after,Region.binds .any e=true->(decide (e.on=i)||fl listed e.on)=true:=fun j oj hj uB e he hb=>by
    exact kV
   have pU:i<m:=by
    exact mW
   have tT:fl listed i=false:=by
    exact kG
   obtain⟨rV,hy,_⟩:=h1 i o pU ho
   obtain⟨I,ρ,he,hinv,hs,cu,hmk⟩:=hsi
   have mC:∀ s v,lk (bE l.toArray o (Tx i)) s=some v->aC P w I ρ v (a.tmps.getD s undef):=by
    exact mV
   have AI:bq P w I ρ N (bE l.toArray o (Tx i)) a.tmps:=⟨hs,mC⟩
   have next:∀ u w' I' ρ',Ext w I ρ w' I' ρ'->YM P G H (fl (listed.setIfInBounds i true) q) w' I' ρ'->aC P w' I' ρ' (vs i) u->wpAnyIn (Fr R) 0 P .any l.toArray QX fuel (listed.setIfInBounds i true) (a.put o.dst u) w':=by
    exact nu
   have step:∀(H0:List ai),Inv P w I ρ H0->(∀ u w' I' ρ',Ext w I ρ w' I' ρ'->Inv P w' I' ρ' H0->aC P w' I' ρ' (vs i) u->wpAnyIn (Fr R) 0 P .any l.toArray QX fuel (listed.setIfInBounds i true) (a.put o.dst u) w')->YJ P N l.toArray o (Tx i) H0 (vs i)->
       wpOpIn (Fr R) 0 P l.toArray QX i (wpAnyIn (Fr R) 0 P .any l.toArray QX fuel (listed.setIfInBounds i true)) a w:=by
    intro H0 hinv next hy
    unfold wpOpIn
    simp only[ho']
    rcases hy with⟨hg,hop⟩ | ⟨j,want,s,c,x,v',hg,pV,tX,hb,hc,hv,hop⟩
    ·exact kH
    ·exact mP
   rcases hy with⟨EZ,hy⟩ | ⟨EZ,hop⟩
   ·have e:fl (listed.setIfInBounds i true) q=fl listed q:=by
      rw[iu (by omega)]
      simp[Ne.symm EZ]
    rw[e] at next
    obtain⟨H0,hG,hinv⟩:=hinv
    refine step H0 hinv (fun u w' I' ρ' g1 g2 g3=>next u w' I' ρ' g1 ⟨H0,hG,g2⟩ g3) (hy H0 ?_)
    cases hfq:fl listed q with
    | true=>rw[hfq] at hG;exact .inr hG
    | false=>rw[hfq] at hG;exact .inl hG
   ·subst EZ
    rw[tT] at hinv
    obtain⟨H0,rfl,hinv⟩:=hinv
    rw[show fl (listed.setIfInBounds i true) i=true by rw[iu (by omega)];simp] at next
    unfold wpOpIn
    simp only[ho']
    rcases hop with⟨hg,hop⟩ | ⟨j,want,s,x,T2,hg,pV,tX,hb,hc,h2,hop⟩
    ·simp only[Region.wanted,hg,if_true]
     exact hop R w I ρ a hinv AI _ _ fun u w' I' ρ' H2 g0 g1 g2 g3=>next u w' I' ρ' g1 ⟨H2,g0,g2⟩ g3
    ·have vb:=jv pV AI tX hb hc
     simp only[Region.wanted,hg,vb,if_true]
     exact hop R w I ρ a hinv (AI.n8 h2) _ _ fun u w' I' ρ' H2 g0 g1 g2 g3=>next u w' I' ρ' g1 ⟨H2,g0,g2⟩ g3
theorem aF.tG{id:Nat}(m:Nat)(G:List ai->Prop)(FN:P.follows .mixedOrders=true)(hk:kg m l=true)(hm:m<=l.length)(h:aN P N l.toArray H G (fun T'=>∀ H2,G H2->aj P R N κ l.toArray (l.drop m) Q T' H2) false (l.take m) T):aF P R N κ (.region id l.toArray true) Q T H:=by
 intro B w I ρ a hi ht hmk
 obtain⟨vs,Tx,q,h0,Fi,_,h1,h2⟩:=aN.vals h
 have hq:q<m:=by have:=Fi rfl;simp at this;omega
 have hlen:(l.take m).length=m:=by simp;omega
 rw[hlen] at h2
 refine wpIn_region_any FN ?_
 have hi':Inv P w.drew I ρ H:=hi.drew
 refine F4 (κ:=κ) (G:=G) (fH.of hk) hm hq (B:=B) (w0:=w) (I0:=I) (ρ0:=ρ) h0 (fun i o pU ho=>h1 i o (by rw[ZR,if_pos pU];exact ho)) ?_ _ _ a w.drew (by simp) (by simp) ?_ ?_ ?_
 ·intro H2 hG a' w' I' ρ' he hi2 oS hm2
  exact h2 H2 hG _ B w' I' ρ' a' hi2 oS hm2 fun e a2 w2 q=>QC.ext he q
 ·exact lz
 ·exact kP
 ·have e0:fl (Array.replicate l.length false) q=false:=by
    exact vF
  refine⟨I,ρ,Ext.drew.w,⟨H,(show(bif fl (Array.replicate l.length false) q then G H else H=H) from by rw[e0];rfl),hi'⟩,ht.size,fun s v hv=> ?_,hmk.ext Ext.drew⟩
  exact rG
end
end
def SJ(P:Program)(k0 i:Nat)(cell:Nat->ai)(f:FuncId)(mk:V->List V)(xs:List (List V)):Prop:=
 ∀(l κ n:Nat) (inv:Nat->List ai->Prop) (fin:List ai->Prop),k0<=κ->κ<=n->(∀ k h,inv k h->h.length=n∧h[i]? =some (cell k))->(∀ h,fin h->h.length=n)->
  (∀ k h x,inv k h->xs[k]? =some x->tj P l κ (h.set i (cell (k+1))) x fun b h'=>if b=true then inv (k+1) h' else fin h')->
  ∀ h0,inv 0 h0->j4 P κ f (mk (kr l)) h0 fun _ h'=>inv xs.length h'∨fin h'
section
variable {P:Program} {R:Option Nat} {N κ:Nat} {Q Q':Post} {T T' T2 T3:Tm} {H H' H2 H3:List ai} {o:Oper} {ops:Array Oper} {rest:List Oper}
theorem aF.E7{g:Operand}{ps:Array Tmp}{fG body:Code}{fv:V}{f:FuncId}{mk:V->List V}{xs:List (List V)}(k0 κ2 i:Nat)(cell:Nat->ai)(hg:ev T g=some fv)(hc:∀ y,callee [y] fv=some (f,mk y))(hf:ak P f=true)(FE:SJ P k0 i cell f mk xs)
    (hk0:k0<=κ2)(hκ:κ<=κ2)(hκn:κ2<=H.length)(hR:∀ l0,R=some l0->∃(i0:Nat) (r0:wz) (st:LoopState) (pe:Option Code),r0.l=l0∧H[i0]? =some (.loop r0 st pe))(hps:∀ x∈xs,x.length=ps.size)(hlt:ps.toList.all (fun p=>Nat.blt p N)=true)
    (J:Nat->List ai->Prop)(Jx:Code->List ai->Prop)(hJ:∀ k h,J k h->h.length=H.length∧h[i]? =some (cell k))(KG:∀ c h,Jx c h->h.length=H.length)(h0:J 0 H)
    (round:∀ l tmps k h x,J k h->xs[k]? =some x->Round P N κ2 ⟨l,tmps,T,ps,fG,body⟩ k H.length J Jx (mX T ps.toList x) (h.set i (cell (k+1))++[.loop ⟨l,tmps,T,ps,fG,body⟩ .ready none]))
    (done:∀ h,J xs.length h->Q .normal T (h++[.dead]))(stop:∀ c h,Jx c h->aF P R N κ c Q T (h++[.dead])):aF P R N κ (.rangeFunc g ps fG body) Q T H:=by
 intro B w I ρ a hi ht hm
 refine wpIn_rangeFunc ?_
 intro fn _
 -- the record
 have entry:∃(l:Nat) (mark:List Deferred) (w1:World),(Instr.enterLoop fn a.tmps ps fG body R).run P w= .ok (l,mark) w1∧Ext w I ρ w1 I (ρ++[l])∧
     Inv P w1 I (ρ++[l]) (H++[.loop ⟨l,a.tmps,T,ps,fG,body⟩ .ready none])∧Marks κ B w1 I (ρ++[l]) (mark++a.defers):=by
  cases R with
  | none=>
   have hi1:=Inv.dL hi (.deferred (some []))
   have XV:=Ext.dL hi (.deferred (some []))
   let ob:Obj:= .loop {state:= .ready,pending:=none,fn,tmps:=a.tmps,params:=ps,assign:=fG,body,defers:=w.heap.size}
   have KZ:Ext (w.alloc (.deferred (some []))) I ρ _ I _:=Ext.aO hi1 ob
   have hE:=XV.trans KZ
   have hsz:(w.alloc (.deferred (some []))).heap.size=w.heap.size+1:=by simp
   rw[hsz] at hE
   refine⟨w.heap.size+1,_,_,run_enterLoop_outer fn a.tmps ps fG body,hE,?_,?_⟩
   ·have hx:cW P ((w.alloc (.deferred (some []))).alloc ob) I (ρ++[w.heap.size+1]) (.loop ⟨w.heap.size+1,a.tmps,T,ps,fG,body⟩ .ready none) (w.heap.size+1):=by
      exact uW
    have:=Inv.aO hi1 ob (blk:= .loop ⟨w.heap.size+1,a.tmps,T,ps,fG,body⟩ .ready none) (by rw[hsz];exact hx)
    rwa [hsz] at this
   ·exact wQ
  | some l0=>
   obtain⟨i0,r0,st,pe,hl0,hH0⟩:=hR l0 rfl
   exact BP
 obtain⟨l,mark,w1,XP,hE,hi1,Fx⟩:=entry
 obtain⟨d,us,gz,hres,hinv⟩:=kq (ht.ext hE) hg (hc (kr l)) hf
 refine⟨l,mark,w1,d,w1,f,us.toArray,w1,XP,hres,(fun _ _=>trivial),hinv,(fun h=>by cases h),?_⟩
 have AT:∀ k h,(∃ h0,J k h0∧h=h0++[ai.loop ⟨l,a.tmps,T,ps,fG,body⟩ .ready none])->h.length=H.length+1∧h[i]? =some (cell k):=by
  rintro k h ⟨h0,h1,rfl⟩
  have h2:=(hJ k h0 h1).2
  exact⟨by simp[(hJ k h0 h1).1],by rw[Zd (Za.1 h2).1];exact h2⟩
 have D6:=FE l κ2 (H.length+1) (fun k h=>∃ h0,J k h0∧h=h0++[ai.loop ⟨l,a.tmps,T,ps,fG,body⟩ .ready none]) (fun h=>∃ h0 c,Jx c h0∧h=h0++[ai.loop ⟨l,a.tmps,T,ps,fG,body⟩ .done (some c)])
  hk0 (by omega) AT (by rintro h ⟨h0,c,h1,rfl⟩;simp[KG c h0 h1]) (by
   rintro k h x ⟨h0,h1,rfl⟩ hx
   have hlt2:=(Za.1 (hJ k h0 h1).2).1
   have:=Round.ok (r:=⟨l,a.tmps,T,ps,fG,body⟩) (h:=h0.set i (cell (k+1))) (by rw[yX];exact(hJ k h0 h1).1) (fun h e=>(hJ (k+1) h e).1) KG (hps x (Zh hx)) (fun p hp=>by
    have:=(Zz.1 hlt) p hp
    simpa[Nat.blt,Zx] using this) ht.size (round l a.tmps k h0 x h1 hx)
   rw[List.set_append_left _ _ hlt2]
   exact this) _ ⟨H,h0,rfl⟩ B.pre w1 I (ρ++[l]) us hi1 gz (Fx.2.2.1) (ZS Fx.2.1 hκ)
 refine CallsIn.mono (cj R D6) ?_
 rintro e w3 ⟨u,v,I3,ρ3,H3,rfl,FD,h1,h2,h3,h4⟩
 have GQ:∀(h':List ai) (st:LoopState) (pe:Option Code),h'.length=H.length->st≠ .busy->H3=h'++[.loop ⟨l,a.tmps,T,ps,fG,body⟩ st pe]->
     ∃ w4,(Instr.endLoop l).run P w3= .ok pe w4∧cA w I ρ w4 I3 ρ3∧Inv P w4 I3 ρ3 (h'++[.dead])∧bq P w4 I3 ρ3 N T a.tmps∧Marks κ B w4 I3 ρ3 (mark++a.defers):=by
  rintro h' st pe hl' hst rfl
  have ef:(h'++[ai.loop ⟨l,a.tmps,T,ps,fG,body⟩ st pe])[H.length]? =some (.loop ⟨l,a.tmps,T,ps,fG,body⟩ st pe):=by rw[<- hl'];simp
  obtain⟨_,⟨fn3,d3,OW⟩,YL⟩:=j5 h2 ef
  obtain⟨Kk,yw⟩:=oh (st':= .exhausted) (Vm:=pe) h2 ef OW _ rfl
  refine⟨_,run_endLoop OW hst,(hE.w.trans h1).trans Kk.w,?_,⟨ht.size,fun s v hv=>(YL s v hv).ext Kk⟩,(Fx.Ix h1 h4).ext Kk⟩
  have:=yw.kill H.length
  rw[<- hl',iV,iV] at this
  exact this
 rcases FD with⟨h',hj,rfl⟩ | ⟨h',c,hj,rfl⟩
 ·obtain⟨w4,e1,e2,e3,e4,e5⟩:=GQ h' .ready none (hJ _ _ hj).1 (by simp) rfl
  exact⟨none,w4,e1,.normal,I3,ρ3,T,_,trivial,done h' hj,e2,e3,e4,e5⟩
 ·exact Dp
theorem aj.U1(k d:Nat){l:Nat}{f:Operand}{xs:Array Operand}{ts:Array TypeId}{vs:List V}{Qb:Bool->List ai->Prop}(hk:k<=κ)(hκ:κ<=H.length)(ho:o.op= .call {callee:= .value f,args:=xs,argTypes:=ts})(hd:o.dst=some d)(hN:aU N (some d)=true)
    (hg:o.guard=none)(hf:ev T f=some (kr l))(hxs:jU T xs.toList=some vs)(hb:tj P l κ H vs Qb)
    (next:∀ b h',Qb b h'->aj P R N κ ops rest Q ((d,.p (.bool b))::AO k T) h'):aj P R N κ ops (o::rest) Q T H:=by
 intro QX B w I ρ a hi ht hm hq
 refine wpListIn_plain hg fun K hK=>⟨bB,?_⟩
 rw[bG _ _ _ (by simp[ho])]
 have h1:=ht.ev hf
 have h2:=ht.jU hxs
 obtain⟨us,vs',hu,h3,h4⟩:=h1
 simp only[aQ] at h3 h4
 have gz:us= #[]:=by simpa using h3
 have US:vs'= #[]:=by simpa using h4
 subst gz US
 obtain⟨fn,tmps,fG,body,hy,hr⟩:=hb (ρ.take κ) w I ρ _ hi h2 (List.take_prefix _ _) (by rw[EA];omega)
 have e:(execOp a.eval o).run P w= .ok (.round l fn tmps fG body) w:=by
  exact CX
 rw[e]
 refine⟨(fun h=>by cases h),RoundIn.mono (uT _ hr) ?_⟩
 rintro e w' ⟨b,I',ρ',h',rfl,h5,h6,h7,h8⟩
 have h9:ρ.take k<+:ρ':=(List.take_prefix_take_left hk).trans h8
 have h10:B.pre<+:ρ':=by
  refine List.IsPrefix.trans ?_ h8
  obtain⟨t,ht⟩:=hm.2.2.1
  rw[<- ht,List.take_append,O4 hm.2.1]
  exact V6 _ _
 have hto:=ht.AO h6 h9
 have hput:bq P w' I' ρ' N (fM (AO k T) o.dst (.p (.bool b))) (a.put o.dst (.bool b)).tmps:=bq.put (by rw[hd];exact hN) hto (by simp[aC,Rel])
 rw[hd] at hput
 refine hK _ _ ?_
 rw[hd]
 exact next b h' h5 QX B w' I' ρ' _ h7 hput (hm.Ix h6 h10).put fun e a2 w2 q=>hq e a2 w2 (QC.ext h6 q)
end
class aJ {α:Type} (x:α) (y:outParam α):Prop where
 h:x=y
theorem an{α:Type}{x y:α}[h:aJ x y]:x=y:=h.h
section
variable {P:Program} {R:Option Nat} {N κ:Nat} {Q:Post} {T:Tm} {H H':List ai} {o:Oper} {ops:Array Oper} {K:Tm->Prop} {rest:List Oper}
theorem Kc{d:Nat}{v:V}(hop:aa P N o T H v H')(next:aj P R N κ ops rest Q ((d,v)::T) H')(hd:o.dst=some d:=by rfl)(hN:aU N (some d)=true:=by rfl)(hg:o.guard=none:=by rfl):aj P R N κ ops (o::rest) Q T H:=aj.c d hd hN hg hop next
theorem Kz{v:V}(hop:aa P N o T H v H')(next:aj P R N κ ops rest Q T H')(hd:o.dst=none:=by rfl)(hg:o.guard=none:=by rfl):aj P R N κ ops (o::rest) Q T H:=aj.c0 hd hg hop next
theorem Kq{d:Nat}{v:V}(hop:aa P N o (bE ops o T) H v H)(next:av P N ops H K rest ((d,v)::T))(hd:o.dst=some d:=by rfl)(hN:aU N (some d)=true:=by rfl)(hg:o.guard=none:=by rfl):av P N ops H K (o::rest) T:=av.cons d hd hN hg hop next
theorem Kl{x:Operand}{t:TypeId}{b:Bool}{n:Nat}{p:V}(v:V)(ho:o.op= .load t x:=by rfl)(hx:ev T x=some p:=by rfl)(ht:fD P t=some (b,n):=by exact an)(hl:cV H b n p=some v:=by rfl):aa P N o T H v H:=aa.load ho hx ht hl
theorem Kp{g:FuncId}{args:List PV}{r:PV}(hp:Pure P g args r){f:Operand}{xs:Array Operand}{ts:Array TypeId}{fv:V}{vs:List V}(ho:o.op= .call {callee:= .value f,args:=xs,argTypes:=ts}:=by rfl)(hf:ev T f=some fv:=by rfl)
    (hxs:jU T xs.toList=some vs:=by rfl)(hc:callee vs fv=some (g,args.map .p):=by rfl)(hg:ak P g=true:=by exact an):aa P N o T H (.p r) H:=aa.dH hp ho hf hxs hc hg
theorem Kg(d s r:Nat){j:Nat}{want c:Bool}{x v v0:V}(hv:lk T r=some v0)(hop:c=true->aa P N o [(r,v0)] H v H)(next:aj P R N κ ops rest Q ((d,.opt c v)::T) H)(hd:o.dst=some d:=by rfl)(hN:aU N (some d)=true:=by rfl)(hg:o.guard=some (j,want):=by rfl)(hs:kQ ops j=some s:=by rfl)(tX:aU N (some s)=true:=by rfl)
    (hb:lk T s=some x:=by rfl)(hc:mE want x=some c:=by rfl):aj P R N κ ops (o::rest) Q T H:=aj.g d s hd hN hg hs tX hb hc [(r,v0)] (fun h=>And.intro (.inl hv) trivial) hop next
theorem Kh(d s r:Nat){j:Nat}{want c:Bool}{x v v0:V}(hb:lk T s=some x)(hg:o.guard=some (j,want))(hc:mE want x=some c)(hv:lk T r=some (.opt c v0))(hop:c=true->aa P N o [(r,v0)] H v H)(next:aj P R N κ ops rest Q ((d,.opt c v)::T) H)(hd:o.dst=some d:=by rfl)(hN:aU N (some d)=true:=by rfl)(hs:kQ ops j=some s:=by rfl)(tX:aU N (some s)=true:=by rfl)
    :aj P R N κ ops (o::rest) Q T H:=aj.g d s hd hN hg hs tX hb hc [(r,v0)] (fun h=>And.intro (.inr ⟨_,hv,h⟩) trivial) hop next
theorem Ki{c:Operand}{x y:Code}{b:Bool}(ht:b=true->aF P R N κ x Q T H)(hf:b=false->aF P R N κ y Q T H)(hc:ev T c=some (.p (.bool b)):=by rfl):aF P R N κ (.cond c x y) Q T H:=aF.cond b hc ht hf
theorem Kf{f:FuncId}{fn:Func}{c:Code}{args:List PV}{r:PV}(hf:P.funcs[f]? =some fn)(h:aF P none N 0 c (Fin P N fn r) (c6 0 (args.map .p)) [])(hb:fn.body=some c:=by rfl)(hN:fn.ntmps=N:=by rfl)(hn:Nat.ble args.length N=true:=by rfl):Pure P f args r:=Pure.start hf hb hN (ZP hn) h
theorem Kn{a b:Nat}(h:Nat.ble a b=true:=by rfl):a<=b:=ZP h
theorem KS{T2:Tm}(h:Sub T2 T:=by repeat (first | exact Sub.nil | refine Sub.cons rfl ?_)):Sub T2 T:=h
end
theorem af{A B:Prop}(x:A)(h:A->B:=by
 intro ha
 first
 | refine aj.c _ rfl rfl rfl (aa.assign rfl rfl) ?_
 | refine aj.c _ rfl rfl rfl (aa.move rfl rfl) ?_
 | refine aj.nil ?_
 | refine aF.seq ?_
 | refine aF.region ?_
 | refine aj.c _ rfl rfl rfl (aa.fieldAddr rfl rfl an rfl) ?_
 | refine aj.c _ rfl rfl rfl (aa.load rfl rfl an rfl) ?_
 | refine aF.skip ?_
 | refine aF.ret ?_
 | refine av.cons _ rfl rfl rfl (aa.move rfl rfl) ?_
 | refine av.cons _ rfl rfl rfl (aa.fieldAddr rfl rfl an rfl) ?_
 | refine av.cons _ rfl rfl rfl (aa.load rfl rfl an rfl) ?_
 | refine aj.c0 rfl rfl (aa.store rfl rfl rfl rfl rfl an rfl rfl) ?_
 | refine aj.c _ rfl rfl rfl (aa.extract rfl rfl rfl) ?_
 | refine aj.c _ rfl rfl rfl (aa.bD rfl rfl an rfl) ?_
 | refine aF.block ?_
 | refine aj.c _ rfl rfl rfl (aa.lss rfl rfl rfl) ?_
 | refine aj.c _ rfl rfl rfl (aa.aO rfl an rfl) ?_
 | refine aj.c _ rfl rfl rfl (aa.build rfl an rfl rfl) ?_
 | refine aj.c _ rfl rfl rfl (aa.UW rfl rfl rfl) ?_
 | refine aj.c _ rfl rfl rfl (aa.gW rfl rfl) ?_
 | refine aj.c _ rfl rfl rfl (aa.eql rfl rfl rfl) ?_
 | refine aj.c _ rfl rfl rfl (aa.neq rfl rfl rfl) ?_
 | refine aj.c _ rfl rfl rfl (aa.geq rfl rfl rfl) ?_
 | refine aj.c _ rfl rfl rfl (aa.leq rfl rfl rfl) ?_
 | refine aj.c _ rfl rfl rfl (aa.gtr rfl rfl rfl) ?_
 | refine aj.c _ rfl rfl rfl (aa.nilCheck rfl rfl) ?_
 | refine av.cons _ rfl rfl rfl (aa.assign rfl rfl) ?_
 | refine bA.cons _ rfl rfl rfl (fun _=>(aa.move rfl rfl)) rfl ?_
 | refine bA.cons _ rfl rfl rfl (fun _=>(aa.fieldAddr rfl rfl an rfl)) rfl ?_
 | refine aF.scope ?_
 | refine aF.label ?_
 exact ha):B:=h x
theorem aa.Xm{P:Program}{N:Nat}{T:Tm}{H:List ai}{o:Oper}{x y:Operand}{t t' e:TypeId}{n off:Nat}{cs:List PV}(ho:o.op= .binOp .eql t x y t')(hx:ev T x=some (.p (.ip cs off)))(hy:ev T y=some (.p .nilPtr))(ht:x8 P t=some (e,n)):aa P N o T H (.p (.bool false)) H:=
 aa.aL (by simp[ho]) fun w I ρ ac hi hT=>by
  obtain⟨b,o',hb0,e1,_⟩:=hT.ev hx
  have e2:ac.eval y= .pointer none:=hT.ev hy
  obtain⟨hu,j,hj,_⟩:=jq ht
  have hb:(binOp .eql t (.pointer (some ⟨b,o'+off,none⟩)) (.pointer none)).run P w= .ok (.bool false) w:=by
   simp only[binOp]
   have hq:(Op.equal t (.pointer (some ⟨b,o'+off,none⟩)) (.pointer none)).run P w= .ok false w:=by
    show(Op.equalIn (9999+1) t (.pointer (some ⟨b,o'+off,none⟩)) (.pointer none)).run P w= .ok false w
    exact w9
   simp[hq]
  exact⟨.bool false,by simp[execOp,ho,e1,e2,eqGuard,hb],by simp[aC,Rel]⟩
section
variable {P:Program} {R:Option Nat} {N κ:Nat} {Q:Post} {T:Tm} {H:List ai} {o:Oper}
theorem sO{w:World}{I J:Nat->Prop}{ρ:List Nat}{f:V->Option PV}(hf:∀ v x u,Lq v=true->f v=some x->aC P w J ρ v u->Rel w I x u):∀(vs:List V) (xs:List PV) (us:List Value),iZ vs=true->cS f vs=some xs->ah P w J ρ vs us->aQ w I xs us
 | [],xs,us,_,h,hr=>by cases h;exact hr
 | v::vs,xs,us,hs,h,hr=>by
  obtain⟨u,us',rfl,h1,h2⟩:=hr
  unfold iZ at hs
  rw[Zm] at hs
  simp only[cS] at h
  split at h
  ·rename_i x ys e1 e2
   cases h
   exact⟨u,us',rfl,hf v x u hs.1 e1 h1,sO hf vs ys us' hs.2 e2 h2⟩
  ·cases h
theorem MZ{w:World}{I J:Nat->Prop}{ρ:List Nat}(hi:Inv P w J ρ H)(hB:H.all Wz=true)(hI:∀ b∈ρ,b<w.heap.size->I b):∀(n:Nat) (v:V) (x:PV) (u:Value),Lq v=true->bS H n v=some x->aC P w J ρ v u->Rel w I x u:=by
 intro n
 induction n with
 | zero=>
  intro v x u hs h hr
  cases v <;> simp[bS] at h
  subst h
  exact Rel.sc _ u hs hr
 | succ n ih=>
  intro v x u hs h hr
  have at_:∀(i:Nat) (cs:List V) (xs:List PV),bM H[i]? =some cs->cS (bS H n) cs=some xs->∃ b,ρ[i]? =some b∧I b∧aS w I xs b 0:=fun i cs xs hc hx=>by
   obtain⟨b,arr,e,hρ,hw,hl,hrl⟩:=gO hi hc
   have hsc:iZ cs=true:=by
    cases hb:H[i]? with
    | none=>rw[hb] at hc;cases hc
    | some blk=>
     have:=Zz.1 hB blk (Zh hb)
     rw[hb] at hc
     cases blk <;> cases hc <;> exact this
   refine⟨b,hρ,hI b (Zh hρ) (ur hw),aS.me xs (arr.toList.take cs.length) 0 (sO ih cs xs _ hsc hx hrl) fun j v hj=> ?_⟩
   exact xk
  cases v with
  | p y=>simp[bS] at h;subst h;exact Rel.sc _ u hs hr
  | ptr i off=>
   simp only[bS] at h
   split at h
   ·rename_i cs hc
    simp only[Zi] at h
    obtain⟨xs,h1,rfl⟩:=h
    obtain⟨b,hρ,hb,ef⟩:=at_ i cs xs hc h1
    obtain⟨b',pz,hu⟩:=hr
    rw[hρ] at pz
    cases pz
    exact⟨b,0,hb,by simpa using hu,ef⟩
   ·cases h
  | row i len=>
   simp only[bS] at h
   split at h
   ·rename_i cs hc
    simp only[Zi] at h
    obtain⟨xs,h1,rfl⟩:=h
    obtain⟨b,hρ,hb,ef⟩:=at_ i cs xs hc h1
    obtain⟨b',e,cap,pz,hu,_,hl⟩:=hr
    rw[hρ] at pz
    cases pz
    exact .inr ⟨b,0,cap,fun _=>hb,hl,hu,ef⟩
   ·cases h
  | agg cs=>
   exact EO
  | tuple cs=>
   exact EO
  | z0=>
   exact CY
  | iface t v=>
   simp only[bS,Zi] at h
   obtain⟨y,h1,rfl⟩:=h
   obtain⟨z,hu,k1⟩:=hr
   exact⟨z,hu,ih v y z hs h1 k1⟩
  | sl i off len=>
   simp only[bS] at h
   split at h
   ·rename_i cs hc
    simp only[Zi] at h
    obtain⟨xs,h1,rfl⟩:=h
    obtain⟨b,hρ,hb,ef⟩:=at_ i cs xs hc h1
    obtain⟨b',cap,pz,hu,hl⟩:=hr
    rw[hρ] at pz
    cases pz
    refine .inr ⟨b,off,cap,fun _=>hb,hl,hu,?_⟩
    have:=ef.drop off
    simpa using this
   ·cases h
  | map i=>
   simp only[bS] at h
   split at h
   ·rename_i ks vs hH
    have:=Zz.1 hB _ (Zh hH)
    cases this
   ·cases h
  | func fn fi ca=>cases hs
  | opt g v=>simp[bS] at h
  | raw a n c=>simp[bS] at h
  | top=>simp[bS] at h
theorem aa.LZ(n m:Nat){g:FuncId}{args:List PV}{v0:V}{H0:List ai}{r:PV}(hp:az P g (args.map .p) [] fun v H'=>v=v0∧H'=H0)(hv:Lq v0=true)(hB:H0.all Wz=true)(hr:bS H0 m v0=some r){f:Operand}{xs:Array Operand}{ts:Array TypeId}{fv:V}{vs all:List V}(ho:o.op= .call {callee:= .value f,args:=xs,argTypes:=ts})(hf:ev T f=some fv)
    (hxs:jU T xs.toList=some vs)(hc:callee vs fv=some (g,all))(hb:cS (bS H n) all=some args)(hg:ak P g=true):aa P N o T H (.p r) H:=by
 intro R w I ρ a hi hT K QX hK
 refine⟨bB,?_⟩
 rw[bG _ _ _ (by simp[ho])]
 obtain⟨us,h1,h2⟩:=dD ho hT hf hxs hc hg
 rw[h2]
 have h1':ah P w (fun b=>b<w.heap.size) [] (args.map .p) us:=ah.pure.2 (fz (mZ hi n) all args us hb h1)
 have hi2:Inv P w (fun b=>b<w.heap.size) [] []:=⟨rfl,(fun _ _ _ h=>by simp at h),fun _ h=>h,(fun _ _ _ h=>by simp at h),(fun _ _ _ _ _ h=>by simp at h),(fun _ _ _ h=>by simp at h),hi.gl.mono hi.ib (fun _ _=>rfl)⟩
 refine⟨(fun h=>by cases h),?_⟩
 refine CallsIn.mono (cj R (hp w _ [] us hi2 h1')) ?_
 rintro e' w' ⟨u,v,J,σ,H',rfl,⟨rfl,rfl⟩,h3,h4,h5⟩
 have hnew:∀ b,b∈σ->w.heap.size<=b:=fun b hb=>by
  rcases h3.w.new b hb with h | h
  ·cases h
  ·exact h
 have hlt:∀ b,(I b∨b∈σ∧b<w'.heap.size)->b<w'.heap.size:=fun b h=>by
  rcases h with h | h
  ·exact ZJ (hi.ib b h) h3.w.size
  ·exact h.2
 have he:Ext w I [] w' (fun b=>I b∨b∈σ∧b<w'.heap.size) []:=⟨⟨h3.w.os,h3.w.tape,h3.w.output,h3.w.size,h3.w.keep,h3.w.shape,fun _ h=> .inl h,fun b h=>h3.w.keep b (hi.ib b h) (by simp),fun b h=>by
  rcases h with h | h
  ·exact .inl h
  ·exact .inr (.inr (hnew b h.1)),h3.w.cE,fun b hd h=>by
  rcases h with h | h
  ·exact h
  ·have:=ur hd
   have:=hnew b h.1
   omega,fun b h=>by cases h⟩,ZE _⟩
 have yw:Inv P w' (fun b=>I b∨b∈σ∧b<w'.heap.size) [] []:=⟨rfl,(fun _ _ _ h=>by simp at h),hlt,(fun _ _ _ h=>by simp at h),(fun _ _ _ _ _ h=>by simp at h),(fun _ _ _ h=>by simp at h),hi.gl.mono (fun _ h=> .inl h) he.w.aZ⟩
 obtain⟨h6,h7⟩:=Inv.frame hi he yw
 exact hK u w' _ ρ h6 h7 (MZ h4 hB (fun b hb hl=> .inr ⟨hb,hl⟩) m v r u hv hr h5)
end
section
variable {P:Program} {R:Option Nat} {N κ:Nat} {Q:Post} {T:Tm} {H:List ai} {o:Oper}
variable {K α:Type} [DecidableEq K] {enc:K->PV} {g:α->V} {k:TypeId} {val:K->Value}
end
section
variable {P:Program} {R:Option Nat} {N κ:Nat} {Q:Post} {T:Tm} {H:List ai} {G:List ai->Prop} {o:Oper} {ops:Array Oper} {rest:List Oper}
theorem aj.QL(d s:Nat){j:Nat}{want c:Bool}{x v:V}(hd:o.dst=some d)(hN:aU N (some d)=true)(hg:o.guard=some (j,want))(hs:kQ ops j=some s)(tX:aU N (some s)=true)(hb:lk T s=some x)(hc:mE want x=some c)(hw:c=true)
    (T2:Tm)(h2:n8 T2 T)(hop:NU P N o T2 H v G)(next:∀ H2,G H2->aj P R N κ ops rest Q ((d,v)::T) H2):aj P R N κ ops (o::rest) Q T H:=by
 intro QX B w I ρ a hi ht hm hq
 refine wpListIn_step fun K hK=> ?_
 subst hw
 simp only[Region.wanted,hg,jv hs ht tX hb hc,if_true]
 refine hop R w I ρ a hi (ht.n8 h2) K QX fun u w' I' ρ' H2 hG he hi' hv=>hK _ _ ?_
 have hput:bq P w' I' ρ' N ((d,v)::T) (a.put o.dst u).tmps:=by
  have:=(ht.ext he).put (a:=a) (dst:=o.dst) (by rw[hd];exact hN) hv
  rw[hd] at this ⊢
  exact this
 exact next H2 hG QX B w' I' ρ' (a.put o.dst u) hi' hput ((hm.ext he).put) fun e a2 w2 q=>hq e a2 w2 (QC.ext he.w q)
theorem rK{h:List ai}{cs us ws:List V}{e:TypeId}{k:Nat}(hk:k+us.length<=cs.length)(hw:setAt cs k us=ws):fI (h++[.cells cs e]) h.length k us=some (h++[.cells ws e]):=by
 have hx:(h++[ai.cells cs e])[h.length]? =some (.cells cs e):=by simp
 simp only[fI,hx]
 rw[if_pos (by omega),hw,iV]
end
end Go.AF
end
