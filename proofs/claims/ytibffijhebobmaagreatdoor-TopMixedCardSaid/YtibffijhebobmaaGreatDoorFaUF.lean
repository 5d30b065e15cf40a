/-
 The frame rule of calls that may panic, where what the call leaves behind is kept when it panics too. No condition; generic over any program.
 Calls that read own blocks as content and hand back own blocks, whatever they are. No condition; generic over any program.
 Slices without room (nil, or empty ones that were just made): their values; own slices that are such as long as they are empty. No condition; generic over any program.
 A call that returns or panics, by a condition. No condition; generic over any program.
 A range over a function that panics before it has ended. No condition; generic over any program.
 Slices that have no room as long as they are empty: made, copied, appended to, stored, handed back by a call. No condition; generic over any program.
 Regions that draw their order, in which one operation turns the own blocks. No condition; generic over any program.
 Exact slices in the place of what is known of them: a call that is proved for all exact slices in cells of an own block is proved for what these cells hold, and what it leaves may be told in the same words again. No condition; generic over any program.
 Own blocks written in another way; an element of an own slice that may have no room. No condition; generic over any program.
 Regions that draw their order, in which one operation always panics. No condition; generic over any program.
 A function that defers a closure behind three pieces of code; a drawn region in which one store turns the own blocks. No condition; generic over any program.
 What a call on some of the own blocks leaves, place by place. No condition; generic over any program.
 A contract whose arguments are weakened (a nil slice is an empty one). No condition; generic over any program.
 Regions that draw their order, in which one operation turns the own blocks into some that are as G says. No condition; generic over any program.
 Ranges over functions that store in an own cell of their caller before they yield. No condition; generic over any program.
 Facts that are found by themselves; steps that need no word. No condition; generic over any program.
 A pointer to content is not nil. No condition; generic over any program.
 A call whose new result is content at once: own blocks are read as content, and what is new is left to nobody. Generic over any program.
 Maps whose keys are compared by asking (structures, arrays): looked up and written. Generic over any program.
 A guarded call that turns the own blocks, where the guard is known; cells at the end of the own blocks. No condition; generic over any program.
-/
import Derived.Test.YtibffijhebobmaaGreatDoorFaUE
theorem BG{A:Prop}(h:A:=by
 refine⟨false,(fun h=>by cases h),run _ _ h1 ?_⟩
 show(Op.equalIn (9999+1) t _ (.slice none 0 0)).run P w= .ok false w
 generalize 9999=dd
 simp[Op.equalIn,run_underlying hu]):A:=h
theorem Bn{A:Prop}(h:A:=by
 rw[Zu] at h2
 split at h2
 ·rename_i e1;subst e1;exact⟨_,hH,rfl⟩
 ·exact⟨_,h2,h3⟩):A:=h
set_option linter.unnecessarySimpa false
set_option linter.unusedSectionVars false
set_option linter.unusedSimpArgs false
set_option linter.unusedVariables false
section
namespace Go.AF
open Go
section
variable {P:Program} {R:Option Nat} {N κ:Nat} {Q:Post} {T:Tm} {H:List ai} {o:Oper}
def fB(H:List ai)(ks:List Nat)(H':List ai):Prop:=ks.length<=H'.length∧∀(j i:Nat) (y:ai),ks[j]? =some i->(H.getD i .dead).live=false->H'[j]? =some y->y.live=false
theorem au.Am{g:FuncId}{args jo:List V}{H0:List ai}{Qr:V->List ai->Prop}{Qp:PV->List ai->Prop}(ks:List Nat)(hp:au P g jo H0 Qr Qp)(ha:bq (nU H ks) args=jo)(h0:(ks.map fun i=>aD (nU H ks) (H.getD i .dead))=H0)
    (hks:(ks.all (fun i=>Nat.blt i H.length)&&decide ks.Nodup)=true)(hQ:∀ v H',Qr v H'->fB H ks H')(iH:∀ v H',Qp v H'->fB H ks H'):
    au P g args H (fun v H'=>∃ v0 tI,Qr v0 tI∧v=aW (dK H ks) v0∧H'=bh H ks tI) (fun y H'=>∃ tI,Qp y tI∧H'=bh H ks tI):=by
 intro w I ρ us hi fT
 simp only[Zk,Zz,Zj] at hks
 have hlt:∀ i∈ks,i<H.length:=fun i h=>by have:=hks.1 i h;simpa[Nat.blt,Zw] using this
 have oC:∀ i,i<H.length->H[i]? =some (H.getD i .dead):=fun i h=>by simp[h]
 obtain⟨ρ2,Yl⟩:∃ ρ2,ρ2=ks.map fun i=>if (H.getD i .dead).live=true then ρ.getD i 0 else w.heap.size:=⟨_,rfl⟩
 have jH:ρ2.length=ks.length:=by rw[Yl,Zo]
 have qZ:∀ j i:Nat,ks[j]? =some i->(H.getD i .dead).live=true->ρ2[j]? =ρ[i]? :=fun j i h hl=>by
  exact Ep
 have hρd:∀ j i:Nat,ks[j]? =some i->(H.getD i .dead).live=false->ρ2[j]? =some w.heap.size:=fun j i h hl=>by
  exact BH
 have yE:∀ b,b∈ρ2->b∈ρ∨b=w.heap.size:=fun b hb=>by
  exact Bb
 have hσ:∀ i j b:Nat,nU H ks i=some j->ρ[i]? =some b->ρ2[j]? =some b:=fun i j b h hb=>by
  exact Ds
 have eK:∀(j b:Nat) (blk:ai),ρ2[j]? =some b->H0[j]? =some blk->∃ i x,ks[j]? =some i∧H[i]? =some x∧blk=aD (nU H ks) x∧(x.live=true->ρ[i]? =some b):=by
  exact DG
 have hsub:Inv P w I ρ2 H0:=by
  exact EE
 have hargs:ag P w I ρ2 jo us:=by rw[<- ha];exact ep hσ args us fT
 -- what an own block that is at none of the places has, stays
 have JL:∀(i b:Nat) (x:ai),ρ[i]? =some b->H[i]? =some x->x.live=true->i∉ks->b∉ρ2:=fun i b x g1 g2 g3 g4 hb=>by
  exact DE
 have key:∀(w':World) (J:Nat->Prop) (σ:List Nat) (H2:List ai),Ext w I ρ2 w' J σ->Inv P w' J σ H2->fB H ks H2->∃ ext,σ=ρ2++ext∧Ext w I ρ w' J (ρ++ext)∧Inv P w' J (ρ++ext) (bh H ks H2)∧∀ j i b:Nat,dK H ks j=some i->(ρ2++ext)[j]? =some b->(ρ++ext)[i]? =some b:=by
  intro w' J σ H2 h3 h4 ⟨ur,Rj⟩
  obtain⟨ext,TA⟩:=h3.pre
  subst TA
  have Ld:(ρ2++ext).length=H2.length:=h4.len
  rw[Zd,jH] at Ld
  have hleft:∀ j,j<ks.length->(ρ2++ext)[j]? =ρ2[j]? :=fun j hj=>Zc (by rw[jH];exact hj)
  have hright:∀ j,(ρ2++ext)[ks.length+j]? =ext[j]? :=fun j=>by rw[Zi (by rw[jH];omega),jH,ZK]
  have zR:∀ j,(ρ++ext)[H.length+j]? =ext[j]? :=fun j=>by rw[Zi (by rw[hi.len];omega),hi.len,ZK]
  have hτ:∀ j i b:Nat,dK H ks j=some i->(ρ2++ext)[j]? =some b->(ρ++ext)[i]? =some b:=fun j i b h hb=>by
   exact Cm
  have NL:∀ b,b∈ext->b∈ρ∨w.heap.size<=b:=fun b hb=>by
   exact Ef
  have hE:Ext w I ρ w' J (ρ++ext):=⟨⟨h3.w.os,h3.w.tape,h3.w.output,h3.w.size,fun b g1 g2=>h3.w.keep b g1 fun h=>by
      rcases yE b h with h | h
      ·exact g2 h
      ·omega,h3.w.shape,h3.w.lu,h3.w.bf,fun b h=>by
   rcases h3.w.ew b h with h | h | h
   ·exact .inl h
   ·exact w6
   ·exact .inr (.inr h),h3.w.cL,h3.w.j9,fun b h=>by
   rcases Zp.1 h with h | h
   ·exact .inl h
   ·exact NL b h⟩,⟨ext,rfl⟩⟩
  have hout:∀(i b:Nat) (x:ai),ρ[i]? =some b->H[i]? =some x->x.live=true->i∉ks->b∉ρ2++ext:=fun i b x g1 g2 g3 g4 hb=>by
   exact Ee
  have SO:(ke H ks ((H2.take ks.length).map (aD (dK H ks)))).length=H.length:=cI _ _ _
  have JD:∀(i:Nat) (blk:ai),(bh H ks H2)[i]? =some blk->blk.live=true->(∃(j:Nat) (x:ai),H2[j]? =some x∧blk=aD (dK H ks) x∧(ρ2++ext)[j]? =(ρ++ext)[i]? ∧(ks[j]? =some i∨(ks.length<=j∧i=H.length+(j - ks.length))))∨(i<H.length∧i∉ks∧H[i]? =some blk):=fun i blk h hlv=>by
   exact A2
  have hI:Inv P w' J (ρ++ext) (bh H ks H2):=by
   exact AG
  exact⟨ext,rfl,hE,hI,hτ⟩
 refine CallsIn.mono (hp w I _ us hsub hargs) ?_
 rintro e w' (⟨u,v0,J,σ,H2,rfl,hq,h3,h4,h5⟩ | ⟨u,y,J,σ,H2,rfl,hy,h3,h4,h5⟩)
 ·obtain⟨ext,rfl,hE,hI,hτ⟩:=key w' J σ H2 h3 h4 (hQ _ _ hq)
  exact .inl ⟨u,_,J,ρ++ext,_,rfl,⟨v0,H2,hq,rfl,rfl⟩,hE,hI,eY hτ v0 u h5⟩
 ·obtain⟨ext,rfl,hE,hI,hτ⟩:=key w' J σ H2 h3 h4 (iH _ _ hy)
  exact .inr ⟨u,y,J,ρ++ext,_,rfl,⟨H2,hy,rfl⟩,hE,hI,h5⟩
theorem aj.HA(d:Nat)(ks:List Nat){jo:List V}{H0:List ai}{ops:Array Oper}{rest:List Oper}{f:Operand}{xs:Array Operand}{ts:Array TypeId}{fv:V}{vs all:List V}{g:FuncId}{Qr:V->List ai->Prop}{Qp:PV->List ai->Prop}(hp:au P g jo H0 Qr Qp)(ha:bq (nU H ks) all=jo)(h0:(ks.map fun i=>aD (nU H ks) (H.getD i .dead))=H0)
    (hks:(ks.all (fun i=>Nat.blt i H.length)&&decide ks.Nodup)=true)(hQ:∀ v H',Qr v H'->fB H ks H')(iH:∀ v H',Qp v H'->fB H ks H')
    (ho:o.op= .call {callee:= .value f,args:=xs,argTypes:=ts})(hd:o.dst=some d)(hN:aZ N (some d)=true)(hgd:o.guard=none)(hf:ev T f=some fv)
    (hxs:kR T xs.toList=some vs)(hc:callee vs fv=some (g,all))(hg:ak P g=true)(zV:∀ y tI,Qp y tI->Q (.panic (.p y)) T (bh H ks tI))(next:∀ v H',Qr v H'->aj P R N κ ops rest Q ((d,aW (dK H ks) v)::T) (bh H ks H')):aj P R N κ ops (o::rest) Q T H:=
 aj.e8 d (hp.Am ks ha h0 hks hQ iH) ho hd hN hgd hf hxs hc hg (fun y H' ⟨tI,h,e⟩=>by subst e;exact zV y tI h) fun v H' ⟨v0,tI,hq,e1,e2⟩=>by
  subst e1
  subst e2
  exact next v0 tI hq
end
section
mutual
def Ut:V->Bool
 | .p x=>JJ x
 | .ptr _ _=>true
 | .row _ _=>true
 | .sl _ _ _=>true
 | .map _=>true
 | .agg cs=>kK cs
 | .tuple cs=>kK cs
 | .iface _ v=>Ut v
 | .top=>true
 | .raw _ _ _=>true
 | .z0=>true
 | _=>false
def kK:List V->Bool
 | []=>true
 | v::vs=>Ut v&&kK vs
end
def scB:ai->Bool
 | .cells cs _=>kK cs
 | .row cs _=>kK cs
 | .dead=>true
 | _=>false
mutual
theorem az.MD{P:Program}{w:World}{I J:Nat->Prop}{ρ:List Nat}:∀(v:V) (u:Value),Ut v=true->az P w J ρ v u->az P w I ρ v u
 | .p x,u,h,hr=>Rel.sc x u h hr
 | .ptr _ _,u,_,hr=>hr
 | .row _ _,u,_,hr=>hr
 | .sl _ _ _,u,_,hr=>hr
 | .map _,u,_,hr=>hr
 | .agg cs,u,h,hr=>by
  obtain⟨us,h1,h2⟩:=hr
  exact⟨us,h1,ag.MD cs _ h h2⟩
 | .tuple cs,u,h,hr=>by
  obtain⟨us,h1,h2⟩:=hr
  exact⟨us,h1,ag.MD cs _ h h2⟩
 | .iface t v,u,h,hr=>by
  obtain⟨x,h1,h2⟩:=hr
  exact⟨x,h1,az.MD v _ h h2⟩
 | .top,u,_,_=>trivial
 | .raw _ _ _,u,_,hr=>hr
 | .z0,u,_,hr=>hr
 | .opt _ _,_,h,_=>by cases h
 | .func _ _ _,_,h,_=>by cases h
theorem ag.MD{P:Program}{w:World}{I J:Nat->Prop}{ρ:List Nat}:∀(vs:List V) (us:List Value),kK vs=true->ag P w J ρ vs us->ag P w I ρ vs us
 | [],us,_,hr=>hr
 | v::vs,us,h,hr=>by
  obtain⟨u,us',h1,h2,h3⟩:=hr
  unfold kK at h
  rw[Zk] at h
  exact⟨u,us',h1,az.MD v u h.1 h2,ag.MD vs us' h.2 h3⟩
end
theorem cN.MD{P:Program}{w:World}{I J:Nat->Prop}{ρ:List Nat}{x:ai}{b:Nat}(h:scB x=true)(hr:cN P w J ρ x b):cN P w I ρ x b:=by
 cases x with
 | cells cs e=>
  obtain⟨arr,h1,h2⟩:=hr
  exact⟨arr,h1,ag.MD cs _ h h2⟩
 | row cs e=>
  obtain⟨arr,h1,h2,h3⟩:=hr
  exact⟨arr,h1,h2,ag.MD cs _ h h3⟩
 | dead=>trivial
 | _=>cases h
end
section
variable {P:Program} {R:Option Nat} {N κ:Nat} {Q:Post} {T:Tm} {H:List ai} {o:Oper}
def EY(n:Nat)(j:Nat):Option Nat:=some (n+j)
theorem aa.zM(n:Nat){g:FuncId}{args:List PV}{v0:V}{H0:List ai}(hp:ax P g (args.map .p) [] fun v H'=>v=v0∧H'=H0)(hv:Ut v0=true)(hB:H0.all scB=true){f:Operand}{xs:Array Operand}{ts:Array TypeId}{fv:V}{vs all:List V}(ho:o.op= .call {callee:= .value f,args:=xs,argTypes:=ts})(hf:ev T f=some fv)
    (hxs:kR T xs.toList=some vs)(hc:callee vs fv=some (g,all))(hb:fN (dy H n) all=some args)(hg:ak P g=true):aa P N o T H (aW (EY H.length) v0) (H++H0.map (aD (EY H.length))):=by
 intro R w I ρ a hi hT K QX hK
 refine⟨bB,?_⟩
 rw[bD _ _ _ (by simp[ho])]
 obtain⟨us,h1,h2⟩:=dP ho hT hf hxs hc hg
 rw[h2]
 have h1':ag P w (fun b=>b<w.heap.size) [] (args.map .p) us:=ag.pure.2 (fC (qd hi n) all args us hb h1)
 have hi2:Inv P w (fun b=>b<w.heap.size) [] []:=⟨rfl,(fun _ _ _ h=>by simp at h),fun _ h=>h,(fun _ _ _ h=>by simp at h),(fun _ _ _ _ _ h=>by simp at h),(fun _ _ _ h=>by simp at h),hi.gl.mono hi.ib (fun _ _=>rfl)⟩
 refine⟨(fun h=>by cases h),?_⟩
 refine CallsIn.mono (cE R (hp w _ [] us hi2 h1')) ?_
 rintro e' w' ⟨u,v,J,σ,H',rfl,⟨rfl,rfl⟩,h3,h4,h5⟩
 have hnew:∀ b,b∈σ->w.heap.size<=b:=fun b hb=>by
  rcases h3.w.new b hb with h | h
  ·cases h
  ·exact h
 have he:=qM hi h3
 have Aw:Inv P w' I [] []:=⟨rfl,(fun _ _ _ h=>by simp at h),fun b h=>ZR (hi.ib b h) h3.w.size,(fun _ _ _ h=>by simp at h),(fun _ _ _ _ _ h=>by simp at h),(fun _ _ _ h=>by simp at h),hi.gl.mono (fun _ h=>h) he.w.bf⟩
 obtain⟨h6,h7⟩:=Inv.frame hi he Aw
 have hE:Ext w I ρ w' I (ρ++σ):=⟨⟨h6.w.os,h6.w.tape,h6.w.output,h6.w.size,h6.w.keep,h6.w.shape,h6.w.lu,h6.w.bf,h6.w.ew,h6.w.cL,h6.w.j9,fun x hx=>by
  rcases Zp.1 hx with h | h
  ·exact .inl h
  ·exact .inr (hnew x h)⟩,⟨_,rfl⟩⟩
 have hτ:∀ j i b:Nat,EY H.length j=some i->σ[j]? =some b->(ρ++σ)[i]? =some b:=fun j i b h hb=>by
  cases h
  rw[Zi (by rw[hi.len];omega),hi.len,ZK]
  exact hb
 have old:∀(j k:Nat) (blk:ai),(ρ++σ)[j]? =some k->(H++H'.map (aD (EY H.length)))[j]? =some blk->(j<H.length∧ρ[j]? =some k∧H[j]? =some blk)∨(∃ m x,j=H.length+m∧σ[m]? =some k∧H'[m]? =some x∧blk=aD (EY H.length) x):=fun j k blk h1 h2=>by
  rcases ZD j H.length with g | g
  ·rw[Zc (by rw[hi.len];exact g)] at h1
   rw[Zc g] at h2
   exact .inl ⟨g,h1,h2⟩
  ·obtain⟨m,rfl⟩:∃ m,j=H.length+m:=⟨j - H.length,by omega⟩
   rw[Zi (by rw[hi.len];omega),hi.len,ZK] at h1
   rw[Zi (by omega),ZK,Zt,Zl] at h2
   obtain⟨x,h2,rfl⟩:=h2
   exact .inr ⟨m,x,rfl,h1,h2,rfl⟩
 have UM:Inv P w' I (ρ++σ) (H++H'.map (aD (EY H.length))):=by
  refine⟨by rw[Zd,Zd,Zo,hi.len,h4.len],fun j k blk g1 g2 g3=> ?_,h7.ib,fun j k blk g1 g2 g3=> ?_,fun j j' k x y g1 g2 g3 g4 g5 g6=> ?_,fun j k blk g1 g2=> ?_,h7.gl⟩
  ·rcases old j k blk g1 g2 with⟨_,a1,a2⟩ | ⟨m,x,rfl,a1,a2,rfl⟩
   ·exact h7.gf j k blk a1 a2 g3
   ·rw[bY] at g3;exact h4.gf m k x a1 a2 g3
  ·rcases old j k blk g1 g2 with⟨_,a1,a2⟩ | ⟨m,x,rfl,a1,a2,rfl⟩
   ·exact h7.live j k blk a1 a2 g3
   ·intro h
    have:=hi.ib _ h
    have:=hnew k (Zh a1)
    omega
  ·rcases old j k x g1 g3 with⟨_,a1,a2⟩ | ⟨m,z,rfl,a1,a2,rfl⟩ <;> rcases old j' k y g2 g4 with⟨_,b1,b2⟩ | ⟨m',z',rfl,b1,b2,rfl⟩
   ·exact h7.fK j j' k x y a1 b1 a2 b2 g5 g6
   ·have:=hi.gf j k x a1 a2 g5
    have:=hnew k (Zh b1)
    omega
   ·have:=hi.gf j' k y b1 b2 g6
    have:=hnew k (Zh a1)
    omega
   ·rw[bY] at g5 g6
    rw[h4.fK m m' k z z' a1 b1 a2 b2 g5 g6]
  ·rcases old j k blk g1 g2 with⟨_,a1,a2⟩ | ⟨m,x,rfl,a1,a2,rfl⟩
   ·cases hlv:blk.live with
    | false=>exact cN.gh hlv
    | true=>exact cN.mono h6.w.lu h6.w.bf (U3 ρ σ) (fun b _ s hs=>h6.w.shape b s hs) (he.w.keep k (hi.gf j k blk a1 a2 hlv) (by simp)) (hi.rel j k blk a1 a2)
   ·exact jC hτ (cN.MD (Zz.1 hB x (Zh a2)) (h4.rel m k x a1 a2))
 exact hK u w' I (ρ++σ) hE UM (eY hτ v u (az.MD v u hv h5))
end
def aY(i:Nat):Nat->V
 | 0=> .z0
 | n+1=> .row i (n+1)
theorem MR{i n:Nat}(h:0<n):aY i n= .row i n:=by
 cases n with
 | zero=>omega
 | succ n=>rfl
theorem oc{i n:Nat}(h:n=0):aY i n= .z0:=by subst h;rfl
theorem nX{cs:List V}{e:TypeId}{n:Nat}(h:n=0):dL cs e n= .dead:=by subst h;rfl
theorem cC{σ:Nat->Option Nat}{i j n:Nat}(h:σ i=some j):aW σ (aY i n)=aY j n:=by
 cases n with
 | zero=>rfl
 | succ n=>simp only[aY,aW,h]
theorem pR{i n:Nat}:FM (aY i n)=some n:=by cases n <;> rfl
theorem Nb{i n:Nat}:jB (aY i n)=true:=by cases n <;> rfl
theorem QM{i n:Nat}:iu (aY i n)=true:=by cases n <;> rfl
theorem uZ{i n:Nat}:dO (aY i n)=[aY i n]:=by cases n <;> rfl
theorem HC{i n:Nat}:Ut (aY i n)=true:=by cases n <;> rfl
section
variable {P:Program} {R:Option Nat} {N κ:Nat} {Q:Post} {T:Tm} {H H':List ai} {o:Oper} {ops:Array Oper} {rest:List Oper}
theorem qf{m i n:Nat}{xs:List PV}{e:TypeId}(hH:H[i]? =some (dL (xs.map .p) e n))(h0:n=0->xs=[]):dy H (m+1) (aY i n)=some (.is xs n):=by
 cases n with
 | zero=>rw[h0 rfl];rfl
 | succ n=>exact Sy (by rw[hH];rfl)
theorem To.z0(s:Nat)(hs:lk T s=some (.p .nilSlice)):To P κ N T H ((s,.z0)::iQ [s] T) H:=fun w I ρ tmps hi ht=>by
 refine⟨I,ρ,cy.refl _ _ _,hi,⟨ht.size,fun s' v hv=> ?_⟩,fun L hL _=>hL⟩
 simp only[lk] at hv
 cases hb:Nat.beq s s' with
 | false=>rw[hb] at hv;exact ht.at_ s' v (jw [s] T s' v hv)
 | true=>
  rw[hb] at hv
  have:=ZO hb
  subst this
  simp at hv
  subst hv
  exact⟨none,ht.at_ s _ hs⟩
def XI:V->V
 | .p .nilSlice=> .z0
 | v=>v
theorem PK{w:World}{I:Nat->Prop}{ρ:List Nat}(v:V)(u:Value)(h:az P w I ρ v u):az P w I ρ (XI v) u:=by
 unfold XI
 split
 ·exact⟨none,h⟩
 ·exact h
theorem HJ{w:World}{I:Nat->Prop}{ρ:List Nat}:∀(vs:List V) (us:List Value),ag P w I ρ vs us->ag P w I ρ (vs.map XI) us
 | [],us,h=>h
 | c::cs,us,h=>by
  obtain⟨u,us',hu,h1,h2⟩:=h
  exact⟨u,us',hu,PK c u h1,HJ cs us' h2⟩
theorem To.z0B(i:Nat){cs:List V}{e:TypeId}(hH:H[i]? =some (.cells cs e)):To P κ N T H T (H.set i (.cells (cs.map XI) e)):=fun w I ρ tmps hi ht=>by
 refine⟨I,ρ,cy.refl _ _ _,⟨by simp[hi.len],fun j b blk h1 h2 h3=> ?_,hi.ib,fun j b blk h1 h2 h3=> ?_,fun j k b x y h1 h2 h3 h4 h5 h6=> ?_,fun j b blk h1 h2=> ?_,hi.gl⟩,ht,fun L hL _=>hL⟩
 ·obtain⟨x,hx,hl⟩:∃ x,H[j]? =some x∧x.live=true:=by
    exact Bn
  exact hi.gf j b x h1 hx hl
 ·obtain⟨x,hx,hl⟩:∃ x,H[j]? =some x∧x.live=true:=by
    exact Bn
  exact hi.live j b x h1 hx hl
 ·have at_:∀(j:Nat) (x:ai),(H.set i (.cells (cs.map XI) e))[j]? =some x->x.live=true->∃ z,H[j]? =some z∧z.live=true:=fun j x h hl=>by
    rw[Zu] at h
    split at h
    ·rename_i e1;subst e1;exact⟨_,hH,rfl⟩
    ·exact⟨_,h,hl⟩
  obtain⟨x',hx,hxl⟩:=at_ j x h3 h5
  obtain⟨y',hy,uC⟩:=at_ k y h4 h6
  exact hi.fK j k b x' y' h1 h2 hx hy hxl uC
 ·rw[Zu] at h2
  split at h2
  ·rename_i e1
   subst e1
   split at h2
   ·cases h2
    obtain⟨arr,k1,k2⟩:=hi.rel i b _ h1 hH
    exact⟨arr,k1,HJ _ _ k2⟩
   ·cases h2
  ·exact hi.rel j b blk h1 h2
theorem aa.S4{x y:Operand}{t e:TypeId}{z:List PV}{gI:Nat}(ho:o.op= .makeSlice t x y)(hx:ev T x=some (.p (.int .i64 0)))(hy:ev T y=some (.p (.int .i64 0)))(hs:oz P t=some (e,z))(hby:wG P e=some gI):aa P N o T H .z0 H:=
 aa.dz (by simp[ho]) fun w I ρ a hi hT=>by
  obtain⟨hu,⟨b,ht⟩,uL,hz⟩:=eg hs
  obtain⟨uz,h1,h2⟩:=hz w
  obtain⟨inf,jI,rfl⟩:∃ inf,P.info? e=some inf∧inf.bytes=gI:=by
   exact CP
  have Dn:∀ k w,(askRoom k).run P w= .ok () w:=fun k w=>by
   exact pK
  have w0:IntKind.i64.wrap 0=0:=by decide
  have ex:a.eval x= .int .i64 0:=hT.ev hx
  have ey:a.eval y= .int .i64 0:=hT.ev hy
  refine⟨.slice (some ⟨w.heap.size,0,none⟩) 0 0,w.alloc (.cells #[] e),I,ρ,.inl ?_,Ext.dI hi _,Inv.dI hi _,⟨_,rfl⟩⟩
  have e0:Array.range 0= #[]:=by decide
  simp[execOp,ho,ex,ey,Instr.makeSlice,run_underlying hu,asInt,dN,run_typeInfo w jI,w0,Dn,aK ht,newRow,newObj,Sem.run,e0]
theorem aa.tO{t e:TypeId}{z:List PV}(ho:o.op= .buildSlice t 0 #[])(hs:oz P t=some (e,z)):aa P N o T H .z0 H:=
 aa.dz (by simp[ho]) fun w I ρ a hi hT=>by
  have hv:iq T ([]:List (Nat×Operand))=some []:=rfl
  obtain⟨arr,h1,h2,h3⟩:=jl (P:=P) (w:=w) (I:=I) (ρ:=ρ) (len:=0) (parts:= #[]) (r:=[]) hs (by omega) hT hv rfl
  refine⟨_,_,I,ρ,.inl ?_,Ext.dI hi (.cells arr e),Inv.dI hi _,⟨some ⟨w.heap.size,0,none⟩,rfl⟩⟩
  simp only[execOp,ho,Sem.run_bind]
  have e1:(Array.map (fun(x:Nat×Operand)=>match x with | (i,x)=>(i,a.eval x)) (#[]:Array (Nat×Operand)))= #[]:=by simp
  rw[e1]
  have e2:((#[]:Array (Nat×Operand)).map fun(x:Nat×Operand)=>(x.1,a.eval x.2))= #[]:=by simp
  rw[e2] at h3
  rw[h3]
  rfl
theorem aa.Ai{x y:Operand}{t t2 e:TypeId}{z:List PV}{n gI:Nat}{ys:List V}{yv:V}(ho:o.op= .call {callee:= .builtin .append,args:= #[x,y],argTypes:= #[t,t2]})(hx:ev T x=some .z0)(hy:ev T y=some yv)(hs:oz P t=some (e,z))(jz:dY P t2=true)
    (hsrc:oV H z.length yv=some (ys,n))(hn:0<n)(hone:ys.all jB=true)(hby:wG P e=some gI)(hb0:0<gI)(hb:(2*n+192)*gI<=281474976710656):
    aa P N o T H (.row H.length n) (H++[.row ys e]):=
 aa.dz (by simp[ho]) fun w I ρ a hi hT=>by
  obtain⟨hu,⟨bb,lH⟩,uL,hz⟩:=eg hs
  obtain⟨bx,FU⟩:∃ bx,a.eval x= .slice bx 0 0:=hT.ev hx
  obtain⟨us,⟨ad,wY,Au⟩,hfc,_,cu,hlen⟩:=kN hi (hT.ev hy) hsrc
  have hce:P.cellsOf e=z.length:=by
   exact mH
  have hinfo:∃ inf,P.info? e=some inf∧inf.bytes=gI:=by
   exact vj
  obtain⟨inf,jI,zI⟩:=hinfo
  have o4:∃ d2,P.underlying t2=some (.slice d2):=by
   exact pO
  obtain⟨d2,o4⟩:=o4
  have uC:=ag.length cu
  have zb:∀ q,0+n<=(Question.appendCap (0+n) 0 e).cut q:=fun q=>Ui _ _
  obtain⟨uz,hz1,EU⟩:=hz w.drew
  have hzl:=aR.length (EU I)
  have I4:uz.cells.size=z.length:=by simpa using hzl
  have hnext:=js (need:=0+n) (cap:=0) (by omega)
  have hsmall:¬ (Builtin.nextslicecap (0+n) 0*gI>2^48):=by
   exact wj
  let newCap:=(Question.appendCap (0+n) 0 e).cut (w.tape w.drawn (.appendCap (0+n) 0 e))
  have hnc:0+n<=newCap:=zb _
  have hnew:=hfc w.drew (fun _ _=>rfl)
  let eM:Array Value:= #[]++us.toArray++Builtin.zeroCells uz.cells (newCap - (0+n))
  have xH:Ext w I ρ w.drew I ρ:=Ext.drew
  have hi1:Inv P w.drew I ρ H:=hi.drew
  have oO:Ext w.drew I ρ (w.drew.alloc (.cells eM e)) I (ρ++[w.drew.heap.size]):=Ext.aO hi1 _
  have hi2:Inv P (w.drew.alloc (.cells eM e)) I (ρ++[w.drew.heap.size]) (H++[.row ys e]):=by
   exact Cp
  refine⟨.slice (some ⟨w.heap.size,0,none⟩) (0+n) newCap,w.drew.alloc (.cells eM e),I,ρ++[w.drew.heap.size],.inl ?_,xH.trans oO,hi2,w.heap.size,e,newCap,by rw[<- hi.len];simp,by rw[yy],?_,by omega⟩
  ·rw[Au] at hnew
   have mc:((0+n:Nat):Int)<=IntKind.i64.max:=by
    exact u9
   have hold:(Builtin.firstCells z.length 0 (.slice bx 0 0)).run P w.drew= .ok #[] w.drew:=by cases bx <;> simp[Builtin.firstCells,loadCells,loadCellsFrom]
   have:=run_append_grow (P:=P) (w:=w) (t:=t) (t2:=t2) (ty:=o.type) hu lH o4 jI (by rw[zI];exact hsmall) mc (by omega) hold hnew hz1
   simp only[execOp,ho,Go.resolve,Go.invoke,Go.builtin,Sem.run_bind]
   exact vt
  ·exact vT
theorem aa.qe{x y:Operand}{t t2 e:TypeId}{z:List PV}{i len n gI:Nat}{cs ys:List V}{yv:V}(ho:o.op= .call {callee:= .builtin .append,args:= #[x,y],argTypes:= #[t,t2]})(hx:ev T x=some (aY i len))(hy:ev T y=some yv)(hs:oz P t=some (e,z))(jz:dY P t2=true)
    (hH:H[i]? =some (dL cs e len))(hcs:cs.length=len*z.length)(hsrc:oV H z.length yv=some (ys,n))(hn:0<n)(hone:ys.all jB=true)(hby:wG P e=some gI)(hb0:0<gI)(hb:(2*(len+n)+192)*gI<=281474976710656):
    aa P N o T H (.row H.length (len+n)) (H.set i .dead++[.row (cs++ys) e]):=by
 cases len with
 | zero=>
  have h0:cs=[]:=ZA (by simpa using hcs)
  subst h0
  rw[qY (show H[i]? =some ai.dead from hH),IS]
  have:=aa.Ai (N:=N) ho hx hy hs jz hsrc hn hone hby hb0 (by simpa using hb)
  simpa using this
 | succ len=>exact aa.rE ho hx hy hs jz hH hcs hsrc hone hby hb0 hb
theorem aa.MQ{x y:Operand}{t t2 e:TypeId}{z:List PV}{ys:List V}{yv:V}(ho:o.op= .call {callee:= .builtin .append,args:= #[x,y],argTypes:= #[t,t2]})(hx:ev T x=some .z0)(hy:ev T y=some yv)(hs:oz P t=some (e,z))(jz:dY P t2=true)
    (hsrc:oV H z.length yv=some (ys,0)):aa P N o T H .z0 H:=
 aa.dz (by simp[ho]) fun w I ρ a hi hT=>by
  obtain⟨hu,⟨bb,lH⟩,uL,hz⟩:=eg hs
  obtain⟨bx,FU⟩:∃ bx,a.eval x= .slice bx 0 0:=hT.ev hx
  obtain⟨us,⟨ad,wY,Au⟩,hfc,_,cu,hlen⟩:=kN hi (hT.ev hy) hsrc
  have o4:∃ d2,P.underlying t2=some (.slice d2):=by
   exact pO
  obtain⟨d2,o4⟩:=o4
  have fT:us=[]:=ZA (by simpa using hlen)
  subst fT
  refine⟨.slice bx 0 0,w,I,ρ,.inl ?_,Ext.refl _ _ _,hi,⟨bx,rfl⟩⟩
  have h:=hfc w (fun _ _=>rfl)
  rw[Au] at h
  have hr:(Builtin.append_ #[t,t2] o.type #[.slice bx 0 0,.slice ad 0 wY]).run P w= .ok (.slice bx 0 0) w:=by
   cases bx with
   | none=>simp[Builtin.append_,run_underlying hu,aK lH,run_underlying o4,Builtin.lenOf,h,Result.andThen]
   | some bx=>simp[Builtin.append_,run_underlying hu,aK lH,run_underlying o4,Builtin.lenOf,h,Result.andThen,Go.storeCells,Sem.run]
  simp[execOp,ho,Go.resolve,Go.invoke,Go.builtin,FU,Au,hr,Result.andThen]
theorem aj.zq(d:Nat){x y:Operand}{t t' e:TypeId}{cs z:List PV}{n:Nat}(ho:o.op= .binOp .eql t x y t')(hx:ev T x=some (.p (.is cs n)))(hy:ev T y=some (.p .nilSlice))(hs:oz P t=some (e,z))(hd:o.dst=some d)(hN:aZ N (some d)=true)(hgd:o.guard=none)
    (next:∀ b:Bool,(b=true->n=0)->aj P R N κ ops rest Q ((d,.p (.bool b))::T) H):aj P R N κ ops (o::rest) Q T H:=by
 intro QX B w I ρ a hi ht hm hq
 have hu:=(eg hs).1
 have e2:a.eval y= .slice none 0 0:=ht.ev hy
 obtain⟨b,hb0,hb⟩:∃ b:Bool,(b=true->n=0)∧(execOp a.eval o).run P w= .ok (.value (.bool b)) w:=by
  have pE:(∃ ad cap,a.eval x= .slice ad 0 cap∧n=0)∨∃ q l cap,a.eval x= .slice (some q) l cap:=by
   rcases ht.ev hx with⟨⟨ad,cap,h1⟩,h2⟩ | ⟨b,o',cap,_,_,h1,_⟩
   ·exact .inl ⟨ad,cap,h1,h2⟩
   ·exact .inr ⟨_,_,_,h1⟩
  have run:∀(u:Value) (c:Bool),a.eval x=u->(Op.equal t u (.slice none 0 0)).run P w= .ok c w->(execOp a.eval o).run P w= .ok (.value (.bool c)) w:=fun u c h1 h2=>by
   have hb:(binOp .eql t u (.slice none 0 0)).run P w= .ok (.bool c) w:=by
    simp only[binOp]
    simp[h2]
   simp[execOp,ho,h1,e2,eqGuard,hb]
  rcases pE with⟨ad,cap,h1,h2⟩ | ⟨q,l,cap,h1⟩
  ·cases ad with
   | none=>
    refine⟨true,fun _=>h2,run _ _ h1 ?_⟩
    show(Op.equalIn (9999+1) t _ (.slice none 0 0)).run P w= .ok true w
    generalize 9999=dd
    simp[Op.equalIn,run_underlying hu]
   | some q=>
    exact BG
  ·exact BG
 refine wpListIn_plain hgd fun K hK=>⟨bB,?_⟩
 rw[bD _ _ _ (by simp[ho]),hb]
 refine hK _ _ ?_
 exact next b hb0 QX B w I ρ (a.put o.dst (.bool b)) hi (by rw[hd];exact bn.put hN ht (by simp[az,Rel])) hm.put hq
end
section
variable {P:Program} {R:Option Nat} {N κ:Nat} {Q:Post} {T:Tm} {H H':List ai} {o:Oper} {ops:Array Oper} {rest:List Oper}
theorem aj.ct(d:Nat){b:Bool}{x9 r:PV}{g:FuncId}{args:List PV}(hp:b=true->Pure P g args r)(hn:b=false->s9 P g args x9){f:Operand}{xs:Array Operand}{ts:Array TypeId}{fv:V}{vs:List V}
    (ho:o.op= .call {callee:= .value f,args:=xs,argTypes:=ts})(hd:o.dst=some d)(hN:aZ N (some d)=true)(hgd:o.guard=none)(hf:ev T f=some fv)
    (hxs:kR T xs.toList=some vs)(hc:callee vs fv=some (g,args.map .p))(hg:ak P g=true)(zV:b=false->Q (.panic (.p x9)) T H)(next:b=true->aj P R N κ ops rest Q ((d,.p r)::T) H):aj P R N κ ops (o::rest) Q T H:=by
 cases b with
 | true=>
  have:=aj.cons (rest:=rest) (Q:=Q) hgd (by rw[hd];exact hN) (aa.e8 (N:=N) (T:=T) (H:=H) (hp rfl) ho hf hxs hc hg) (by rw[hd];exact next rfl)
  exact this
 | false=>exact aj.vo d (hn rfl) ho hd hN hgd hf hxs hc hg (zV rfl)
theorem vw{h:List ai}(hb:∀ blk∈h,aD (below h.length) blk=blk):TE P h:=fun blk hm w I ρ b hr=>by
 have h1:=jC (σ:=below h.length) (ρ2:=ρ.take h.length) (fun i j b g1 g2=>by
  unfold below at g1
  split at g1
  ·rename_i g3
   cases g1
   exact w7 (by simpa[Nat.blt,Zw] using g3) g2
  ·cases g1) hr
 rwa [hb blk hm] at h1
theorem To.cut{ext:List ai}{T2:Tm}(hw:TE P H)(hκ:κ<=H.length)(hT:Sub T2 T)(hl:eV (below H.length) T2=T2):To P κ N T (H++ext) T2 H:=by
 intro w I ρ tmps hi ht
 have hρ:ρ.length=H.length+ext.length:=by rw[hi.len,Zd]
 have t1:∀(i b:Nat),(ρ.take H.length)[i]? =some b->i<H.length∧ρ[i]? =some b:=fun i b e=>by
  exact A6
 have t2:∀(i:Nat) (blk:ai),H[i]? =some blk->(H++ext)[i]? =some blk:=fun i blk e=>by
  rw[Zc (Za.1 e).1]
  exact e
 refine⟨I,ρ.take H.length,?_,?_,?_,fun B hB hκ2=> ?_⟩
 ·exact D6
 ·exact EC
 ·have h4:=(ht.sub hT).Y0 (σ:=below H.length) (ρ2:=ρ.take H.length) (fun i j b g1 g2=>by
    unfold below at g1
    split at g1
    ·rename_i g3
     cases g1
     exact w7 (by simpa[Nat.blt,Zw] using g3) g2
    ·cases g1)
  rwa [hl] at h4
 ·exact BN
end
def zQ(P:Program)(κ:Nat)(f:FuncId)(args:List V)(H:List ai)(x9:PV)(Hq:List ai->Prop):Prop:=
 ∀(B:List Nat) w I ρ us,Inv P w I ρ H->ag P w I ρ args us->B<+:ρ->B.length<=κ->
  CallsIn Fence.wide 0 P f us.toArray w fun e w'=>∃ u I' ρ' H',e= .panicked [{v:=u,recovered:=false}]∧Hq H'∧cy w I ρ w' I' ρ'∧Inv P w' I' ρ' H'∧Rel w' I' x9 u∧B<+:ρ'
def aan(x9:PV)(Hq:List ai->Prop):Post
 | .panic v,_,H=>v= .p x9∧Hq H
 | _,_,_=>False
def R7(P:Program)(f:FuncId)(mk:V->List V)(xs:List (List V))(x9:PV):Prop:=
 ∀(l κ n:Nat) (inv:Nat->List ai->Prop),κ<=n->(∀ k h,inv k h->h.length=n)->
  (∀ k h x,inv k h->xs[k]? =some x->rZ P l κ h x fun b h'=>b=true∧inv (k+1) h')->
  ∀ h0,inv 0 h0->zQ P κ f (mk (j6 l)) h0 x9 fun h'=>∃ k,inv k h'
section
variable {P:Program} {R:Option Nat} {N κ:Nat} {Q:Post} {T:Tm} {H:List ai}
theorem zQ.gN{f:FuncId}{fn:Func}{c:Code}{args:List V}{x9:PV}{Hq:List ai->Prop}(hf:P.funcs[f]? =some fn)(hb:fn.body=some c)(hN:fn.ntmps=N)(hn:args.length<=N)
    (h:aI P none N κ c (aan x9 Hq) (cW 0 args) H):zQ P κ f args H x9 Hq:=by
 subst hN
 intro B w I ρ us hi fT hBp U8
 have hl:=ag.length fT
 refine callsIn_of_wp_marks hf hb trivial ?_ rfl
 have ht:bn P w I ρ fn.ntmps (cW 0 args) (us.toArray++Array.replicate (fn.ntmps - us.toArray.size) undef):=by
  exact nc
 refine wpIn_mono (h ⟨w.heap.size,B,[]⟩ w I ρ {tmps:=us.toArray++Array.replicate (fn.ntmps - us.toArray.size) undef,defers:=[]} hi ht ⟨Ze _,U8,hBp,[],rfl,OQ,fun _ h=>by cases h⟩) ?_
 rintro e a' w' ⟨z,I',ρ',T',H',h1,h2,h3,h4,h5,hB,_,hpre,rs,h6,h7,h8⟩
 cases z with
 | panic v=>
  cases e <;> first | exact h1.elim | skip
  obtain⟨rfl,hy⟩:=h2
  obtain⟨u,rfl,hu⟩:=h1
  show LeavesInM _ _ _ _ _ _ _ _ _
  rw[h6]
  show LeavesInM _ _ _ _ _ _ (_++[]) _ _
  rw[ZU]
  refine oS rs w' h7 (fun r hr=>(h8 r hr).1) ?_
  intro w2 k1 k2 k3 k4 k5
  have kI:∀ b,I' b->w2.heap[b]? =w'.heap[b]? :=fun b hb=>k1 b (fun hm=>(h8 b hm).2.1 hb)
  have kρ:∀ b:Nat,w'.heap[b]? ≠some (Obj.deferred (some []))->w2.heap[b]? =w'.heap[b]? :=fun b hb=>k1 b (fun hm=>hb (h8 b hm).1)
  have ks:∀ b s,w'.shape? b=some s->w2.shape? b=some s:=fun b s hs=>by
   exact qJ
  have hi2:Inv P w2 I' ρ' H':=h4.marks k5 kI kρ ks
  have hlow:∀ b,b<w.heap.size->w2.heap[b]? =w'.heap[b]? :=fun b hb=>k1 b (fun hm=>by have:=(h8 b hm).2.2;simp only at this;omega)
  refine⟨u,I',ρ',H',rfl,hy,?_,hi2,Rel.mono (fun _ h=>h) kI _ _ hu,hpre⟩
  exact BS
 | _=>exact h2.elim
theorem aI.Fs{g:Operand}{ps:Array Tmp}{fj body:Code}{fv:V}{f:FuncId}{mk:V->List V}{xs:List (List V)}{x9:PV}(κ2:Nat)(hg:ev T g=some fv)(hc:∀ y,callee [y] fv=some (f,mk y))(hf:ak P f=true)(E6:R7 P f mk xs x9)
    (hκ:κ<=κ2)(YO:κ2<=H.length)(hps:∀ x∈xs,x.length=ps.size)(hlt:ps.toList.all (fun p=>Nat.blt p N)=true)
    (J:Nat->List ai->Prop)(hJ:∀ k h,J k h->h.length=H.length)(h0:J 0 H)
    (round:∀ l tmps k h x,J k h->xs[k]? =some x->Round P N κ2 ⟨l,tmps,T,ps,fj,body⟩ k H.length J (fun _ _=>False) (mF T ps.toList x) (h++[.loop ⟨l,tmps,T,ps,fj,body⟩ .ready none]))
    (pan:∀ h,Q (.panic (.p x9)) T h):aI P none N κ (.rangeFunc g ps fj body) Q T H:=by
 intro B w I ρ a hi ht hm
 refine wpIn_rangeFunc ?_
 intro fn _
 have entry:∃(l:Nat) (mark:List Deferred) (w1:World),(Instr.enterLoop fn a.tmps ps fj body none).run P w= .ok (l,mark) w1∧Ext w I ρ w1 I (ρ++[l])∧
     Inv P w1 I (ρ++[l]) (H++[.loop ⟨l,a.tmps,T,ps,fj,body⟩ .ready none])∧Marks κ B w1 I (ρ++[l]) (mark++a.defers):=by
  have hi1:=Inv.dI hi (.deferred (some []))
  have W7:=Ext.dI hi (.deferred (some []))
  let ob:Obj:= .loop {state:= .ready,pending:=none,fn,tmps:=a.tmps,params:=ps,assign:=fj,body,defers:=w.heap.size}
  have Mv:Ext (w.alloc (.deferred (some []))) I ρ _ I _:=Ext.aO hi1 ob
  have hE:=W7.trans Mv
  have hsz:(w.alloc (.deferred (some []))).heap.size=w.heap.size+1:=by simp
  rw[hsz] at hE
  refine⟨w.heap.size+1,_,_,run_enterLoop_outer fn a.tmps ps fj body,hE,?_,?_⟩
  ·have hx:cN P ((w.alloc (.deferred (some []))).alloc ob) I (ρ++[w.heap.size+1]) (.loop ⟨w.heap.size+1,a.tmps,T,ps,fj,body⟩ .ready none) (w.heap.size+1):=by
     exact wQ
   have:=Inv.aO hi1 ob (blk:= .loop ⟨w.heap.size+1,a.tmps,T,ps,fj,body⟩ .ready none) (by rw[hsz];exact hx)
   rwa [hsz] at this
  ·exact uN
 obtain⟨l,mark,w1,Vn,hE,hi1,E4⟩:=entry
 obtain⟨d,us,fT,hres,hinv⟩:=kg (ht.ext hE) hg (hc (j6 l)) hf
 refine⟨l,mark,w1,d,w1,f,us.toArray,w1,Vn,hres,(fun _ _=>trivial),hinv,(fun h=>by cases h),?_⟩
 have Bg:∀ k h,(∃ h0,J k h0∧h=h0++[ai.loop ⟨l,a.tmps,T,ps,fj,body⟩ .ready none])->h.length=H.length+1:=by
  rintro k h ⟨h0,h1,rfl⟩
  simp[hJ k h0 h1]
 have Bt:=E6 l κ2 (H.length+1) (fun k h=>∃ h0,J k h0∧h=h0++[ai.loop ⟨l,a.tmps,T,ps,fj,body⟩ .ready none])
  (by omega) Bg (by
   rintro k h x ⟨h0,h1,rfl⟩ hx
   have:=Round.ok (r:=⟨l,a.tmps,T,ps,fj,body⟩) (Jx:=fun _ _=>False) (hJ k h0 h1) (hJ (k+1)) (fun _ _ h=>h.elim) (hps x (Zh hx)) (fun p hp=>by
    have:=(Zz.1 hlt) p hp
    simpa[Nat.blt,Zw] using this) ht.size (round l a.tmps k h0 x h1 hx)
   intro B2 w2 I2 ρ2 us2 q1 q2 q3 q4
   obtain⟨fn2,RM,Z6,WA,q5,q6⟩:=this B2 w2 I2 ρ2 us2 q1 q2 q3 q4
   refine⟨fn2,RM,Z6,WA,q5,RoundIn.mono q6 ?_⟩
   rintro e w' ⟨b,I',ρ',h',rfl,q7,q8⟩
   cases b with
   | true=>exact⟨true,I',ρ',h',rfl,⟨rfl,by rwa [if_pos rfl] at q7⟩,q8⟩
   | false=>
    rw[if_neg (by decide)] at q7
    obtain⟨_,_,q9,_⟩:=q7
    exact q9.elim) _ ⟨H,h0,rfl⟩ B.pre w1 I (ρ++[l]) us hi1 fT (E4.2.2.1) (ZT E4.2.1 hκ)
 refine CallsIn.mono (cE none Bt) ?_
 rintro e w3 ⟨u,I3,ρ3,H3,rfl,⟨k,h',hj,rfl⟩,h1,h2,h3,h4⟩
 have eK:(h'++[ai.loop ⟨l,a.tmps,T,ps,fj,body⟩ .ready none])[H.length]? =some (.loop ⟨l,a.tmps,T,ps,fj,body⟩ .ready none):=by rw[<- hJ k h' hj];simp
 obtain⟨_,_,XZ⟩:=jK h2 eK
 exact⟨.panic (.p x9),I3,ρ3,T,_,⟨u,rfl,h3⟩,pan _,hE.w.trans h1,h2,⟨ht.size,fun s v hv=>XZ s v hv⟩,E4.IA h1 h4⟩
end
section
variable {P:Program} {R:Option Nat} {N κ:Nat} {Q:Post} {T:Tm} {H H':List ai} {o:Oper} {ops:Array Oper} {rest:List Oper}
theorem bz{σ:Nat->Option Nat}{xs:List PV}{e n:Nat}:aD σ (dL (xs.map .p) e n)=dL (xs.map .p) e n:=by
 cases n with
 | zero=>rfl
 | succ n=>show ai.row (bq σ _) e=_;rw[aX];rfl
theorem bL{σ:Nat->Option Nat}{cs:List V}{e:TypeId}:aD σ (.cells cs e)= .cells (bq σ cs) e:=rfl
theorem bF{σ:Nat->Option Nat}{v:V}{vs:List V}:bq σ (v::vs)=aW σ v::bq σ vs:=rfl
theorem b8{σ:Nat->Option Nat}:bq σ []=[]:=rfl
theorem dS{σ:Nat->Option Nat}{x:PV}:aW σ (.p x)= .p x:=rfl
theorem gT{σ:Nat->Option Nat}{a:Option Addr}{n c:Nat}:aW σ (.raw a n c)= .raw a n c:=rfl
theorem fc{σ:Nat->Option Nat}:aD σ .dead= .dead:=rfl
theorem cM{n0 i n:Nat}{ms:List Nat}(h:i<n0):aW (sg n0 ms) (aY i n)=aY i n:=cC (by
 unfold sg
 rw[show Nat.blt i n0=true by simpa[Nat.blt,Zw] using h]
 rfl)
theorem La{m i n:Nat}(h:i<m):aW (below m) (aY i n)=aY i n:=cC (by
 unfold below
 rw[if_pos (by simpa[Nat.blt,Zw] using h)])
theorem aa.W2{v:V}(h:aa P N o T H v H):aa P N o T H v (H++[.dead]):=fun R w I ρ a hi ht K QX hK=>h R w I ρ a hi ht K QX fun u w' I' ρ' hE hi' hv=>by
 have hp:Ext w' I' ρ' w' I' (ρ'++[w'.heap.size]):=G1
 exact hK u w' I' _ (hE.trans hp) (O9 hi') (hv.ext hp)
theorem aa.qN{x y:Operand}{t t2 e:TypeId}{z:List PV}{n gI:Nat}{ys:List V}{yv:V}(ho:o.op= .call {callee:= .builtin .append,args:= #[x,y],argTypes:= #[t,t2]})(hx:ev T x=some .z0)(hy:ev T y=some yv)(hs:oz P t=some (e,z))(jz:dY P t2=true)
    (hsrc:oV H z.length yv=some (ys,n))(hone:ys.all jB=true)(hby:wG P e=some gI)(hb0:0<gI)(hb:(2*n+192)*gI<=281474976710656):
    aa P N o T H (aY H.length n) (H++[dL ys e n]):=by
 cases n with
 | zero=>exact aa.W2 (aa.MQ ho hx hy hs jz hsrc)
 | succ n=>exact aa.Ai ho hx hy hs jz hsrc (TJ _) hone hby hb0 hb
theorem aa.Wi{x y:Operand}{t e:TypeId}{z:List PV}{n gI:Nat}(ho:o.op= .makeSlice t x y)(hx:ev T x=some (.p (.int .i64 (n:Int))))(hy:ev T y=some (.p (.int .i64 (n:Int))))(hs:oz P t=some (e,z))(hby:wG P e=some gI)(hb0:0<gI)
    (hb:gI*n<=281474976710656):aa P N o T H (aY H.length n) (H++[dL ((List.replicate n z).flatten.map .p) e n]):=by
 cases n with
 | zero=>exact aa.W2 (aa.S4 ho hx hy hs hby)
 | succ n=>exact aa.makeSlice ho hx hy hs hby hb0 (Ze _) hb
theorem aa.vH{x y:Operand}{t:TypeId}{b:Bool}{i off j n:Nat}{H':List ai}(ho:o.op= .store t x y)(hx:ev T x=some (.ptr i off))(hy:ev T y=some (aY j n))(ht:fm P t=some (b,1))(hs:gu H i off [aY j n]=some H'):aa P N o T H .top H':=by
 refine aa.store ho hx hy QM (by cases n <;> rfl) ht (by rw[uZ];rfl) (by rw[uZ];exact hs)
theorem aa.Xl{x y:Operand}{t t2 e:TypeId}{z:List PV}{i n:Nat}{zs xs:List PV}(ho:o.op= .call {callee:= .builtin .copy,args:= #[x,y],argTypes:= #[t,t2]})(hx:ev T x=some (aY i n))(hy:ev T y=some (.p (.is xs n)))(hs:oz P t=some (e,z))
    (hH:H[i]? =some (dL (zs.map .p) e n))(hlen:xs.length=n*z.length)(hz:zs.length=xs.length)(hone:(xs.map V.p).all jB=true)(hsrc:oV H z.length (.p (.is xs n))=some (xs.map .p,n)):aa P N o T H (.p (.int .i64 (n:Int))) (H.set i (dL (xs.map .p) e n)):=by
 cases n with
 | zero=>
  have e0:H.set i (dL (xs.map .p) e 0)=H:=qY hH
  rw[e0]
  exact aa.dz (by simp[ho]) fun w I ρ a hi hT=>by
   obtain⟨hu,⟨bb,lH⟩,uL,hzz⟩:=eg hs
   obtain⟨bx,FU⟩:∃ bx,a.eval x= .slice bx 0 0:=hT.ev hx
   obtain⟨us,⟨ad,wY,Au⟩,_,hfc,cu,jH⟩:=kN hi (hT.ev hy) hsrc
   have hf:=hfc 0 (Ze _)
   refine⟨.int .i64 0,w,I,ρ,.inl ?_,Ext.refl _ _ _,hi,rfl⟩
   rw[Au] at hf
   have hlo:(Builtin.lenOf (.slice ad 0 wY)).run P w= .ok 0 w:=by simp[Builtin.lenOf]
   rw[Nat.zero_mul,Ml] at hf
   cases bx with
   | none=>simp[execOp,ho,Go.resolve,Go.invoke,Go.builtin,Builtin.copy_,run_underlying hu,FU,aK lH,Au,hlo,hf,goInt]
   | some bx=>simp[execOp,ho,Go.resolve,Go.invoke,Go.builtin,Builtin.copy_,run_underlying hu,FU,aK lH,Au,hlo,hf,goInt,Go.storeCells,Sem.run]
 | succ n=>
  have:=aa.QH (N:=N) (len:=n+1) ho hx hy hs hH hsrc (Ze _) (by rw[Zo,Zo,hz];exact Ze _) hone
  have e1:=ya (xs.map V.p) (zs.map V.p) [] (by simp[hz])
  simp only[IS,IN] at e1
  rw[e1] at this
  exact this
theorem gM{α:Type}{f:α->List PV}(h:∀ x,kK ((f x).map .p)=true):∀ l:List α,kK ((l.flatMap f).map .p)=true:=by
 have app:∀ a b:List V,kK a=true->kK b=true->kK (a++b)=true:=fun a b=>by
  induction a with
  | nil=>intro _ h;exact h
  | cons x a ih=>
   intro h1 h2
   unfold kK at h1
   rw[Zk] at h1
   show(Ut x&&kK (a++b))=true
   rw[h1.1,ih h1.2 h2];rfl
 intro l
 induction l with
 | nil=>rfl
 | cons x l ih=>rw[ZL,ZG];exact app _ _ (h x) ih
theorem aa.G8(m k:Nat){g:FuncId}{args:List PV}{xs:List PV}{e n:Nat}(hp:ax P g (args.map .p) [] fun v H'=>v=aY 0 n∧H'=[dL (xs.map .p) e n])(hk:H.length=k)(hsc:kK (xs.map .p)=true){f:Operand}{ys:Array Operand}{ts:Array TypeId}{fv:V}{vs all:List V}(ho:o.op= .call {callee:= .value f,args:=ys,argTypes:=ts})(hf:ev T f=some fv)
    (hxs:kR T ys.toList=some vs)(hc:callee vs fv=some (g,all))(hb:fN (dy H m) all=some args)(hg:ak P g=true):aa P N o T H (aY k n) (H++[dL (xs.map .p) e n]):=by
 have:=aa.zM (N:=N) (T:=T) (H:=H) m hp HC (by
  cases n with
  | zero=>rfl
  | succ n=>show(kK (xs.map .p)&&true)=true;rw[hsc];rfl) ho hf hxs hc hb hg
 rw[cC (σ:=EY H.length) (i:=0) (j:=k) (by unfold EY;rw[hk,Kk])] at this
 rwa [show([dL (xs.map V.p) e n]:List ai).map (aD (EY H.length))=[dL (xs.map .p) e n] by rw[Zx,bz];rfl] at this
end
section
variable {P:Program} {R:Option Nat} {N κ:Nat} {Q:Post} {T:Tm} {H H2:List ai} {o:Oper} {l:List Oper}
theorem aI.jO{id:Nat}(m:Nat)(H2:List ai)(EX:P.follows .mixedOrders=true)(hk:jh m l=true)(hm:m<=l.length)(h:ay P N l.toArray H H2 (fun T'=>aj P R N κ l.toArray (l.drop m) Q T' H2) false (l.take m) T):aI P R N κ (.region id l.toArray true) Q T H:=by
 exact Bi
end
def RV:V->Bool
 | .row _ _=>true
 | .z0=>true
 | .raw _ _ _=>true
 | _=>false
def cR(R:V->V->Prop):List V->List V->Prop
 | [],l=>l=[]
 | c::cs,l=>∃ d ds,l=d::ds∧R c d∧cR R cs ds
theorem cR.mono{R S:V->V->Prop}(h:∀ v v',R v v'->S v v'):∀(cs l:List V),cR R cs l->cR S cs l
 | [],_,hl=>hl
 | _::cs,_,⟨d,ds,e,h1,h2⟩=>⟨d,ds,e,h _ _ h1,cR.mono h cs ds h2⟩
theorem cR.len{R:V->V->Prop}:∀(cs l:List V),cR R cs l->l.length=cs.length
 | [],_,hl=>by rw[show _=_ from hl]
 | _::cs,_,⟨d,ds,e,_,h2⟩=>by rw[e,Zn,Zn,cR.len cs ds h2]
theorem cR.app{R:V->V->Prop}:∀(cs l HU l2:List V),cR R cs l->cR R HU l2->cR R (cs++HU) (l++l2)
 | [],_,_,_,hl,h2=>by rw[show _=_ from hl];exact h2
 | _::cs,_,HU,l2,⟨d,ds,e,h1,h2⟩,h3=>⟨d,ds++l2,by rw[e];rfl,h1,cR.app cs ds HU l2 h2 h3⟩
theorem cR.refl{R:V->V->Prop}(h:∀ v,R v v):∀ cs:List V,cR R cs cs
 | []=>rfl
 | c::cs=>⟨c,cs,rfl,h c,cR.refl h cs⟩
theorem cR.split{R:V->V->Prop}:∀(cs HU l:List V),cR R (cs++HU) l->∃ l1 l2,l=l1++l2∧cR R cs l1∧cR R HU l2
 | [],_,l,h=>⟨[],l,rfl,rfl,h⟩
 | c::cs,HU,_,⟨d,ds,e,h1,h2⟩=>by
  obtain⟨l1,l2,e2,h3,h4⟩:=cR.split cs HU ds h2
  exact⟨d::l1,l2,by rw[e,e2];rfl,⟨d,l1,rfl,h1,h3⟩,h4⟩
section
variable {P:Program} {w w':World} {I J:Nat->Prop} {ρ σ:List Nat} {H:List ai}
def y5(P:Program)(w:World)(I:Nat->Prop)(ρ:List Nat)(p:V×V):Prop:=∃ a n c,p.1= .raw a n c∧az P w I ρ p.2 (.slice a n c)
def gB(ps:List (V×V))(v v':V):Prop:=v=v'∨(v,v')∈ps
def nh(ps:List (V×V))(v v':V):Prop:=(RV v=false∧v'=v)∨(RV v=true∧(∃ a n c,v'= .raw a n c)∧(v',v)∈ps)
def nj(ps:List (V×V))(x x':ai):Prop:=x=x'∨∃ cs cs' e,cR (gB ps) cs cs'∧((x= .cells cs e∧x'= .cells cs' e)∨∃ t,x= .row (cs++t) e∧x'= .row cs' e)
def ef(ps:List (V×V))(H H':List ai):Prop:=H.length=H'.length∧∀(i:Nat) (x x':ai),H[i]? =some x->H'[i]? =some x'->nj ps x x'
theorem gB.refl{ps:List (V×V)}(v:V):gB ps v v:= .inl rfl
theorem uR{ps:List (V×V)}:∀(cs cs':List V),cR (nh ps) cs cs'->cR (gB ps) cs' cs
 | [],_,h=>by rw[show _=_ from h];exact rfl
 | c::cs,_,⟨d,ds,e,h1,h2⟩=>by
  subst e
  refine⟨c,cs,rfl,?_,uR cs ds h2⟩
  rcases h1 with⟨_,h⟩ | ⟨_,_,h⟩
  ·exact .inl h
  ·exact .inr h
theorem ef.set{ps:List (V×V)}{H:List ai}{k:Nat}{x x':ai}(h:H[k]? =some x)(hx:nj ps x x'):ef ps H (H.set k x'):=by
 refine⟨by rw[yd],fun i y y' h1 h2=> ?_⟩
 rw[Zu] at h2
 split at h2
 ·rename_i e
  subst e
  split at h2
  ·cases h2
   rw[h] at h1;cases h1;exact hx
  ·cases h2
 ·rw[h1] at h2;cases h2;exact .inl rfl
theorem KY{ps:List (V×V)}(hp:∀ p∈ps,y5 P w I ρ p){v v':V}{u:Value}(h:gB ps v v')(hr:az P w I ρ v u):az P w I ρ v' u:=by
 rcases h with rfl | h
 ·exact hr
 ·obtain⟨a,n,c,h1,h2⟩:=hp _ h
  dsimp only at h1 h2
  rw[h1] at hr
  rw[show u=_ from hr]
  exact h2
theorem rQ{ps:List (V×V)}(hp:∀ p∈ps,y5 P w I ρ p):∀(vs vs':List V) (us:List Value),cR (gB ps) vs vs'->ag P w I ρ vs us->ag P w I ρ vs' us
 | [],_,us,h,hr=>by rw[show _=_ from h];exact hr
 | v::vs,_,us,⟨d,ds,e,h1,h2⟩,⟨u,us',e2,h3,h4⟩=>by
  rw[e]
  exact⟨u,us',e2,KY hp h1 h3,rQ hp vs ds us' h2 h4⟩
theorem yq:∀(cs t:List V) (us:List Value),ag P w I ρ (cs++t) us->ag P w I ρ cs (us.take cs.length)
 | [],t,us,h=>by rw[IN,Ml];rfl
 | c::cs,t,_,⟨u,us',rfl,h1,h2⟩=>⟨u,us'.take cs.length,rfl,h1,yq cs t us' h2⟩
theorem J4{ps:List (V×V)}(hp:∀ p∈ps,y5 P w I ρ p){x x':ai}{b:Nat}(h:nj ps x x')(hr:cN P w I ρ x b):cN P w I ρ x' b:=by
 rcases h with rfl | ⟨cs,cs',e,h1,⟨rfl,rfl⟩ | ⟨t,rfl,rfl⟩⟩
 ·exact hr
 ·obtain⟨arr,h2,h3⟩:=hr
  exact⟨arr,h2,rQ hp _ _ _ h1 h3⟩
 ·obtain⟨arr,h2,h3,h4⟩:=hr
  have hl:=cR.len _ _ h1
  rw[Zd] at h3
  have h5:=yq cs t _ h4
  rw[List.take_take,Zd,Kv (by omega)] at h5
  exact⟨arr,h2,by rw[hl];omega,by rw[hl];exact rQ hp _ _ _ h1 h5⟩
theorem lF{ps:List (V×V)}{x x':ai}(h:nj ps x x'):x'.live=x.live:=by
 rcases h with rfl | ⟨cs,cs',e,h1,⟨rfl,rfl⟩ | ⟨t,rfl,rfl⟩⟩ <;> rfl
theorem C4{ps:List (V×V)}(hp:∀ p∈ps,y5 P w I ρ p){H':List ai}(h:ef ps H H')(hi:Inv P w I ρ H):Inv P w I ρ H':=by
 have hg:∀(i:Nat) (x':ai),H'[i]? =some x'->∃ x,H[i]? =some x∧nj ps x x':=fun i x' hx=>by
  have hl:i<H.length:=by rw[h.1];exact(Za.1 hx).1
  exact⟨_,Zb hl,h.2 i _ x' (Zb hl) hx⟩
 refine⟨by rw[hi.len,h.1],fun i b x h1 h2 h3=> ?_,hi.ib,fun i b x h1 h2 h3=> ?_,fun i j b x y h1 h2 h3 h4 h5 h6=> ?_,fun i b x h1 h2=> ?_,hi.gl⟩
 ·obtain⟨y,h4,h5⟩:=hg i x h2
  exact hi.gf i b y h1 h4 (by rw[<- lF h5];exact h3)
 ·obtain⟨y,h4,h5⟩:=hg i x h2
  exact hi.live i b y h1 h4 (by rw[<- lF h5];exact h3)
 ·obtain⟨x2,h7,h8⟩:=hg i x h3
  obtain⟨y2,h9,h10⟩:=hg j y h4
  exact hi.fK i j b x2 y2 h1 h2 h7 h9 (by rw[<- lF h8];exact h5) (by rw[<- lF h10];exact h6)
 ·obtain⟨y,h4,h5⟩:=hg i x h2
  exact J4 hp h5 (hi.rel i b y h1 h4)
theorem y5.ext(h:Ext w I ρ w' J σ){p:V×V}(hp:y5 P w I ρ p):y5 P w' J σ p:=by
 obtain⟨a,n,c,h1,h2⟩:=hp
 exact⟨a,n,c,h1,az.ext h h2⟩
theorem yN{v:V}{u:Value}(h:az P w I ρ v u)(hs:RV v=true):∃ a n c,u= .slice a n c:=by
 cases v with
 | row i len=>obtain⟨b,e,cap,_,hu,_⟩:=h;exact⟨_,_,_,hu⟩
 | z0=>obtain⟨a,hu⟩:=h;exact⟨_,_,_,hu⟩
 | raw a n c=>exact⟨a,n,c,h⟩
 | _=>cases hs
theorem NZ:∀(cs:List V) (us:List Value),ag P w I ρ cs us->∃ cs' ps,cR (nh ps) cs cs'∧ag P w I ρ cs' us∧∀ p∈ps,y5 P w I ρ p
 | [],us,h=>⟨[],[],rfl,h,fun p hp=>by cases hp⟩
 | v::cs,_,⟨u,us',rfl,h1,h2⟩=>by
  obtain⟨cs',ps,h3,h4,h5⟩:=NZ cs us' h2
  cases hs:RV v with
  | false=>exact⟨v::cs',ps,⟨v,cs',rfl,.inl ⟨hs,rfl⟩,h3⟩,⟨u,us',rfl,h1,h4⟩,h5⟩
  | true=>
   obtain⟨a,n,c,rfl⟩:=yN h1 hs
   refine⟨.raw a n c::cs',(.raw a n c,v)::ps,⟨_,_,rfl,.inr ⟨hs,⟨a,n,c,rfl⟩,Zq⟩,cR.mono (fun x x' hx=> ?_) _ _ h3⟩,⟨_,us',rfl,rfl,h4⟩,fun p hp=> ?_⟩
   ·rcases hx with hx | ⟨k1,k2,k3⟩
    ·exact .inl hx
    ·exact .inr ⟨k1,k2,Zg _ k3⟩
   ·rcases Zr.1 hp with rfl | hp
    ·exact⟨a,n,c,rfl,h1⟩
    ·exact h5 p hp
theorem Ig{um:V}{post:List V}(hs:RV um=true):∀(pre:List V) (us:List Value),ag P w I ρ (pre++um::post) us->∃ a n c,ag P w I ρ (pre++ .raw a n c::post) us∧az P w I ρ um (.slice a n c)
 | [],_,⟨u,us',rfl,h1,h2⟩=>by
  obtain⟨a,n,c,rfl⟩:=yN h1 hs
  exact⟨a,n,c,⟨_,us',rfl,rfl,h2⟩,h1⟩
 | p::pre,_,⟨u,us',rfl,h1,h2⟩=>by
  obtain⟨a,n,c,h3,h4⟩:=Ig hs pre us' h2
  exact⟨a,n,c,⟨u,us',rfl,h1,h3⟩,h4⟩
theorem C0{k:Nat}{old new:ai}(hk:H[k]? =some old)(hl:old.live=true)(hr:∀ b,ρ[k]? =some b->cN P w I ρ old b->cN P w I ρ new b)(hi:Inv P w I ρ H):Inv P w I ρ (H.set k new):=by
 have tL:k<ρ.length:=by rw[hi.len];exact(Za.1 hk).1
 have hb:=Zb tL
 exact hi.write hb hk hl ⟨cy.refl _ _ _,ZI _⟩ rfl (fun _ _=>rfl) (hr _ hb (hi.rel k _ old hb hk))
theorem au.T8{f:FuncId}{args:List V}{Qr:V->List ai->Prop}{Qp:PV->List ai->Prop}
    (h:∀ w I ρ,Inv P w I ρ H->∃(H0:List ai) (ps:List (V×V)),Inv P w I ρ H0∧(∀ p∈ps,y5 P w I ρ p)∧au P f args H0 (fun v H2=>∃ H3,ef ps H2 H3∧Qr v H3) (fun y H2=>∃ H3,ef ps H2 H3∧Qp y H3)):au P f args H Qr Qp:=by
 intro w I ρ us hi fT
 obtain⟨H0,ps,h1,h2,h3⟩:=h w I ρ hi
 refine(h3 w I ρ us h1 fT).mono ?_
 rintro e w' (⟨u,v,J,σ,H2,e1,⟨H3,ht,hq⟩,h4,h5,h6⟩ | ⟨u,y,J,σ,H2,e1,⟨H3,ht,hq⟩,h4,h5,h6⟩)
 ·exact .inl ⟨u,v,J,σ,H3,e1,hq,h4,C4 (fun p hp=>(h2 p hp).ext h4) ht h5,h6⟩
 ·exact .inr ⟨u,y,J,σ,H3,e1,hq,h4,C4 (fun p hp=>(h2 p hp).ext h4) ht h5,h6⟩
theorem au.QT{f:FuncId}{args:List V}{Qr:V->List ai->Prop}{Qp:PV->List ai->Prop}(k:Nat){cs:List V}{e:TypeId}(hk:H[k]? =some (.row cs e))
    (h:∀ cs' ps,cR (nh ps) cs cs'->au P f args (H.set k (.row cs' e)) (fun v H2=>∃ H3,ef ps H2 H3∧Qr v H3) (fun y H2=>∃ H3,ef ps H2 H3∧Qp y H3)):au P f args H Qr Qp:=by
 refine au.T8 fun w I ρ hi=> ?_
 have tL:k<ρ.length:=by rw[hi.len];exact(Za.1 hk).1
 have hb:=Zb tL
 obtain⟨arr,h1,h2,h3⟩:=hi.rel k _ _ hb hk
 obtain⟨cs',ps,h4,h5,h6⟩:=NZ cs _ h3
 have hl:=cR.len _ _ h4
 exact⟨_,ps,C0 hk rfl (fun b gZ _=>by rw[hb] at gZ;cases gZ;exact⟨arr,h1,by rw[hl];exact h2,by rw[hl];exact h5⟩) hi,h6,h cs' ps h4⟩
theorem au.Lq{f:FuncId}{args:List V}{Qr:V->List ai->Prop}{Qp:PV->List ai->Prop}(k:Nat){pre post:List V}{um:V}{e:TypeId}(hk:H[k]? =some (.cells (pre++um::post) e))(hs:RV um=true)
    (h:∀ a n c,au P f args (H.set k (.cells (pre++ .raw a n c::post) e)) (fun v H2=>∃ H3,ef [(.raw a n c,um)] H2 H3∧Qr v H3) (fun y H2=>∃ H3,ef [(.raw a n c,um)] H2 H3∧Qp y H3)):au P f args H Qr Qp:=by
 refine au.T8 fun w I ρ hi=> ?_
 have tL:k<ρ.length:=by rw[hi.len];exact(Za.1 hk).1
 have hb:=Zb tL
 obtain⟨arr,h1,h3⟩:=hi.rel k _ _ hb hk
 obtain⟨a,n,c,h4,h5⟩:=Ig hs pre _ h3
 exact⟨_,[(.raw a n c,um)],C0 hk rfl (fun b gZ _=>by rw[hb] at gZ;cases gZ;exact⟨arr,h1,h4⟩) hi,fun p hp=>by rw[ZJ.1 hp];exact⟨a,n,c,rfl,h5⟩,h a n c⟩
theorem au.pad{f:FuncId}{args:List V}{Qr:V->List ai->Prop}{Qp:PV->List ai->Prop}(h:au P f args (H++[.dead]) Qr Qp):au P f args H Qr Qp:=by
 intro w I ρ us hi fT
 have oC:∀(i b:Nat) (x:ai),(ρ++[w.heap.size])[i]? =some b->(H++[.dead])[i]? =some x->x.live=true->ρ[i]? =some b∧H[i]? =some x:=fun i b x h1 h2 h3=>by
  rcases br h2 with⟨h5,h6⟩ | ⟨h5,h6⟩
  ·rw[Zc (by rw[hi.len];exact h5)] at h1
   exact⟨h1,h6⟩
  ·rw[h6] at h3;cases h3
 have hp:Inv P w I (ρ++[w.heap.size]) (H++[.dead]):=by
  refine⟨by simp[hi.len],fun i b x h1 h2 h3=> ?_,hi.ib,fun i b x h1 h2 h3=> ?_,fun i j b x y h1 h2 h3 h4 h5 h6=> ?_,fun i b x h1 h2=> ?_,hi.gl⟩
  ·obtain⟨h4,h5⟩:=oC i b x h1 h2 h3
   exact hi.gf i b x h4 h5 h3
  ·obtain⟨h4,h5⟩:=oC i b x h1 h2 h3
   exact hi.live i b x h4 h5 h3
  ·obtain⟨h7,h8⟩:=oC i b x h1 h3 h5
   obtain⟨h9,h10⟩:=oC j b y h2 h4 h6
   exact hi.fK i j b x y h7 h9 h8 h10 h5 h6
  ·cases hl:x.live with
   | false=>exact cN.gh hl
   | true=>
    obtain⟨h4,h5⟩:=oC i b x h1 h2 hl
    exact cN.mono (fun _ h=>h) (fun _ _=>rfl) ⟨_,rfl⟩ (fun _ _ _ h=>h) rfl (hi.rel i b x h4 h5)
 have hE:∀(w':World) (J:Nat->Prop) (σ:List Nat),Ext w I (ρ++[w.heap.size]) w' J σ->Ext w I ρ w' J σ:=fun w' J σ h3=>
  ⟨⟨h3.w.os,h3.w.tape,h3.w.output,h3.w.size,fun b g1 g2=>h3.w.keep b g1 fun h=>by
      rcases Zp.1 h with h | h
      ·exact g2 h
      ·have:=ZJ.1 h;omega,h3.w.shape,h3.w.lu,h3.w.bf,fun b h=>by
   rcases h3.w.ew b h with h | h | h
   ·exact .inl h
   ·rcases Zp.1 h with h | h
    ·exact .inr (.inl h)
    ·have:=ZJ.1 h;exact .inr (.inr (by omega))
   ·exact .inr (.inr h),h3.w.cL,h3.w.j9,fun b h=>by
   rcases h3.w.new b h with h | h
   ·rcases Zp.1 h with h | h
    ·exact .inl h
    ·have:=ZJ.1 h;exact .inr (by omega)
   ·exact .inr h⟩,(U3 ρ [w.heap.size]).trans h3.pre⟩
 have aaK:ag P w I (ρ++[w.heap.size]) args us:=ag.mono (fun _ h=>h) (fun _ _=>rfl) ⟨_,rfl⟩ (fun _ _ _ h=>h) args us fT
 refine(h w I _ us hp aaK).mono ?_
 rintro e w' (⟨u,v,J,σ,H2,e1,hq,h4,h5,h6⟩ | ⟨u,y,J,σ,H2,e1,hq,h4,h5,h6⟩)
 ·exact .inl ⟨u,v,J,σ,H2,e1,hq,hE _ _ _ h4,h5,h6⟩
 ·exact .inr ⟨u,y,J,σ,H2,e1,hq,hE _ _ _ h4,h5,h6⟩
end
section
variable {P:Program} {R:Option Nat} {N κ:Nat} {Q:Post} {T:Tm} {H:List ai} {o:Oper}
theorem aI.xj{c:Code}{H':List ai}(e:H'=H)(h:aI P R N κ c Q T H'):aI P R N κ c Q T H:=e▸h
theorem aa.H8{x y:Operand}{t:TypeId}{kd:IntKind}{sz i n:Nat}{z:Int}(ho:o.op= .indexAddr t x y)(hx:ev T x=some (aY i n))(hy:ev T y=some (.p (.int kd z)))(ht:dY P t=true)(he:ou P t=some sz)(h0:0<=z)(h1:z<(n:Int)):aa P N o T H (.ptr i (z.toNat*sz)) H:=by
 cases n with
 | zero=>omega
 | succ n=>exact aa.kA ho hx hy ht he h0 (by omega)
theorem aa.TY(m k:Nat){g:FuncId}{args:List PV}{xs:List PV}{e:TypeId}{n:Nat}{x y:Int}(hp:ax P g (args.map .p) [] fun v H'=>v= .tuple [.row 0 n,.p (.int .i64 x),.p (.int .i64 y)]∧H'=[.row (xs.map .p) e])(hk:H.length=k)(hsc:kK (xs.map .p)=true){f:Operand}{ys:Array Operand}{ts:Array TypeId}{fv:V}{vs all:List V}(ho:o.op= .call {callee:= .value f,args:=ys,argTypes:=ts})(hf:ev T f=some fv)
    (hxs:kR T ys.toList=some vs)(hc:callee vs fv=some (g,all))(hb:fN (dy H m) all=some args)(hg:ak P g=true):aa P N o T H (.tuple [.row k n,.p (.int .i64 x),.p (.int .i64 y)]) (H++[.row (xs.map .p) e]):=by
 have:=aa.zM (N:=N) (T:=T) (H:=H) m hp rfl (by show(kK (xs.map .p)&&true)=true;rw[hsc];rfl) ho hf hxs hc hb hg
 rw[show([ai.row (xs.map V.p) e]:List ai).map (aD (EY H.length))=[.row (xs.map .p) e] by show[ai.row (bq _ _) _]=_;rw[aX]] at this
 rw[show aW (EY H.length) (.tuple [.row 0 n,.p (.int .i64 x),.p (.int .i64 y)])= .tuple [.row k n,.p (.int .i64 x),.p (.int .i64 y)] by show V.tuple [.row (H.length+0) n,_,_]=_;rw[hk];rfl] at this
 exact this
end
section
variable {P:Program} {R:Option Nat} {N κ:Nat} {Q:Post} {T T0:Tm} {H:List ai} {l:List Oper} {vs:Nat->V} {q:Nat}
theorem Fo{F:Fence}{n:Nat}{o:Oper}{a:Act}{w:World}{K K':Act->World->Prop}{QX Z7:Exit->Act->World->Prop}(h:∀ a w,K a w->K' a w)(hq:∀ e a w,QX e a w->Z7 e a w)(hl:LetsOut QX->LetsOut Z7)(hh:o.wpIn F n P a w K QX):o.wpIn F n P a w K' Z7:=by
 unfold Oper.wpIn at*
 refine⟨hh.1,?_⟩
 have hh:=hh.2
 generalize (o.semAt F.round a.eval).run P w=r at*
 cases r with
 | ok x w'=>
  cases x <;> simp only[Oper.uponIn] at hh ⊢ <;>
   first
    | exact h _ _ hh
    | exact⟨hh.1,CallsIn.mono hh.2 (fun e w'' he=>by cases e <;> first | exact h _ _ he | exact hq _ _ _ he | exact hl he)⟩
    | exact⟨hh.1,RowsIn.mono hh.2 (fun _ _ he=>h _ _ he)⟩
    | exact⟨hh.1,RoundIn.mono hh.2 (fun e w'' he=>by cases e <;> first | exact h _ _ he | exact hq _ _ _ he | exact hl he)⟩
 | halt x w'=>cases x <;> simp only[Oper.uponIn] at hh ⊢ <;> first | exact hh | exact hq _ _ _ hh
def Of(T0:Tm)(l:List Oper):Bool:=T0.all fun p=>l.all fun o=> !(o.dst==some p.1)
theorem RO:∀{T:Tm} {s:Nat} {v:V},lk T s=some v->∃ p∈T,p.1=s
 | (t,x)::T,s,v,h=>by
  unfold lk at h
  cases hb:Nat.beq t s with
  | true=>exact⟨_,Zq,ZO hb⟩
  | false=>
   rw[hb] at h
   obtain⟨p,h1,h2⟩:=RO h
   exact⟨p,Zg _ h1,h2⟩
theorem NJ:∀{A B:Tm} {s:Nat} {v:V},lk (A++B) s=some v->lk A s=some v∨lk B s=some v
 | [],B,s,v,h=> .inr h
 | (t,x)::A,B,s,v,h=>by
  simp only[NF,lk] at h ⊢
  cases hb:Nat.beq t s with
  | true=>rw[hb] at h;exact .inl h
  | false=>rw[hb] at h;exact NJ h
theorem JK(hk:ff (q+1) l)(hm:q<l.length){o0:Oper}(Ks:l[q]? =some o0)(Sm:o0.guard=none){B:mo}{w0:World}{I0:Nat->Prop}{ρ0:List Nat}{QX:Exit->Act->World->Prop}{Tx:Nat->Tm}(h0:Tx 0=T)
    (h1:∀ i o,i<q->l[i]? =some o->aZ N o.dst=true∧YJ P N l.toArray o (Tx i) H (vs i)∧Tx (i+1)=fF (Tx i) o.dst (vs i))(hs0:Sub T0 T)(hk0:Of T0 (l.take q)=true)
    (hF:∀ a w I ρ,cy w0 I0 ρ0 w I ρ->Inv P w I ρ H->bn P w I ρ N (bE l.toArray o0 (Tx q)++T0) a.tmps->Marks κ B w I ρ a.defers->wpListIn (Fr R) 0 P l.toArray (fun e a w=>e≠ .normal∧QX e a w) [o0] a w):
    ∀(fuel:Nat) (listed:Array Bool) (a:Act) (w:World),listed.toList.count false=fuel->listed.size=l.length->(∀ i o,l[i]? =some o->fl listed i=true->∀ e∈o.after,Region.binds .any e=true->fl listed e.on=true)->(∀ i,q<=i->fl listed i=false)->
    SI κ P N H l T vs B w0 I0 ρ0 (fl listed) a w->wpAnyIn (Fr R) 0 P .any l.toArray QX fuel listed a w:=by
 intro fuel
 have hlk:=ux (vs:=vs) hk (M:=q) (by omega) h0 (fun i o hi ho=>(h1 i o hi ho).2.2)
 induction fuel with
 | zero=>
  intro listed a w mE hsz hcl xD hsi
  have hlt:q<listed.size:=by omega
  have h2:=List.count_eq_zero.1 mE
  have h4:=xD q (Ze _)
  unfold fl at h4
  simp[hlt] at h4
  exact absurd (by rw[<- h4];exact Array.mem_toList_iff.2 (Array.getElem_mem hlt)) h2
 | succ fuel ih=>
  intro listed a w mE hsz hcl xD hsi
  obtain⟨i0,vB,hmin⟩:∃ i0,(i0<q+1∧fl listed i0=false)∧∀ j,j<i0->fl listed j=true:=by
   have hex:∃ i,i<q+1∧fl listed i=false:=⟨q,by omega,xD q (Ze _)⟩
   obtain⟨k,⟨h3,h4⟩,h5⟩:=exists_least _ hex
   refine⟨k,⟨h3,h4⟩,fun j hj=> ?_⟩
   cases h:fl listed j with
   | true=>rfl
   | false=>have:=h5 j ⟨by omega,h⟩;omega
  have hoi:l[i0]? =some (l[i0]'(by omega)):=Zb _
  have zy:i0∈Region.ready .any l.toArray listed:=by
   refine mem_ready.2 ⟨?_,(l[i0]'(by omega)),by rw[List.getElem?_toArray];exact hoi,fun e he hb=>hmin e.on (hk.back i0 _ hoi e he hb)⟩
   have:=vB.2
   unfold fl at this
   have hlt:i0<listed.size:=by omega
   simp[hlt] at this ⊢
   exact this
  refine⟨(fun h=>by rw[h] at zy;cases zy),fun i hi=> ?_⟩
  obtain⟨h3,o,ho',UW⟩:=mem_ready.1 hi
  have ho:l[i]? =some o:=by simpa using ho'
  have hilt:=bW ho
  have vf:∀ j oj,l[j]? =some oj->(decide (j=i)||fl listed j)=true->∀ e∈oj.after,Region.binds .any e=true->(decide (e.on=i)||fl listed e.on)=true:=fun j oj hj tU e he hb=>by
   exact kV
  have pH:i<q+1:=by
   rcases ZD i (q+1) with h | h
   ·exact h
   ·have:=hk.tail (fun j=>decide (j=i)||fl listed j) vf i h hilt (by simp) i0 (by omega)
    have hne:¬ i0=i:=by omega
    simp[hne,vB.2] at this
  have tB:fl listed i=false:=by
   exact kj
  obtain⟨I,ρ,he,hinv,hs,cu,hmk⟩:=hsi
  have l9:i<=q->∀ s v,lk (bE l.toArray o (Tx i)) s=some v->az P w I ρ v (a.tmps.getD s undef):=by
   intro F5 s v hv
   unfold bE at hv
   rw[lX] at hv
   split at hv
   ·rename_i hs'
    rw[hlk i F5] at hv
    refine cu s v ?_
    rw[<- hv]
    refine gS hk fun j oj hj hd=> ?_
    by_cases hji:j=i
    ·subst hji;rw[tB];simp
    ·exact D9
   ·cases hv
  unfold wpOpIn
  simp only[ho']
  by_cases F5:i=q
  ·subst F5
   have:o=o0:=by rw[ho] at Ks;exact ZB Ks
   subst this
   have Av:bn P w I ρ N (bE l.toArray o (Tx i)++T0) a.tmps:=⟨hs,fun s v hv=>by
    rcases NJ hv with h | h
    ·exact l9 (Ze _) s v h
    ·refine cu s v ?_
     rw[jQ (fun j oj hj tU hd=> ?_)]
     ·exact hs0 s v h
     ·obtain⟨p,YR,Ry⟩:=RO h
      have h5:=Zz.1 hk0 p YR
      have hjq:j<i:=by
       rcases ZD j i with h | h
       ·exact h
       ·rw[xD j h] at tU;cases tU
      have h6:=Zz.1 h5 oj (Zh (by rw[ZQ,if_pos hjq];exact hj))
      rw[Ry,hd] at h6
      simp at h6⟩
   have hA:=hF a w I ρ he hinv Av hmk
   simp only[wpListIn,Region.wanted,Sm,if_true] at hA ⊢
   exact Fo (QX:=fun e a w=>e≠ .normal∧QX e a w) (fun a w h=>absurd rfl (show Exit.normal≠ .normal∧_ from h).1) (fun e a w h=>h.2) (fun⟨a,w,h⟩=>⟨a,w,h.2⟩) hA
  ·have aak:i<q:=by omega
   obtain⟨sO,hy,_⟩:=h1 i o aak ho
   have Av:bn P w I ρ N (bE l.toArray o (Tx i)) a.tmps:=⟨hs,l9 (by omega)⟩
   have next:∀ u w' I' ρ',Ext w I ρ w' I' ρ'->Inv P w' I' ρ' H->az P w' I' ρ' (vs i) u->wpAnyIn (Fr R) 0 P .any l.toArray QX fuel (listed.setIfInBounds i true) (a.put o.dst u) w':=by
    exact mR
   rcases hy with⟨hg,hop⟩ | ⟨j,want,s,c,x,v',hg,pE,Et,hb,hc,hv,hop⟩
   ·exact kB
   ·exact nF
theorem aI.CC{id:Nat}(q:Nat)(T0:Tm){o0:Oper}(Ks:l[q]? =some o0)(Sm:o0.guard=none)(EX:P.follows .mixedOrders=true)(hk:jh (q+1) l=true)(hs0:Sub T0 T)(hk0:Of T0 (l.take q)=true)
    (h:aE P N l.toArray H (fun T'=>aj P R N κ l.toArray [o0] (fun x T1 H1=>(∃ y,x= .panic y)∧Q x T1 H1) (bE l.toArray o0 T'++T0) H) (l.take q) T):aI P R N κ (.region id l.toArray true) Q T H:=by
 intro B w I ρ a hi ht hmk
 obtain⟨vs,Tx,h0,h1,h2⟩:=aE.vals h
 have K5:=bW Ks
 have hlen:(l.take q).length=q:=by simp;omega
 rw[hlen] at h2
 refine wpIn_region_any EX ?_
 have hi':Inv P w.drew I ρ H:=hi.drew
 refine JK (κ:=κ) (ff.of hk) K5 Ks Sm (B:=B) (w0:=w) (I0:=I) (ρ0:=ρ) h0 (fun i o pH ho=>h1 i o (by rw[ZQ,if_pos pH];exact ho)) hs0 hk0 ?_ _ _ a w.drew (by simp) (by simp) ?_ ?_ ?_
 ·intro a' w' I' ρ' he hi2 jz hm2
  refine h2 _ B w' I' ρ' a' hi2 jz hm2 fun e a2 w2 qc=> ?_
  obtain⟨x,J,σ,T',H',e1,⟨⟨y,rfl⟩,e2⟩,e3⟩:=qc
  refine⟨?_,QC.ext he ⟨.panic y,J,σ,T',H',e1,e2,e3⟩⟩
  rintro rfl
  exact e1
 ·exact mX
 ·exact mP
 ·exact DN
theorem aa.JY{o:Oper}{x y:Operand}{t:TypeId}{i n h sz:Nat}{kd:IntKind}(ho:o.op= .slice t x none (some y) none)(hx:ev T x=some (.row i n))(hy:ev T y=some (.p (.int kd (h:Int))))(ht:dY P t=true)(he:ou P t=some sz)(h2:h<=n):aa P N o T H (.row i h) H:=
 aa.aN (by simp[ho]) fun w I ρ a hi' hT=>by
  cases hu:P.underlying t with
  | none=>simp[dY,hu] at ht
  | some d=>
   cases d <;> simp[dY,hu] at ht
   rename_i e
   simp only[ou,hu,Zl] at he
   obtain⟨⟨b,m⟩,htm,rfl⟩:=he
   obtain⟨blk,e2,cap,hb,pE,hsh,hle⟩:=hT.ev hx
   have JW:=lR (Ov:=true) (cap:=cap) (l:=0) (lo:=none) (hi:=some y) (len:=n) hT rfl ⟨kd,hy⟩ (Zv h) (by omega)
   refine⟨.slice (some ⟨blk,0,none⟩) h cap,?_,blk,e2,cap,hb,rfl,hsh,by omega⟩
   simp only[Option.map_none,Q4] at JW
   simp[execOp,ho,Instr.sliceAt,run_underlying hu,pE,Instr.slice,JW,aK htm,cF]
end
section
variable {P:Program} {R:Option Nat} {N κ:Nat} {Q:Post} {T:Tm} {H H2:List ai} {o:Oper} {ops:Array Oper} {rest:List Oper} {K:Tm->Prop}
theorem ay.put{v:V}(hd:o.dst=none)(hg:o.guard=none)(hop:aa P N o (bE ops o T) H v H2)(next:ay P N ops H H2 K true rest T):ay P N ops H H2 K false (o::rest) T:=
 ⟨v,by rw[hd];rfl,.inr ⟨rfl,hg,hop,by rw[hd];exact next⟩⟩
theorem ax.tF{f g:FuncId}{fn:Func}{c0 c1 cm c2:Code}{id dm:Nat}{om od:Oper}{args caps:List V}{T1:Tm}{H1:List ai}{Qr:V->List ai->Prop}{ts:Array TypeId}(hf:P.funcs[f]? =some fn)(hb:fn.body=some (.seq c0 (.seq c1 (.seq cm (.seq (.region id #[om,od] false) c2)))))(hN:fn.ntmps=N)(hn:args.length<=N)
    (h01:aI P none N H.length c0 (AX.then (aI P none N H.length c1 (AX.then (aI P none N H.length cm (AX.then (fun T' H'=>Sub T1 T'∧H'=H1) (lK P N fn Qr))) (lK P N fn Qr))) (lK P N fn Qr)) (cW 0 args) H)
    (hom:aa P N om T1 H1 (.func (.func g) [] caps) H1)(YA:om.dst=some dm)(hgm:om.guard=none)(hm:aZ N (some dm)=true)(hod:od.op= .defer {callee:= .value (.tmp dm),args:= #[],argTypes:=ts})(hgd:od.guard=none)(hdd:od.dst=none)(hg:ak P g=true)
    (h2:aI P none N H1.length c2 (aaE P N fn g caps Qr) ((dm,.func (.func g) [] caps)::T1) H1):ax P f args H Qr:=by
 subst hN
 intro w I ρ us hi fT
 have hl:=ag.length fT
 refine callsIn_of_wp_marks hf hb trivial ?_ rfl
 have ht:bn P w I ρ fn.ntmps (cW 0 args) (us.toArray++Array.replicate (fn.ntmps - us.toArray.size) undef):=by
  exact nc
 -- it leaves before it defers
 have early:∀(a':Act) (w':World) (T':Tm) (H':List ai) (I':Nat->Prop) (ρ':List Nat) (rs:List Nat),(∃ v,eT P fn.ntmps fn T' H' v∧Qr v H')->cy w I ρ w' I' ρ'->Inv P w' I' ρ' H'->bn P w' I' ρ' fn.ntmps T' a'.tmps->ρ<+:ρ'->a'.defers=(rs.map fun r=>{target:= .collected r,args:= #[]})++[]->rs.Nodup->(∀ r∈rs,w'.heap[r]? =some (Obj.deferred (some []))∧¬ I' r∧w.heap.size<=r)->
     LeavesInM Fence.wide 0 P fn a'.tmps (fun e w'=>∃ u v I' ρ' H',e= .returned u∧Qr v H'∧Ext w I ρ w' I' ρ'∧Inv P w' I' ρ' H'∧az P w' I' ρ' v u) a'.defers .returning w':=by
  rintro a' w' T' H' I' ρ' rs ⟨v,hv,hq⟩ h3 h4 h5 hpre h6 h7 h8
  rw[h6]
  refine oM (by simp) rs w' h7 (fun r hr=>(h8 r hr).1) ?_
  intro w2 k1 k2 k3 k4 k5
  obtain⟨m1,m2,m3,m4⟩:=ji h3 h4 h5 hpre h8 k1 k2 k3 k4 k5
  obtain⟨u,hu1,Pe⟩:=hv w2 I' ρ' a'.tmps m1 m2
  simp only[LeavesInM,LeavesIn]
  exact⟨u,hu1,u,v,I',ρ',H',rfl,hq,m3,m1,Pe⟩
 -- behind the deferred call
 have late:∀(a1:Act) (w1:World) (I1:Nat->Prop) (ρ1:List Nat),cy w I ρ w1 I1 ρ1->ρ<+:ρ1->Inv P w1 I1 ρ1 H1->bn P w1 I1 ρ1 fn.ntmps T1 a1.tmps->∀ rs:List Nat,a1.defers=(rs.map fun r=>{target:= .collected r,args:= #[]})++[]->rs.Nodup->(∀ r∈rs,w1.heap[r]? =some (Obj.deferred (some []))∧¬ I1 r∧w.heap.size<=r)->
     (Code.seq (.region id #[om,od] false) c2).wpIn Fence.wide 0 P (bodyPostM Fence.wide 0 P fn fun e w'=>∃ u v I' ρ' H',e= .returned u∧Qr v H'∧Ext w I ρ w' I' ρ'∧Inv P w' I' ρ' H'∧az P w' I' ρ' v u) a1 w1:=by
  intro a1 w1 I1 ρ1 xH XX hi1 XF rs Tg aay Qc
  refine wpIn_seq (wpIn_region_lit ?_)
  refine wpListIn_plain hgm fun K hK=> ?_
  refine hom none w1 I1 ρ1 a1 hi1 XF K _ fun u w2 I2 ρ2 oO hi2 hv=>hK _ _ ?_
  have jz:bn P w2 I2 ρ2 fn.ntmps ((dm,.func (.func g) [] caps)::T1) (a1.put om.dst u).tmps:=by
   have:=(XF.ext oO).put (a:=a1) (dst:=om.dst) (by rw[YA];exact hm) hv
   rw[YA] at this ⊢
   exact this
  obtain⟨fi,ca,hu,hfi,hca⟩:=hv
  have aaf:fi.toList=[]:=hfi
  have aav:fi= #[]:=by apply Array.ext';simpa using aaf
  subst aav
  have hval:(a1.put om.dst u).eval (.tmp dm)=u:=by
   have hlt:dm<a1.tmps.size:=by
    have h3:dm<fn.ntmps:=by simpa[aZ,Nat.blt,Zw] using hm
    rw[XF.size];exact h3
   rw[YA]
   simp[Act.put,Act.eval,hlt]
  refine wpListIn_plain hgd fun K hK=> ?_
  refine⟨fun _ _=>trivial,?_⟩
  obtain⟨D,hD⟩:∃ D:Deferred,D={target:= .fn (.func g) ca,args:= #[]}:=⟨_,rfl⟩
  have hrun:(Oper.semAt none (a1.put om.dst u).eval od).run P w2= .ok (.defer D) w2:=by
   rw[Oper.semAt_none,hD]
   rw[hu] at hval ⊢
   simp only[execOp,hod,Go.resolve,hval]
   simp[Deferred.ofValue]
  show od.uponIn Fence.wide 0 P (a1.put om.dst u) K _ ((Oper.semAt none (a1.put om.dst u).eval od).run P w2)
  rw[hrun,Oper.uponIn_defer,hdd]
  refine hK _ _ (wpListIn_nil ?_)
  have aaQ:(a1.put om.dst u).defers=a1.defers:=by rw[YA];rfl
  have hw2:=h2 ⟨w2.heap.size,ρ2,D::a1.defers⟩ w2 I2 ρ2 {(a1.put om.dst u) with defers:=D::(a1.put om.dst u).defers} hi2 jz ⟨Ze _,Oz hi2.len,ZI _,[],by rw[aaQ];rfl,OQ,fun _ h=>by cases h⟩
  have tail:∀(a':Act) (w3:World) (I3:Nat->Prop) (ρ3:List Nat) (T3:Tm) (H3:List ai) (y:Option PV) (md:FrameMode),xB P g caps H3 y (fun H'=>∃ v,eT P fn.ntmps fn T3 H' v∧Qr v H')->Ok w3 I3 y md->cy w2 I2 ρ2 w3 I3 ρ3->Inv P w3 I3 ρ3 H3->bn P w3 I3 ρ3 fn.ntmps T3 a'.tmps->Marks H1.length ⟨w2.heap.size,ρ2,D::a1.defers⟩ w3 I3 ρ3 a'.defers->
      LeavesInM Fence.wide 0 P fn a'.tmps (fun e w'=>∃ u v I' ρ' H',e= .returned u∧Qr v H'∧Ext w I ρ w' I' ρ'∧Inv P w' I' ρ' H'∧az P w' I' ρ' v u) a'.defers md w3:=by
   rintro a' w3 I3 ρ3 T3 H3 y md Mh Ys q4 q5 q6 ⟨hB,_,hpre,rs3,q7,q8,q9⟩
   have RN:md≠ .run:=by
    cases y with
    | none=>rw[show md= .returning from Ys];simp
    | some x=>obtain⟨v,e,_⟩:=Ys;rw[e];simp
   rw[q7]
   refine oM RN rs3 w3 q8 (fun r hr=>(q9 r hr).1) ?_
   intro w4 k1 k2 k3 k4 k5
   obtain⟨m1,m2,m3,m4⟩:=ji q4 q5 q6 hpre q9 k1 k2 k3 k4 k5
   have aaI:Ok w4 I3 y md:=by
    cases y with
    | none=>exact Ys
    | some x=>obtain⟨v,e,hv⟩:=Ys;exact⟨v,e,Rel.mono (fun _ h=>h) m4 _ _ hv⟩
   have aaP:ag P w4 I3 ρ3 caps ca.toList:=ag.ext m3 hca
   subst hD
   refine⟨RN,.inr ⟨(by intro h;cases h),_,_,g,ca.toList.toArray,rfl,?_,fun _ _=>trivial,?_⟩⟩
   ·show(Go.invoke (.fn (.func g) ca) #[]).run P w4=_
    simp only[Go.invoke,fL hg]
    simp
   ·refine CallsDIn.mono (Mh w4 I3 ρ3 ca.toList md m1 aaP aaI) ?_
    rintro e u' w5 ⟨rfl,oG,I5,ρ5,H5,hq5,hE5,hi5⟩
    show LeavesInM _ _ _ _ _ _ a1.defers (settle u') w5
    rw[oG]
    have PW:Ext w1 I1 ρ1 w5 I5 ρ5:=(oO.trans m3).trans hE5
    exact early {tmps:=a'.tmps,defers:=a1.defers} w5 T3 H5 I5 ρ5 rs hq5 (xH.trans PW.w) hi5 (m2.ext hE5) (XX.trans PW.pre) Tg aay fun r hr=>⟨PW.w.cL r (Qc r hr).1,fun h=>(Qc r hr).2.1 (PW.w.j9 r (Qc r hr).1 h),(Qc r hr).2.2⟩
  refine wpIn_mono hw2 ?_
  rintro e a' w3 ⟨z,I3,ρ3,T3,H3,q1,q2,q4,q5,q6,q7⟩
  cases z <;> cases e <;> first | exact q1.elim | exact q2.elim | skip
  ·exact tail a' w3 I3 ρ3 T3 H3 none .returning q2 rfl q4 q5 q6 q7
  ·exact tail a' w3 I3 ρ3 T3 H3 none .returning q2 rfl q4 q5 q6 q7
  ·obtain⟨x,rfl,q2⟩:=q2
   obtain⟨v,rfl,hv⟩:=q1
   exact tail a' w3 I3 ρ3 T3 H3 (some x) _ q2 ⟨v,rfl,hv⟩ q4 q5 q6 q7
 have out:∀(z:AX) (e:Exit) (a':Act) (w':World),z≠ .normal->QC H.length ⟨w.heap.size,ρ,[]⟩ P fn.ntmps (fun x T H=>x=z∧lK P fn.ntmps fn Qr x T H) w I ρ e a' w'->
     bodyPostM Fence.wide 0 P fn (fun e w'=>∃ u v I' ρ' H',e= .returned u∧Qr v H'∧Ext w I ρ w' I' ρ'∧Inv P w' I' ρ' H'∧az P w' I' ρ' v u) e a' w':=by
  rintro z e a' w' hz ⟨x,I',ρ',T',H',q1,⟨rfl,q2,q3⟩,q4,q5,q6,hB,_,hpre,rs,q7,q8,q9⟩
  rcases q2 with rfl | rfl
  ·exact absurd rfl hz
  ·cases e <;> first | exact q1.elim | exact early a' w' T' H' I' ρ' rs q3 q4 q5 q6 hpre q7 q8 q9
 refine wpIn_seq (wpIn_mono (h01 ⟨w.heap.size,ρ,[]⟩ w I ρ {tmps:=us.toArray++Array.replicate (fn.ntmps - us.toArray.size) undef,defers:=[]} hi ht ⟨Ze _,Oz hi.len,ZI _,[],rfl,OQ,fun _ h=>by cases h⟩) ?_)
 rintro e a' w' ⟨z,I',ρ',T',H',q1,q2,q4,q5,q6,q7⟩
 cases z with
 | normal=>
  cases e <;> first | exact q1.elim | skip
  refine wpIn_seq (wpIn_mono (q2 ⟨w.heap.size,ρ,[]⟩ w' I' ρ' a' q5 q6 q7) ?_)
  rintro e a1 w1 ⟨z,I1,ρ1,T1',H1',r1,r2,r4,r5,r6,r7⟩
  cases z with
  | normal=>
   cases e <;> first | exact r1.elim | skip
   refine wpIn_seq (wpIn_mono (r2 ⟨w.heap.size,ρ,[]⟩ w1 I1 ρ1 a1 r5 r6 r7) ?_)
   rintro e a2 w2 ⟨z,I2,ρ2,T2,H2,p1,p2,p4,p5,p6,p7⟩
   cases z with
   | normal=>
    cases e <;> first | exact p1.elim | skip
    obtain⟨p2,rfl⟩:=p2
    obtain⟨hB,_,hpre,rs,p8,p9,p10⟩:=p7
    exact late a2 w2 I2 ρ2 ((q4.trans r4).trans p4) hpre p5 (p6.sub p2) rs p8 p9 p10
   | ret=>
    have:=out .ret e a2 w2 (by simp) ⟨.ret,I2,ρ2,T2,H2,p1,⟨rfl,p2⟩,(q4.trans r4).trans p4,p5,p6,p7⟩
    cases e <;> first | exact p1.elim | exact this
   | exit i=>exact absurd p2.1 (by rintro(h | h) <;> cases h)
   | panic v=>exact absurd p2.1 (by rintro(h | h) <;> cases h)
  | ret=>
   have:=out .ret e a1 w1 (by simp) ⟨.ret,I1,ρ1,T1',H1',r1,⟨rfl,r2⟩,q4.trans r4,r5,r6,r7⟩
   cases e <;> first | exact r1.elim | exact this
  | exit i=>exact absurd r2.1 (by rintro(h | h) <;> cases h)
  | panic v=>exact absurd r2.1 (by rintro(h | h) <;> cases h)
 | ret=>
  have:=out .ret e a' w' (by simp) ⟨.ret,I',ρ',T',H',q1,⟨rfl,q2⟩,q4,q5,q6,q7⟩
  cases e <;> first | exact q1.elim | exact this
 | exit i=>exact absurd q2.1 (by rintro(h | h) <;> cases h)
 | panic v=>exact absurd q2.1 (by rintro(h | h) <;> cases h)
end
theorem O7{ks:List Nat}{xs:List ai}{H:List ai}{j i:Nat}{x:ai}(hn:ks.Nodup)(hl:xs.length=ks.length)(hk:ks[j]? =some i)(hx:xs[j]? =some x)(hi:i<H.length):(ke H ks xs)[i]? =some x:=by
 have h1:i<(ke H ks xs).length:=by rw[cI];exact hi
 have h2:=Zb h1
 rcases kO ks xs H i _ hn hl h2 with⟨j',k1,k2⟩ | ⟨k1,_⟩
 ·have e:j=j':=(XW (Za.1 hk).1 hn).1 (hk.trans k1.symm)
  subst e
  rw[h2,<- k2,hx]
 ·exact absurd (Zh hk) k1
theorem Lm{ks:List Nat}{xs:List ai}{H:List ai}{i:Nat}(hn:ks.Nodup)(hl:xs.length=ks.length)(hi:i<H.length)(hk:i∉ks):(ke H ks xs)[i]? =H[i]? :=by
 have h1:i<(ke H ks xs).length:=by rw[cI];exact hi
 have h2:=Zb h1
 rcases kO ks xs H i _ hn hl h2 with⟨j',k1,_⟩ | ⟨_,k2⟩
 ·exact absurd (Zh k1) hk
 ·rw[h2,k2]
section
variable {H H0:List ai} {ks:List Nat}
theorem eZ{j i:Nat}{x:ai}(hn:ks.Nodup)(hl:ks.length<=H0.length)(hk:ks[j]? =some i)(hi:i<H.length)(hx:H0[j]? =some x):(bh H ks H0)[i]? =some (aD (dK H ks) x):=by
 unfold bh
 rw[Zc (by rw[cI];exact hi)]
 refine O7 hn (by rw[Zo,x7];omega) hk ?_ hi
 rw[Zt,RU (Za.1 hk).1,hx]
 rfl
theorem dw{i:Nat}(hn:ks.Nodup)(hl:ks.length<=H0.length)(hi:i<H.length)(hk:i∉ks):(bh H ks H0)[i]? =H[i]? :=by
 unfold bh
 rw[Zc (by rw[cI];exact hi)]
 exact Lm hn (by rw[Zo,x7];omega) hi hk
theorem J2{j:Nat}{x:ai}(hx:H0[ks.length+j]? =some x):(bh H ks H0)[H.length+j]? =some (aD (dK H ks) x):=by
 unfold bh
 rw[Zi (by rw[cI];omega),cI,ZK,Zt,R8,hx]
 rfl
theorem rT(hl:ks.length<=H0.length):(bh H ks H0).length=H.length+(H0.length - ks.length):=by
 unfold bh
 rw[Zd,cI,Zo,R0]
def mA(H:List ai)(ks:List Nat)(j:Nat):Nat:=match ks[j]? with
 | some i=>i
 | none=>H.length+(j - ks.length)
theorem qK{j:Nat}{x:ai}(hn:ks.Nodup)(hl:ks.length<=H0.length)(hlt:∀ i∈ks,i<H.length)(hx:H0[j]? =some x):(bh H ks H0)[mA H ks j]? =some (aD (dK H ks) x):=by
 unfold mA
 cases hk:ks[j]? with
 | some i=>exact eZ hn hl hk (hlt i (Zh hk)) hx
 | none=>
  have hj:ks.length<=j:=by simpa using hk
  obtain⟨m,rfl⟩:∃ m,j=ks.length+m:=⟨j - ks.length,by omega⟩
  rw[ZK]
  exact J2 hx
theorem ja{j:Nat}{x:ai}(hK:fB H ks H0)(hx:H0[j]? =some x)(hl:x.live=true):dK H ks j=some (mA H ks j):=by
 unfold dK mA
 cases hk:ks[j]? with
 | some i=>
  show(if (H.getD i .dead).live=true then some i else none)=some i
  cases hlv:(H.getD i .dead).live with
  | true=>rw[if_pos rfl]
  | false=>rw[hK.2 j i x hk hlv hx] at hl;cases hl
 | none=>rfl
theorem Qw{i j:Nat}(hn:ks.Nodup)(hlt:∀ i∈ks,i<H.length)(h:mA H ks i=mA H ks j):i=j:=by
 unfold mA at h
 cases hi:ks[i]? with
 | some a=>
  have ha:=hlt a (Zh hi)
  cases hj:ks[j]? with
  | some b=>
   rw[hi,hj] at h
   have h:a=b:=h
   subst h
   exact(XW (Za.1 hi).1 hn).1 (hi.trans hj.symm)
  | none=>rw[hi,hj] at h;have h:a=H.length+(j - ks.length):=h;omega
 | none=>
  have h1:ks.length<=i:=by simpa using hi
  cases hj:ks[j]? with
  | some b=>rw[hi,hj] at h;have h:H.length+(i - ks.length)=b:=h;have:=hlt b (Zh hj);omega
  | none=>
   have h2:ks.length<=j:=by simpa using hj
   rw[hi,hj] at h
   have h:H.length+(i - ks.length)=H.length+(j - ks.length):=h
   omega
theorem nB{j n:Nat}{cs:List V}{e:TypeId}(hK:fB H ks H0)(hx:H0[j]? =some (dL cs e n)):aW (dK H ks) (aY j n)=aY (mA H ks j) n:=by
 cases n with
 | zero=>rfl
 | succ n=>exact cC (ja hK hx rfl)
theorem sJ{l:List Nat}(hn:ks.Nodup)(hlt:∀ i∈ks,i<H.length)(h:l.Nodup):(l.map (mA H ks)).Nodup:=by
 induction l with
 | nil=>exact OQ
 | cons x l ih=>
  rw[ZC] at h
  rw[Zx,ZC]
  refine⟨fun hm=> ?_,ih h.2⟩
  obtain⟨y,h1,h2⟩:=yu.1 hm
  rw[Qw hn hlt h2] at h1
  exact h.1 h1
end
theorem Rel.Ng{w:World}{I:Nat->Prop}{u:Value}(h:Rel w I .nilSlice u):Rel w I (.is [] 0) u:= .inl ⟨⟨none,0,h⟩,rfl⟩
theorem ax.Rg{P:Program}{f:FuncId}{args args2:List V}{H:List ai}{Q:V->List ai->Prop}(h:ax P f args H Q)(hs:∀ w I ρ us,ag P w I ρ args2 us->ag P w I ρ args us):ax P f args2 H Q:=fun w I ρ us hi hu=>h w I ρ us hi (hs w I ρ us hu)
theorem Pure.RE{P:Program}{f:FuncId}{a r:PV}(h:Pure P f [a,.is [] 0,.is [] 0] r):Pure P f [a,.nilSlice,.nilSlice] r:=
 ax.Rg h fun w I ρ us hu=>by
  obtain⟨u1,s1,rfl,h1,u2,s2,rfl,h2,u3,s3,rfl,h3,h4⟩:=hu
  exact⟨u1,_,rfl,h1,u2,_,rfl,Rel.Ng h2,u3,_,rfl,Rel.Ng h3,h4⟩
def U0(P:Program)(N:Nat)(o:Oper)(T:Tm)(H:List ai)(v:V)(G:List ai->Prop):Prop:=
 ∀ R w I ρ a,Inv P w I ρ H->bn P w I ρ N T a.tmps->∀(K:Act->World->Prop) (QX:Exit->Act->World->Prop),
  (∀ u w' I' ρ' H2,G H2->Ext w I ρ w' I' ρ'->Inv P w' I' ρ' H2->az P w' I' ρ' v u->K (a.put o.dst u) w')->o.wpIn (Fr R) 0 P a w K QX
def Yj(P:Program)(G:List ai->Prop)(H:List ai)(b:Bool)(w:World)(I:Nat->Prop)(ρ:List Nat):Prop:=∃ H2,(bif b then G H2 else H2=H)∧Inv P w I ρ H2
def UD(P:Program)(N:Nat)(ops:Array Oper)(o:Oper)(T:Tm)(H:List ai)(v:V)(G:List ai->Prop):Prop:=
 (o.guard=none∧U0 P N o (bE ops o T) H v G)∨∃ j want s x T2,o.guard=some (j,want)∧oP ops j=some s∧aZ N (some s)=true∧lk (bE ops o T) s=some x∧pZ want x=some true∧rF T2 (bE ops o T)∧U0 P N o T2 H v G
def bU(P:Program)(N:Nat)(ops:Array Oper)(H:List ai)(G:List ai->Prop)(K:Tm->Prop):Bool->List Oper->Tm->Prop
 | b,[],T=>b=true∧K T
 | b,o::rest,T=>∃ v,aZ N o.dst=true∧(((∀ H0,(H0=H∨G H0)->YJ P N ops o T H0 v)∧bU P N ops H G K b rest (fF T o.dst v))∨(b=false∧UD P N ops o T H v G∧bU P N ops H G K true rest (fF T o.dst v)))
section
variable {P:Program} {R:Option Nat} {N κ:Nat} {Q:Post} {T:Tm} {H:List ai} {G:List ai->Prop} {o:Oper} {ops:Array Oper} {K:Tm->Prop} {rest:List Oper} {b:Bool}
theorem U0.e8{f:Operand}{xs:Array Operand}{ts:Array TypeId}{fv:V}{vs all:List V}{g:FuncId}{v:V}{Qr:V->List ai->Prop}(hp:au P g all H Qr (fun _ _=>False))(hv:∀ x H2,Qr x H2->x=v∧G H2)(ho:o.op= .call {callee:= .value f,args:=xs,argTypes:=ts})(hf:ev T f=some fv)
    (hxs:kR T xs.toList=some vs)(hc:callee vs fv=some (g,all))(hg:ak P g=true):U0 P N o T H v G:=by
 intro R w I ρ a hi ht K QX hK
 refine⟨bB,?_⟩
 rw[bD _ _ _ (by simp[ho])]
 obtain⟨us,h1,h2⟩:=dP ho ht hf hxs hc hg
 rw[h2]
 refine⟨(fun h=>by cases h),?_⟩
 refine CallsIn.mono (cE R (hp w I ρ us hi h1)) ?_
 rintro e w' (⟨u,v',J,σ,H2,rfl,hQ,h3,h4,h5⟩ | ⟨u,y,J,σ,H2,rfl,hQ,_⟩)
 ·obtain⟨rfl,hG⟩:=hv _ _ hQ
  exact hK u w' J σ H2 hG h3 h4 h5
 ·exact hQ.elim
theorem bU.nil(h:K T):bU P N ops H G K true [] T:=⟨rfl,h⟩
theorem bU.cons(d:Nat){v:V}(hd:o.dst=some d)(hdN:aZ N (some d)=true)(hg:o.guard=none)(hop:∀ H0,(H0=H∨G H0)->aa P N o (bE ops o T) H0 v H0)(next:bU P N ops H G K b rest ((d,v)::T)):bU P N ops H G K b (o::rest) T:=
 ⟨v,by rw[hd];exact hdN,.inl ⟨fun H0 h0=> .inl ⟨hg,hop H0 h0⟩,by rw[hd];exact next⟩⟩
theorem bU.lay(d:Nat){v:V}(hd:o.dst=some d)(hdN:aZ N (some d)=true)(hg:o.guard=none)(hop:U0 P N o (bE ops o T) H v G)(next:bU P N ops H G K true rest ((d,v)::T)):bU P N ops H G K false (o::rest) T:=
 ⟨v,by rw[hd];exact hdN,.inr ⟨rfl,.inl ⟨hg,hop⟩,by rw[hd];exact next⟩⟩
section
variable {m:Nat} {l:List Oper} {vs:Nat->V}
theorem bU.vals{ops:Array Oper}:∀{b:Bool} {l':List Oper} {T:Tm},bU P N ops H G K b l' T->∃(vs:Nat->V) (Tx:Nat->Tm) (q:Nat),Tx 0=T∧(b=false->q<l'.length)∧(b=true->q=l'.length)∧(∀ i o,l'[i]? =some o->aZ N o.dst=true∧((i≠q∧∀ H0,(H0=H∨G H0)->YJ P N ops o (Tx i) H0 (vs i))∨(i=q∧UD P N ops o (Tx i) H (vs i) G))∧Tx (i+1)=fF (Tx i) o.dst (vs i))∧K (Tx l'.length)
 | b,[],T,h=>⟨fun _=> .top,fun _=>T,0,rfl,(fun hb=>by have:=h.1;rw[hb] at this;cases this),fun _=>rfl,fun i o ho=>by simp at ho,h.2⟩
 | b,o::l',T,h=>by
  obtain⟨v,hd,h⟩:=h
  rcases h with⟨hy,hn⟩ | ⟨hb,hop,hn⟩
  ·obtain⟨vs,Tx,q,h0,FF,OG,h1,h2⟩:=bU.vals hn
   refine⟨fun i=>match i with | 0=>v | i+1=>vs i,fun i=>match i with | 0=>T | i+1=>Tx i,q+1,rfl,fun hb=>by have:=FF hb;simp;omega,fun hb=>by have:=OG hb;simp;omega,fun i x hx=> ?_,h2⟩
   cases i with
   | zero=>simp at hx;subst hx;exact⟨hd,.inl ⟨by omega,hy⟩,h0⟩
   | succ i=>
    exact uG
  ·obtain⟨vs,Tx,q,h0,FF,OG,h1,h2⟩:=bU.vals hn
   refine⟨fun i=>match i with | 0=>v | i+1=>vs i,fun i=>match i with | 0=>T | i+1=>Tx i,0,rfl,fun _=>by simp,(fun hb'=>by rw[hb] at hb';cases hb'),fun i x hx=> ?_,h2⟩
   cases i with
   | zero=>simp at hx;subst hx;exact⟨hd,.inr ⟨rfl,hop⟩,h0⟩
   | succ i=>
    exact Bz
def SIE(κ:Nat)(P:Program)(N:Nat)(H:List ai)(G:List ai->Prop)(q:Nat)(l:List Oper)(T:Tm)(vs:Nat->V)(B:mo)(w0:World)(I0:Nat->Prop)(ρ0:List Nat)(f:Nat->Bool)(a:Act)(w:World):Prop:=
 ∃ I ρ,cy w0 I0 ρ0 w I ρ∧Yj P G H (f q) w I ρ∧a.tmps.size=N∧(∀ s v,tl l T vs f s=some v->az P w I ρ v (a.tmps.getD s undef))∧Marks κ B w I ρ a.defers
theorem FR(hk:ff m l)(hm:m<=l.length){q:Nat}(hq:q<m){B:mo}{w0:World}{I0:Nat->Prop}{ρ0:List Nat}{QX:Exit->Act->World->Prop}{Tx:Nat->Tm}(h0:Tx 0=T)
    (h1:∀ i o,i<m->l[i]? =some o->aZ N o.dst=true∧((i≠q∧∀ H0,(H0=H∨G H0)->YJ P N l.toArray o (Tx i) H0 (vs i))∨(i=q∧UD P N l.toArray o (Tx i) H (vs i) G))∧Tx (i+1)=fF (Tx i) o.dst (vs i))
    (hK:∀ H2,G H2->∀ a w I ρ,cy w0 I0 ρ0 w I ρ->Inv P w I ρ H2->bn P w I ρ N (Tx m) a.tmps->Marks κ B w I ρ a.defers->wpListIn (Fr R) 0 P l.toArray QX (l.drop m) a w):
    ∀(fuel:Nat) (listed:Array Bool) (a:Act) (w:World),listed.toList.count false=fuel->listed.size=l.length->(∀ i o,l[i]? =some o->fl listed i=true->∀ e∈o.after,Region.binds .any e=true->fl listed e.on=true)->(∀ i,m<=i->fl listed i=false)->
    SIE κ P N H G q l T vs B w0 I0 ρ0 (fl listed) a w->wpAnyIn (Fr R) 0 P .any l.toArray QX fuel listed a w:=by
 intro fuel
 have hlk:=ux (vs:=vs) hk hm h0 (fun i o hi ho=>(h1 i o hi ho).2.2)
 have done:∀(fuel:Nat) (listed:Array Bool) (a:Act) (w:World),listed.toList.count false=fuel->listed.size=l.length->(∀ i,m<=i->fl listed i=false)->(∀ i,i<m->fl listed i=true)->SIE κ P N H G q l T vs B w0 I0 ρ0 (fl listed) a w->wpAnyIn (Fr R) 0 P .any l.toArray QX fuel listed a w:=by
  intro fuel listed a w mE hsz xD hall hsi
  obtain⟨I,ρ,he,hi,hs,cu,hmk⟩:=hsi
  rw[hall q hq] at hi
  obtain⟨H2,hG,hi⟩:=hi
  have hG:G H2:=hG
  have hfl:∀ i,fl listed i=decide (i<m):=fun i=>by
   by_cases h:i<m
   ·rw[hall i h];simp[h]
   ·rw[xD i (by omega)];simp[h]
  have Fe:fuel+m=l.length:=by
   exact DM
  refine sy hk fuel m listed a w Fe (Ze _) hsz (fun i _=>hfl i) (hK H2 hG a w I ρ he hi ⟨hs,fun s v hv=>cu s v ?_⟩ hmk)
  rw[<- hv,hlk m (Ze _)]
  exact gS hk fun j o hj hd=>hfl j
 induction fuel with
 | zero=>
  exact ng
 | succ fuel ih=>
  intro listed a w mE hsz hcl xD hsi
  by_cases hall:∀ i,i<m->fl listed i=true
  ·exact mJ
  ·obtain⟨i0,vB,hmin⟩:∃ i0,(i0<m∧fl listed i0=false)∧∀ j,j<i0->fl listed j=true:=by
     exact mW
   have Ks:l[i0]? =some (l[i0]'(by omega)):=Zb _
   have zy:i0∈Region.ready .any l.toArray listed:=by
    exact nE
   refine⟨(fun h=>by rw[h] at zy;cases zy),fun i hi=> ?_⟩
   obtain⟨h3,o,ho',UW⟩:=mem_ready.1 hi
   have ho:l[i]? =some o:=by simpa using ho'
   have hilt:=bW ho
   have vf:∀ j oj,l[j]? =some oj->(decide (j=i)||fl listed j)=true->∀ e∈oj.after,Region.binds .any e=true->(decide (e.on=i)||fl listed e.on)=true:=fun j oj hj tU e he hb=>by
    exact kV
   have pH:i<m:=by
    exact nk
   have tB:fl listed i=false:=by
    exact kj
   obtain⟨sO,hy,_⟩:=h1 i o pH ho
   obtain⟨I,ρ,he,hinv,hs,cu,hmk⟩:=hsi
   have l9:∀ s v,lk (bE l.toArray o (Tx i)) s=some v->az P w I ρ v (a.tmps.getD s undef):=by
    exact mK
   have Av:bn P w I ρ N (bE l.toArray o (Tx i)) a.tmps:=⟨hs,l9⟩
   have next:∀ u w' I' ρ',Ext w I ρ w' I' ρ'->Yj P G H (fl (listed.setIfInBounds i true) q) w' I' ρ'->az P w' I' ρ' (vs i) u->wpAnyIn (Fr R) 0 P .any l.toArray QX fuel (listed.setIfInBounds i true) (a.put o.dst u) w':=by
    exact mR
   have step:∀(H0:List ai),Inv P w I ρ H0->(∀ u w' I' ρ',Ext w I ρ w' I' ρ'->Inv P w' I' ρ' H0->az P w' I' ρ' (vs i) u->wpAnyIn (Fr R) 0 P .any l.toArray QX fuel (listed.setIfInBounds i true) (a.put o.dst u) w')->YJ P N l.toArray o (Tx i) H0 (vs i)->
       wpOpIn (Fr R) 0 P l.toArray QX i (wpAnyIn (Fr R) 0 P .any l.toArray QX fuel (listed.setIfInBounds i true)) a w:=by
    intro H0 hinv next hy
    unfold wpOpIn
    simp only[ho']
    rcases hy with⟨hg,hop⟩ | ⟨j,want,s,c,x,v',hg,pE,Et,hb,hc,hv,hop⟩
    ·exact kB
    ·exact nF
   rcases hy with⟨F5,hy⟩ | ⟨F5,hop⟩
   ·have e:fl (listed.setIfInBounds i true) q=fl listed q:=by
      rw[gO (by omega)]
      simp[Ne.symm F5]
    rw[e] at next
    obtain⟨H0,hG,hinv⟩:=hinv
    refine step H0 hinv (fun u w' I' ρ' g1 g2 g3=>next u w' I' ρ' g1 ⟨H0,hG,g2⟩ g3) (hy H0 ?_)
    cases hfq:fl listed q with
    | true=>rw[hfq] at hG;exact .inr hG
    | false=>rw[hfq] at hG;exact .inl hG
   ·subst F5
    rw[tB] at hinv
    obtain⟨H0,rfl,hinv⟩:=hinv
    rw[show fl (listed.setIfInBounds i true) i=true by rw[gO (by omega)];simp] at next
    unfold wpOpIn
    simp only[ho']
    rcases hop with⟨hg,hop⟩ | ⟨j,want,s,x,T2,hg,pE,Et,hb,hc,h2,hop⟩
    ·simp only[Region.wanted,hg,if_true]
     exact hop R w I ρ a hinv Av _ _ fun u w' I' ρ' H2 g0 g1 g2 g3=>next u w' I' ρ' g1 ⟨H2,g0,g2⟩ g3
    ·have uC:=l7 pE Av Et hb hc
     simp only[Region.wanted,hg,uC,if_true]
     exact hop R w I ρ a hinv (Av.rF h2) _ _ fun u w' I' ρ' H2 g0 g1 g2 g3=>next u w' I' ρ' g1 ⟨H2,g0,g2⟩ g3
theorem aI.Cc{id:Nat}(m:Nat)(G:List ai->Prop)(EX:P.follows .mixedOrders=true)(hk:jh m l=true)(hm:m<=l.length)(h:bU P N l.toArray H G (fun T'=>∀ H2,G H2->aj P R N κ l.toArray (l.drop m) Q T' H2) false (l.take m) T):aI P R N κ (.region id l.toArray true) Q T H:=by
 intro B w I ρ a hi ht hmk
 obtain⟨vs,Tx,q,h0,FF,_,h1,h2⟩:=bU.vals h
 have hq:q<m:=by have:=FF rfl;simp at this;omega
 have hlen:(l.take m).length=m:=by simp;omega
 rw[hlen] at h2
 refine wpIn_region_any EX ?_
 have hi':Inv P w.drew I ρ H:=hi.drew
 refine FR (κ:=κ) (G:=G) (ff.of hk) hm hq (B:=B) (w0:=w) (I0:=I) (ρ0:=ρ) h0 (fun i o pH ho=>h1 i o (by rw[ZQ,if_pos pH];exact ho)) ?_ _ _ a w.drew (by simp) (by simp) ?_ ?_ ?_
 ·intro H2 hG a' w' I' ρ' he hi2 jz hm2
  exact h2 H2 hG _ B w' I' ρ' a' hi2 jz hm2 fun e a2 w2 q=>QC.ext he q
 ·exact mX
 ·exact mP
 ·have e0:fl (Array.replicate l.length false) q=false:=by
    exact uJ
  refine⟨I,ρ,Ext.drew.w,⟨H,(show(bif fl (Array.replicate l.length false) q then G H else H=H) from by rw[e0];rfl),hi'⟩,ht.size,fun s v hv=> ?_,hmk.ext Ext.drew⟩
  exact vX
end
end
def Rv(P:Program)(k0 i:Nat)(cell:Nat->ai)(f:FuncId)(mk:V->List V)(xs:List (List V)):Prop:=
 ∀(l κ n:Nat) (inv:Nat->List ai->Prop) (fin:List ai->Prop),k0<=κ->κ<=n->(∀ k h,inv k h->h.length=n∧h[i]? =some (cell k))->(∀ h,fin h->h.length=n)->
  (∀ k h x,inv k h->xs[k]? =some x->rZ P l κ (h.set i (cell (k+1))) x fun b h'=>if b=true then inv (k+1) h' else fin h')->
  ∀ h0,inv 0 h0->jU P κ f (mk (j6 l)) h0 fun _ h'=>inv xs.length h'∨fin h'
section
variable {P:Program} {R:Option Nat} {N κ:Nat} {Q Q':Post} {T T' T2 T3:Tm} {H H' H2 H3:List ai} {o:Oper} {ops:Array Oper} {rest:List Oper}
theorem aI.F4{g:Operand}{ps:Array Tmp}{fj body:Code}{fv:V}{f:FuncId}{mk:V->List V}{xs:List (List V)}(k0 κ2 i:Nat)(cell:Nat->ai)(hg:ev T g=some fv)(hc:∀ y,callee [y] fv=some (f,mk y))(hf:ak P f=true)(E6:Rv P k0 i cell f mk xs)
    (hk0:k0<=κ2)(hκ:κ<=κ2)(YO:κ2<=H.length)(hR:∀ l0,R=some l0->∃(i0:Nat) (r0:uH) (st:LoopState) (pe:Option Code),r0.l=l0∧H[i0]? =some (.loop r0 st pe))(hps:∀ x∈xs,x.length=ps.size)(hlt:ps.toList.all (fun p=>Nat.blt p N)=true)
    (J:Nat->List ai->Prop)(Jx:Code->List ai->Prop)(hJ:∀ k h,J k h->h.length=H.length∧h[i]? =some (cell k))(MP:∀ c h,Jx c h->h.length=H.length)(h0:J 0 H)
    (round:∀ l tmps k h x,J k h->xs[k]? =some x->Round P N κ2 ⟨l,tmps,T,ps,fj,body⟩ k H.length J Jx (mF T ps.toList x) (h.set i (cell (k+1))++[.loop ⟨l,tmps,T,ps,fj,body⟩ .ready none]))
    (done:∀ h,J xs.length h->Q .normal T (h++[.dead]))(stop:∀ c h,Jx c h->aI P R N κ c Q T (h++[.dead])):aI P R N κ (.rangeFunc g ps fj body) Q T H:=by
 intro B w I ρ a hi ht hm
 refine wpIn_rangeFunc ?_
 intro fn _
 -- the record
 have entry:∃(l:Nat) (mark:List Deferred) (w1:World),(Instr.enterLoop fn a.tmps ps fj body R).run P w= .ok (l,mark) w1∧Ext w I ρ w1 I (ρ++[l])∧
     Inv P w1 I (ρ++[l]) (H++[.loop ⟨l,a.tmps,T,ps,fj,body⟩ .ready none])∧Marks κ B w1 I (ρ++[l]) (mark++a.defers):=by
  cases R with
  | none=>
   have hi1:=Inv.dI hi (.deferred (some []))
   have W7:=Ext.dI hi (.deferred (some []))
   let ob:Obj:= .loop {state:= .ready,pending:=none,fn,tmps:=a.tmps,params:=ps,assign:=fj,body,defers:=w.heap.size}
   have Mv:Ext (w.alloc (.deferred (some []))) I ρ _ I _:=Ext.aO hi1 ob
   have hE:=W7.trans Mv
   have hsz:(w.alloc (.deferred (some []))).heap.size=w.heap.size+1:=by simp
   rw[hsz] at hE
   refine⟨w.heap.size+1,_,_,run_enterLoop_outer fn a.tmps ps fj body,hE,?_,?_⟩
   ·have hx:cN P ((w.alloc (.deferred (some []))).alloc ob) I (ρ++[w.heap.size+1]) (.loop ⟨w.heap.size+1,a.tmps,T,ps,fj,body⟩ .ready none) (w.heap.size+1):=by
      exact wQ
    have:=Inv.aO hi1 ob (blk:= .loop ⟨w.heap.size+1,a.tmps,T,ps,fj,body⟩ .ready none) (by rw[hsz];exact hx)
    rwa [hsz] at this
   ·exact uN
  | some l0=>
   obtain⟨i0,r0,st,pe,hl0,hH0⟩:=hR l0 rfl
   exact DY
 obtain⟨l,mark,w1,Vn,hE,hi1,E4⟩:=entry
 obtain⟨d,us,fT,hres,hinv⟩:=kg (ht.ext hE) hg (hc (j6 l)) hf
 refine⟨l,mark,w1,d,w1,f,us.toArray,w1,Vn,hres,(fun _ _=>trivial),hinv,(fun h=>by cases h),?_⟩
 have Bg:∀ k h,(∃ h0,J k h0∧h=h0++[ai.loop ⟨l,a.tmps,T,ps,fj,body⟩ .ready none])->h.length=H.length+1∧h[i]? =some (cell k):=by
  rintro k h ⟨h0,h1,rfl⟩
  have h2:=(hJ k h0 h1).2
  exact⟨by simp[(hJ k h0 h1).1],by rw[Zc (Za.1 h2).1];exact h2⟩
 have Bt:=E6 l κ2 (H.length+1) (fun k h=>∃ h0,J k h0∧h=h0++[ai.loop ⟨l,a.tmps,T,ps,fj,body⟩ .ready none]) (fun h=>∃ h0 c,Jx c h0∧h=h0++[ai.loop ⟨l,a.tmps,T,ps,fj,body⟩ .done (some c)])
  hk0 (by omega) Bg (by rintro h ⟨h0,c,h1,rfl⟩;simp[MP c h0 h1]) (by
   rintro k h x ⟨h0,h1,rfl⟩ hx
   have hlt2:=(Za.1 (hJ k h0 h1).2).1
   have:=Round.ok (r:=⟨l,a.tmps,T,ps,fj,body⟩) (h:=h0.set i (cell (k+1))) (by rw[yd];exact(hJ k h0 h1).1) (fun h e=>(hJ (k+1) h e).1) MP (hps x (Zh hx)) (fun p hp=>by
    have:=(Zz.1 hlt) p hp
    simpa[Nat.blt,Zw] using this) ht.size (round l a.tmps k h0 x h1 hx)
   rw[List.set_append_left _ _ hlt2]
   exact this) _ ⟨H,h0,rfl⟩ B.pre w1 I (ρ++[l]) us hi1 fT (E4.2.2.1) (ZT E4.2.1 hκ)
 refine CallsIn.mono (cE R Bt) ?_
 rintro e w3 ⟨u,v,I3,ρ3,H3,rfl,Fu,h1,h2,h3,h4⟩
 have HV:∀(h':List ai) (st:LoopState) (pe:Option Code),h'.length=H.length->st≠ .busy->H3=h'++[.loop ⟨l,a.tmps,T,ps,fj,body⟩ st pe]->
     ∃ w4,(Instr.endLoop l).run P w3= .ok pe w4∧cy w I ρ w4 I3 ρ3∧Inv P w4 I3 ρ3 (h'++[.dead])∧bn P w4 I3 ρ3 N T a.tmps∧Marks κ B w4 I3 ρ3 (mark++a.defers):=by
  rintro h' st pe hl' hst rfl
  have eK:(h'++[ai.loop ⟨l,a.tmps,T,ps,fj,body⟩ st pe])[H.length]? =some (.loop ⟨l,a.tmps,T,ps,fj,body⟩ st pe):=by rw[<- hl'];simp
  obtain⟨_,⟨fn3,d3,Ot⟩,XZ⟩:=jK h2 eK
  obtain⟨P9,Aw⟩:=og (st':= .exhausted) (UQ:=pe) h2 eK Ot _ rfl
  refine⟨_,run_endLoop Ot hst,(hE.w.trans h1).trans P9.w,?_,⟨ht.size,fun s v hv=>(XZ s v hv).ext P9⟩,(E4.IA h1 h4).ext P9⟩
  have:=Aw.kill H.length
  rw[<- hl',jm,jm] at this
  exact this
 rcases Fu with⟨h',hj,rfl⟩ | ⟨h',c,hj,rfl⟩
 ·obtain⟨w4,e1,e2,e3,e4,e5⟩:=HV h' .ready none (hJ _ _ hj).1 (by simp) rfl
  exact⟨none,w4,e1,.normal,I3,ρ3,T,_,trivial,done h' hj,e2,e3,e4,e5⟩
 ·exact CG
theorem aj.Tq(k d:Nat){l:Nat}{f:Operand}{xs:Array Operand}{ts:Array TypeId}{vs:List V}{Qb:Bool->List ai->Prop}(hk:k<=κ)(hκ:κ<=H.length)(ho:o.op= .call {callee:= .value f,args:=xs,argTypes:=ts})(hd:o.dst=some d)(hN:aZ N (some d)=true)
    (hg:o.guard=none)(hf:ev T f=some (j6 l))(hxs:kR T xs.toList=some vs)(hb:rZ P l κ H vs Qb)
    (next:∀ b h',Qb b h'->aj P R N κ ops rest Q ((d,.p (.bool b))::CY k T) h'):aj P R N κ ops (o::rest) Q T H:=by
 intro QX B w I ρ a hi ht hm hq
 refine wpListIn_plain hg fun K hK=>⟨bB,?_⟩
 rw[bD _ _ _ (by simp[ho])]
 have h1:=ht.ev hf
 have h2:=ht.kR hxs
 obtain⟨us,vs',hu,h3,h4⟩:=h1
 simp only[aR] at h3 h4
 have fT:us= #[]:=by simpa using h3
 have SV:vs'= #[]:=by simpa using h4
 subst fT SV
 obtain⟨fn,tmps,fj,body,hy,hr⟩:=hb (ρ.take κ) w I ρ _ hi h2 (List.take_prefix _ _) (by rw[x7];omega)
 have e:(execOp a.eval o).run P w= .ok (.round l fn tmps fj body) w:=by
  exact Dp
 rw[e]
 refine⟨(fun h=>by cases h),RoundIn.mono (wm _ hr) ?_⟩
 rintro e w' ⟨b,I',ρ',h',rfl,h5,h6,h7,h8⟩
 have h9:ρ.take k<+:ρ':=(List.take_prefix_take_left hk).trans h8
 have h10:B.pre<+:ρ':=by
  refine List.IsPrefix.trans ?_ h8
  obtain⟨t,ht⟩:=hm.2.2.1
  rw[<- ht,List.take_append,OB hm.2.1]
  exact U3 _ _
 have hto:=ht.CY h6 h9
 have hput:bn P w' I' ρ' N (fF (CY k T) o.dst (.p (.bool b))) (a.put o.dst (.bool b)).tmps:=bn.put (by rw[hd];exact hN) hto (by simp[az,Rel])
 rw[hd] at hput
 refine hK _ _ ?_
 rw[hd]
 exact next b h' h5 QX B w' I' ρ' _ h7 hput (hm.IA h6 h10).put fun e a2 w2 q=>hq e a2 w2 (QC.ext h6 q)
end
class aJ {α:Type} (x:α) (y:outParam α):Prop where
 h:x=y
theorem an{α:Type}{x y:α}[h:aJ x y]:x=y:=h.h
section
variable {P:Program} {R:Option Nat} {N κ:Nat} {Q:Post} {T:Tm} {H H':List ai} {o:Oper} {ops:Array Oper} {K:Tm->Prop} {rest:List Oper}
theorem Kc{d:Nat}{v:V}(hop:aa P N o T H v H')(next:aj P R N κ ops rest Q ((d,v)::T) H')(hd:o.dst=some d:=by rfl)(hN:aZ N (some d)=true:=by rfl)(hg:o.guard=none:=by rfl):aj P R N κ ops (o::rest) Q T H:=aj.c d hd hN hg hop next
theorem Kz{v:V}(hop:aa P N o T H v H')(next:aj P R N κ ops rest Q T H')(hd:o.dst=none:=by rfl)(hg:o.guard=none:=by rfl):aj P R N κ ops (o::rest) Q T H:=aj.c0 hd hg hop next
theorem Kq{d:Nat}{v:V}(hop:aa P N o (bE ops o T) H v H)(next:aE P N ops H K rest ((d,v)::T))(hd:o.dst=some d:=by rfl)(hN:aZ N (some d)=true:=by rfl)(hg:o.guard=none:=by rfl):aE P N ops H K (o::rest) T:=aE.cons d hd hN hg hop next
theorem Kl{x:Operand}{t:TypeId}{b:Bool}{n:Nat}{p:V}(v:V)(ho:o.op= .load t x:=by rfl)(hx:ev T x=some p:=by rfl)(ht:fm P t=some (b,n):=by exact an)(hl:c7 H b n p=some v:=by rfl):aa P N o T H v H:=aa.load ho hx ht hl
theorem Kp{g:FuncId}{args:List PV}{r:PV}(hp:Pure P g args r){f:Operand}{xs:Array Operand}{ts:Array TypeId}{fv:V}{vs:List V}(ho:o.op= .call {callee:= .value f,args:=xs,argTypes:=ts}:=by rfl)(hf:ev T f=some fv:=by rfl)
    (hxs:kR T xs.toList=some vs:=by rfl)(hc:callee vs fv=some (g,args.map .p):=by rfl)(hg:ak P g=true:=by exact an):aa P N o T H (.p r) H:=aa.e8 hp ho hf hxs hc hg
theorem Kg(d s r:Nat){j:Nat}{want c:Bool}{x v v0:V}(hv:lk T r=some v0)(hop:c=true->aa P N o [(r,v0)] H v H)(next:aj P R N κ ops rest Q ((d,.opt c v)::T) H)(hd:o.dst=some d:=by rfl)(hN:aZ N (some d)=true:=by rfl)(hg:o.guard=some (j,want):=by rfl)(hs:oP ops j=some s:=by rfl)(Et:aZ N (some s)=true:=by rfl)
    (hb:lk T s=some x:=by rfl)(hc:pZ want x=some c:=by rfl):aj P R N κ ops (o::rest) Q T H:=aj.g d s hd hN hg hs Et hb hc [(r,v0)] (fun h=>And.intro (.inl hv) trivial) hop next
theorem Kh(d s r:Nat){j:Nat}{want c:Bool}{x v v0:V}(hb:lk T s=some x)(hg:o.guard=some (j,want))(hc:pZ want x=some c)(hv:lk T r=some (.opt c v0))(hop:c=true->aa P N o [(r,v0)] H v H)(next:aj P R N κ ops rest Q ((d,.opt c v)::T) H)(hd:o.dst=some d:=by rfl)(hN:aZ N (some d)=true:=by rfl)(hs:oP ops j=some s:=by rfl)(Et:aZ N (some s)=true:=by rfl)
    :aj P R N κ ops (o::rest) Q T H:=aj.g d s hd hN hg hs Et hb hc [(r,v0)] (fun h=>And.intro (.inr ⟨_,hv,h⟩) trivial) hop next
theorem Ki{c:Operand}{x y:Code}{b:Bool}(ht:b=true->aI P R N κ x Q T H)(hf:b=false->aI P R N κ y Q T H)(hc:ev T c=some (.p (.bool b)):=by rfl):aI P R N κ (.cond c x y) Q T H:=aI.cond b hc ht hf
theorem Kf{f:FuncId}{fn:Func}{c:Code}{args:List PV}{r:PV}(hf:P.funcs[f]? =some fn)(h:aI P none N 0 c (Fin P N fn r) (cW 0 (args.map .p)) [])(hb:fn.body=some c:=by rfl)(hN:fn.ntmps=N:=by rfl)(hn:Nat.ble args.length N=true:=by rfl):Pure P f args r:=Pure.start hf hb hN (ZP hn) h
theorem Kn{a b:Nat}(h:Nat.ble a b=true:=by rfl):a<=b:=ZP h
theorem KS{T2:Tm}(h:Sub T2 T:=by repeat (first | exact Sub.nil | refine Sub.cons rfl ?_)):Sub T2 T:=h
end
theorem af{A B:Prop}(x:A)(h:A->B:=by
 intro ha
 first
 | refine aj.c _ rfl rfl rfl (aa.assign rfl rfl) ?_
 | refine aj.c _ rfl rfl rfl (aa.move rfl rfl) ?_
 | refine aj.nil ?_
 | refine aI.seq ?_
 | refine aI.region ?_
 | refine aj.c _ rfl rfl rfl (aa.fieldAddr rfl rfl an rfl) ?_
 | refine aj.c _ rfl rfl rfl (aa.load rfl rfl an rfl) ?_
 | refine aI.skip ?_
 | refine aI.ret ?_
 | refine aE.cons _ rfl rfl rfl (aa.move rfl rfl) ?_
 | refine aE.cons _ rfl rfl rfl (aa.fieldAddr rfl rfl an rfl) ?_
 | refine aE.cons _ rfl rfl rfl (aa.load rfl rfl an rfl) ?_
 | refine aj.c0 rfl rfl (aa.store rfl rfl rfl rfl rfl an rfl rfl) ?_
 | refine aj.c _ rfl rfl rfl (aa.extract rfl rfl rfl) ?_
 | refine aj.c _ rfl rfl rfl (aa.cD rfl rfl an rfl) ?_
 | refine aI.block ?_
 | refine aj.c _ rfl rfl rfl (aa.lss rfl rfl rfl) ?_
 | refine aj.c _ rfl rfl rfl (aa.aO rfl an rfl) ?_
 | refine aj.c _ rfl rfl rfl (aa.build rfl an rfl rfl) ?_
 | refine aj.c _ rfl rfl rfl (aa.Uo rfl rfl rfl) ?_
 | refine aj.c _ rfl rfl rfl (aa.gH rfl rfl) ?_
 | refine aj.c _ rfl rfl rfl (aa.eql rfl rfl rfl) ?_
 | refine aj.c _ rfl rfl rfl (aa.neq rfl rfl rfl) ?_
 | refine aj.c _ rfl rfl rfl (aa.geq rfl rfl rfl) ?_
 | refine aj.c _ rfl rfl rfl (aa.leq rfl rfl rfl) ?_
 | refine aj.c _ rfl rfl rfl (aa.gtr rfl rfl rfl) ?_
 | refine aj.c _ rfl rfl rfl (aa.nilCheck rfl rfl) ?_
 | refine aE.cons _ rfl rfl rfl (aa.assign rfl rfl) ?_
 | refine bu.cons _ rfl rfl rfl (fun _=>(aa.move rfl rfl)) rfl ?_
 | refine bu.cons _ rfl rfl rfl (fun _=>(aa.fieldAddr rfl rfl an rfl)) rfl ?_
 | refine aI.scope ?_
 | refine aI.label ?_
 exact ha):B:=h x
section
variable {P:Program} {R:Option Nat} {N κ:Nat} {Q:Post} {T:Tm} {H:List ai} {o:Oper}
end
section
variable {P:Program} {R:Option Nat} {N κ:Nat} {Q:Post} {T:Tm} {H:List ai} {o:Oper}
variable {K α:Type} [DecidableEq K] {enc:K->PV} {g:α->V} {k:TypeId} {val:K->Value}
end
section
variable {P:Program} {R:Option Nat} {N κ:Nat} {Q:Post} {T:Tm} {H:List ai} {G:List ai->Prop} {o:Oper} {ops:Array Oper} {rest:List Oper}
end
end Go.AF
end
