/-
 An own slice that grew in the caller's place moves to a place of the function's own. No condition; generic over any program.
 Functions that may panic: contracts with two ends; calls of them; a frame rule for calls on some own blocks that may lay new ones. No condition; generic over any program.
 A frame rule: a call that works on the own blocks at some places, live ones or ones that are not laid yet, and may lay new ones. No condition; generic over any program.
 Texts: bytes as lists; own rows that are frozen in part (the buffer of a builder); appending texts. No condition; generic over any program.
 Texts, second part: ranges over texts, conversions, builders, type assertions, panics. No condition; generic over any program.
 Type assertions, panics, the own address of a builder, the text of a buffer. No condition; generic over any program.
 Builders: a struct that holds its own address and a buffer, both nil as long as nothing is written. No condition; generic over any program.
 Functions that defer a call of a closure that may recover. No condition; generic over any program.
 Contracts of the library's shelf as pure functions; type assertions by what a value is. No condition; generic over any program.
 A piece of code that looks at no own block, before and after it: the caller's own blocks stay as they are. No condition; generic over any program.
 Readers: a struct that holds what is left of a text; functions that read it and may panic with one value. No condition; generic over any program.
 Windows of own rows; copying from one to another. No condition; generic over any program.
 Appending to an accumulator what may be empty. No condition; generic over any program.
 An interface that is nil. No condition; generic over any program.
 An own slice that grew in a cell of an own row becomes content there; cells at the end of own rows. No condition; generic over any program.
 Contracts of the library's shelf that leave what was there as it was; the variable that start-up code sets by the machine; a row that is handed what its list says and the world's shape. No condition; generic over any program.
-/
import Derived.Test.YtibffijhebobmaaGreatDoorFaUD
import Derived.Lib.UnsafeStr
import Derived.Lib.Builder
import Derived.Lib.ConvBytes
import Derived.Laws.BytesString
import Derived.Laws.Externs
import Derived.RecoverIn
import Derived.Sort.Grow
import Derived.Lib.LaidTab
import Derived.Deep.Draws
import Derived.Handed
import Derived.Below
import Derived.Shelf.Vars
theorem CR{A:Prop}(h:A:=by
 simp only[execOp,ho,Go.resolve,Go.invoke,Go.builtin,Sem.run_bind]
 simp only[Sem.run_pure,Result.andThen,List.map_toArray,Zx,xo,FU,Sem.run_bind,this]
 rfl):A:=h
theorem Dv{A:Prop}(h:A:=by
 unfold KL at ht
 cases hu:P.underlying t with
 | none=>simp[hu] at ht
 | some d=>cases d <;> simp[hu] at ht;exact⟨_,rfl⟩):A:=h
theorem Cw{A:Prop}(h:A:=by
 cases hu:P.underlying t with
 | none=>simp[hu] at h
 | some d=>cases d <;> simp[hu] at h;rfl):A:=h
set_option linter.unusedSimpArgs false
set_option linter.unusedVariables false
section
namespace Go.AF
open Go
section
variable {P:Program} {N κ:Nat} {T:Tm} {H:List ai}
theorem qY{l:List ai}{i:Nat}{x:ai}(h:l[i]? =some x):l.set i x=l:=by
 apply Gg
 intro j
 rw[Zu]
 split
 ·rename_i hij
  subst hij
  split
  ·exact h.symm
  ·rename_i h2;rw[ZE (by omega)]
 ·rfl
end
end Go.AF
namespace Go.AF
open Go
section
variable {P:Program} {N κ:Nat} {T:Tm} {H:List ai} {o:Oper}
end
def au(P:Program)(f:FuncId)(args:List V)(H:List ai)(Qr:V->List ai->Prop)(Qp:PV->List ai->Prop):Prop:=
 ∀ w I ρ us,Inv P w I ρ H->ag P w I ρ args us->CallsIn Fence.wide 0 P f us.toArray w fun e w'=>
  (∃ u v I' ρ' H',e= .returned u∧Qr v H'∧Ext w I ρ w' I' ρ'∧Inv P w' I' ρ' H'∧az P w' I' ρ' v u)∨
  (∃ u y I' ρ' H',e= .panicked [{v:=u,recovered:=false}]∧Qp y H'∧Ext w I ρ w' I' ρ'∧Inv P w' I' ρ' H'∧Rel w' I' y u)
def iy(P:Program)(N:Nat)(fn:Func)(Qr:V->List ai->Prop)(Qp:PV->List ai->Prop):Post
 | .panic v,_,H=>∃ y,v= .p y∧Qp y H
 | x,T,H=>lK P N fn Qr x T H
section
variable {P:Program} {R:Option Nat} {N κ:Nat} {Q:Post} {T:Tm} {H:List ai} {o:Oper}
theorem ax.OD{f:FuncId}{args:List V}{Qr:V->List ai->Prop}{Qp:PV->List ai->Prop}(h:ax P f args H Qr):au P f args H Qr Qp:=
 fun w I ρ us hi fT=>(h w I ρ us hi fT).mono fun _ _ hh=> .inl hh
theorem au.toC{f:FuncId}{args:List V}{Qr:V->List ai->Prop}{Qp:PV->List ai->Prop}(h:au P f args H Qr Qp)(hn:∀ y H',¬ Qp y H'):ax P f args H Qr:=
 fun w I ρ us hi fT=>(h w I ρ us hi fT).mono fun _ _ hh=>by
  rcases hh with hh | ⟨u,y,_,_,_,_,hy,_⟩
  ·exact hh
  ·exact absurd hy (hn y _)
theorem au.mono{f:FuncId}{args:List V}{Qr Vu:V->List ai->Prop}{Qp XD:PV->List ai->Prop}(h:au P f args H Qr Qp)(hq:∀ v H',Qr v H'->Vu v H')(hp:∀ y H',Qp y H'->XD y H'):au P f args H Vu XD:=
 fun w I ρ us hi fT=>(h w I ρ us hi fT).mono fun _ _ hh=>by
  rcases hh with⟨u,v,J,σ,H',h1,h2,h3⟩ | ⟨u,y,J,σ,H',h1,h2,h3⟩
  ·exact .inl ⟨u,v,J,σ,H',h1,hq _ _ h2,h3⟩
  ·exact .inr ⟨u,y,J,σ,H',h1,hp _ _ h2,h3⟩
theorem oS{F:Fence}{fn:Func}{tmps:Array Value}{chain:List PanicEntry}{Rr:Ending->World->Prop}:∀(rs:List Nat) (w:World),rs.Nodup->(∀ r∈rs,w.heap[r]? =some (Obj.deferred (some [])))->
    (∀ w',(∀ b,b∉rs->w'.heap[b]? =w.heap[b]?)->w'.os=w.os->w'.tape=w.tape->w'.output=w.output->w'.heap.size=w.heap.size->Rr (.panicked chain) w')->
    LeavesInM F 0 P fn tmps Rr (rs.map fun r=>{target:= .collected r,args:= #[]}) (.panicking chain) w:=by
 intro rs
 induction rs with
 | nil=>
  intro w _ _ h
  have h1:=h w (fun _ _=>rfl) rfl rfl rfl rfl
  simp only[xo,LeavesInM,LeavesIn]
  exact h1
 | cons r rs ih=>
  exact Ay
theorem ji{w w' w2:World}{I I':Nat->Prop}{ρ ρ':List Nat}{H':List ai}{T':Tm}{tmps:Array Value}{rs:List Nat}(h3:cy w I ρ w' I' ρ')(h4:Inv P w' I' ρ' H')(h5:bn P w' I' ρ' N T' tmps)(hpre:ρ<+:ρ')
    (h8:∀ r∈rs,w'.heap[r]? =some (Obj.deferred (some []))∧¬ I' r∧w.heap.size<=r)(k1:∀ b,b∉rs->w2.heap[b]? =w'.heap[b]?)(k2:w2.os=w'.os)(k3:w2.tape=w'.tape)(k4:w2.output=w'.output)(k5:w2.heap.size=w'.heap.size):
    Inv P w2 I' ρ' H'∧bn P w2 I' ρ' N T' tmps∧Ext w I ρ w2 I' ρ'∧∀ b,I' b->w2.heap[b]? =w'.heap[b]? :=by
 have kI:∀ b,I' b->w2.heap[b]? =w'.heap[b]? :=fun b hb=>k1 b (fun hm=>(h8 b hm).2.1 hb)
 have kρ:∀ b:Nat,w'.heap[b]? ≠some (Obj.deferred (some []))->w2.heap[b]? =w'.heap[b]? :=fun b hb=>k1 b (fun hm=>hb (h8 b hm).1)
 have ks:∀ b s,w'.shape? b=some s->w2.shape? b=some s:=fun b s hs=>by
  exact qJ
 have hi2:Inv P w2 I' ρ' H':=h4.marks k5 kI kρ ks
 have jz:bn P w2 I' ρ' N T' tmps:=⟨h5.size,fun s x hx=>az.mono (fun _ h=>h) kI (ZI _) (fun b _ s h=>ks b s h) x _ (h5.at_ s x hx)⟩
 have hlow:∀ b,b<w.heap.size->w2.heap[b]? =w'.heap[b]? :=fun b hb=>k1 b (fun hm=>by have:=(h8 b hm).2.2;omega)
 exact⟨hi2,jz,⟨⟨k2.trans h3.os,k3.trans h3.tape,k4.trans h3.output,by rw[k5];exact h3.size,fun b hb hn=>(hlow b hb).trans (h3.keep b hb hn),
  fun b s hs=>ks b s (h3.shape b s hs),h3.lu,fun b hb=>(kI b (h3.lu b hb)).trans (h3.bf b hb),h3.ew,fun b hb=>(hlow b (ZN.1 hb).1).trans (h3.cL b hb),h3.j9,h3.new⟩,hpre⟩,kI⟩
theorem au.start{f:FuncId}{fn:Func}{c:Code}{args:List V}{Qr:V->List ai->Prop}{Qp:PV->List ai->Prop}(hf:P.funcs[f]? =some fn)(hb:fn.body=some c)(hN:fn.ntmps=N)(hn:args.length<=N)
    (h:aI P none N H.length c (iy P N fn Qr Qp) (cW 0 args) H):au P f args H Qr Qp:=by
 subst hN
 intro w I ρ us hi fT
 have hl:=ag.length fT
 refine callsIn_of_wp_marks hf hb trivial ?_ rfl
 have ht:bn P w I ρ fn.ntmps (cW 0 args) (us.toArray++Array.replicate (fn.ntmps - us.toArray.size) undef):=by
  exact nc
 refine wpIn_mono (h ⟨w.heap.size,ρ,[]⟩ w I ρ {tmps:=us.toArray++Array.replicate (fn.ntmps - us.toArray.size) undef,defers:=[]} hi ht ⟨Ze _,Oz hi.len,ZI _,[],rfl,OQ,fun _ h=>by cases h⟩) ?_
 rintro e a' w' ⟨z,I',ρ',T',H',h1,h2,h3,h4,h5,hB,_,hpre,rs,h6,h7,h8⟩
 have fin:(z= .normal∨z= .ret)->lK P fn.ntmps fn Qr z T' H'->LeavesInM Fence.wide 0 P fn a'.tmps (fun e w'=>
     (∃ u v I' ρ' H',e= .returned u∧Qr v H'∧Ext w I ρ w' I' ρ'∧Inv P w' I' ρ' H'∧az P w' I' ρ' v u)∨
     (∃ u y I' ρ' H',e= .panicked [{v:=u,recovered:=false}]∧Qp y H'∧Ext w I ρ w' I' ρ'∧Inv P w' I' ρ' H'∧Rel w' I' y u)) a'.defers .returning w':=by
  rintro _ ⟨_,v,hv,hq⟩
  rw[h6]
  show LeavesInM _ _ _ _ _ _ (_++[]) _ _
  rw[ZU]
  refine lM rs w' h7 (fun r hr=>(h8 r hr).1) ?_
  intro w2 k1 k2 k3 k4 k5
  obtain⟨hi2,jz,oO,_⟩:=ji h3 h4 h5 hpre h8 k1 k2 k3 k4 k5
  obtain⟨u,hu1,Pe⟩:=hv w2 I' ρ' a'.tmps hi2 jz
  exact⟨u,hu1,.inl ⟨u,v,I',ρ',H',rfl,hq,oO,hi2,Pe⟩⟩
 cases z with
 | normal=>cases e <;> first | exact h1.elim | exact fin (.inl rfl) h2
 | ret=>cases e <;> first | exact h1.elim | exact fin (.inr rfl) h2
 | exit i=>exact absurd h2.1 (by rintro(h | h) <;> cases h)
 | panic v=>
  cases e <;> first | exact h1.elim | skip
  obtain⟨y,rfl,hy⟩:=h2
  obtain⟨u,rfl,hu⟩:=h1
  show LeavesInM _ _ _ _ _ _ _ _ _
  rw[h6]
  show LeavesInM _ _ _ _ _ _ (_++[]) _ _
  rw[ZU]
  refine oS rs w' h7 (fun r hr=>(h8 r hr).1) ?_
  intro w2 k1 k2 k3 k4 k5
  obtain⟨hi2,jz,oO,kI⟩:=ji h3 h4 h5 hpre h8 k1 k2 k3 k4 k5
  exact .inr ⟨u,y,I',ρ',H',rfl,hy,oO,hi2,Rel.mono (fun _ h=>h) kI _ _ hu⟩
theorem aj.e8(d:Nat){ops:Array Oper}{rest:List Oper}{f:Operand}{xs:Array Operand}{ts:Array TypeId}{fv:V}{vs all:List V}{g:FuncId}{Qr:V->List ai->Prop}{Qp:PV->List ai->Prop}(hp:au P g all H Qr Qp)(ho:o.op= .call {callee:= .value f,args:=xs,argTypes:=ts})(hd:o.dst=some d)(hN:aZ N (some d)=true)(hgd:o.guard=none)(hf:ev T f=some fv)
    (hxs:kR T xs.toList=some vs)(hc:callee vs fv=some (g,all))(hg:ak P g=true)(zV:∀ y H',Qp y H'->Q (.panic (.p y)) T H')(next:∀ v H',Qr v H'->aj P R N κ ops rest Q ((d,v)::T) H'):aj P R N κ ops (o::rest) Q T H:=by
 intro QX B w I ρ a hi ht hm hq
 refine wpListIn_plain hgd fun K hK=> ?_
 refine⟨bB,?_⟩
 rw[bD _ _ _ (by simp[ho])]
 obtain⟨us,h1,h2⟩:=dP ho ht hf hxs hc hg
 rw[h2]
 refine⟨(fun h=>by cases h),?_⟩
 refine CallsIn.mono (cE R (hp w I ρ us hi h1)) ?_
 rintro e w' (⟨u,v',J,σ,H2,rfl,hQ,h3,h4,h5⟩ | ⟨u,y,J,σ,H2,rfl,hQ,h3,h4,h5⟩)
 ·refine hK _ _ ?_
  refine next v' H2 hQ QX B w' J σ (a.put o.dst u) h4 (by rw[hd];exact(ht.ext h3).put hN h5) ((hm.ext h3).put) fun e a2 w2 q=>hq e a2 w2 (QC.ext h3.w q)
 ·refine hq _ _ _ ⟨.panic (.p y),J,σ,T,H2,⟨u,rfl,h5⟩,zV y H2 hQ,h3.w,h4,ht.ext h3,hm.ext h3⟩
end
def nU(H:List ai)(ks:List Nat)(i:Nat):Option Nat:=if (H.getD i .dead).live=true then pl ks i else none
def dK(H:List ai)(ks:List Nat)(j:Nat):Option Nat:=match ks[j]? with
 | some i=>if (H.getD i .dead).live=true then some i else none
 | none=>some (H.length+(j - ks.length))
def bh(H:List ai)(ks:List Nat)(H':List ai):List ai:=ke H ks ((H'.take ks.length).map (aD (dK H ks)))++(H'.drop ks.length).map (aD (dK H ks))
section
variable {P:Program} {R:Option Nat} {N κ:Nat} {Q:Post} {T:Tm} {H:List ai} {o:Oper}
theorem au.frame{g:FuncId}{args jo:List V}{H0:List ai}{Qr:V->List ai->Prop}{Qp:PV->List ai->Prop}(ks:List Nat)(hp:au P g jo H0 Qr Qp)(ha:bq (nU H ks) args=jo)(h0:(ks.map fun i=>aD (nU H ks) (H.getD i .dead))=H0)
    (hks:(ks.all (fun i=>Nat.blt i H.length)&&decide ks.Nodup)=true)
    (hQ:∀ v H',Qr v H'->ks.length<=H'.length∧∀(j i:Nat) (y:ai),ks[j]? =some i->(H.getD i .dead).live=false->H'[j]? =some y->y.live=false):
    au P g args H (fun v H'=>∃ v0 tI,Qr v0 tI∧v=aW (dK H ks) v0∧H'=bh H ks tI) (fun y H'=>(∃ tI,Qp y tI)∧H'=ke H ks (ks.map fun _=>ai.dead)):=by
 intro w I ρ us hi fT
 simp only[Zk,Zz,Zj] at hks
 have hlt:∀ i∈ks,i<H.length:=fun i h=>by have:=hks.1 i h;simpa[Nat.blt,Zw] using this
 have oC:∀ i,i<H.length->H[i]? =some (H.getD i .dead):=fun i h=>by simp[h]
 obtain⟨ρ2,Yl⟩:∃ ρ2,ρ2=ks.map fun i=>if (H.getD i .dead).live=true then ρ.getD i 0 else w.heap.size:=⟨_,rfl⟩
 have jH:ρ2.length=ks.length:=by rw[Yl,Zo]
 have qZ:∀ j i:Nat,ks[j]? =some i->(H.getD i .dead).live=true->ρ2[j]? =ρ[i]? :=fun j i h hl=>by
  exact Ep
 have hρd:∀ j i:Nat,ks[j]? =some i->(H.getD i .dead).live=false->ρ2[j]? =some w.heap.size:=fun j i h hl=>by
  exact BH
 have yE:∀ b,b∈ρ2->b∈ρ∨b=w.heap.size:=fun b hb=>by
  exact Bb
 have hσ:∀ i j b:Nat,nU H ks i=some j->ρ[i]? =some b->ρ2[j]? =some b:=fun i j b h hb=>by
  exact Ds
 have eK:∀(j b:Nat) (blk:ai),ρ2[j]? =some b->H0[j]? =some blk->∃ i x,ks[j]? =some i∧H[i]? =some x∧blk=aD (nU H ks) x∧(x.live=true->ρ[i]? =some b):=by
  exact DG
 have hsub:Inv P w I ρ2 H0:=by
  exact EE
 have hargs:ag P w I ρ2 jo us:=by rw[<- ha];exact ep hσ args us fT
 -- what an own block that is at none of the places has, stays
 have JL:∀(i b:Nat) (x:ai),ρ[i]? =some b->H[i]? =some x->x.live=true->i∉ks->b∉ρ2:=fun i b x g1 g2 g3 g4 hb=>by
  exact DE
 refine CallsIn.mono (hp w I _ us hsub hargs) ?_
 rintro e w' (⟨u,v0,J,σ,H2,rfl,hq,h3,h4,h5⟩ | ⟨u,y,J,σ,H2,rfl,hy,h3,h4,h5⟩)
 ·left
  obtain⟨ur,Rj⟩:=hQ _ _ hq
  obtain⟨ext,TA⟩:=h3.pre
  subst TA
  have Ld:(ρ2++ext).length=H2.length:=h4.len
  rw[Zd,jH] at Ld
  have hleft:∀ j,j<ks.length->(ρ2++ext)[j]? =ρ2[j]? :=fun j hj=>Zc (by rw[jH];exact hj)
  have hright:∀ j,(ρ2++ext)[ks.length+j]? =ext[j]? :=fun j=>by rw[Zi (by rw[jH];omega),jH,ZK]
  have zR:∀ j,(ρ++ext)[H.length+j]? =ext[j]? :=fun j=>by rw[Zi (by rw[hi.len];omega),hi.len,ZK]
  have hτ:∀ j i b:Nat,dK H ks j=some i->(ρ2++ext)[j]? =some b->(ρ++ext)[i]? =some b:=fun j i b h hb=>by
   exact Cm
  have NL:∀ b,b∈ext->b∈ρ∨w.heap.size<=b:=fun b hb=>by
   exact Ef
  have hE:Ext w I ρ w' J (ρ++ext):=⟨⟨h3.w.os,h3.w.tape,h3.w.output,h3.w.size,fun b g1 g2=>h3.w.keep b g1 fun h=>by
      rcases yE b h with h | h
      ·exact g2 h
      ·omega,h3.w.shape,h3.w.lu,h3.w.bf,fun b h=>by
   rcases h3.w.ew b h with h | h | h
   ·exact .inl h
   ·exact w6
   ·exact .inr (.inr h),h3.w.cL,h3.w.j9,fun b h=>by
   rcases Zp.1 h with h | h
   ·exact .inl h
   ·exact NL b h⟩,⟨ext,rfl⟩⟩
  have hout:∀(i b:Nat) (x:ai),ρ[i]? =some b->H[i]? =some x->x.live=true->i∉ks->b∉ρ2++ext:=fun i b x g1 g2 g3 g4 hb=>by
   exact Ee
  have SO:(ke H ks ((H2.take ks.length).map (aD (dK H ks)))).length=H.length:=cI _ _ _
  have JD:∀(i:Nat) (blk:ai),(bh H ks H2)[i]? =some blk->blk.live=true->(∃(j:Nat) (x:ai),H2[j]? =some x∧blk=aD (dK H ks) x∧(ρ2++ext)[j]? =(ρ++ext)[i]? ∧(ks[j]? =some i∨(ks.length<=j∧i=H.length+(j - ks.length))))∨(i<H.length∧i∉ks∧H[i]? =some blk):=fun i blk h hlv=>by
   exact A2
  have hI:Inv P w' J (ρ++ext) (bh H ks H2):=by
   exact AG
  exact⟨u,_,J,ρ++ext,_,rfl,⟨v0,H2,hq,rfl,rfl⟩,hE,hI,eY hτ v0 u h5⟩
 ·right
  have hE:Ext w I ρ w' J ρ:=⟨⟨h3.w.os,h3.w.tape,h3.w.output,h3.w.size,fun b g1 g2=>h3.w.keep b g1 fun h=>by
      rcases yE b h with h | h
      ·exact g2 h
      ·omega,h3.w.shape,h3.w.lu,h3.w.bf,fun b h=>by
   rcases h3.w.ew b h with h | h | h
   ·exact .inl h
   ·exact w6
   ·exact .inr (.inr h),h3.w.cL,h3.w.j9,fun b h=> .inl h⟩,ZI _⟩
  have BR:∀(i:Nat) (blk:ai),(ke H ks (ks.map fun _=>ai.dead))[i]? =some blk->blk.live=true->i∉ks∧H[i]? =some blk:=fun i blk h hlv=>by
   rcases kO ks _ H i blk hks.2 (by rw[Zo]) h with⟨j,g1,g2⟩ | g
   ·rw[Zt,Zl] at g2
    obtain⟨_,_,rfl⟩:=g2
    cases hlv
   ·exact g
  refine⟨u,y,J,ρ,ke H ks (ks.map fun _=>ai.dead),rfl,⟨⟨_,hy⟩,rfl⟩,hE,⟨by rw[cI,hi.len],fun i b blk g1 g2 g3=> ?_,h4.ib,fun i b blk g1 g2 g3=> ?_,fun i i' b x z g1 g2 g3 g4 g5 g6=> ?_,fun i b blk g1 g2=> ?_,h4.gl⟩,h5⟩
  ·obtain⟨k1,k2⟩:=BR i blk g2 g3
   exact uF
  ·obtain⟨k1,k2⟩:=BR i blk g2 g3
   exact EI
  ·obtain⟨k1,k2⟩:=BR i x g3 g5
   obtain⟨m1,m2⟩:=BR i' z g4 g6
   exact hi.fK i i' b x z g1 g2 k2 m2 g5 g6
  ·cases hlv:blk.live with
   | false=>exact cN.gh hlv
   | true=>
    obtain⟨k1,k2⟩:=BR i blk g2 hlv
    exact cN.mono h3.w.lu h3.w.bf (ZI _) (fun b _ s hs=>h3.w.shape b s hs) (h3.w.keep b (hi.gf i b blk g1 k2 hlv) (JL i b blk g1 k2 hlv k1)) (hi.rel i b blk g1 k2)
theorem aj.M1(d:Nat)(ks:List Nat){jo:List V}{H0:List ai}{ops:Array Oper}{rest:List Oper}{f:Operand}{xs:Array Operand}{ts:Array TypeId}{fv:V}{vs all:List V}{g:FuncId}{Qr:V->List ai->Prop}{Qp:PV->List ai->Prop}(hp:au P g jo H0 Qr Qp)(ha:bq (nU H ks) all=jo)(h0:(ks.map fun i=>aD (nU H ks) (H.getD i .dead))=H0)
    (hks:(ks.all (fun i=>Nat.blt i H.length)&&decide ks.Nodup)=true)
    (hQ:∀ v H',Qr v H'->ks.length<=H'.length∧∀(j i:Nat) (y:ai),ks[j]? =some i->(H.getD i .dead).live=false->H'[j]? =some y->y.live=false)
    (ho:o.op= .call {callee:= .value f,args:=xs,argTypes:=ts})(hd:o.dst=some d)(hN:aZ N (some d)=true)(hgd:o.guard=none)(hf:ev T f=some fv)
    (hxs:kR T xs.toList=some vs)(hc:callee vs fv=some (g,all))(hg:ak P g=true)(zV:∀ y tI,Qp y tI->Q (.panic (.p y)) T (ke H ks (ks.map fun _=>ai.dead)))(next:∀ v H',Qr v H'->aj P R N κ ops rest Q ((d,aW (dK H ks) v)::T) (bh H ks H')):aj P R N κ ops (o::rest) Q T H:=
 aj.e8 d (hp.frame ks ha h0 hks hQ) ho hd hN hgd hf hxs hc hg (fun y H' ⟨⟨tI,h⟩,e⟩=>by subst e;exact zV y tI h) fun v H' ⟨v0,tI,hq,e1,e2⟩=>by
  subst e1
  subst e2
  exact next v0 tI hq
end
theorem QD(bs:ByteArray):∀(n i:Nat) (r:List UInt8),bs.size - i=n->ByteArray.toList.loop bs i r=r.reverse++bs.data.toList.drop i:=by
 intro n
 induction n with
 | zero=>
  intro i r h
  unfold ByteArray.toList.loop
  rw[if_neg (by omega)]
  have:bs.data.toList.drop i=[]:=List.drop_eq_nil_of_le (by rw[Gj];show bs.size<=i;omega)
  rw[this,ZU]
 | succ n ih=>
  intro i r h
  unfold ByteArray.toList.loop
  rw[if_pos (by omega),ih (i+1) _ (by omega)]
  have hi:i<bs.data.toList.length:=by rw[Gj];show i<bs.size;omega
  rw[XN hi]
  have:bs.get! i=bs.data.toList[i]:=by
   show bs.data[i]! =_
   have h2:i<bs.data.size:=by rw[<- Gj];exact hi
   rw[getElem!_pos bs.data i h2]
   rfl
  rw[this]
  simp
theorem toList_data(bs:ByteArray):bs.toList=bs.data.toList:=by
 unfold ByteArray.toList
 rw[QD bs _ 0 [] rfl]
 rfl
def sB(l:List UInt8):ByteArray:=⟨l.toArray⟩
theorem jc(l:List UInt8):(sB l).toList=l:=toList_data _
theorem eX(l:List UInt8):(sB l).size=l.length:=rfl
theorem SP(a b:List UInt8):sB a++sB b=sB (a++b):=by
 apply ByteArray.ext
 rw[ByteArray.data_append]
 simp[sB]
theorem TB(l:List UInt8)(i j:Nat):(sB l).extract i j=sB ((l.drop i).take (j - i)):=by
 apply ByteArray.ext
 simp[sB]
theorem TW(l:List UInt8)(i:Nat):(sB l)[i]? =l[i]? :=by
 show(if h:i<(sB l).size then some ((sB l).get i h) else none)=_
 split
 ·rename_i h
  have h2:i<l.length:=h
  rw[Zb h2]
  rfl
 ·rename_i h
  have h2:l.length<=i:=Nat.le_of_not_lt h
  rw[ZE h2]
def bP(l:List UInt8):List PV:=l.map fun b=> .int .u8 b.toNat
def bV(l:List UInt8):List V:=(bP l).map .p
theorem lp(l:List UInt8):(bV l).length=l.length:=by simp[bV,bP]
theorem Iy(a b:List UInt8):bV (a++b)=bV a++bV b:=by simp[bV,bP]
theorem Sn(l:List UInt8):(bV l).all jB=true:=by
 simp only[bV,bP,OE,List.all_map,Zz]
 intro x _
 rfl
theorem tV(σ:Nat->Option Nat)(l:List UInt8):bq σ (bV l)=bV l:=aX σ (bP l)
section
variable {P:Program} {R:Option Nat} {N κ:Nat} {Q:Post} {T:Tm} {H H':List ai} {o:Oper}
theorem NX{w:World}{I:Nat->Prop}{ρ:List Nat}:∀(l:List UInt8),ag P w I ρ (bV l) (Lib.byteCells l)
 | []=>rfl
 | b::l=>⟨_,_,rfl,rfl,NX l⟩
theorem yt{w:World}{I:Nat->Prop}{ρ:List Nat}:∀(l:List UInt8) (us:List Value),ag P w I ρ (bV l) us->us=Lib.byteCells l
 | [],us,h=>h
 | b::l,us,h=>by
  obtain⟨u,us',rfl,h1,h2⟩:=h
  rw[yt l us' h2,show u=Value.int .u8 b.toNat from h1]
  rfl
theorem aa.LN{x y:Operand}{t t':TypeId}(a b:List UInt8)(ho:o.op= .binOp .eql t x y t')(hx:ev T x=some (.p (.str (sB a))))(hy:ev T y=some (.p (.str (sB b)))):aa P N o T H (.p (.bool (decide (a=b)))) H:=
 aa.aN (by simp[ho]) fun w I ρ ac hi ht=>
  ⟨.bool (decide (a=b)),by
   simp[execOp,ho,jt ht hx,jt ht hy,eqGuard,Go.binOp,Op.stringOp]
   rw[jc,jc]
   by_cases h:a=b
   ·subst h;simp
   ·simp[h],by simp[az,Rel]⟩
theorem aa.DR{x y:Operand}{t t':TypeId}(a b:List UInt8)(ho:o.op= .binOp .neq t x y t')(hx:ev T x=some (.p (.str (sB a))))(hy:ev T y=some (.p (.str (sB b)))):aa P N o T H (.p (.bool (!decide (a=b)))) H:=
 aa.aN (by simp[ho]) fun w I ρ ac hi ht=>
  ⟨.bool (!decide (a=b)),by
   simp[execOp,ho,jt ht hx,jt ht hy,eqGuard,Go.binOp,Op.stringOp]
   rw[jc,jc]
   by_cases h:a=b
   ·subst h;simp
   ·simp[h],by simp[az,Rel]⟩
theorem aa.vJ{x y:Operand}{t t':TypeId}(a b:List UInt8)(ho:o.op= .binOp .add t x y t')(hx:ev T x=some (.p (.str (sB a))))(hy:ev T y=some (.p (.str (sB b))))(hb:a.length+b.length<9223372036854775808):aa P N o T H (.p (.str (sB (a++b)))) H:=
 aa.aN (by simp[ho]) fun w I ρ ac hi ht=>
  ⟨.string (sB (a++b)),by
   have aau:IntKind.i64.max=9223372036854775807:=rfl
   have h1:¬ (9223372036854775807<(a.length:Int)+(b.length:Int)):=by omega
   simp[execOp,ho,jt ht hx,jt ht hy,eqGuard,Go.binOp,Op.stringOp,eX,aau,h1,SP],by simp[az,Rel]⟩
def DB(P:Program)(t:TypeId):Bool:=match P.underlying t with
 | some .string=>true
 | _=>false
theorem nS{t:TypeId}(h:DB P t=true):P.underlying t=some .string:=by
 unfold DB at h
 exact Cw
theorem aa.WY{x y:Operand}{t:TypeId}{kd:IntKind}(l:List UInt8)(i:Nat)(c:UInt8)(ho:o.op= .index t x y)(hx:ev T x=some (.p (.str (sB l))))(hy:ev T y=some (.p (.int kd (i:Int))))(ht:DB P t=true)
    (hs:l[i]? =some c):aa P N o T H (.p (.int .u8 c.toNat)) H:=
 aa.N9 ho hx hy (nS ht) (Int.natCast_nonneg _) (by rw[He,TW];exact hs)
theorem aa.S2{x:Operand}{t:TypeId}{lo hi:Option Operand}(l:List UInt8)(i j:Nat)(ho:o.op= .slice t x lo hi none)(hx:ev T x=some (.p (.str (sB l))))(ht:DB P t=true)(hl:gf T lo 0 i)(hh:gf T hi l.length j)(h1:i<=j)(h2:j<=l.length):
    aa P N o T H (.p (.str (sB ((l.drop i).take (j - i))))) H:=by
 rw[<- TB]
 exact aa.LG ho hx (nS ht) hl hh h1 h2
def Jy(P:Program)(N:Nat)(T:Tm)(H:List ai)(y:Operand)(t2:TypeId)(sz:Nat)(ys:List V)(n:Nat):Prop:=
 ∀ w I ρ (a:Act),Inv P w I ρ H->bn P w I ρ N T a.tmps->∃ us:List Value,(∃ d2,P.underlying t2=some d2∧∀ k,d2≠ .int k)∧(∀ W,(Builtin.lenOf (a.eval y)).run P W= .ok n W)∧
  (∀ w':World,(∀ b,b<w.heap.size->w'.heap[b]? =w.heap[b]?)->(Builtin.firstCells sz n (a.eval y)).run P w'= .ok us.toArray w')∧ag P w I ρ ys us∧us.length=n*sz
theorem Jy.str{y:Operand}{t2:TypeId}{l:List UInt8}(hy:ev T y=some (.p (.str (sB l))))(ht:DB P t2=true):Jy P N T H y t2 1 (bV l) l.length:=by
 intro w I ρ a hi hT
 have hu:=jt hT hy
 refine⟨Lib.byteCells l,⟨_,nS ht,fun k=>by simp⟩,fun W=>by rw[hu];rfl,fun w' _=> ?_,NX l,by simp[Lib.byteCells]⟩
 rw[hu]
 have:=Lib.run_firstCells_string (P:=P) w' 1 (sB l)
 exact this
theorem jP{w:World}{b:Nat}{e:TypeId}{m:Nat}:∀(us:List Value) (arr:Array Value) (w:World) (off k:Nat),w.heap[b]? =some (.cells arr e (0,m))->m<=off+k->off+k+us.length<=arr.size->(∀ u∈us,zB u=true)->
    ∃ w' c5,(storeCells ⟨b,off,none⟩ us k).run P w= .ok () w'∧w'.heap[b]? =some (.cells c5 e (0,m))∧c5.size=arr.size∧c5.toList=(us.foldl (fun(s:List Value×Nat) u=>(s.1.set s.2 u,s.2+1)) (arr.toList,off+k)).1∧
     w'.os=w.os∧w'.tape=w.tape∧w'.output=w.output∧w'.heap.size=w.heap.size∧(∀ j,j≠b->w'.heap[j]? =w.heap[j]?)
 | [],arr,w,off,k,hb,_,_,_=>⟨w,arr,by simp[storeCells],hb,rfl,rfl,rfl,rfl,rfl,rfl,fun _ _=>rfl⟩
 | u::us,arr,w,off,k,hb,hm,hl,h1=>by
  have hu:=h1 u (by simp)
  have hlt:off+k<arr.size:=by simp at hl;omega
  have hcell:w.cell? ⟨b,off+k,none⟩=some (arr[off+k]):=by simp[World.cell?,hb,hlt]
  have hfr:w.frozen? ⟨b,off+k,none⟩=false:=by
   simp[World.frozen?,hb]
   omega
  have hrun:(store ⟨b,off+k,none⟩ u).run P w= .ok () (w.setCell ⟨b,off+k,none⟩ u):=by
   cases u <;> first | (simp[store,Sem.run,hcell,hfr];done) | cases hu
  have hb':(w.setCell ⟨b,off+k,none⟩ u).heap[b]? =some (.cells (arr.setIfInBounds (off+k) u) e (0,m)):=by
   simp[World.setCell,Yf,hb]
  obtain⟨w',c5,h2,h3,h4,h5,h6,h7,h8,h9,h10⟩:=jP us (arr.setIfInBounds (off+k) u) (w.setCell ⟨b,off+k,none⟩ u) off (k+1) hb' (by omega) (by simp at hl ⊢;omega) (fun v hv=>h1 v (by simp[hv])) (w:=w)
  refine⟨w',c5,?_,h3,by simpa using h4,?_,h6,h7,h8,by simpa using h9,fun j hj=> ?_⟩
  ·simp only[storeCells,cF,Sem.run_bind,hrun,Result.andThen,h2]
  ·rw[h5]
   simp only[Sq,YX]
   rfl
  ·exact BT
theorem ru{w w':World}{t t2 e ty:TypeId}{bb:Bool}{sz len cap n:Nat}{base:Addr}{d2:TypeDesc}{u:Value}{new:List Value}(hu:P.underlying t=some (.slice e))(lH:fm P e=some (bb,sz))(o4:P.underlying t2=some d2)(hnot:∀ k,d2≠ .int k)
    (hlo:(Builtin.lenOf u).run P w= .ok n w)(hroom:len+n<=cap)(hnew:(Builtin.firstCells sz n u).run P w= .ok new.toArray w)(hst:(storeCells (base.add (len*sz)) new).run P w= .ok () w'):
    (Builtin.append_ #[t,t2] ty #[.slice (some base) len cap,u]).run P w= .ok (.slice (some base) (len+n) cap) w':=by
 have hz:(match d2 with | .int _=>true | _=>false)=false:=by
  cases d2 <;> first | rfl | exact absurd rfl (hnot _)
 simp[Builtin.append_,run_underlying hu,aK lH,run_underlying o4,hz,hlo,hroom,hnew,hst,Result.andThen]
theorem kr{w:World}{t t2 e:TypeId}{ty:TypeId}{bb:Bool}{sz len cap n:Nat}{base:Option Addr}{inf:TypeInfo}{old new:Array Value}{uz u:Value}{d2:TypeDesc}(hu:P.underlying t=some (.slice e))(lH:fm P e=some (bb,sz))(o4:P.underlying t2=some d2)(hnot:∀ k,d2≠ .int k)(hlo:(Builtin.lenOf u).run P w= .ok n w)
    (jI:P.info? e=some inf)(hsmall:¬ (Builtin.nextslicecap (len+n) cap*inf.bytes>2^48))(mc:((len+n:Nat):Int)<=IntKind.i64.max)(hroom:¬ len+n<=cap)(hold:(Builtin.firstCells sz len (.slice base len cap)).run P w.drew= .ok old w.drew)
    (hnew:(Builtin.firstCells sz n u).run P w.drew= .ok new w.drew)(hz:(zeroValue e).run P w.drew= .ok uz w.drew):
    (Builtin.append_ #[t,t2] ty #[.slice base len cap,u]).run P w= .ok (.slice (some ⟨w.heap.size,0,none⟩) (len+n) ((Question.appendCap (len+n) cap e).cut (w.tape w.drawn (.appendCap (len+n) cap e))))
     (w.drew.alloc (.cells (old++new++Builtin.zeroCells uz.cells ((Question.appendCap (len+n) cap e).cut (w.tape w.drawn (.appendCap (len+n) cap e)) - (len+n))) e)):=by
 have uL:(match d2 with | .int _=>true | _=>false)=false:=by
  cases d2 <;> first | rfl | exact absurd rfl (hnot _)
 have Dn:∀ k w,(askRoom k).run P w= .ok () w:=fun k w=>by
  exact pK
 have Vf:(choose (.appendCap (len+n) cap e)).run P w= .ok ((Question.appendCap (len+n) cap e).cut (w.tape w.drawn (.appendCap (len+n) cap e))) w.drew:=by
  simp[choose,Sem.run,Question.forced]
 have h1:¬ (9223372036854775807<(len:Int)+(n:Int)):=by
  exact Cr
 have Aj:¬ (281474976710656<Builtin.nextslicecap (len+n) cap*inf.bytes):=by
  exact qL
 have hf:(Question.appendCap (len+n) cap e).forced=false:=rfl
 simp[Builtin.append_,run_underlying hu,aK lH,run_underlying o4,uL,hlo,hroom]
 simp only[run_typeInfo w jI,Result.andThen]
 simp[h1,Aj,hf,run_typeInfo w jI,Vf,run_typeInfo w.drew jI,Dn,hold,hnew,hz,newRow,newObj,Sem.run]
 rfl
theorem aa.Re{x y:Operand}{t t2 e:TypeId}{z:List PV}{i len n gI:Nat}{cs ys:List V}(ho:o.op= .call {callee:= .builtin .append,args:= #[x,y],argTypes:= #[t,t2]})(hx:ev T x=some (.row i len))(hs:oz P t=some (e,z))
    (hH:H[i]? =some (.gJ cs e))(hcs:cs.length=len*z.length)(hsrc:Jy P N T H y t2 z.length ys n)(hone:ys.all jB=true)(hby:wG P e=some gI)(hb0:0<gI)(hb:(2*(len+n)+192)*gI<=281474976710656):
    aa P N o T H (.row H.length (len+n)) (H.set i .dead++[.gJ (cs++ys) e]):=
 aa.dz (by simp[ho]) fun w I ρ a hi hT=>by
  obtain⟨hu,⟨bb,lH⟩,uL,hz⟩:=eg hs
  obtain⟨b,e',cap,hρ,FU,hsh,hle⟩:=hT.ev hx
  obtain⟨us,⟨d2,o4,hnot⟩,hlo,hfc,cu,hlen⟩:=hsrc w I ρ a hi hT
  obtain⟨arr,m,hw,hm,hal,har⟩:=hi.rel i b _ hρ hH
  have hce:P.cellsOf e=z.length:=by
   exact mH
  have hsz:e'=e∧arr.size=cap*z.length:=by
   exact Co
  obtain⟨rfl,hsz⟩:=hsz
  have hinfo:∃ inf,P.info? e'=some inf∧inf.bytes=gI:=by
   exact A5
  obtain⟨inf,jI,zI⟩:=hinfo
  have hun:∀ u∈us,zB u=true:=zk cu hone
  have uC:=ag.length cu
  have dV:(ai.gJ cs e').live=true:=rfl
  have hcl:=ag.length har
  by_cases hroom:len+n<=cap
  ·-- there is room
   have hfit:len*z.length+0+us.length<=arr.size:=by
    rw[hlen,hsz,Kk,<- EV]
    exact HK _ hroom
   obtain⟨w',c5,r1,r2,r3,r4,r5,r6,r7,r8,r9⟩:=jP (P:=P) (w:=w) us arr w (len*z.length) 0 hw (by rw[<- hcs];omega) hfit hun
   have hE:Ext w I ρ w' I ρ:=Ext.write hi hρ hH dV r5 r6 r7 r8 r9 (fun s h=>by
    simp only[World.shape?,hw] at h
    simp only[World.shape?,r2,r3]
    exact h)
   have xd:ag P w' I ρ (cs++ys) (c5.toList.take (cs++ys).length):=by
    exact BF
   have oO:Ext w' I ρ w' I (ρ++[b]):=⟨⟨rfl,rfl,rfl,Ze _,fun _ _ _=>rfl,fun _ _ h=>h,fun _ h=>h,fun _ _=>rfl,fun _ h=> .inl h,fun _ h=>h,fun _ _ h=>h,fun k hk=>by
    rcases Zp.1 hk with h | h
    ·exact .inl h
    ·simp at h;subst h;exact .inl (Zh hρ)⟩,⟨_,rfl⟩⟩
   have hi1:Inv P w' I ρ (H.set i .dead):=Inv.write hi hρ hH dV hE r8 r9 trivial
   have hilt:i<H.length:=(Za.1 hH).1
   have hi2:Inv P w' I (ρ++[b]) (H.set i .dead++[.gJ (cs++ys) e']):=by
    refine⟨by simp[hi.len],fun j k blk h1 h2 h3=> ?_,hi1.ib,fun j k blk h1 h2 h3 h4=> ?_,fun j j' k bx by2 h1 h2 h3 h4 h5 h6=> ?_,fun j k blk h1 h2=> ?_,hi1.gl⟩
    ·exact CS
    ·exact ED
    ·exact Ba
    ·rcases br h1 with⟨h5,h6⟩ | ⟨h5,h6⟩
     ·exact A9
     ·subst h6
      have hj:j=(H.set i .dead).length:=by simp[<- hi.len];exact h5
      subst hj
      simp at h2
      subst h2
      refine⟨c5,m,r2,by rw[Zd];omega,?_,ag.ext oO xd⟩
      exact AS
   refine⟨.slice (some ⟨b,0,none⟩) (len+n) cap,w',I,ρ++[b],.inl ?_,hE.trans oO,hi2,b,e',cap,by rw[<- hi.len];simp,rfl,?_,hroom⟩
   ·have hap:=ru (P:=P) (w:=w) (w':=w') (t:=t) (t2:=t2) (ty:=o.type) (e:=e') (cap:=cap) (base:=⟨b,0,none⟩) hu lH o4 hnot (hlo w) hroom (hfc w (fun _ _=>rfl)) (by rw[cF,yy];exact r1)
    simp only[execOp,ho,Go.resolve,Go.invoke,Go.builtin,Sem.run_bind]
    simp only[Sem.run_pure,Result.andThen,List.map_toArray,Zx,xo,FU,Sem.run_bind,hap]
   ·simp only[World.shape?,r2,r3,hsz,hce]
  ·-- a new array
   have zb:∀ q,len+n<=(Question.appendCap (len+n) cap e').cut q:=fun q=>Ui _ _
   obtain⟨uz,hz1,EU⟩:=hz w.drew
   have hzl:=aR.length (EU I)
   have I4:uz.cells.size=z.length:=by simpa using hzl
   have hnext:=js (need:=len+n) (cap:=cap) (by omega)
   have hsmall:¬ (Builtin.nextslicecap (len+n) cap*gI>2^48):=by
    have h1:=HK gI hnext
    exact qL
   let newCap:=(Question.appendCap (len+n) cap e').cut (w.tape w.drawn (.appendCap (len+n) cap e'))
   have hnc:len+n<=newCap:=zb _
   have hold:(Builtin.firstCells z.length len (.slice (some ⟨b,0,none⟩) len cap)).run P w.drew= .ok (arr.toList.take (len*z.length)).toArray w.drew:=by
    exact CZ
   have hnew:=hfc w.drew (fun _ _=>rfl)
   let eM:Array Value:=(arr.toList.take (len*z.length)).toArray++us.toArray++Builtin.zeroCells uz.cells (newCap - (len+n))
   have xH:Ext w I ρ w.drew I ρ:=Ext.drew
   have hi1:Inv P w.drew I ρ H:=hi.drew
   have oO:Ext w.drew I ρ (w.drew.alloc (.cells eM e')) I (ρ++[w.drew.heap.size]):=Ext.aO hi1 _
   have hi2:Inv P (w.drew.alloc (.cells eM e')) I (ρ++[w.drew.heap.size]) (H++[.gJ (cs++ys) e']):=by
    refine Inv.aO hi1 _ ⟨eM,0,heap_alloc_new _ _,Zv _,?_,ag.ext oO (ag.ext xH ?_)⟩
    ·exact Dm
    ·exact Es
   have hilt:i<H.length:=(Za.1 hH).1
   have Aw:Inv P (w.drew.alloc (.cells eM e')) I (ρ++[w.drew.heap.size]) (H.set i .dead++[.gJ (cs++ys) e']):=by
    have oG:H.set i .dead++[ai.gJ (cs++ys) e']=(H++[ai.gJ (cs++ys) e']).set i .dead:=by rw[List.set_append_left _ _ hilt]
    rw[oG]
    have qZ:(ρ++[w.drew.heap.size])[i]? =some b:=by
     rw[Zc (by rw[hi.len];exact hilt)]
     exact hρ
    have X9:(H++[ai.gJ (cs++ys) e'])[i]? =some (ai.gJ cs e'):=by
     rw[Zc hilt];exact hH
    exact Inv.write hi2 qZ X9 dV (Ext.refl _ _ _) rfl (fun _ _=>rfl) trivial
   refine⟨.slice (some ⟨w.heap.size,0,none⟩) (len+n) newCap,w.drew.alloc (.cells eM e'),I,ρ++[w.drew.heap.size],.inl ?_,xH.trans oO,Aw,w.heap.size,e',newCap,by rw[<- hi.len];simp,rfl,?_,hnc⟩
   ·have mc:((len+n:Nat):Int)<=IntKind.i64.max:=by
      have h1:=Nat.le_mul_of_pos_right (2*(len+n)+192) hb0
      exact uX
    have:=kr (P:=P) (w:=w) (t:=t) (t2:=t2) (ty:=o.type) hu lH o4 hnot (hlo w) jI (by rw[zI];exact hsmall) mc hroom hold hnew hz1
    exact CR
   ·exact Bo
theorem aa.Fq{x y:Operand}{t t2 e:TypeId}{z:List PV}{n gI:Nat}{ys:List V}(ho:o.op= .call {callee:= .builtin .append,args:= #[x,y],argTypes:= #[t,t2]})(hx:ev T x=some (.p .nilSlice))(hs:oz P t=some (e,z))
    (hsrc:Jy P N T H y t2 z.length ys n)(hn:0<n)(hone:ys.all jB=true)(hby:wG P e=some gI)(hb0:0<gI)(hb:(2*n+192)*gI<=281474976710656):
    aa P N o T H (.row H.length n) (H++[.gJ ys e]):=
 aa.dz (by simp[ho]) fun w I ρ a hi hT=>by
  obtain⟨hu,⟨bb,lH⟩,uL,hz⟩:=eg hs
  have FU:a.eval x= .slice none 0 0:=hT.ev hx
  obtain⟨us,⟨d2,o4,hnot⟩,hlo,hfc,cu,hlen⟩:=hsrc w I ρ a hi hT
  have hce:P.cellsOf e=z.length:=by
   exact mH
  have hinfo:∃ inf,P.info? e=some inf∧inf.bytes=gI:=by
   exact vj
  obtain⟨inf,jI,zI⟩:=hinfo
  have uC:=ag.length cu
  have zb:∀ q,0+n<=(Question.appendCap (0+n) 0 e).cut q:=fun q=>Ui _ _
  obtain⟨uz,hz1,EU⟩:=hz w.drew
  have hzl:=aR.length (EU I)
  have I4:uz.cells.size=z.length:=by simpa using hzl
  have hnext:=js (need:=0+n) (cap:=0) (by omega)
  have hsmall:¬ (Builtin.nextslicecap (0+n) 0*gI>2^48):=by
   exact wj
  let newCap:=(Question.appendCap (0+n) 0 e).cut (w.tape w.drawn (.appendCap (0+n) 0 e))
  have hnc:0+n<=newCap:=zb _
  have hnew:=hfc w.drew (fun _ _=>rfl)
  let eM:Array Value:= #[]++us.toArray++Builtin.zeroCells uz.cells (newCap - (0+n))
  have xH:Ext w I ρ w.drew I ρ:=Ext.drew
  have hi1:Inv P w.drew I ρ H:=hi.drew
  have oO:Ext w.drew I ρ (w.drew.alloc (.cells eM e)) I (ρ++[w.drew.heap.size]):=Ext.aO hi1 _
  have hi2:Inv P (w.drew.alloc (.cells eM e)) I (ρ++[w.drew.heap.size]) (H++[.gJ ys e]):=by
   refine Inv.aO hi1 _ ⟨eM,0,heap_alloc_new _ _,Zv _,?_,ag.ext oO (ag.ext xH ?_)⟩
   ·exact Cq
   ·exact Dr
  refine⟨.slice (some ⟨w.heap.size,0,none⟩) (0+n) newCap,w.drew.alloc (.cells eM e),I,ρ++[w.drew.heap.size],.inl ?_,xH.trans oO,hi2,w.heap.size,e,newCap,by rw[<- hi.len];simp,by rw[yy],?_,by omega⟩
  ·have mc:((0+n:Nat):Int)<=IntKind.i64.max:=by
     exact u9
   have hold:(Builtin.firstCells z.length 0 (.slice none 0 0)).run P w.drew= .ok #[] w.drew:=by simp[Builtin.firstCells]
   have:=kr (P:=P) (w:=w) (t:=t) (t2:=t2) (ty:=o.type) hu lH o4 hnot (hlo w) jI (by rw[zI];exact hsmall) mc (by omega) hold hnew hz1
   exact CR
  ·exact vT
end
section
variable {P:Program} {R:Option Nat} {N κ:Nat} {Q:Post} {T:Tm} {H H':List ai} {o:Oper} {ops:Array Oper} {rest:List Oper}
def Px(P:Program)(t:TypeId):Bool:=match P.underlying t with
 | some (.slice e)=>(match P.underlying e with
   | some (.int .u8)=>true
   | _=>false)
 | _=>false
theorem J7{t:TypeId}(h:Px P t=true):∃ e,P.underlying t=some (.slice e)∧P.underlying e=some (.int .u8):=by
 unfold Px at h
 cases hu:P.underlying t with
 | none=>simp[hu] at h
 | some d=>
  cases d <;> simp[hu] at h
  rename_i e
  cases he:P.underlying e with
  | none=>simp[he] at h
  | some d2=>
   cases d2 <;> simp[he] at h
   rename_i k
   cases k <;> simp at h
   exact⟨e,rfl,he⟩
theorem aa.KU{x:Operand}{s d:TypeId}(l:List UInt8)(ho:o.op= .convert s d x)(hx:ev T x=some (.p (.str (sB l))))(hs:DB P s=true)(hd:Px P d=true):aa P N o T H (.p (.is (bP l) l.length)) H:=
 aa.dz (by simp[ho]) fun w I ρ a hi hT=>by
  obtain⟨e,hde,he⟩:=J7 hd
  have hrun:=Lib.run_convert_string_bytes (P:=P) w s d e (sB l) (nS hs) hde he
  have hold:∀ b,b<w.heap.size->(Lib.bytesWorld w e (sB l)).heap[b]? =w.heap[b]? :=fun b hb=>Lib.bytesWorld_at_old w e (sB l) b hb
  have hE:Ext w I ρ (Lib.bytesWorld w e (sB l)) (fun b=>I b∨b=w.heap.size) ρ:=
   ⟨⟨rfl,rfl,rfl,by rw[Lib.bytesWorld_size];omega,fun b hb _=>hold b hb,fun b s h=>(cP (hold b (kM h))).trans h,fun _ h=> .inl h,fun b h=>hold b (hi.ib b h),
    fun b h=>by rcases h with h | h;exact .inl h;exact .inr (.inr (by omega)),fun b h=>(hold b (ZN.1 h).1).trans h,fun b h h2=>by
     rcases h2 with h2 | h2
     ·exact h2
     ·have:=(ZN.1 h).1;omega,fun _ h=> .inl h⟩,ZI _⟩
  have hI:Inv P (Lib.bytesWorld w e (sB l)) (fun b=>I b∨b=w.heap.size) ρ H:=
   hi.same hE (fun b h=>by rcases h with h | h;have:=hi.ib b h;rw[Lib.bytesWorld_size];omega;rw[Lib.bytesWorld_size];omega) (fun b hb h=>by rcases h with h | h;exact h;omega) hold
  refine⟨_,_,_,_,.inl ?_,hE,hI,.inr ⟨w.heap.size,0,grownCap w (sB l).size 0 e,fun _=> .inr rfl,by rw[<- eX];exact grownCap_ge w _ _ e,rfl,?_⟩⟩
  ·simp only[execOp,ho,jt hT hx,Sem.run_bind,hrun,Result.andThen]
   rfl
  ·have key:∀(m:List UInt8) (k:Nat),(∀ j c,m[j]? =some c->(Lib.bytesWorld w e (sB l)).cell? ⟨w.heap.size,k+j,none⟩=some (.int .u8 c.toNat))->aT (Lib.bytesWorld w e (sB l)) (fun b=>I b∨b=w.heap.size) (bP m) w.heap.size k:=by
     intro m
     induction m with
     | nil=>intro k _;trivial
     | cons c m ih=>
      intro k hk
      exact⟨⟨_,hk 0 c rfl,rfl⟩,ih (k+1) fun j c' h=>by
       have:=hk (j+1) c' h
       rwa [show k+(j+1)=k+1+j by omega] at this⟩
   refine key l 0 fun j c h=> ?_
   obtain⟨hj,h2⟩:=Za.1 h
   have:=Lib.bytesWorld_cell w e (sB l) j hj
   rw[yy,this]
   have h3:(sB l).data.toList=l:=rfl
   rw[h3,Zf,h]
   rfl
end
section
variable {P:Program} {R:Option Nat} {N κ:Nat} {Q:Post} {T:Tm} {H H':List ai} {o:Oper} {ops:Array Oper} {rest:List Oper}
theorem aa.Wn{x:Operand}{t xt:TypeId}{y:PV}(ho:o.op= .typeAssert x xt t true)(hx:ev T x=some (.p (.iface t y)))(ht:rG P t=true):aa P N o T H (.p (.tuple [y,.bool true])) H:=
 aa.aN (by simp[ho]) fun w I ρ a hi hT=>by
  obtain⟨z,hz,hr⟩:=hT.ev hx
  unfold rG at ht
  cases hu:P.underlying t with
  | none=>simp[hu] at ht
  | some d=>
   refine⟨.tuple #[z,.bool true],?_,⟨_,rfl,z,_,rfl,hr,_,_,rfl,rfl,rfl⟩⟩
   cases d <;> simp[hu] at ht <;> simp[execOp,ho,Instr.typeAssert,run_underlying hu,hz]
theorem aa.aa1{x:Operand}{s t xt:TypeId}{y z:PV}(ho:o.op= .typeAssert x xt t true)(hx:ev T x=some (.p (.iface s y)))(ht:rG P t=true)(hne:Nat.beq s t=false)(hz:cO P t=some z):aa P N o T H (.p (.tuple [z,.bool false])) H:=
 aa.aN (by simp[ho]) fun w I ρ a hi hT=>by
  obtain⟨v,hv,hr⟩:=hT.ev hx
  obtain⟨uz,h1,h2⟩:=kQ hz w
  have hst:¬ (s=t):=fun h=>by subst h;rw[show Nat.beq s s=true from Nat.beq_refl s] at hne;cases hne
  unfold rG at ht
  cases hu:P.underlying t with
  | none=>simp[hu] at ht
  | some d=>
   refine⟨.tuple #[uz,.bool false],?_,⟨_,rfl,uz,_,rfl,h2 I,_,_,rfl,rfl,rfl⟩⟩
   cases d <;> simp[hu] at ht <;> simp[execOp,ho,Instr.typeAssert,run_underlying hu,hv,hst,h1]
def KL(P:Program)(t:TypeId):Bool:=match P.underlying t with
 | some (.interface _)=>true
 | _=>false
theorem aa.aaj{x:Operand}{t t' s:TypeId}{y:PV}(ho:o.op= .binOp .neq t x (.const .nilIface) t')(hx:ev T x=some (.p (.iface s y)))(ht:KL P t=true):aa P N o T H (.p (.bool true)) H:=
 aa.aN (by simp[ho]) fun w I ρ ac hi hT=>by
  obtain⟨v,hv,hr⟩:=hT.ev hx
  obtain⟨ms,hu⟩:∃ ms,P.underlying t=some (.interface ms):=by
   exact Dv
  have hb:(binOp .neq t (.iface s v) .nilIface).run P w= .ok (.bool true) w:=by
   simp only[binOp]
   have hq:(Op.equal t (.iface s v) .nilIface).run P w= .ok false w:=by
    show(Op.equalIn (9999+1) t (.iface s v) .nilIface).run P w= .ok false w
    generalize 9999=d
    simp[Op.equalIn,run_underlying hu]
   simp[hq]
  have e0:ac.eval (.const .nilIface)= .nilIface:=rfl
  exact⟨.bool true,by simp[execOp,ho,hv,e0,eqGuard,hb],by simp[az,Rel]⟩
theorem aj.panic{x:Operand}{t:TypeId}{y:PV}(ho:o.op= .panic x)(hg:o.guard=none)(hx:ev T x=some (.p (.iface t y)))(hq:Q (.panic (.p (.iface t y))) T H):aj P R N κ ops (o::rest) Q T H:=by
 intro QX B w I ρ a hi ht hm hqx
 refine wpListIn_plain hg fun Kx hK=>⟨bB,?_⟩
 rw[bD _ _ _ (by simp[ho])]
 obtain⟨v,hv,hr⟩:=ht.ev hx
 have e:(execOp a.eval o).run P w= .halt (.panic (.iface t v)) w:=by
  have h1:(Instr.panic (.iface t v)).run P w= .halt (.panic (.iface t v)) w:=rfl
  simp only[execOp,ho,hv]
  simp[Sem.run_bind,h1,Result.andThen]
 rw[e,Oper.uponIn_panic]
 exact hqx _ _ _ ⟨.panic (.p (.iface t y)),I,ρ,T,H,⟨_,rfl,v,rfl,hr⟩,hq,cy.refl _ _ _,hi,ht,hm⟩
def Ae(P:Program)(t:TypeId):Option (TypeId×Nat):=match P.underlying t with
 | some (.pointer e)=>(P.info? e).map fun i=>(e,i.size)
 | _=>none
theorem kP{t e:TypeId}{n:Nat}(h:Ae P t=some (e,n)):P.underlying t=some (.pointer e)∧∃ j,P.info? e=some j∧j.size=n:=by
 unfold Ae at h
 cases hu:P.underlying t with
 | none=>simp[hu] at h
 | some d=>
  cases d <;> simp[hu] at h
  obtain⟨i,h1,h2,h3⟩:=h
  subst h2
  exact⟨rfl,i,h1,h3⟩
theorem aa.UR{x y:Operand}{t t' e:TypeId}{n:Nat}(ho:o.op= .binOp .eql t x y t')(hx:ev T x=some (.p .nilPtr))(hy:ev T y=some (.p .nilPtr))(ht:Ae P t=some (e,n)):aa P N o T H (.p (.bool true)) H:=
 aa.aN (by simp[ho]) fun w I ρ ac hi hT=>by
  have e1:ac.eval x= .pointer none:=hT.ev hx
  have e2:ac.eval y= .pointer none:=hT.ev hy
  obtain⟨hu,j,hj,_⟩:=kP ht
  have hb:(binOp .eql t (.pointer none) (.pointer none)).run P w= .ok (.bool true) w:=by
   simp only[binOp]
   have hq:(Op.equal t (.pointer none) (.pointer none)).run P w= .ok true w:=by
    show(Op.equalIn (9999+1) t (.pointer none) (.pointer none)).run P w= .ok true w
    generalize 9999=d
    simp[Op.equalIn,run_underlying hu,sizeOf,typeInfo,hj]
   simp[hq]
  exact⟨.bool true,by simp[execOp,ho,e1,e2,eqGuard,hb],by simp[az,Rel]⟩
theorem aa.Gi{x y:Operand}{t t' e:TypeId}{n i off:Nat}(ho:o.op= .binOp .eql t x y t')(hx:ev T x=some (.ptr i off))(hy:ev T y=some (.p .nilPtr))(ht:Ae P t=some (e,n)):aa P N o T H (.p (.bool false)) H:=
 aa.aN (by simp[ho]) fun w I ρ ac hi hT=>by
  obtain⟨b,hb0,e1⟩:=hT.ev hx
  have e2:ac.eval y= .pointer none:=hT.ev hy
  obtain⟨hu,j,hj,_⟩:=kP ht
  have hb:(binOp .eql t (.pointer (some ⟨b,off,none⟩)) (.pointer none)).run P w= .ok (.bool false) w:=by
   simp only[binOp]
   have hq:(Op.equal t (.pointer (some ⟨b,off,none⟩)) (.pointer none)).run P w= .ok false w:=by
    show(Op.equalIn (9999+1) t (.pointer (some ⟨b,off,none⟩)) (.pointer none)).run P w= .ok false w
    generalize 9999=d
    simp[Op.equalIn,run_underlying hu,sizeOf,typeInfo,hj]
   simp[hq]
  exact⟨.bool false,by simp[execOp,ho,e1,e2,eqGuard,hb],by simp[az,Rel]⟩
theorem aa.P2{x y:Operand}{t t' e:TypeId}{n i off:Nat}(ho:o.op= .binOp .neq t x y t')(hx:ev T x=some (.ptr i off))(hy:ev T y=some (.ptr i off))(ht:Ae P t=some (e,n)):aa P N o T H (.p (.bool false)) H:=
 aa.aN (by simp[ho]) fun w I ρ ac hi hT=>by
  obtain⟨b,hb0,e1⟩:=hT.ev hx
  obtain⟨b',Xr,e2⟩:=hT.ev hy
  rw[hb0] at Xr
  cases Xr
  obtain⟨hu,j,hj,_⟩:=kP ht
  exact⟨.bool false,by simp[execOp,ho,e1,e2,eqGuard,Lib.run_neq_ptr_same w _ hu hj],by simp[az,Rel]⟩
def Ly(P:Program)(t:TypeId):Bool:=match P.underlying t with
 | some .unsafePointer=>true
 | _=>false
theorem yL{t:TypeId}(h:Ly P t=true):P.underlying t=some .unsafePointer:=by
 unfold Ly at h
 exact Cw
theorem yj{w:World}{I:Nat->Prop}{ρ:List Nat}(hi:Inv P w I ρ H){i b:Nat}{cs:List V}{e:TypeId}(hb:ρ[i]? =some b)(hH:H[i]? =some (.cells cs e)):w.shape? b=some (e,cs.length):=by
 obtain⟨arr,h1,h2⟩:=hi.rel i b _ hb hH
 have:=ag.length h2
 simp only[World.shape?,h1]
 rw[<- this]
 simp
theorem aa.Xo{x:Operand}{s d e eb:TypeId}{n i off:Nat}{cs:List V}(ho:o.op= .convert s d x)(hx:ev T x=some (.ptr i off))(hs:Ae P s=some (e,n))(hd:Ly P d=true)(hn:0<n)(hH:H[i]? =some (.cells cs eb))(hoff:off<cs.length):aa P N o T H (.ptr i off) H:=
 aa.aN (by simp[ho]) fun w I ρ a hi hT=>by
  obtain⟨b,hb,hu⟩:=hT.ev hx
  obtain⟨h1,j,h2,h3⟩:=kP hs
  have:=Lib.run_to_unsafe (P:=P) w ⟨b,off,none⟩ h1 (yL hd) h2 (by omega) (yj hi hb hH) hoff
  exact⟨_,by simp[execOp,ho,hu,this],hT.ev hx⟩
theorem aa.XS{x:Operand}{s d e eb:TypeId}{n i off:Nat}{cs:List V}(ho:o.op= .convert s d x)(hx:ev T x=some (.ptr i off))(hs:Ly P s=true)(hd:Ae P d=some (e,n))(hH:H[i]? =some (.cells cs eb))(hl:liesAt P P.depth eb (cs.length / P.cellsOf eb) off e 1=true):aa P N o T H (.ptr i off) H:=
 aa.aN (by simp[ho]) fun w I ρ a hi hT=>by
  obtain⟨b,hb,hu⟩:=hT.ev hx
  obtain⟨h1,j,h2,h3⟩:=kP hd
  have:=Lib.run_from_unsafe (P:=P) w ⟨b,off,none⟩ (yL hs) h1 h2 (yj hi hb hH) hl
  exact⟨_,by simp[execOp,ho,hu,this],hT.ev hx⟩
def Vt(P:Program)(g:FuncId):Prop:=∃ fn,P.funcs[g]? =some fn∧(fn.name== "runtime.NumGoroutine")=false∧fn.body.isNone=true∧(Extern.findNext fn).isNone=true∧Extern.find fn=some Extern.AbiNoEscape.same
theorem aa.X5{x:Operand}{g:FuncId}{v:V}{ts:Array TypeId}(ho:o.op= .call {callee:= .value (.func g),args:= #[x],argTypes:=ts})(hx:ev T x=some v)(hg:Vt P g):aa P N o T H v H:=
 aa.aN (by simp[ho]) fun w I ρ a hi hT=>by
  obtain⟨fn,h1,h2,h3,h4,h5⟩:=hg
  refine⟨a.eval x,?_,hT.ev hx⟩
  simp[execOp,ho,Go.resolve,Deferred.ofValue,Go.invoke,Act.eval]
  rw[run_callFunc_extern h1 h2 h3 (by simpa using h4) h5]
  rfl
def Np(cs:List V)(e:TypeId):Nat->ai
 | 0=> .dead
 | _+1=> .gJ cs e
theorem aa.F8{x y:Operand}{t t2 e:TypeId}{z:List PV}{i len n gI:Nat}{cs ys:List V}(ho:o.op= .call {callee:= .builtin .append,args:= #[x,y],argTypes:= #[t,t2]})(hx:ev T x=some (kL i len))(hs:oz P t=some (e,z))
    (hH:H[i]? =some (Np cs e len))(hcs:cs.length=len*z.length)(hsrc:Jy P N T H y t2 z.length ys n)(hn:0<n)(hone:ys.all jB=true)(hby:wG P e=some gI)(hb0:0<gI)(hb:(2*(len+n)+192)*gI<=281474976710656):
    aa P N o T H (.row H.length (len+n)) (H.set i .dead++[.gJ (cs++ys) e]):=by
 cases len with
 | zero=>
  have h0:cs=[]:=ZA (by simpa using hcs)
  subst h0
  rw[qY (show H[i]? =some ai.dead from hH),IS]
  have:=aa.Fq (N:=N) ho hx hs hsrc hn hone hby hb0 (by simpa using hb)
  simpa using this
 | succ len=>exact aa.Re ho hx hs hH hcs hsrc hone hby hb0 hb
theorem aa.zh{x:Operand}{ts:Array TypeId}(ho:o.op= .call {callee:= .builtin .unsafeSliceData,args:= #[x],argTypes:=ts})(hx:ev T x=some (.p .nilSlice)):aa P N o T H (.p .nilPtr) H:=
 aa.aN (by simp[ho]) fun w I ρ a hi hT=>by
  have hu:a.eval x= .slice none 0 0:=hT.ev hx
  refine⟨.pointer none,?_,by simp[az,Rel]⟩
  simp[execOp,ho,Go.resolve,Go.invoke,Go.builtin,hu,Lib.run_unsafeSliceData_nil]
theorem aa.zT{x:Operand}{ts:Array TypeId}{i n:Nat}(ho:o.op= .call {callee:= .builtin .unsafeSliceData,args:= #[x],argTypes:=ts})(hx:ev T x=some (.row i n))(hn:0<n):aa P N o T H (.ptr i 0) H:=
 aa.aN (by simp[ho]) fun w I ρ a hi hT=>by
  obtain⟨b,e,cap,h1,h2,h3,h4⟩:=hT.ev hx
  refine⟨.pointer (some ⟨b,0,none⟩),?_,b,h1,rfl⟩
  simp[execOp,ho,Go.resolve,Go.invoke,Go.builtin,h2,Lib.run_unsafeSliceData_row (P:=P) w _ _ _ n cap (by omega)]
theorem aa.P1{x y:Operand}{pt it:TypeId}(ho:o.op= .call {callee:= .builtin .unsafeString,args:= #[x,y],argTypes:= #[pt,it]})(hx:ev T x=some (.p .nilPtr))(hy:ev T y=some (.p (.int .i64 0))):aa P N o T H (.p (.str (sB []))) H:=
 aa.aN (by simp[ho]) fun w I ρ a hi hT=>by
  have hu:a.eval x= .pointer none:=hT.ev hx
  refine⟨.string .empty,?_,rfl⟩
  simp[execOp,ho,Go.resolve,Go.invoke,Go.builtin,hu,cS hT hy,Lib.run_unsafeString_none]
def ubI(P:Program)(pt e:TypeId):Bool:=match P.underlying pt with
 | some (.pointer e')=>Nat.beq e' e&&Nat.beq (P.cellsOf e) 1
 | _=>false
theorem aa.P3{x y:Operand}{pt it e:TypeId}{i:Nat}(l:List UInt8)(ho:o.op= .call {callee:= .builtin .unsafeString,args:= #[x,y],argTypes:= #[pt,it]})(hx:ev T x=some (.ptr i 0))(hy:ev T y=some (.p (.int .i64 (l.length:Int))))(hp:ubI P pt e=true)
    (hH:H[i]? =some (.gJ (bV l) e))(h0:0<l.length)(hb:l.length<=9223372036854775807):aa P N o T H (.p (.str (sB l))) H:=
 aa.dz (by simp[ho]) fun w I ρ a hi hT=>by
  obtain⟨b,hb0,hu⟩:=hT.ev hx
  have hpt:P.underlying pt=some (.pointer e)∧P.cellsOf e=1:=by
   unfold ubI at hp
   cases h:P.underlying pt with
   | none=>simp[h] at hp
   | some d=>
    cases d <;> simp[h] at hp
    exact⟨by rw[hp.1],hp.2⟩
  obtain⟨arr,m,h1,h2,h3,h4⟩:=hi.rel i b _ hb0 hH
  rw[lp] at h2 h3 h4
  have hbytes:=yt l _ h4
  have hsh:w.shape? b=some (e,arr.size):=by simp only[World.shape?,h1]
  have hcell:∀ j x,l[j]? =some x->w.cell? ((⟨b,0,none⟩:Addr).add j)=some (.int .u8 x.toNat):=fun j x hj=>by
   rw[cF,yy]
   have hjl:=(Za.1 hj).1
   have h5:(arr.toList.take l.length)[j]? =some (.int .u8 x.toNat):=by
    rw[hbytes]
    simp[Lib.byteCells,hj]
   rw[RU hjl] at h5
   simp only[World.cell?,h1]
   simpa using h5
  have hrun:=Lib.run_unsafeString_row (P:=P) w pt it o.type e hpt.1 hpt.2 b arr.size hsh l (by intro h;rw[h] at h0;cases h0) h3 hb hcell
  have hlt:b<w.heap.size:=hi.gf i b _ hb0 hH rfl
  have eJ:∀ k,k≠b->(w.freeze ⟨b,0,none⟩ l.length).heap[k]? =w.heap[k]? :=fun k hk=>by
   unfold World.freeze
   split
   ·rfl
   ·simp only[Yf]
    rw[if_neg (fun e=>hk e.symm)]
  have hnew:(w.freeze ⟨b,0,none⟩ l.length).heap[b]? =some (.cells arr e (0,l.length)):=by
   unfold World.freeze
   rw[if_neg (by omega)]
   simp only[Yf,if_true,h1,Q4]
   congr 2
   by_cases hm:m=0
   ·subst hm;simp
   ·have h7:((0:Nat)==m)=false:=by
      cases m with
      | zero=>exact absurd rfl hm
      | succ m=>rfl
    simp[h7,Nat.max_eq_right h2]
  have hE:Ext w I ρ (w.freeze ⟨b,0,none⟩ l.length) I ρ:=Ext.write hi hb0 hH rfl (by unfold World.freeze;split <;> rfl) (by unfold World.freeze;split <;> rfl) (by unfold World.freeze;split <;> rfl) (by unfold World.freeze;split <;> simp) eJ (fun s h=>by
   simp only[World.shape?,h1] at h
   simp only[World.shape?,hnew]
   exact h)
  have hI:=Inv.write (new:= .gJ (bV l) e) hi hb0 hH rfl hE (by unfold World.freeze;split <;> simp) eJ ⟨arr,l.length,hnew,by rw[lp];exact Ze _,by rw[lp];exact h3,by rw[lp];exact ag.ext hE h4⟩
  rw[qY hH] at hI
  refine⟨.string ⟨l.toArray⟩,_,I,ρ,.inl ?_,hE,hI,rfl⟩
  simp[execOp,ho,Go.resolve,Go.invoke,Go.builtin,hu,cS hT hy,hrun]
end
def YG(l:List UInt8)(i:Nat):V:=match l with
 | []=> .p .nilPtr
 | _::_=> .ptr i 0
def wC(e:TypeId)(i j:Nat)(l:List UInt8):ai:= .cells [YG l i,kL j l.length] e
def wF(eb:TypeId)(l:List UInt8):ai:=Np (bV l) eb l.length
theorem UN{e:TypeId}{i j:Nat}{l:List UInt8}(h:0<l.length):wC e i j l= .cells [.ptr i 0,.row j l.length] e:=by
 cases l with
 | nil=>cases h
 | cons c t=>rfl
theorem UG{eb:TypeId}{l:List UInt8}(h:0<l.length):wF eb l= .gJ (bV l) eb:=by
 cases l with
 | nil=>cases h
 | cons c t=>rfl
theorem Fw{e:TypeId}{i j i' j':Nat}{l:List UInt8}{σ:Nat->Option Nat}(h1:σ i=some i')(h2:σ j=some j'):aD σ (wC e i j l)=wC e i' j' l:=by
 cases l with
 | nil=>rfl
 | cons c t=>simp only[wC,YG,kL,Zn,aD,bq,aW,h1,h2]
theorem Fk{eb:TypeId}{l:List UInt8}{σ:Nat->Option Nat}:aD σ (wF eb l)=wF eb l:=by
 cases l with
 | nil=>rfl
 | cons c t=>simp only[wF,Np,Zn,aD,tV]
section
variable {P:Program} {R:Option Nat} {N κ:Nat} {Q:Post} {T:Tm} {H H':List ai} {o:Oper} {ops:Array Oper} {rest:List Oper}
def HB(P:Program)(e eb:TypeId)(g:FuncId)(args:List PV)(l s:List UInt8)(v:PV):Prop:=
 ax P g (.ptr 0 0::args.map .p) [wC e 0 1 l,wF eb l] fun v' H'=>v'= .p v∧H'=[wC e 0 2 (l++s),.dead,wF eb (l++s)]
theorem G5(e:TypeId)(i j:Nat)(l:List UInt8):(wC e i j l).live=true:=rfl
theorem aj.Wq(d i j:Nat){e eb:TypeId}{g:FuncId}{args:List PV}{l s:List UInt8}{v:PV}(hp:HB P e eb g args l s v)(hij:i≠j)(hi:H[i]? =some (wC e i j l))(hj:H[j]? =some (wF eb l)){f:Operand}{xs:Array Operand}{ts:Array TypeId}{fv:V}{vs:List V}
    (ho:o.op= .call {callee:= .value f,args:=xs,argTypes:=ts})(hd:o.dst=some d)(hN:aZ N (some d)=true)(hgd:o.guard=none)(hf:ev T f=some fv)
    (hxs:kR T xs.toList=some vs)(hc:callee vs fv=some (g,.ptr i 0::args.map .p))(hg:ak P g=true)(next:aj P R N κ ops rest Q ((d,.p v)::T) ((H.set i (wC e i H.length (l++s))).set j .dead++[wF eb (l++s)])):aj P R N κ ops (o::rest) Q T H:=by
 have hil:i<H.length:=(Za.1 hi).1
 have hjl:j<H.length:=(Za.1 hj).1
 have gi:H.getD i .dead=wC e i j l:=by rw[Zf,hi];rfl
 have gj:H.getD j .dead=wF eb l:=by rw[Zf,hj];rfl
 have hji:Nat.beq i j=false:=by
  cases h:Nat.beq i j with
  | false=>rfl
  | true=>exact absurd (ZO h) hij
 have pi:nU H [i,j] i=some 0:=by
  unfold nU
  rw[gi,if_pos (G5 e i j l)]
  simp[pl,List.idxOf?,List.findIdx?_cons]
 have pj:∀ c t,l=c::t->nU H [i,j] j=some 1:=fun c t h=>by
  unfold nU
  rw[gj,if_pos (by subst h;rfl)]
  simp[pl,List.idxOf?,List.findIdx?_cons,hij]
 have t0:dK H [i,j] 0=some i:=by
  unfold dK
  simp only[List.getElem?_cons_zero]
  rw[gi,if_pos (G5 e i j l)]
 have t2:dK H [i,j] 2=some H.length:=by
  unfold dK
  rfl
 refine aj.M1 (Qp:=fun _ _=>False) (jo:= .ptr 0 0::args.map .p) (H0:=[wC e 0 1 l,wF eb l]) d [i,j] hp.OD ?_ ?_ ?_ ?_ ho hd hN hgd hf hxs hc hg (fun _ _ h=>h.elim) ?_
 ·simp only[bq,aW,pi,aX]
 ·simp only[Zx,xo,gi,gj]
  cases l with
  | nil=>rfl
  | cons c t=>
   simp only[wC,wF,YG,kL,Np,Zn,aD,bq,aW,pi,pj c t rfl,tV]
 ·simp[Nat.blt,hil,hjl,hij]
  omega
 ·rintro v' H' ⟨rfl,rfl⟩
  refine⟨by simp,fun j' i' y h1 h2 h3=> ?_⟩
  cases j' with
  | zero=>cases h1;rw[gi] at h2;cases h2
  | succ j'=>
   cases j' with
   | zero=>cases h3;rfl
   | succ j'=>simp at h1
 ·rintro v' H' ⟨rfl,rfl⟩
  have e1:bh H [i,j] [wC e 0 2 (l++s),.dead,wF eb (l++s)]=(H.set i (wC e i H.length (l++s))).set j .dead++[wF eb (l++s)]:=by
   unfold bh
   have e2:aD (dK H [i,j]) (wC e 0 2 (l++s))=wC e i H.length (l++s):=by
    cases l++s with
    | nil=>rfl
    | cons c t=>simp only[wC,YG,kL,Zn,aD,bq,aW,t0,t2]
   have e3:aD (dK H [i,j]) (wF eb (l++s))=wF eb (l++s):=by
    cases l++s with
    | nil=>rfl
    | cons c t=>simp only[wF,Np,Zn,aD,tV]
   simp only[Zn,IN,List.take_succ_cons,Ml,Zx,xo,List.drop_succ_cons,List.drop_zero,e2,e3,ke]
   rfl
  rw[e1]
  exact next
end
section
variable {P:Program} {R:Option Nat} {N κ:Nat} {Q:Post} {T:Tm} {H H':List ai} {o:Oper} {ops:Array Oper} {rest:List Oper}
def Ok(w:World)(I:Nat->Prop):Option PV->FrameMode->Prop
 | none,u=>u= .returning
 | some x,u=>∃ v,u= .panicking [{v:=v,recovered:=false}]∧Rel w I x v
def xB(P:Program)(g:FuncId)(caps:List V)(H:List ai)(y:Option PV)(Hq:List ai->Prop):Prop:=
 ∀ w I ρ us u,Inv P w I ρ H->ag P w I ρ caps us->Ok w I y u->
  CallsDIn Fence.wide 0 P g us.toArray u w fun e u' w'=>e= .returned (.tuple #[])∧settle u'= .returning∧∃ I' ρ' H',Hq H'∧Ext w I ρ w' I' ρ'∧Inv P w' I' ρ' H'
theorem oM{F:Fence}{fn:Func}{tmps:Array Value}{Rr:Ending->World->Prop}{u:FrameMode}(hu:u≠ .run){tail:List Deferred}:∀(rs:List Nat) (w:World),rs.Nodup->(∀ r∈rs,w.heap[r]? =some (Obj.deferred (some [])))->
    (∀ w',(∀ b,b∉rs->w'.heap[b]? =w.heap[b]?)->w'.os=w.os->w'.tape=w.tape->w'.output=w.output->w'.heap.size=w.heap.size->LeavesInM F 0 P fn tmps Rr tail u w')->
    LeavesInM F 0 P fn tmps Rr ((rs.map fun r=>{target:= .collected r,args:= #[]})++tail) u w:=by
 intro rs
 induction rs with
 | nil=>intro w _ _ h;exact h w (fun _ _=>rfl) rfl rfl rfl rfl
 | cons r rs ih=>
  intro w hn hr h
  simp only[Zx,NF,LeavesInM]
  refine⟨hu,.inl ⟨r,w.putObj r (.deferred none),rfl,run_takeDeferred (hr r (by simp)),?_⟩⟩
  exact BL
theorem BO{f:FuncId}(cs:List Frame):∀(rs:List Nat) (w:World) (fr:Frame),fr.mode= .returning->fr.defers=(rs.map fun r=>{target:= .collected r,args:= #[]})->rs.Nodup->(∀ r∈rs,w.heap[r]? =some (Obj.deferred (some [])))->
    ∃ w',StepsIn (Machine.fenced P Fence.wide) P (lone fr cs w) (lone {fr with defers:=[]} cs w')∧(∀ b,b∉rs->w'.heap[b]? =w.heap[b]?)∧w'.os=w.os∧w'.tape=w.tape∧w'.output=w.output∧w'.heap.size=w.heap.size:=by
 intro rs
 induction rs with
 | nil=>
  intro w fr hm hd _ _
  have:({fr with defers:=[]}:Frame)=fr:=by cases fr;simp at hd;subst hd;rfl
  rw[this]
  exact⟨w,.refl _,fun _ _=>rfl,rfl,rfl,rfl,rfl⟩
 | cons r rs ih=>
  intro w fr hm hd hn hr
  have hnd:=ZC.1 hn
  have hput:∀ b,b≠r->(w.putObj r (.deferred none)).heap[b]? =w.heap[b]? :=fun b hb=>World.putObj_heap_other (fun e=>hb e)
  have h1:=step_collected (P:=P) (fr:=fr) (cs:=cs) (w:=w) (w':=w.putObj r (.deferred none)) (d:={target:= .collected r,args:= #[]}) (r:=r) (ds:=rs.map fun r=>{target:= .collected r,args:= #[]}) (calls:=[]) (by rw[hm];simp) hd rfl (run_takeDeferred (hr r (by simp)))
  obtain⟨w',k1,k2,k3,k4,k5,k6⟩:=ih (w.putObj r (.deferred none)) {fr with defers:=[]++rs.map fun r=>{target:= .collected r,args:= #[]}} hm rfl hnd.2 (fun r' h'=>(hput r' (fun e=>hnd.1 (e▸h'))).trans (hr r' (by simp[h'])))
  refine⟨w',.head (fenced_wide P _) h1 k1,fun b hb=> ?_,k3,k4,k5,by rw[k6];simp⟩
  rw[k2 b (fun e=>hb (by simp[e])),hput b (fun e=>hb (by simp[e]))]
def Jg:Option PV->PV
 | none=> .nilIface
 | some x=>x
def T5(Hq:List ai->Prop):Post:=fun x _ H=>(x= .normal∨x= .ret)∧Hq H
theorem xB.start{g:FuncId}{gn:Func}{c:Code}{id d0 d1:Nat}{ob oa:Oper}{caps:List V}{y:Option PV}{Hq:List ai->Prop}(hf:P.funcs[g]? =some gn)(hb:gn.body=some (.seq (.region id #[ob,oa] false) c))(hN:gn.ntmps=N)(hn:caps.length<=N)(hres:∀(a:Array Value) (w:World),(results gn a).run P w= .ok (.tuple #[]) w)
    (hob:ob.op= .call {callee:= .builtin .recover,args:= #[],argTypes:= #[]})(hdb:ob.dst=some d0)(hgb:ob.guard=none)(h0:aZ N (some d0)=true)(hoa:oa.op= .assign (.tmp d0))(hda:oa.dst=some d1)(hga:oa.guard=none)(h1:aZ N (some d1)=true)
    (h:aI P none N H.length c (T5 Hq) ((d1,.p (Jg y))::(d0,.p (Jg y))::cW 0 caps) H):xB P g caps H y Hq:=by
 subst hN
 intro w I ρ us u hi fT hu
 have hl:=ag.length fT
 refine⟨trivial,fun c₀ cs hc hroom=> ?_⟩
 let b:Frame:={(default:Frame) with fn:=g,kind:= .deferred,roundOf:=none}
 have Sg:Frame.enter P g us.toArray .deferred=b.atR {tmps:=us.toArray++Array.replicate (gn.ntmps - us.toArray.size) undef,defers:=[]} [.code (.seq (.region id #[ob,oa] false) c)]:=by
  simp[Frame.enter,Frame.atR,hf,hb,b]
 obtain⟨a,ha⟩:∃ a:Act,a={tmps:=us.toArray++Array.replicate (gn.ntmps - us.toArray.size) undef,defers:=[]}:=⟨_,rfl⟩
 have ht:bn P w I ρ gn.ntmps (cW 0 caps) a.tmps:=by
  subst ha
  refine⟨by simp;omega,fun s v hv=> ?_⟩
  have:=mZ caps us 0 [] (List.replicate (gn.ntmps - us.length) undef) rfl fT s v hv
  have e:us.toArray++Array.replicate (gn.ntmps - us.toArray.size) undef=([]++us++List.replicate (gn.ntmps - us.length) undef).toArray:=by simp
  rw[e];exact this
 -- what recover yields, and how the frame below is left then
 obtain⟨v,u',hv,oG,Mh⟩:∃ v u',Rel w I (Jg y) v∧settle u'= .returning∧(match recoverD (c₀::cs) with | some (x,cs')=>x=v∧cs'={c₀ with mode:=u'}::cs | none=>v= .nilIface∧u'=c₀.mode):=by
  cases y with
  | none=>
   have hu:u= .returning:=hu
   subst hu
   refine⟨.nilIface,.returning,rfl,rfl,?_⟩
   simp[recoverD,hc]
  | some x=>
   obtain⟨v,rfl,hv⟩:=hu
   refine⟨v,.panicking [{v:=v,recovered:=true}],hv,rfl,?_⟩
   simp[recoverD,hc]
 have hT2:bn P w I ρ gn.ntmps ((d1,.p (Jg y))::(d0,.p (Jg y))::cW 0 caps) ((a.put ob.dst v).put oa.dst v).tmps:=by
  rw[hdb,hda]
  have Ox:az P w I ρ (.p (Jg y)) v:=hv
  exact(ht.put (dst:=some d0) h0 Ox).put (dst:=some d1) h1 Ox
 have hval:(a.put ob.dst v).eval (.tmp d0)=v:=by
  have hlt:d0<a.tmps.size:=by
   have h3:d0<gn.ntmps:=by simpa[aZ,Nat.blt,Zw] using h0
   rw[ht.size];exact h3
  rw[hdb]
  simp[Act.put,Act.eval,hlt]
 have hw:=h ⟨w.heap.size,ρ,[]⟩ w I ρ ((a.put ob.dst v).put oa.dst v) hi hT2 ⟨Ze _,Oz hi.len,ZI _,[],by subst ha;rw[hdb,hda];rfl,OQ,fun _ h=>by cases h⟩
 have hwS:=wpSIn_seq (F:=Fence.wide) (n:=0) (P:=P) (Q:=fun e a' cs' w'=>cs'={c₀ with mode:=u'}::cs∧QC H.length ⟨w.heap.size,ρ,[]⟩ P gn.ntmps (T5 Hq) w I ρ e a' w') (a:=a) (cs:=c₀::cs) (w:=w) (x:= .region id #[ob,oa] false) (y:=c) (by
  refine wpSIn_region ?_
  show wpOpsSIn Fence.wide 0 P #[ob,oa] _ [0,1] a (c₀::cs) w
  have e0:(#[ob,oa]:Array Oper)[0]? =some ob:=rfl
  have e1:(#[ob,oa]:Array Oper)[1]? =some oa:=rfl
  have r0:∀ w,(execOp a.eval ob).run P w= .ok .recover w:=fun w=>by
   simp[execOp,hob,Go.resolve,Go.invoke,Go.builtin]
  have r1:∀(a:Act) w,(execOp a.eval oa).run P w= .ok (.value (a.eval (.tmp d0))) w:=fun a w=>by
   simp[execOp,hoa]
  have next:Code.wpSIn Fence.wide 0 P c (fun e a' cs' w'=>cs'={c₀ with mode:=u'}::cs∧QC H.length ⟨w.heap.size,ρ,[]⟩ P gn.ntmps (T5 Hq) w I ρ e a' w') ((a.put ob.dst v).put oa.dst v) ({c₀ with mode:=u'}::cs) w:=
   wpSIn_of_wpIn rfl (wpIn_mono hw fun e a' w' q=>⟨rfl,q⟩)
  simp only[wpOpsSIn,e0,e1,Region.wanted,hgb,hga,r0,r1,if_true]
  refine⟨fun _ _=>trivial,?_⟩
  split at Mh
  ·rename_i x cs' hq
   obtain⟨rfl,rfl⟩:=Mh
   simp only[hq]
   refine⟨fun _ _=>trivial,?_⟩
   rw[hval]
   exact next
  ·rename_i hq
   obtain⟨rfl,rfl⟩:=Mh
   simp only[hq]
   refine⟨fun _ _=>trivial,?_⟩
   rw[hval]
   exact next)
 obtain⟨e,a',cs',w',hlen,⟨hcs,hq⟩,xx⟩:=hwS b [] rfl rfl trivial hroom
 rw[ha,<- Sg] at xx
 obtain⟨z,I',ρ',T',H',q1,⟨q2,q3⟩,q4,q5,q6,hB,_,hpre,rs,q7,q8,q9⟩:=hq
 subst hcs
 have q7':a'.defers=rs.map fun r=>{target:= .collected r,args:= #[]}:=by rw[q7];exact ZU _
 -- the way out
 have fin:∀ todo,StepsIn (Machine.fenced P Fence.wide) P (lone (Frame.enter P g us.toArray .deferred) (c₀::cs) w) (lone {b.atR a' todo with mode:= .returning} ({c₀ with mode:=u'}::cs) w')->
     ∃ e u2 w2 fr,(e= .returned (.tuple #[])∧settle u2= .returning∧∃ I' ρ' H',Hq H'∧Ext w I ρ w2 I' ρ'∧Inv P w2 I' ρ' H')∧
      ComesIn (Machine.fenced P Fence.wide) P (lone (Frame.enter P g us.toArray .deferred) (c₀::cs) w) (lone fr ({c₀ with mode:=u2}::cs) w2) e∧fr.kind= .deferred∧fr.fn=g∧fr.going P w2 e:=fun todo hs=>by
  obtain⟨w2,k0,k1,k2,k3,k4,k5⟩:=BO (P:=P) (f:=g) ({c₀ with mode:=u'}::cs) rs w' {b.atR a' todo with mode:= .returning} rfl q7' q8 (fun r hr=>(q9 r hr).1)
  obtain⟨m1,m2,m3,m4⟩:=ji q4 q5 q6 hpre q9 k1 k2 k3 k4 k5
  exact⟨.returned (.tuple #[]),u',w2,_,⟨rfl,oG,I',ρ',H',q3,m3,m1⟩,StepsIn.trans hs k0,rfl,rfl,rfl,rfl,gn,hf,hres _ _⟩
 rcases q2 with rfl | rfl <;> cases e <;> first | exact q1.elim | skip
 ·exact fin [] (StepsIn.trans xx (.one (fenced_wide P _) (stepR_end rfl)))
 ·obtain⟨todo,hs⟩:=xx.1 rfl
  exact fin todo hs
def aaE(P:Program)(N:Nat)(fn:Func)(g:FuncId)(caps:List V)(Qr:V->List ai->Prop):Post
 | .normal,T,H=>xB P g caps H none fun H'=>∃ v,eT P N fn T H' v∧Qr v H'
 | .ret,T,H=>xB P g caps H none fun H'=>∃ v,eT P N fn T H' v∧Qr v H'
 | .panic y,T,H=>∃ x,y= .p x∧xB P g caps H (some x) fun H'=>∃ v,eT P N fn T H' v∧Qr v H'
 | .exit _,_,_=>False
end
section
variable {P:Program} {R:Option Nat} {N κ:Nat} {Q:Post} {T:Tm} {H H':List ai} {o:Oper} {ops:Array Oper} {rest:List Oper}
theorem Ext.grow{w:World}{I:Nat->Prop}{ρ:List Nat}(hi:Inv P w I ρ H)(k:Nat)(os:Array Obj):Ext w I ρ (Go.Sort.grow (w.drewN k) os) I ρ∧Inv P (Go.Sort.grow (w.drewN k) os) I ρ H:=by
 have hold:∀ b,b<w.heap.size->(Go.Sort.grow (w.drewN k) os).heap[b]? =w.heap[b]? :=fun b hb=>Array.getElem?_append_left hb
 have hsz:w.heap.size<=(Go.Sort.grow (w.drewN k) os).heap.size:=by
  show w.heap.size<=(w.heap++os).size
  rw[WG];omega
 have hE:Ext w I ρ (Go.Sort.grow (w.drewN k) os) I ρ:=⟨⟨rfl,rfl,rfl,hsz,fun b hb _=>hold b hb,fun b s h=>(cP (hold b (kM h))).trans h,fun _ h=>h,fun b h=>hold b (hi.ib b h),
  fun b h=> .inl h,fun b h=>(hold b (ZN.1 h).1).trans h,fun _ _ h=>h,fun _ h=> .inl h⟩,ZI _⟩
 exact⟨hE,hi.same hE (fun b h=>ZR (hi.ib b h) hsz) (fun _ _ h=>h) hold⟩
theorem Pure.w8{f:FuncId}{us:List Value}{args:List PV}{r:PV}(cu:∀ w I vs,aR w I args vs->vs=us)(h:∀(w:World) (I:Nat->Prop),Je P w I->Calls P f us.toArray w fun e w'=>∃ u,e= .returned u∧(∀ w I,Rel w I r u)∧∃ k os,w'=Go.Sort.grow (w.drewN k) os):Pure P f args r:=by
 intro w I ρ vs hi hvs
 have e:=cu w I vs (ag.pure.1 hvs)
 subst e
 refine CallsIn.mono ((callsIn_wide (n:=0)).2 (h w I hi.gl)) ?_
 rintro e w' ⟨u,rfl,hu,k,os,rfl⟩
 obtain⟨h1,h2⟩:=Ext.grow hi k os
 exact⟨u,.p r,I,ρ,[],rfl,⟨rfl,rfl⟩,h1,h2,hu _ _⟩
theorem S9{w:World}{I:Nat->Prop}{nm:String}{g:Nat}{k:IntKind}{zs:List Int}(hg:Je P w I)(hm:(g,zs.map (PV.int k))∈oQ P)(hn:P.globalNamed nm=some g):Lib.TabIs P w nm k zs:=by
 obtain⟨h1,h2,arr,e,fr,h3,h4⟩:=hg.1 _ hm
 have key:∀(ns:List Int) (o:Nat),aT w I (ns.map (PV.int k)) g o->∀ i n,ns[i]? =some n->w.cell? ⟨g,o+i,none⟩=some (.int k n):=by
  exact Bx
 have hcell:=key zs 0 h2
 unfold Lib.TabIs World.var?
 rw[hn]
 simp only[Option.bind_some]
 simp only at h3
 rw[h3]
 simp only[VN]
 rw[Zo] at h4
 apply Array.ext'
 apply Gg
 intro i
 rw[List.toList_toArray,Zt]
 cases hz:zs[i]? with
 | none=>
  have:zs.length<=i:=by simpa using hz
  rw[Option.map_none,ZE]
  rw[Gj];omega
 | some n=>
  have h6:=hcell i n hz
  simp only[World.cell?,h3,yy] at h6
  simpa using h6
def GW(P:Program)(t:TypeId)(v r:PV):Prop:=∃ s y,v= .iface s y∧(s=t∧r= .tuple [y,.bool true]∨Nat.beq s t=false∧∃ z,cO P t=some z∧r= .tuple [z,.bool false])
theorem aa.YK{x:Operand}{t xt:TypeId}{v r:PV}(ho:o.op= .typeAssert x xt t true)(hx:ev T x=some (.p v))(ht:rG P t=true)(hr:GW P t v r):aa P N o T H (.p r) H:=by
 obtain⟨s,y,rfl,⟨rfl,rfl⟩ | ⟨h1,z,h2,rfl⟩⟩:=hr
 ·exact aa.Wn ho hx ht
 ·exact aa.aa1 ho hx ht h1 h2
end
section
variable {P:Program} {R:Option Nat} {N κ:Nat} {Q:Post} {T T0:Tm} {H:List ai}
end
section
variable {P:Program} {R:Option Nat} {N κ:Nat} {Q:Post} {T:Tm} {H H':List ai} {o:Oper} {ops:Array Oper} {rest:List Oper}
def s9(P:Program)(g:FuncId)(args:List PV)(x9:PV):Prop:=au P g (args.map .p) [] (fun _ _=>False) (fun y _=>y=x9)
theorem aj.vo(d:Nat){x9:PV}{g:FuncId}{args:List PV}(hp:s9 P g args x9){f:Operand}{xs:Array Operand}{ts:Array TypeId}{fv:V}{vs:List V}
    (ho:o.op= .call {callee:= .value f,args:=xs,argTypes:=ts})(hd:o.dst=some d)(hN:aZ N (some d)=true)(hgd:o.guard=none)(hf:ev T f=some fv)
    (hxs:kR T xs.toList=some vs)(hc:callee vs fv=some (g,args.map .p))(hg:ak P g=true)(zV:Q (.panic (.p x9)) T H):aj P R N κ ops (o::rest) Q T H:=by
 refine aj.M1 (jo:=args.map .p) (H0:=[]) d [] hp (aX _ _) rfl rfl (fun v H' h=>h.elim) ho hd hN hgd hf hxs hc hg ?_ (fun v H' h=>h.elim)
 rintro y tI rfl
 exact zV
theorem iy.one{fn:Func}{r:ResultVar}{v:V}{Qr:V->List ai->Prop}{Qp:PV->List ai->Prop}(h:fn.results= #[r])(hr:oZ P T H r v)(hq:Qr v H):iy P N fn Qr Qp .ret T H:=lK.one h hr hq
end
section
variable {P:Program} {R:Option Nat} {N κ:Nat} {Q:Post} {T:Tm} {H H':List ai} {o:Oper} {ops:Array Oper} {rest:List Oper}
end
section
variable {P:Program} {R:Option Nat} {N κ:Nat} {Q:Post} {T:Tm} {H H':List ai} {o:Oper} {ops:Array Oper} {rest:List Oper}
theorem G1{w:World}{I:Nat->Prop}{ρ:List Nat}:Ext w I ρ w I (ρ++[w.heap.size]):=⟨⟨rfl,rfl,rfl,Ze _,fun _ _ _=>rfl,fun _ _ h=>h,fun _ h=>h,fun _ _=>rfl,fun _ h=> .inl h,fun _ h=>h,fun _ _ h=>h,fun k hk=>by
    rcases Zp.1 hk with h | h
    ·exact .inl h
    ·simp at h;subst h;exact .inr (Ze _)⟩,⟨_,rfl⟩⟩
theorem O9{w:World}{I:Nat->Prop}{ρ:List Nat}(hi:Inv P w I ρ H):Inv P w I (ρ++[w.heap.size]) (H++[.dead]):=by
 have hE:Ext w I ρ w I (ρ++[w.heap.size]):=G1
 have old:∀(j k:Nat) (blk:ai),(ρ++[w.heap.size])[j]? =some k->(H++[ai.dead])[j]? =some blk->blk.live=true->ρ[j]? =some k∧H[j]? =some blk:=fun j k blk h1 h2 h3=>by
  exact Dk
 refine⟨by simp[hi.len],fun j k blk h1 h2 h3=> ?_,hi.ib,fun j k blk h1 h2 h3=> ?_,fun j j' k x y h1 h2 h3 h4 h5 h6=> ?_,fun j k blk h1 h2=> ?_,hi.gl⟩
 ·obtain⟨h4,h5⟩:=old j k blk h1 h2 h3
  exact hi.gf j k blk h4 h5 h3
 ·obtain⟨h4,h5⟩:=old j k blk h1 h2 h3
  exact hi.live j k blk h4 h5 h3
 ·exact AK
 ·exact D4
end
section
variable {P:Program} {R:Option Nat} {N κ:Nat} {Q:Post} {T:Tm} {H H':List ai} {o:Oper} {ops:Array Oper} {rest:List Oper}
theorem aa.Ar{x:Operand}{t t':TypeId}(ho:o.op= .binOp .neq t x (.const .nilIface) t')(hx:ev T x=some (.p .nilIface))(ht:KL P t=true):aa P N o T H (.p (.bool false)) H:=
 aa.aN (by simp[ho]) fun w I ρ ac hi hT=>by
  have hv:ac.eval x= .nilIface:=hT.ev hx
  obtain⟨ms,hu⟩:∃ ms,P.underlying t=some (.interface ms):=by
   exact Dv
  have hb:(binOp .neq t .nilIface .nilIface).run P w= .ok (.bool false) w:=by
   simp only[binOp]
   have hq:(Op.equal t .nilIface .nilIface).run P w= .ok true w:=by
    show(Op.equalIn (9999+1) t .nilIface .nilIface).run P w= .ok true w
    generalize 9999=d
    simp[Op.equalIn,run_underlying hu]
   simp[hq]
  have e0:ac.eval (.const .nilIface)= .nilIface:=rfl
  exact⟨.bool false,by simp[execOp,ho,hv,e0,eqGuard,hb],by simp[az,Rel]⟩
theorem XE{fn:Func}(h:fn.results= #[])(a:Array Value)(w:World):(results fn a).run P w= .ok (.tuple #[]) w:=by simp[results,h]
end
section
variable {P:Program} {N κ:Nat} {T:Tm} {H:List ai}
end
open Go Go.Deep Go.RowKit
section
variable {P:Program} {R:Option Nat} {N κ:Nat} {Q:Post} {T:Tm} {H H':List ai} {o:Oper} {ops:Array Oper} {rest:List Oper}
theorem Ext.below{w w':World}{I:Nat->Prop}{ρ:List Nat}(hi:Inv P w I ρ H)(hb:Below w.heap.size w w'):Ext w I ρ w' I ρ∧Inv P w' I ρ H:=by
 have hold:∀ b,b<w.heap.size->w'.heap[b]? =w.heap[b]? :=hb.block
 have hE:Ext w I ρ w' I ρ:=⟨⟨hb.os,hb.tape,hb.output,hb.size,fun b h _=>hold b h,fun b s h=>(cP (hold b (kM h))).trans h,fun _ h=>h,fun b h=>hold b (hi.ib b h),
  fun b h=> .inl h,fun b h=>(hold b (ZN.1 h).1).trans h,fun _ _ h=>h,fun _ h=> .inl h⟩,ZI _⟩
 exact⟨hE,hi.same hE (fun b h=>ZR (hi.ib b h) hb.size) (fun _ _ h=>h) hold⟩
theorem Pure.OV{f:FuncId}{us:List Value}{args:List PV}{r:PV}(cu:∀ w I vs,aR w I args vs->vs=us)(h:∀(w:World) (I:Nat->Prop),Je P w I->Calls P f us.toArray w fun e w'=>∃ u,e= .returned u∧(∀ w I,Rel w I r u)∧Below w.heap.size w w'):Pure P f args r:=by
 intro w I ρ vs hi hvs
 have e:=cu w I vs (ag.pure.1 hvs)
 subst e
 refine CallsIn.mono ((callsIn_wide (n:=0)).2 (h w I hi.gl)) ?_
 rintro e w' ⟨u,rfl,hu,hb⟩
 obtain⟨h1,h2⟩:=Ext.below hi hb
 exact⟨u,.p r,I,ρ,[],rfl,⟨rfl,rfl⟩,h1,h2,hu _ _⟩
theorem IK{w:World}{I:Nat->Prop}{g:Nat}(hg:Je P w I)(hn:P.globalNamed "internal/bytealg.MaxLen" =some g):∃ m,w.cell? ⟨g,0,none⟩=some (.int .i64 m):=(hg.2.2 g hn).2
theorem xE{w:World}{g:Nat}{t:TypeId}{zero:Array Value}(h:w.ShapedOpen P)(hg:g<P.globals.size)(h0:((begin P (fun _ _=>0) default).world.heap[g]?).bind Obj.row?=some (zero,t))(hz:zero.size=1)
    (hb:P.buildable t=true)(hc:P.cellTypes P.depth t=some [t])(hu:P.underlying t=some (.int .i64)):g<w.heap.size∧∃ m,w.cell? ⟨g,0,none⟩=some (.int .i64 m):=by
 obtain⟨m,hm⟩:=Go.Proofs.cell_of_shapedOpen_int h hg h0 hz hb hc hu
 refine⟨?_,m,hm⟩
 rcases ZD g w.heap.size with h1 | h1
 ·exact h1
 ·unfold World.cell? at hm
  rw[Array.getElem?_eq_none h1] at hm
  cases hm
end
section
variable {H:Type} {enc:TypeId×Value->H}
theorem Ad{a:Assume}{C:Checked}{os:Os}{f:FuncId}{fn:Func}{s:ChangeSpec}{conds:List PathCond}{apart fresh handsOn again:Bool}{X:World->Array Value->Prop}
    (hX:∀(w w':World) (args:Array Value),w.heap=w'.heap->X w args->X w' args)
    (own:ownKnob C.prog.godebug=none)(started:os.Started)(noInit:C.prog.inits.idxOf? f=none)(hfn:C.prog.funcs[f]? =some fn)
    (witness:∃(w:World) (tape:Tape) (i:Input),w.os=os∧(w.forCall tape i).Shaped C.prog∧i.vars=[]∧Input.okWide C.prog (w.forCall tape i) .any w.heap.size f i∧
     ((s.pre enc C.prog fn conds apart (w.forCall tape i).memory i.args∧X (w.forCall tape i).memory i.args)∧sizedMet enc C.prog fn (OpenSpec.ofChange s) apart (w.forCall tape i).memory i.args)∧a.holds C.prog (lone (Frame.enter C.prog f i.args .normal) [] (w.forCall tape i)))
    (contract:∀(W:World) (base:Nat) (args:Array Value) (ds gs:List (DataW H)) (before:List MemPlace),
     (∀(j:Nat) t v,fn.params[j]? =some t->args[j]? =some v->Value.okWide C.prog W .any base t v)->
     DataW.Whole enc C.prog fn.params.toList s.vars apart W args.toList ds gs before->X W args->W.ShapedOpen C.prog->
     Calls C.prog f args W fun e W'=>∃ v,e= .returned v∧s.post enc C.prog fn apart fresh handsOn again W args v W'):
    ReturnsInHanded a C os f .any (fun w args=>(s.pre enc C.prog fn conds apart w args∧X w args)∧sizedMet enc C.prog fn (OpenSpec.ofChange s) apart w args) (s.post enc C.prog fn apart fresh handsOn again):=by
 refine returnsInHanded_of_calls own started noInit witness fun w tape i _ hsh _ hok hpre hh=> ?_
 obtain⟨_,_,_,f2,SE,_,_,_,_,hval⟩:=hok
 obtain rfl:f2=fn:=ZB (SE.symm.trans hfn)
 obtain⟨⟨⟨ds,gs,before,hw,_⟩,hx⟩,_⟩:=hpre
 exact(contract (w.forCall tape i) w.heap.size i.args ds gs before hval (hw.of_heap (by rfl)) (hX _ _ _ (by rfl) hx) hsh).mono fun e W' ⟨v,h1,h2⟩=>by subst h1;exact ChangeSpec.post_blind h2
end
end Go.AF
end
