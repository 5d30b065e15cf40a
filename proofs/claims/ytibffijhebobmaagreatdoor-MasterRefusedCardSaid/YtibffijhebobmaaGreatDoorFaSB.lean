/-
 Regions that draw; slices, maps, ranges over functions, appends. No condition; generic over any program.
-/
import Derived.Test.YtibffijhebobmaaGreatDoorFaSA
import Derived.Maps.RangeRun
import Derived.Laws.StructEq
import Derived.ChangeKeysEq
theorem BT{A:Prop}(h:A:=by
 apply Fm
 intro i
 simp only[Array.toList_modify,Zs,Zt,List.getElem?_modify]
 by_cases hij:j=i
 ·subst hij
  simp[hjl]
 ·simp[hij]):A:=h
theorem CB{A:Prop}(h:A:=by
 obtain⟨us,hu,h1⟩:=h
 have r:=ny hρ hI hx cs _ h1
 simp only[iO]
 split
 ·rename_i a e;rw[dN e] at r;exact⟨us,hu,ah.pure.1 r⟩
 ·exact⟨us,hu,r⟩):A:=h
theorem Dn{A:Prop}(h:A:=by
 have PO:a.eval (.const (.func (.yield l) #[] #[]))= .func (.yield l) #[] #[]:=rfl
 simp[resolve,rangeCall,hu,PO,Deferred.ofValue]):A:=h
theorem CI{A:Prop}(h:A:=by
 simp only[aY]
 split
 ·rename_i j hj
  obtain⟨b,h1,h2⟩:=h
  exact⟨b,hσ i j b hj h1,h2⟩
 ·trivial):A:=h
set_option linter.unnecessarySimpa false
set_option linter.unusedSectionVars false
set_option linter.unusedSimpArgs false
set_option linter.unusedVariables false
section
section
namespace Go.AF
def bE(ops:Array Oper)(o:Oper)(T:Tm):Tm:=(o.looksAt ops).filterMap fun s=>(lk T s).map (s,·)
theorem mg(T:Tm):∀(l:List Nat) (s:Nat),lk (l.filterMap fun s=>(lk T s).map (s,·)) s=if s∈l then lk T s else none
 | [],s=>by simp[lk]
 | x::l,s=>by
  have ih:=mg T l s
  by_cases hx:x=s
  ·subst hx
   cases h:lk T x with
   | none=>
    simp only[List.filterMap_cons,h,Option.map_none,Zw,true_or,if_true]
    rw[ih]
    split
    ·exact h
    ·rfl
   | some v=>simp[List.filterMap_cons,h,lk]
  ·have hb:Nat.beq x s=false:=by
     cases h0:Nat.beq x s with
     | false=>rfl
     | true=>exact absurd (ZO h0) hx
   have hm:(s∈x::l)↔s∈l:=by simp[Ne.symm hx]
   simp only[hm]
   cases h:lk T x with
   | none=>simp only[List.filterMap_cons,h,Option.map_none];exact ih
   | some v=>simp only[List.filterMap_cons,h,Pm,lk,hb,cond_false];exact ih
def YJ(P:Program)(N:Nat)(ops:Array Oper)(o:Oper)(T:Tm)(H:List ai)(v:V):Prop:=
 (o.guard=none∧aa P N o (bE ops o T) H v H)∨
 (∃ j want s c x v',o.guard=some (j,want)∧kQ ops j=some s∧aU N (some s)=true∧lk (bE ops o T) s=some x∧mE want x=some c∧v= .opt c v'∧(c=true->∃ T2,n8 T2 (bE ops o T)∧aa P N o T2 H v' H))
def av(P:Program)(N:Nat)(ops:Array Oper)(H:List ai)(K:Tm->Prop):List Oper->Tm->Prop
 | [],T=>K T
 | o::rest,T=>∃ v,aU N o.dst=true∧YJ P N ops o T H v∧av P N ops H K rest (fM T o.dst v)
section
variable {P:Program} {R:Option Nat} {N κ:Nat} {Q:Post} {T:Tm} {H:List ai} {o:Oper} {ops:Array Oper} {K:Tm->Prop} {rest:List Oper}
theorem av.nil(h:K T):av P N ops H K [] T:=h
theorem av.cons(d:Nat){v:V}(hd:o.dst=some d)(hdN:aU N (some d)=true)(hg:o.guard=none)(hop:aa P N o (bE ops o T) H v H)(next:av P N ops H K rest ((d,v)::T)):av P N ops H K (o::rest) T:=
 ⟨v,by rw[hd];exact hdN,.inl ⟨hg,hop⟩,by rw[hd];exact next⟩
theorem av.guard(d s:Nat){j:Nat}{want c:Bool}{x v:V}(hd:o.dst=some d)(hdN:aU N (some d)=true)(hg:o.guard=some (j,want))(hs:kQ ops j=some s)(tX:aU N (some s)=true)(hb:lk (bE ops o T) s=some x)(hc:mE want x=some c)
    (T2:Tm)(h2:c=true->n8 T2 (bE ops o T))(hop:c=true->aa P N o T2 H v H)(next:av P N ops H K rest ((d,.opt c v)::T)):av P N ops H K (o::rest) T:=
 ⟨_,by rw[hd];exact hdN,.inr ⟨j,want,s,c,x,v,hg,hs,tX,hb,hc,rfl,fun h=>⟨T2,h2 h,hop h⟩⟩,by rw[hd];exact next⟩
def It(t:List Nat):List Edge->Nat
 | []=>0
 | e::es=>bif Region.binds .any e then(1<<<e.on)||| t.getD e.on 0||| It t es else It t es
def xe:List Nat->List Oper->List Nat
 | t,[]=>t
 | t,o::l=>xe (t++[It t o.after.toList]) l
def kg(m:Nat)(l:List Oper):Bool:=
 let t:=xe [] l
 let ix:=List.range l.length
 (ix.all fun i=>(l.getD i default).after.toList.all fun e=> !Region.binds .any e||decide (e.on<i))&&
 (ix.all fun i=>ix.all fun j=>i==j||((l.getD i default).dst.isNone|| !((l.getD i default).dst==(l.getD j default).dst)))&&
 (ix.all fun i=>((l.getD i default).looksAt l.toArray).all fun s=>ix.all fun j=>i==j|| !((l.getD j default).dst==some s)||(if j<i then(t.getD i 0).testBit j else(t.getD j 0).testBit i))&&
 (ix.all fun i=>decide (i<m)||(List.range i).all fun j=>(t.getD i 0).testBit j)
theorem sD(t:List Nat)(x:Nat):∀ es:List Edge,(It t es).testBit x=true->∃ e∈es,Region.binds .any e=true∧(x=e.on∨(t.getD e.on 0).testBit x=true)
 | [],h=>by simp[It] at h
 | e::es,h=>by
  simp only[It] at h
  cases hb:Region.binds .any e with
  | true=>
   rw[hb] at h
   simp only[cond_true,O9,Fc] at h
   rcases h with(h | h) | h
   ·refine⟨e,by simp,hb,.inl ?_⟩
    rw[Nat.one_shiftLeft,LN] at h
    simpa[eq_comm] using h
   ·exact⟨e,by simp,hb,.inr h⟩
   ·obtain⟨e',h1,h2⟩:=sD t x es h
    exact⟨e',by simp[h1],h2⟩
  | false=>
   rw[hb] at h
   obtain⟨e',h1,h2⟩:=sD t x es h
   exact⟨e',by simp[h1],h2⟩
theorem nP(f:Nat->Bool):∀(l pre:List Oper) (t:List Nat),t.length=pre.length->
    (∀ i o,(pre++l)[i]? =some o->f i=true->∀ e∈o.after,Region.binds .any e=true->f e.on=true)->
    (∀ i x,i<t.length->(t.getD i 0).testBit x=true->f i=true->f x=true)->∀ i x,((xe t l).getD i 0).testBit x=true->f i=true->f x=true
 | [],pre,t,hl,hc,ht,i,x,hx,hi=>by
  by_cases h:i<t.length
  ·exact ht i x h hx hi
  ·simp only[xe] at hx
   rw[Ze,ZF (by omega)] at hx
   simp at hx
 | o::l,pre,t,hl,hc,ht,i,x,hx,hi=>by
  refine nP f l (pre++[o]) _ (by simp[hl]) (by simpa using hc) ?_ i x hx hi
  intro k y hk hy hfk
  by_cases h:k<t.length
  ·rw[Ze,Zd h,<- Ze] at hy
   exact ht k y h hy hfk
  ·have hk':k=t.length:=by simp at hk;omega
   subst hk'
   rw[Ze,Zj (Zf _)] at hy
   simp only[OX,List.getElem?_cons_zero,TC] at hy
   obtain⟨e,he,hb,hy⟩:=sD t y _ hy
   have ho:(pre++o::l)[t.length]? =some o:=by rw[hl];simp
   have hon:=hc _ o ho hfk e (by simpa using he) hb
   rcases hy with rfl | hy
   ·exact hon
   ·by_cases h2:e.on<t.length
    ·exact ht e.on y h2 hy hon
    ·rw[Ze,ZF (by omega)] at hy
     simp at hy
def tl(l:List Oper)(T:Tm)(vs:Nat->V)(f:Nat->Bool)(s:Nat):Option V:=
 match (List.range l.length).find? fun j=>f j&&(l.getD j default).dst==some s with
 | some j=>some (vs j)
 | none=>lk T s
structure fH (m:Nat) (l:List Oper):Prop where
 back:∀(i:Nat) (o:Oper),l[i]? =some o->∀ e∈o.after,Region.binds .any e=true->e.on<i
 uniq:∀(i j:Nat) (oi oj:Oper) (s:Nat),l[i]? =some oi->l[j]? =some oj->oi.dst=some s->oj.dst=some s->i=j
 look:∀(f:Nat->Bool),(∀(i:Nat) (o:Oper),l[i]? =some o->f i=true->∀ e∈o.after,Region.binds .any e=true->f e.on=true)->∀(i j:Nat) (oi oj:Oper) (s:Nat),l[i]? =some oi->l[j]? =some oj->s∈oi.looksAt l.toArray->oj.dst=some s->i≠j->(j<i->f i=true->f j=true)∧(i<j->f j=true->f i=true)
 tail:∀(f:Nat->Bool),(∀(i:Nat) (o:Oper),l[i]? =some o->f i=true->∀ e∈o.after,Region.binds .any e=true->f e.on=true)->∀ i,m<=i->i<l.length->f i=true->∀ j,j<i->f j=true
theorem jZ{l:List Oper}{i:Nat}{o:Oper}(h:l[i]? =some o):l.getD i default=o:=by simp[Ze,h]
theorem cv{α:Type}{l:List α}{i:Nat}{o:α}(h:l[i]? =some o):i<l.length:=(Za.1 h).1
theorem fH.of{m:Nat}{l:List Oper}(h:kg m l=true):fH m l:=by
 simp only[kg,Zm] at h
 obtain⟨⟨⟨h1,h2⟩,h3⟩,h4⟩:=h
 have spec:=fun(f:Nat->Bool) hc=>nP f l [] [] rfl (by simpa using hc) (fun i x h=>by simp at h)
 refine⟨fun i o ho e he hb=> ?_,fun i j oi oj s hi hj Wx Pb=> ?_,fun f hc i j oi oj s hi hj hs hd hne=> ?_,fun f hc i hm hi hf j hj=> ?_⟩
 ·have:=Zz.1 (Zz.1 h1 i (ZZ.2 (cv ho))) e (by rw[jZ ho];simpa using he)
  simpa[hb] using this
 ·have:=Zz.1 (Zz.1 h2 i (ZZ.2 (cv hi))) j (ZZ.2 (cv hj))
  rw[jZ hi,jZ hj,Wx,Pb] at this
  simpa using this
 ·have:=Zz.1 (Zz.1 (Zz.1 h3 i (ZZ.2 (cv hi))) s (by rw[jZ hi];exact hs)) j (ZZ.2 (cv hj))
  rw[jZ hj,hd] at this
  have aat:(i==j)=false:=by simpa using hne
  simp only[aat,Bool.false_or,BEq.rfl,Bool.not_true] at this
  constructor
  ·intro hlt hfi
   rw[if_pos hlt] at this
   exact spec f hc i j (by simpa using this) hfi
  ·intro hlt uB
   rw[if_neg (by omega)] at this
   exact spec f hc j i (by simpa using this) uB
 ·have:=Zz.1 h4 i (ZZ.2 hi)
  have hn:decide (i<m)=false:=by simpa using hm
  rw[hn,Bool.false_or] at this
  have:=Zz.1 this j (ZZ.2 hj)
  exact spec f hc i j (by simpa using this) hf
section
variable {m:Nat} {l:List Oper} {vs:Nat->V}
theorem qA(hk:fH m l){f:Nat->Bool}{j:Nat}{o:Oper}{s:Nat}(hj:l[j]? =some o)(hf:f j=true)(hd:o.dst=some s):tl l T vs f s=some (vs j):=by
 unfold tl
 cases hfd:(List.range l.length).find? (fun j=>f j&&(l.getD j default).dst==some s) with
 | none=>
  have:=List.find?_eq_none.1 hfd j (ZZ.2 (cv hj))
  rw[jZ hj,hd,hf] at this
  simp at this
 | some k=>
  have h1:=List.find?_some hfd
  have h2:=ZZ.1 (List.mem_of_find?_eq_some hfd)
  simp only[Zm,beq_iff_eq] at h1
  have hk2:l[k]? =some l[k]:=Zb h2
  rw[jZ hk2] at h1
  have:=hk.uniq j k o l[k] s hj hk2 hd h1.2
  rw[this]
theorem lU{f:Nat->Bool}{s:Nat}(h:∀ j o,l[j]? =some o->f j=true->o.dst≠some s):tl l T vs f s=lk T s:=by
 unfold tl
 cases hfd:(List.range l.length).find? (fun j=>f j&&(l.getD j default).dst==some s) with
 | none=>rfl
 | some k=>
  have h1:=List.find?_some hfd
  have h2:=ZZ.1 (List.mem_of_find?_eq_some hfd)
  simp only[Zm,beq_iff_eq] at h1
  have hk2:l[k]? =some l[k]:=Zb h2
  rw[jZ hk2] at h1
  exact absurd h1.2 (h k l[k] hk2 h1.1)
theorem ij(hk:fH m l){f g:Nat->Bool}{s:Nat}(h:∀ j o,l[j]? =some o->o.dst=some s->f j=g j):tl l T vs f s=tl l T vs g s:=by
 by_cases hex:∃ j o,l[j]? =some o∧f j=true∧o.dst=some s
 ·obtain⟨j,o,h1,h2,h3⟩:=hex
  rw[qA hk h1 h2 h3,qA hk h1 ((h j o h1 h3)▸h2) h3]
 ·rw[lU (fun j o h1 h2 h3=>hex ⟨j,o,h1,h2,h3⟩),lU (fun j o h1 h2 h3=>hex ⟨j,o,h1,(h j o h1 h3).trans h2,h3⟩)]
theorem av.vals{ops:Array Oper}:∀{l':List Oper} {T:Tm},av P N ops H K l' T->∃(vs:Nat->V) (Tx:Nat->Tm),Tx 0=T∧(∀ i o,l'[i]? =some o->aU N o.dst=true∧YJ P N ops o (Tx i) H (vs i)∧Tx (i+1)=fM (Tx i) o.dst (vs i))∧K (Tx l'.length)
 | [],T,h=>⟨fun _=> .top,fun _=>T,rfl,fun i o ho=>by simp at ho,h⟩
 | o::l',T,h=>by
  obtain⟨v,hd,hy,hn⟩:=h
  obtain⟨vs,Tx,h0,h1,h2⟩:=av.vals hn
  refine⟨fun i=>match i with | 0=>v | i+1=>vs i,fun i=>match i with | 0=>T | i+1=>Tx i,rfl,fun i x hx=> ?_,h2⟩
  cases i with
  | zero=>simp at hx;subst hx;exact⟨hd,hy,h0⟩
  | succ i=>simp at hx;exact h1 i x hx
theorem vg(hk:fH m l){Tx:Nat->Tm}{M:Nat}(hM:M<=l.length)(h0:Tx 0=T)(h1:∀ i o,i<M->l[i]? =some o->Tx (i+1)=fM (Tx i) o.dst (vs i)):∀ i,i<=M->∀ s,lk (Tx i) s=tl l T vs (fun j=>decide (j<i)) s
 | 0,_,s=>by rw[h0,lU (fun j o _ h=>by simp at h)]
 | i+1,hi,s=>by
  have ho:l[i]? =some (l[i]'(by omega)):=Zb _
  rw[h1 i _ (by omega) ho]
  have ih:=vg hk hM h0 h1 i (by omega) s
  by_cases hs:(l[i]'(by omega)).dst=some s
  ·rw[hs,qA hk ho (by simp) hs]
   simp[fM,lk]
  ·have e:lk (fM (Tx i) (l[i]'(by omega)).dst (vs i)) s=lk (Tx i) s:=by
     cases hd:(l[i]'(by omega)).dst with
     | none=>rfl
     | some d=>
      have hne:d≠s:=fun e=>hs (by rw[hd,e])
      have hb:Nat.beq d s=false:=by
       cases h0:Nat.beq d s with
       | false=>rfl
       | true=>exact absurd (ZO h0) hne
      simp[fM,lk,hb]
   rw[e,ih]
   refine ij hk fun j o hj hd=> ?_
   have hne:j≠i:=fun e=>by
    subst e
    rw[ho] at hj
    cases hj
    exact hs hd
   simp;omega
theorem count_set:∀(l:List Bool) (i:Nat),l[i]? =some false->(l.set i true).count false+1=l.count false
 | [],i,h=>by simp at h
 | b::l,0,h=>by simp at h;subst h;simp
 | b::l,i+1,h=>by
  simp at h
  have:=count_set l i h
  cases b <;> simp <;> omega
def SI(κ:Nat)(P:Program)(N:Nat)(H:List ai)(l:List Oper)(T:Tm)(vs:Nat->V)(B:mI)(w0:World)(I0:Nat->Prop)(ρ0:List Nat)(f:Nat->Bool)(a:Act)(w:World):Prop:=
 ∃ I ρ,cA w0 I0 ρ0 w I ρ∧Inv P w I ρ H∧a.tmps.size=N∧(∀ s v,tl l T vs f s=some v->aC P w I ρ v (a.tmps.getD s undef))∧Marks κ B w I ρ a.defers
def fl(listed:Array Bool)(i:Nat):Bool:=listed.getD i false
theorem iu{listed:Array Bool}{i:Nat}(hi:i<listed.size)(j:Nat):fl (listed.setIfInBounds i true) j=(decide (j=i)||fl listed j):=by
 unfold fl
 by_cases h:j=i
 ·subst h;simp[hi]
 ·simp[h,Ne.symm h]
theorem rW(hk:fH m l){QX:Exit->Act->World->Prop}:∀(fuel k:Nat) (listed:Array Bool) (a:Act) (w:World),fuel+k=l.length->m<=k->listed.size=l.length->(∀ i,i<l.length->fl listed i=decide (i<k))->
    wpListIn (Fr R) 0 P l.toArray QX (l.drop k) a w->wpAnyIn (Fr R) 0 P .any l.toArray QX fuel listed a w
 | 0,k,listed,a,w,hf,hm,hsz,hl,h=>by
  have hk':k=l.length:=by omega
  subst hk'
  refine⟨?_,by simpa[wpListIn] using h⟩
  refine List.eq_nil_iff_forall_not_mem.2 fun i hi=> ?_
  obtain⟨h1,o,ho,_⟩:=mem_ready.1 hi
  have hlt:i<l.length:=cv (by simpa using ho)
  have h2:=hl i hlt
  unfold fl at h2
  simp[hsz,hlt] at h1 h2
  rw[h1] at h2;cases h2
 | fuel+1,k,listed,a,w,hf,hm,hsz,hl,h=>by
  have hlt:k<l.length:=by omega
  have ho:l[k]? =some l[k]:=Zb hlt
  have hr:k∈Region.ready .any l.toArray listed:=by
   refine mem_ready.2 ⟨?_,l[k],by simpa using ho,fun e he hb=> ?_⟩
   ·have:=hl k hlt
    unfold fl at this
    simp[hsz,hlt] at this ⊢
    exact this
   ·have hlt2:=hk.back k _ ho e he hb
    have:=hl e.on (by omega)
    unfold fl at this
    simpa[hlt2] using this
  refine⟨(fun h0=>by rw[h0] at hr;cases hr),fun i hi=> ?_⟩
  have hik:i=k:=by
   obtain⟨h1,o,ho',hall⟩:=mem_ready.1 hi
   have Pj:l[i]? =some o:=by simpa using ho'
   have hilt:=cv Pj
   have h2:=hl i hilt
   unfold fl at h2
   simp[hsz,hilt] at h1 h2
   rw[h1] at h2
   have hki:k<=i:=by simpa using h2.symm
   by_cases he:i=k
   ·exact he
   ·exfalso
    have hf:=hk.tail (fun j=>decide (j=i)||fl listed j) (fun j oj hj uB e he hb=>by
     simp only[Fc,Zn] at uB ⊢
     rcases uB with rfl | uB
     ·rw[Pj] at hj;cases hj
      exact .inr (hall e he hb)
     ·have h3:=hl j (cv hj)
      rw[uB] at h3
      have He:j<k:=by simpa using h3.symm
      have:=hk.back j _ hj e he hb
      exact .inr (by rw[hl e.on (by omega)];simp;omega)) i (by omega) hilt (by simp) k (by omega)
    have h4:=hl k hlt
    simp[Ne.symm he,h4] at hf
  subst hik
  have Xf:l.drop i=l[i]::l.drop (i+1):=U3 hlt
  rw[Xf] at h
  unfold wpOpIn
  have hoo:l.toArray[i]? =some l[i]:=by simpa using ho
  simp only[hoo]
  have next:∀ a w,wpListIn (Fr R) 0 P l.toArray QX (l.drop (i+1)) a w->wpAnyIn (Fr R) 0 P .any l.toArray QX fuel (listed.setIfInBounds i true) a w:=fun a w h=>by
   refine rW hk fuel (i+1) _ a w (by omega) (by omega) (by simp[hsz]) (fun j hj=> ?_) h
   rw[iu (by omega),hl j hj]
   by_cases e:j=i
   ·subst e;simp
   ·simp[e];omega
  simp only[wpListIn] at h
  split
  ·rename_i hw;rw[if_pos hw] at h;exact Oper.wpIn_mono next h
  ·rename_i hw;rw[if_neg hw] at h;exact⟨h.1,next _ _ h.2⟩
theorem JD(hk:fH m l)(hm:m<=l.length){B:mI}{w0:World}{I0:Nat->Prop}{ρ0:List Nat}{QX:Exit->Act->World->Prop}{Tx:Nat->Tm}(h0:Tx 0=T)
    (h1:∀ i o,i<m->l[i]? =some o->aU N o.dst=true∧YJ P N l.toArray o (Tx i) H (vs i)∧Tx (i+1)=fM (Tx i) o.dst (vs i))
    (hK:∀ a w I ρ,cA w0 I0 ρ0 w I ρ->Inv P w I ρ H->bq P w I ρ N (Tx m) a.tmps->Marks κ B w I ρ a.defers->wpListIn (Fr R) 0 P l.toArray QX (l.drop m) a w):
    ∀(fuel:Nat) (listed:Array Bool) (a:Act) (w:World),listed.toList.count false=fuel->listed.size=l.length->(∀ i o,l[i]? =some o->fl listed i=true->∀ e∈o.after,Region.binds .any e=true->fl listed e.on=true)->(∀ i,m<=i->fl listed i=false)->
    SI κ P N H l T vs B w0 I0 ρ0 (fl listed) a w->wpAnyIn (Fr R) 0 P .any l.toArray QX fuel listed a w:=by
 intro fuel
 have hlk:=vg (vs:=vs) hk hm h0 (fun i o hi ho=>(h1 i o hi ho).2.2)
 have done:∀(fuel:Nat) (listed:Array Bool) (a:Act) (w:World),listed.toList.count false=fuel->listed.size=l.length->(∀ i,m<=i->fl listed i=false)->(∀ i,i<m->fl listed i=true)->SI κ P N H l T vs B w0 I0 ρ0 (fl listed) a w->wpAnyIn (Fr R) 0 P .any l.toArray QX fuel listed a w:=by
  intro fuel listed a w nZ hsz x5 hall hsi
  obtain⟨I,ρ,he,hi,hs,cu,hmk⟩:=hsi
  exact qR
 induction fuel with
 | zero=>
  exact ng
 | succ fuel ih=>
  intro listed a w nZ hsz hcl x5 hsi
  by_cases hall:∀ i,i<m->fl listed i=true
  ·exact nD
  ·obtain⟨i0,uV,hmin⟩:∃ i0,(i0<m∧fl listed i0=false)∧∀ j,j<i0->fl listed j=true:=by
     exact nE
   have Ka:l[i0]? =some (l[i0]'(by omega)):=Zb _
   have zo:i0∈Region.ready .any l.toArray listed:=by
    exact oc
   refine⟨(fun h=>by rw[h] at zo;cases zo),fun i hi=> ?_⟩
   obtain⟨h3,o,ho',Wn⟩:=mem_ready.1 hi
   have ho:l[i]? =some o:=by simpa using ho'
   have hilt:=cv ho
   have vY:∀ j oj,l[j]? =some oj->(decide (j=i)||fl listed j)=true->∀ e∈oj.after,Region.binds .any e=true->(decide (e.on=i)||fl listed e.on)=true:=fun j oj hj uB e he hb=>by
    exact kV
   have pU:i<m:=by
    exact mW
   have tT:fl listed i=false:=by
    exact kG
   obtain⟨rV,hy,_⟩:=h1 i o pU ho
   obtain⟨I,ρ,he,hinv,hs,cu,hmk⟩:=hsi
   have mC:∀ s v,lk (bE l.toArray o (Tx i)) s=some v->aC P w I ρ v (a.tmps.getD s undef):=by
    exact mV
   have AI:bq P w I ρ N (bE l.toArray o (Tx i)) a.tmps:=⟨hs,mC⟩
   have next:∀ u w' I' ρ',Ext w I ρ w' I' ρ'->Inv P w' I' ρ' H->aC P w' I' ρ' (vs i) u->wpAnyIn (Fr R) 0 P .any l.toArray QX fuel (listed.setIfInBounds i true) (a.put o.dst u) w':=by
    exact nu
   unfold wpOpIn
   simp only[ho']
   rcases hy with⟨hg,hop⟩ | ⟨j,want,s,c,x,v',hg,pV,tX,hb,hc,hv,hop⟩
   ·exact kH
   ·exact mP
theorem aF.aB{id:Nat}(m:Nat)(FN:P.follows .mixedOrders=true)(hk:kg m l=true)(hm:m<=l.length)(h:av P N l.toArray H (fun T'=>aj P R N κ l.toArray (l.drop m) Q T' H) (l.take m) T):aF P R N κ (.region id l.toArray true) Q T H:=by
 intro B w I ρ a hi ht hmk
 obtain⟨vs,Tx,h0,h1,h2⟩:=av.vals h
 have hlen:(l.take m).length=m:=by simp;omega
 rw[hlen] at h2
 refine wpIn_region_any FN ?_
 have hi':Inv P w.drew I ρ H:=hi.drew
 refine JD (κ:=κ) (fH.of hk) hm (B:=B) (w0:=w) (I0:=I) (ρ0:=ρ) h0 (fun i o pU ho=>h1 i o (by rw[ZR,if_pos pU];exact ho)) ?_ _ _ a w.drew (by simp) (by simp) ?_ ?_ ?_
 ·exact rF
 ·exact lz
 ·exact kP
 ·exact CF
end
end
section
variable {P:Program} {R:Option Nat} {N κ:Nat} {Q Q':Post} {T T':Tm} {H H':List ai} {o:Oper} {ops:Array Oper} {rest:List Oper}
theorem aj.c(d:Nat){v:V}(hd:o.dst=some d)(hN:aU N (some d)=true)(hg:o.guard=none)(hop:aa P N o T H v H')(next:aj P R N κ ops rest Q ((d,v)::T) H'):aj P R N κ ops (o::rest) Q T H:=
 aj.cons hg (by rw[hd];exact hN) hop (by rw[hd];exact next)
theorem aj.c0{v:V}(hd:o.dst=none)(hg:o.guard=none)(hop:aa P N o T H v H')(next:aj P R N κ ops rest Q T H'):aj P R N κ ops (o::rest) Q T H:=
 aj.cons hg (by rw[hd];rfl) hop (by rw[hd];exact next)
theorem aj.g(d s:Nat){j:Nat}{want c:Bool}{x v:V}(hd:o.dst=some d)(hN:aU N (some d)=true)(hg:o.guard=some (j,want))(hs:kQ ops j=some s)(tX:aU N (some s)=true)
    (hb:lk T s=some x)(hc:mE want x=some c)(T2:Tm)(h2:c=true->n8 T2 T)(hop:c=true->aa P N o T2 H v H)(next:aj P R N κ ops rest Q ((d,.opt c v)::T) H):aj P R N κ ops (o::rest) Q T H:=
 aj.guard hg hs (by rw[hd];exact hN) tX hb hc T2 h2 hop (by rw[hd];exact next)
theorem W0{b:Bool}(h:b=true):(b==true)=true:=by rw[h];rfl
theorem aI{n:Int}(h: -9223372036854775808<=n∧n<=9223372036854775807):IntKind.i64.wrap n=n:=by rw[IntKind.wrap_i64];omega
theorem Z4{n:Int}(h:0<=n∧n<=255):IntKind.u8.wrap n=n:=by rw[IntKind.wrap_u8];omega
theorem xz{n:Int}(h:0<=n∧n<=4294967295):IntKind.u32.wrap n=n:=by rw[IntKind.wrap_u32];omega
def Fin(P:Program)(N:Nat)(fn:Func)(r:PV):Post:=fun x T H=>(x= .normal∨x= .ret)∧eX P N fn T H (.p r)
theorem Pure.start{f:FuncId}{fn:Func}{c:Code}{args:List PV}{r:PV}(hf:P.funcs[f]? =some fn)(hb:fn.body=some c)(hN:fn.ntmps=N)(hn:args.length<=N)(h:aF P none N 0 c (Fin P N fn r) (c6 0 (args.map .p)) []):Pure P f args r:=by
 subst hN
 exact Pure.ir hf hb hn h
theorem Fin.one{fn:Func}{q:ResultVar}{r:PV}(h:fn.results= #[q])(hr:pT P T H q (.p r)):Fin P N fn r .ret T H:=⟨.inr rfl,eX.one h hr⟩
theorem lB(xs:List PV):jF (xs.map .p)=some xs:=by
 induction xs with
 | nil=>rfl
 | cons x xs ih=>simp[jF,ih]
theorem Fin.many{fn:Func}{r1 r2:ResultVar}{rs:List ResultVar}{vs:List V}{xs:List PV}(h:fn.results=(r1::r2::rs).toArray)(hr:zv P T H (r1::r2::rs) vs)(hv:vs=xs.map .p):Fin P N fn (.tuple xs) .ret T H:=by
 refine⟨.inr rfl,?_⟩
 have:=eX.many (N:=N) h hr
 have e:jS vs= .p (.tuple xs):=by
  subst hv
  simp[jS,lB]
 rw[e] at this
 exact this
def jV(P:Program)(N:Nat)(fn:Func)(Qr:V->List ai->Prop):Post:=fun x T H=>(x= .normal∨x= .ret)∧∃ v,eX P N fn T H v∧Qr v H
theorem az.start{f:FuncId}{fn:Func}{c:Code}{args:List V}{Qr:V->List ai->Prop}(hf:P.funcs[f]? =some fn)(hb:fn.body=some c)(hN:fn.ntmps=N)(hn:args.length<=N)(h:aF P none N H.length c (jV P N fn Qr) (c6 0 args) H):az P f args H Qr:=by
 subst hN
 exact az.ir hf hb hn h
mutual
def iO(i:Nat)(xs:List PV):V->V
 | .p x=> .p x
 | .ptr j off=>if j=i then .p (.ip xs off) else .ptr j off
 | .row j len=>if j=i then .p (.is xs len) else .row j len
 | .sl j off len=>if j=i then .p (.is ((xs.drop off)) len) else .sl j off len
 | .map j=> .map j
 | .func fn fi ca=>match jF (lC i xs fi),jF (lC i xs ca) with
   | some a,some b=> .p (.func fn a b)
   | _,_=> .func fn (lC i xs fi) (lC i xs ca)
 | .iface t v=>match iO i xs v with
   | .p x=> .p (.iface t x)
   | y=> .iface t y
 | .agg cs=>match jF (lC i xs cs) with
   | some a=> .p (.agg a)
   | none=> .agg (lC i xs cs)
 | .tuple cs=>match jF (lC i xs cs) with
   | some a=> .p (.tuple a)
   | none=> .tuple (lC i xs cs)
 | .opt g v=> .opt g (iO i xs v)
 | .raw a n c=> .raw a n c
 | .z0=> .z0
 | .top=> .top
def lC(i:Nat)(xs:List PV):List V->List V
 | []=>[]
 | v::vs=>iO i xs v::lC i xs vs
end
mutual
theorem nj{w:World}{I:Nat->Prop}{ρ:List Nat}{i b:Nat}{xs:List PV}(hρ:ρ[i]? =some b)(hI:I b)(hx:aS w I xs b 0):∀(v:V) (u:Value),aC P w I ρ v u->aC P w I ρ (iO i xs v) u
 | .p x,u,h=>by simpa[iO] using h
 | .ptr j off,u,h=>by
  simp only[iO]
  split
  ·rename_i e;subst e
   obtain⟨b',hb,hu⟩:=h
   rw[hρ] at hb;cases hb
   exact⟨b,0,hI,by simpa using hu,hx⟩
  ·exact h
 | .row j len,u,h=>by
  simp only[iO]
  split
  ·rename_i e;subst e
   obtain⟨b',e',cap,hb,hu,_,hl⟩:=h
   rw[hρ] at hb;cases hb
   exact .inr ⟨b,0,cap,fun _=>hI,hl,hu,hx⟩
  ·exact h
 | .sl j off len,u,h=>by
  simp only[iO]
  split
  ·rename_i e;subst e
   obtain⟨b',cap,hb,hu,hl⟩:=h
   rw[hρ] at hb;cases hb
   exact .inr ⟨b,off,cap,fun _=>hI,hl,hu,by simpa using aS.drop off hx⟩
  ·exact h
 | .map j,u,h=>by simpa[iO] using h
 | .func fn fi ca,u,h=>by
  obtain⟨us,vs,hu,h1,h2⟩:=h
  have r1:=ny hρ hI hx fi _ h1
  have r2:=ny hρ hI hx ca _ h2
  simp only[iO]
  split
  ·rename_i a c e1 e2
   rw[dN e1] at r1
   rw[dN e2] at r2
   exact⟨us,vs,hu,ah.pure.1 r1,ah.pure.1 r2⟩
  ·exact⟨us,vs,hu,r1,r2⟩
 | .iface t v,u,h=>by
  obtain⟨x,hu,h1⟩:=h
  have r:=nj hρ hI hx v x h1
  simp only[iO]
  split
  ·rename_i y e;rw[e] at r;exact⟨x,hu,r⟩
  ·exact⟨x,hu,r⟩
 | .agg cs,u,h=>by
  exact CB
 | .tuple cs,u,h=>by
  exact CB
 | .opt g v,u,h=>⟨fun hg=>nj hρ hI hx v u (h.1 hg),h.2⟩
 | .raw _ _ _,u,h=>by simpa[iO] using h
 | .z0,u,h=>by simpa[iO] using h
 | .top,_,_=>by simp[iO,aC]
theorem ny{w:World}{I:Nat->Prop}{ρ:List Nat}{i b:Nat}{xs:List PV}(hρ:ρ[i]? =some b)(hI:I b)(hx:aS w I xs b 0):∀(vs:List V) (us:List Value),ah P w I ρ vs us->ah P w I ρ (lC i xs vs) us
 | [],us,h=>by simpa[lC] using h
 | v::vs,us,h=>by
  obtain⟨u,us',hu,h1,h2⟩:=h
  exact⟨u,us',hu,nj hρ hI hx v u h1,ny hρ hI hx vs us' h2⟩
end
def xV(i:Nat)(xs:List PV):Tm->Tm
 | []=>[]
 | (s,v)::r=>(s,iO i xs v)::xV i xs r
theorem oM{i:Nat}{xs:List PV}:∀(T:Tm) (s:Nat),lk (xV i xs T) s=(lk T s).map (iO i xs)
 | [],s=>rfl
 | (a,v)::r,s=>by
  simp only[xV,lk]
  cases Nat.beq a s with
  | true=>rfl
  | false=>exact oM r s
theorem aS.me{w:World}{I:Nat->Prop}{b:Nat}:∀(xs:List PV) (us:List Value) (k:Nat),aQ w I xs us->(∀ j u,us[j]? =some u->w.cell? ⟨b,k+j,none⟩=some u)->aS w I xs b k
 | [],_,_,_,_=>by simp[aS]
 | x::xs,us,k,h,hc=>by
  obtain⟨u,us',rfl,h1,h2⟩:=h
  exact⟨⟨u,by simpa using hc 0 u rfl,h1⟩,aS.me xs us' (k+1) h2 fun j v hj=>by have:=hc (j+1) v (by simpa using hj);rwa [show k+(j+1)=k+1+j by omega] at this⟩
theorem n9{w:World}{I:Nat->Prop}{ρ:List Nat}{i:Nat}{xs:List PV}{tmps:Array Value}(hi:Inv P w I ρ H)(hc:bM H[i]? =some (xs.map .p))(ht:bq P w I ρ N T tmps):
    ∃ I',Ext w I ρ w I' ρ∧Inv P w I' ρ (H.set i .dead)∧bq P w I' ρ N (xV i xs T) tmps:=by
 obtain⟨b,arr,e,hρ,hw,hl,hr⟩:=gO hi hc
 have hH:∃ blk,H[i]? =some blk∧blk.live=true:=by
  exact C0
 obtain⟨blk,hH,dX⟩:=hH
 have hE:=Ext.freeze hi hρ hH dX
 refine⟨_,hE,Inv.freeze hi hρ hH dX,ht.size,fun s v hv=> ?_⟩
 rw[oM,Zi] at hv
 obtain⟨v0,h1,rfl⟩:=hv
 have hx:aS w (fun k=>I k∨k=b) xs b 0:=by
  exact Bi
 exact nj hρ (.inr rfl) hx v0 _ ((ht.at_ s v0 h1).ext hE)
theorem aj.freeze(i:Nat){xs:List PV}{l:List Oper}{vs:List V}(hc:bM H[i]? =some vs)(hp:jF vs=some xs)(h:aj P R N κ ops l Q (xV i xs T) (H.set i .dead)):aj P R N κ ops l Q T H:=by
 intro QX B w I ρ a hi ht hm hq
 rw[dN hp] at hc
 obtain⟨I',h1,h2,h3⟩:=n9 hi hc ht
 exact h QX B w I' ρ a h2 h3 (hm.ext h1) fun e a2 w2 q=>hq e a2 w2 (QC.ext h1.w q)
theorem aF.freeze(i:Nat){xs:List PV}{c:Code}{vs:List V}(hc:bM H[i]? =some vs)(hp:jF vs=some xs)(h:aF P R N κ c Q (xV i xs T) (H.set i .dead)):aF P R N κ c Q T H:=by
 intro B w I ρ a hi ht hm
 rw[dN hp] at hc
 obtain⟨I',h1,h2,h3⟩:=n9 hi hc ht
 exact wpIn_mono (h B w I' ρ a h2 h3 (hm.ext h1)) fun _ _ _ q=>QC.ext h1.w q
theorem mM{α β:Type}{f:α->List β}{sz:Nat}(hf:∀ x,(f x).length=sz):∀(xs:List α) (k:Nat) (hk:k<xs.length),((xs.flatMap f).drop (k*sz)).take sz=f xs[k]
 | x::xs,0,_=>by
  simp only[Nat.zero_mul,Wh,ZI,List.getElem_cons_zero]
  rw[YY (by rw[hf];exact Zf _)]
  rw[<- hf x,ZV]
 | x::xs,k+1,hk=>by
  have ih:=mM hf xs k (by simpa using hk)
  simp only[ZI,List.getElem_cons_succ]
  rw[List.drop_append,ZbF (by rw[hf,EP,ZL];omega),Px,hf]
  rw[show(k+1)*sz - sz=k*sz by rw[EP,ZL];omega]
  exact ih
theorem aa.Np{x y:Operand}{t:TypeId}{kd:IntKind}{sz len k:Nat}{cs win:List PV}(ho:o.op= .indexAddr t x y)(hx:ev T x=some (.p (.is cs len)))(hy:ev T y=some (.p (.int kd (k:Int))))(ht:dZ P t=true)(he:oy P t=some sz)
    (hk:k<len)(hw:(cs.drop (k*sz)).take sz=win)(hn:cs≠[]):aa P N o T H (.p (.ip win 0)) H:=
 aa.aL (by simp[ho]) fun w I ρ a hi hT=>by
  have hn':=c4 hT hy
  cases hu:P.underlying t with
  | none=>simp[dZ,hu] at ht
  | some d=>
   cases d <;> simp[dZ,hu] at ht
   rename_i e
   simp only[oy,hu,Zi] at he
   obtain⟨⟨b,m⟩,htm,rfl⟩:=he
   rcases hT.ev hx with⟨_,hz⟩ | ⟨blk,off,cap,hb,hle,pV,ef⟩
   ·omega
   ·refine⟨.pointer (some ⟨blk,off+k*m,none⟩),?_,blk,off+k*m,hb hn,rfl,?_⟩
    ·have hlt':(k:Int)<(len:Int):=by omega
     have h0:(0:Int)<=k:=by omega
     simp[execOp,ho,Instr.indexAt,hn',dU,pV,run_underlying hu,h0,hlt',aK htm,cF]
    ·rw[<- hw]
     exact aS.take m (aS.drop _ ef)
theorem aa.j7{α:Type}{x y:Operand}{t:TypeId}{kd:IntKind}{sz len k:Nat}{xs:List α}{f:α->List PV}(ho:o.op= .indexAddr t x y)(hx:ev T x=some (.p (.is (xs.flatMap f) len)))(hy:ev T y=some (.p (.int kd (k:Int))))(ht:dZ P t=true)
    (he:oy P t=some sz)(hl:len=xs.length)(hf:∀ x,(f x).length=sz)(h0:0<sz)(hk:k<xs.length):aa P N o T H (.p (.ip (f xs[k]) 0)) H:=
 aa.Np ho hx hy ht he (hl▸hk) (mM hf xs k hk) (by
  intro hn
  have h1:(xs.flatMap f).length=0:=by rw[hn];rfl
  have h2:=mM hf xs k hk
  have h3:=hf xs[k]
  rw[<- h2,hn] at h3
  simp at h3
  omega)
theorem yH{α:Type}[Inhabited α](z:List α)(hz:0<z.length):∀ n:Nat,(List.range (n*z.length)).map (fun i=>z[i%z.length]!)=(List.replicate n z).flatten
 | 0=>by simp
 | n+1=>by
  rw[EP,ZL,List.range_add,ZC,yH z hz n,List.replicate_succ',W9]
  congr 1
  simp only[Re,SQ,List.flatten_nil,ZX]
  apply List.ext_getElem
  ·simp
  ·intro i h1 h2
   simp at h1
   have:(n*z.length+i)%z.length=i:=by
    rw[Wl,Nat.add_mul_mod_self_right,VK h1]
   simp[this,h1]
theorem aQ.append{w:World}{I:Nat->Prop}:∀{xs ys:List PV} {us vs:List Value},aQ w I xs us->aQ w I ys vs->aQ w I (xs++ys) (us++vs)
 | [],ys,us,vs,h,k=>by simp[aQ] at h;subst h;exact k
 | x::xs,ys,us,vs,h,k=>by
  obtain⟨u,us',rfl,h1,h2⟩:=h
  exact⟨u,us'++vs,rfl,h1,aQ.append h2 k⟩
theorem aQ.UN{w:World}{I:Nat->Prop}{z:List PV}{us:List Value}(h:aQ w I z us):∀ n:Nat,aQ w I (List.replicate n z).flatten (List.replicate n us).flatten
 | 0=>by simp[aQ]
 | n+1=>by
  simp only[Wj,SQ]
  exact aQ.append h (aQ.UN h n)
theorem aQ.length{w:World}{I:Nat->Prop}:∀{xs:List PV} {us:List Value},aQ w I xs us->us.length=xs.length
 | [],us,h=>by simp[aQ] at h;simp[h]
 | x::xs,us,h=>by
  obtain⟨u,us',rfl,_,h2⟩:=h
  simp[aQ.length h2]
def oU(P:Program)(t:TypeId):Option (TypeId×List PV):=
 match P.underlying t with
 | some (.slice e)=>match cR P e,fD P e with
   | some z,some (_,n)=>if (rS z).length=n∧0<n∧iI (.p z)=true then some (e,rS z) else none
   | _,_=>none
 | _=>none
theorem eJ{t:TypeId}{e:TypeId}{z:List PV}(h:oU P t=some (e,z)):P.underlying t=some (.slice e)∧(∃ b,fD P e=some (b,z.length))∧0<z.length∧∀ w,∃ u:Value,(zeroValue e).run P w= .ok u w∧∀ I,aQ w I z u.cells.toList:=by
 unfold oU at h
 split at h
 ·rename_i e' hu
  split at h
  ·rename_i z' b n hz ht
   split at h
   ·rename_i hc
    simp at h
    obtain⟨rfl,rfl⟩:=h
    refine⟨hu,⟨b,by rw[hc.1];exact ht⟩,by rw[hc.1];exact hc.2.1,fun w=> ?_⟩
    obtain⟨u,h1,h2⟩:=kW hz w
    exact⟨u,h1,fun I=>ah.pure.1 (jo (P:=P) (ρ:=[]) (v:= .p z') (h2 I) hc.2.2)⟩
   ·cases h
  ·cases h
 ·cases h
theorem jM{w:World}{I:Nat->Prop}{ρ:List Nat}{a:Act}{t e:TypeId}{len:Nat}{parts:Array (Nat×Operand)}{z:List PV}{vs:List (Nat×V)}{r:List V}(hs:oU P t=some (e,z))(hlen:len*z.length<=16777216)(hT:bq P w I ρ N T a.tmps)(hv:iJ T parts.toList=some vs)
    (hr:ja ((List.range len).map fun i=>(i*z.length,z.length)) ((List.replicate len z).flatten.map .p) vs=some r):
    ∃ arr:Array Value,ah P w I ρ r arr.toList∧arr.size=len*z.length∧(Instr.buildSlice t len (parts.map fun(x:Nat×Operand)=>(x.1,a.eval x.2))).run P w= .ok (.slice (some ⟨w.heap.size,0,none⟩) len len) (w.alloc (.cells arr e)):=by
 obtain⟨hu,⟨b,ht⟩,xm,hz⟩:=eJ hs
 obtain⟨hm,cu⟩:=nL hT hv
 obtain⟨u,h1,h2⟩:=hz w
 have h3:=h2 I
 have h4:=aQ.length h3
 have hcells:∀ PC:Array Value,PC.toList=(List.replicate len u.cells.toList).flatten->∃ dc,Instr.fill (fun i=>some (i*z.length,z.length)) PC (parts.toList.map fun x=>(x.1,a.eval x.2))=some dc∧ah P w I ρ r dc.toList:=by
  intro PC h0
  refine qW (ps:=(List.range len).map fun i=>(i*z.length,z.length)) (fun i x h=> ?_) vs _ _ PC r hm cu ?_ hr
  ·simp[Zs,Zi] at h
   obtain⟨a',ha,rfl⟩:=h
   rw[Ye] at ha
   ·simp at ha;subst ha;rfl
   ·rcases ZM i len with h' | h'
    ·exact h'
    ·rw[ZF (by simpa using h')] at ha;cases ha
  ·rw[h0]
   exact ah.pure.2 (aQ.UN h3 len)
 have hrl:r.length=len*z.length:=by
  have gen:∀(vs:List (Nat×V)) (cs r:List V) (ps:List (Nat×Nat)),ja ps cs vs=some r->r.length=cs.length:=by
   intro vs
   induction vs with
   | nil=>intro cs r ps h;simp[ja] at h;rw[h]
   | cons x vs ih=>
    intro cs r ps h
    obtain⟨i,v⟩:=x
    simp only[ja] at h
    split at h
    ·cases h
    ·split at h
     ·have:=ih _ _ _ h;rw[this,fV]
     ·cases h
  rw[gen _ _ _ _ hr]
  simp
 have hnot:¬ (len*z.length>2^24):=by
  have:(2:Nat)^24=16777216:=by decide
  omega
 by_cases hl0:len*z.length=0
 ·have XL:len=0:=by
    rcases Nat.mul_eq_zero.1 hl0 with h | h
    ·exact h
    ·omega
  subst XL
  obtain⟨dc,h5,h6⟩:=hcells #[] (by simp)
  refine⟨dc,h6,?_,?_⟩
  ·have:=ah.length h6;rw[hrl] at this;simpa using this
  ·simp only[Instr.buildSlice,Sem.run_bind,run_underlying hu,Result.andThen,aK ht]
   simp[newRow,newObj,Sem.run]
   simp only[Array.size,Re] at h5 ⊢
   rw[show(#[]:Array Value)=Array.map (fun(x:Nat)=>(#[]:Array Value)[x%0]!) (Array.range 0) by simp] at h5
   simp at h5
   simp[h5]
   rfl
 ·obtain⟨dc,h5,h6⟩:=hcells ((Array.range (len*z.length)).map (u.cells[· %u.cells.size]!)) (by
    have h7:u.cells.size=z.length:=by simpa using h4
    have:=yH u.cells.toList (by rw[h4];exact xm) len
    rw[<- this]
    simp only[Array.toList_map,Array.toList_range,F7,h7]
    apply Wk
    intro i _
    have hlt:i%z.length<u.cells.size:=by rw[h7];exact Nat.mod_lt _ xm
    simp[hlt])
  refine⟨dc,h6,?_,?_⟩
  ·have:=ah.length h6;rw[hrl] at this;simpa using this
  ·have e1:((parts.map fun(x:Nat×Operand)=>(x.1,a.eval x.2)).toList)=parts.toList.map fun x=>(x.1,a.eval x.2):=by simp
   simp only[Instr.buildSlice,Sem.run_bind,run_underlying hu,Result.andThen,aK ht]
   rw[if_neg (by simpa using hnot)]
   simp only[Sem.run_pure,Result.andThen,hl0,if_false,Sem.run_bind,h1,e1,h5]
   simp[newRow,newObj,Sem.run]
end
section
variable {P:Program} {R:Option Nat} {N κ:Nat} {Q Q':Post} {T T':Tm} {H H':List ai} {o:Oper} {ops:Array Oper} {rest:List Oper}
theorem ah.R9{w:World}{I:Nat->Prop}{ρ:List Nat}(hi:Inv P w I ρ H){vs:List V}{us:List Value}(ob:Obj)(h:ah P w I ρ vs us):ah P (w.alloc ob) (fun b=>I b∨b=w.heap.size) ρ vs us:=ah.ext (Ext.iy hi ob) h
theorem Uf{w:World}{I:Nat->Prop}{ρ:List Nat}(hi:Inv P w I ρ H){xs:List PV}{arr:Array Value}{e:TypeId}{len cap:Nat}(h:ah P w I ρ (xs.map .p) (arr.toList.take xs.length))(hl:xs.length<=arr.size)(hc:len<=cap):
    Rel (w.alloc (.cells arr e)) (fun b=>I b∨b=w.heap.size) (.is xs len) (.slice (some ⟨w.heap.size,0,none⟩) len cap):=by
 have h2:=ah.pure.1 (ah.R9 hi (.cells arr e) h)
 refine .inr ⟨w.heap.size,0,cap,fun _=> .inr rfl,hc,rfl,aS.me xs _ 0 h2 fun j u hj=> ?_⟩
 rw[ZR] at hj
 split at hj
 ·rw[World.cell?_alloc_new]
  simpa using hj
 ·cases hj
theorem aa.aR{t e:TypeId}{len:Nat}{parts:Array (Nat×Operand)}{z:List PV}{vs:List (Nat×V)}{r:List V}{xs:List PV}(ho:o.op= .buildSlice t len parts)(hs:oU P t=some (e,z))(hlen:len*z.length<=16777216)(hv:iJ T parts.toList=some vs)
    (hr:ja ((List.range len).map fun i=>(i*z.length,z.length)) ((List.replicate len z).flatten.map .p) vs=some r)(hp:jF r=some xs):aa P N o T H (.p (.is xs len)) H:=
 aa.dB (by simp[ho]) fun w I ρ a hi hT=>by
  obtain⟨arr,h1,h2,h3⟩:=jM (ρ:=ρ) hs hlen hT hv hr
  rw[dN hp] at h1
  have hl:=ah.length h1
  simp at hl
  refine⟨_,_,_,ρ,.inl (by simp only[execOp,ho,Sem.run_bind];rw[show(Array.map (fun(x:Nat×Operand)=>match x with | (i,x)=>(i,a.eval x)) parts)=parts.map fun(x:Nat×Operand)=>(x.1,a.eval x.2) from rfl,h3];rfl),Ext.iy hi _,Inv.iy hi _,?_⟩
  exact Uf hi (by rw[<- hl,<- F7,ZV];exact h1) (by omega) (Zf _)
theorem aa.Ee{t e:TypeId}{len:Nat}{parts:Array (Nat×Operand)}{z:List PV}{vs:List (Nat×V)}{r:List V}(ho:o.op= .buildSlice t len parts)(hs:oU P t=some (e,z))(hlen:len*z.length<=16777216)(hv:iJ T parts.toList=some vs)
    (hr:ja ((List.range len).map fun i=>(i*z.length,z.length)) ((List.replicate len z).flatten.map .p) vs=some r):aa P N o T H (.row H.length len) (H++[.row r e]):=
 aa.dB (by simp[ho]) fun w I ρ a hi hT=>by
  obtain⟨arr,h1,h2,h3⟩:=jM (ρ:=ρ) hs hlen hT hv hr
  obtain⟨hu,⟨b,ht⟩,xm,hz⟩:=eJ hs
  have hE:Ext w I ρ (w.alloc (.cells arr e)) I (ρ++[w.heap.size]):=Ext.aO hi _
  have hl:=ah.length h1
  simp at hl
  refine⟨_,_,_,_,.inl (by simp only[execOp,ho,Sem.run_bind];rw[show(Array.map (fun(x:Nat×Operand)=>match x with | (i,x)=>(i,a.eval x)) parts)=parts.map fun(x:Nat×Operand)=>(x.1,a.eval x.2) from rfl,h3];rfl),hE,Inv.aO hi _ ⟨arr,heap_alloc_new w _,by omega,?_⟩,?_⟩
  ·rw[<- hl,O4 (by simp)]
   exact ah.ext hE h1
  ·refine⟨w.heap.size,e,len,by rw[<- hi.len];simp,rfl,?_,Zf _⟩
   obtain⟨d,i,_,h5,_,h6⟩:=iN ht
   simp only[World.shape?,heap_alloc_new,h2,Program.cellsOf,h5,Pm,TC,h6]
def gH(T:Tm):Option Operand->Nat->Nat->Prop
 | none,d,n=>n=d
 | some x,_,n=>∃ k,ev T x=some (.p (.int k (n:Int)))
theorem oG{w:World}{k:IntKind}{n y:Nat}{code:BoundsCode}(h:n<=y):(Instr.sliceBound (.int k (n:Int)) y code).run P w= .ok n w:=by
 have h1:(0:Int)<=n:=by omega
 have h2:(n:Int)<=(y:Int):=by omega
 simp[Instr.sliceBound,dU,h1,h2]
theorem lK{w:World}{I:Nat->Prop}{ρ:List Nat}{a:Act}(hT:bq P w I ρ N T a.tmps){lo hi:Option Operand}{O6:Bool}{len cap l h:Nat}(hl:gH T lo 0 l)(hh:gH T hi len h)(h1:l<=h)(h2:h<=cap):
    (Instr.sliceBounds O6 len cap (lo.map a.eval) (hi.map a.eval) none).run P w= .ok (l,h,cap) w:=by
 have e1:∀ x:Operand,hi=some x->∃ k,a.eval x= .int k (h:Int):=fun x hx=>by
  subst hx
  obtain⟨k,hk⟩:=hh
  exact⟨k,c4 hT hk⟩
 have e2:∀ x:Operand,lo=some x->∃ k,a.eval x= .int k (l:Int):=fun x hx=>by
  subst hx
  obtain⟨k,hk⟩:=hl
  exact⟨k,c4 hT hk⟩
 cases hi with
 | none=>
  simp only[gH] at hh
  subst hh
  cases lo with
  | none=>
   simp only[gH] at hl
   subst hl
   simp[Instr.sliceBounds]
  | some x=>
   obtain⟨k,hk⟩:=e2 x rfl
   simp[Instr.sliceBounds,hk,oG h1]
 | some y=>
  obtain⟨k',hk'⟩:=e1 y rfl
  cases lo with
  | none=>
   simp only[gH] at hl
   subst hl
   simp[Instr.sliceBounds,hk',oG h2]
  | some x=>
   obtain⟨k,hk⟩:=e2 x rfl
   simp[Instr.sliceBounds,hk,hk',oG h1,oG h2]
theorem aa.gI{x:Operand}{t:TypeId}{lo hi:Option Operand}{cs r:List PV}{len l h sz:Nat}(ho:o.op= .slice t x lo hi none)(hx:ev T x=some (.p (.is cs len)))(ht:dZ P t=true)(he:oy P t=some sz)(hl:gH T lo 0 l)(hh:gH T hi len h)(h1:l<=h)(h2:h<=len)
    (hr:(cs.drop (l*sz)).take ((h - l)*sz)=r):aa P N o T H (.p (.is r (h - l))) H:=
 aa.aL (by simp[ho]) fun w I ρ a hi' hT=>by
  cases hu:P.underlying t with
  | none=>simp[dZ,hu] at ht
  | some d=>
   cases d <;> simp[dZ,hu] at ht
   rename_i e
   simp only[oy,hu,Zi] at he
   obtain⟨⟨b,m⟩,htm,rfl⟩:=he
   rcases hT.ev hx with⟨⟨ad,cp,pV⟩,hz⟩ | ⟨blk,off,cap,hb,hle,pV,ef⟩
   ·subst hz
    have hl0:l=0:=by omega
    have hh0:h=0:=by omega
    subst hl0 hh0
    have J5:=lK (O6:=true) (cap:=cp) hT hl hh (Zf _) (Zp _)
    cases ad with
    | none=>
     refine⟨.slice none 0 cp,?_,?_⟩
     ·simp[execOp,ho,Instr.sliceAt,run_underlying hu,pV,Instr.slice,J5,aK htm]
     ·exact .inl ⟨⟨_,_,rfl⟩,by simp⟩
    | some ad=>
     refine⟨.slice (some ad) 0 cp,?_,?_⟩
     ·simp[execOp,ho,Instr.sliceAt,run_underlying hu,pV,Instr.slice,J5,aK htm,Addr.add]
     ·exact .inl ⟨⟨_,_,rfl⟩,by simp⟩
   ·have J5:=lK (O6:=true) (cap:=cap) hT hl hh h1 (by omega)
    refine⟨.slice (if cap=l then some ⟨blk,off,none⟩ else some ⟨blk,off+l*m,none⟩) (h - l) (cap - l),?_,?_⟩
    ·simp[execOp,ho,Instr.sliceAt,run_underlying hu,pV,Instr.slice,J5,aK htm,cF]
    ·by_cases hc:cap=l
     ·have:h - l=0:=by omega
      rw[this,Nat.zero_mul,Mq] at hr
      subst hr
      rw[if_pos hc,this]
      exact .inr ⟨blk,off,cap - l,fun h=>absurd rfl h,by omega,rfl,by simp[aS]⟩
     ·rw[if_neg hc,<- hr]
      refine .inr ⟨blk,off+l*m,cap - l,fun hn=>hb (fun h0=>hn (by rw[h0];simp)),by omega,rfl,aS.take _ (aS.drop _ ef)⟩
theorem aa.NF{x:Operand}{t:TypeId}{lo hi:Option Operand}{s:ByteArray}{l h:Nat}(ho:o.op= .slice t x lo hi none)(hx:ev T x=some (.p (.str s)))(ht:P.underlying t=some .string)(hl:gH T lo 0 l)(hh:gH T hi s.size h)(h1:l<=h)(h2:h<=s.size):
    aa P N o T H (.p (.str (s.extract l h))) H:=
 aa.aL (by simp[ho]) fun w I ρ a hi' hT=>by
  have hst:=jD hT hx
  have J5:=lK (O6:=false) (cap:=s.size) hT hl hh h1 h2
  exact⟨.string (s.extract l h),by simp[execOp,ho,Instr.sliceAt,run_underlying ht,hst,Instr.slice,J5],by simp[aC,Rel]⟩
def pH(H:List ai)(sz:Nat):V->Option (List V×Nat)
 | .p (.is ys n)=>if ys.length=n*sz then some (ys.map .p,n) else none
 | .p .nilSlice=>some ([],0)
 | .row j n=>match bM H[j]? with
   | some cs=>if n*sz<=cs.length then some (cs.take (n*sz),n) else none
   | none=>none
 | .sl j off n=>match bM H[j]? with
   | some cs=>if off+n*sz<=cs.length then some ((cs.drop off).take (n*sz),n) else none
   | none=>none
 | _=>none
theorem lq{w:World}{I:Nat->Prop}{ρ:List Nat}{sz n:Nat}{y:V}{ys:List V}{u:Value}(hi:Inv P w I ρ H)(hy:aC P w I ρ y u)(h:pH H sz y=some (ys,n)):
    ∃ us:List Value,(∃ ad cap,u= .slice ad n cap)∧(∀ w':World,(∀ b,b<w.heap.size->w'.heap[b]? =w.heap[b]?)->(Builtin.firstCells sz n u).run P w'= .ok us.toArray w')∧(∀ k,k<=n->(Builtin.firstCells sz k u).run P w= .ok (us.take (k*sz)).toArray w)∧ah P w I ρ ys us∧us.length=n*sz:=by
 have fin:∀(blk off cap:Nat) (us:List Value),u= .slice (some ⟨blk,off,none⟩) n cap->us.length=n*sz->(∀ j v,us[j]? =some v->w.cell? ⟨blk,off+j,none⟩=some v)->ah P w I ρ ys us->
     ∃ us:List Value,(∃ ad cap,u= .slice ad n cap)∧(∀ w':World,(∀ b,b<w.heap.size->w'.heap[b]? =w.heap[b]?)->(Builtin.firstCells sz n u).run P w'= .ok us.toArray w')∧(∀ k,k<=n->(Builtin.firstCells sz k u).run P w= .ok (us.take (k*sz)).toArray w)∧ah P w I ρ ys us∧us.length=n*sz:=by
  intro blk off cap us hu hl hc hr
  refine⟨us,⟨_,_,hu⟩,fun w' hw'=> ?_,fun k hk=> ?_,hr,hl⟩
  ·rw[hu]
   have:=run_loadCells_list (P:=P) w' ⟨blk,off,none⟩ us (fun j v hj=>by
    rw[cF]
    have h1:=hc j v hj
    have hlt:=World.block_lt_of_cell? _ _ h1
    exact(o7 (hw' blk hlt)).trans h1)
   rw[hl] at this
   simpa[Builtin.firstCells] using this
  ·rw[hu]
   have:=run_loadCells_list (P:=P) w ⟨blk,off,none⟩ (us.take (k*sz)) (fun j v hj=>by
    rw[cF]
    rw[ZR] at hj
    split at hj
    ·exact hc j v hj
    ·cases hj)
   rw[EA,hl,Kj (Hj _ hk)] at this
   simpa[Builtin.firstCells] using this
 unfold pH at h
 split at h
 ·rename_i xs m
  split at h
  ·rename_i hlen
   simp at h
   obtain⟨rfl,rfl⟩:=h
   rcases hy with⟨⟨ad,cp,hu⟩,hz⟩ | ⟨b,o',cap,hb,hle,hu,ef⟩
   ·subst hz
    have hcs:xs=[]:=by simpa using hlen
    subst hcs
    refine⟨[],⟨_,_,hu⟩,fun w' _=>by rw[hu];cases ad <;> simp[Builtin.firstCells,loadCells,loadCellsFrom],fun k hk=> ?_,by simp[ah],by simp⟩
    have:k=0:=by omega
    subst this
    rw[hu];cases ad <;> simp[Builtin.firstCells,loadCells,loadCellsFrom]
   ·obtain⟨us,h1,h2,h3⟩:=aS.list ef
    exact fin b o' cap us hu (by rw[h2,hlen]) h3 (ah.pure.2 h1)
  ·cases h
 ·simp at h
  obtain⟨rfl,rfl⟩:=h
  have hu:u= .slice none 0 0:=hy
  refine⟨[],⟨_,_,hu⟩,fun w' _=>by rw[hu];simp[Builtin.firstCells],fun k hk=> ?_,by simp[ah],by simp⟩
  rw[hu];simp[Builtin.firstCells]
 ·rename_i j m
  split at h
  ·rename_i cs hc
   split at h
   ·rename_i hle
    simp at h
    obtain⟨rfl,rfl⟩:=h
    obtain⟨b,e,cap,hρ,hu,_,_⟩:=hy
    obtain⟨b',arr,e',pz,hw,hl,hr⟩:=gO hi hc
    rw[hρ] at pz;cases pz
    refine fin b 0 cap ((arr.toList.take cs.length).take (m*sz)) hu (by simp;omega) (fun j v hj=> ?_) (ah.take _ hr)
    rw[ZR] at hj
    split at hj
    ·exact xk
    ·cases hj
   ·cases h
  ·cases h
 ·rename_i j off m
  split at h
  ·rename_i cs hc
   split at h
   ·rename_i hle
    simp at h
    obtain⟨rfl,rfl⟩:=h
    obtain⟨b,cap,hρ,hu,_⟩:=hy
    obtain⟨b',arr,e',pz,hw,hl,hr⟩:=gO hi hc
    rw[hρ] at pz;cases pz
    refine fin b off cap (((arr.toList.take cs.length).drop off).take (m*sz)) hu (by simp;omega) (fun j v hj=> ?_) (ah.take _ (ah.drop _ hr))
    rw[ZR] at hj
    split at hj
    ·rw[Sr,ZR] at hj
     split at hj
     ·exact qq
     ·cases hj
    ·cases hj
   ·cases h
  ·cases h
 ·cases h
theorem jB{need cap:Nat}(h:cap<need):Builtin.nextslicecap need cap<=2*need+192:=by
 unfold Builtin.nextslicecap
 split
 ·omega
 ·split
  ·omega
  ·have grow:∀(r c:Nat),c<need->Builtin.growBy need r c<=2*need+192:=by
     intro r
     induction r with
     | zero=>intro c hc;simp[Builtin.growBy];omega
     | succ r ih=>
      intro c hc
      simp only[Builtin.growBy]
      rw[if_neg (by omega)]
      by_cases h2:c+(c+768) / 4<need
      ·exact ih _ h2
      ·cases r with
       | zero=>simp only[Builtin.growBy];omega
       | succ r=>simp only[Builtin.growBy];rw[if_pos (by omega)];omega
   exact grow 4 cap h
theorem qt(cs:List V):∀(vs ts pre:List V),ts.length=vs.length->setAt (cs++pre++ts) (cs.length+pre.length) vs=cs++pre++vs
 | [],ts,pre,h=>by
  have:ts=[]:=by simpa using h
  subst this
  simp[setAt]
 | v::vs,ts,pre,h=>by
  match ts,h with
  | t::ts,h=>
   simp only[setAt]
   have e1:(cs++pre++t::ts).set (cs.length+pre.length) v=cs++(pre++[v])++ts:=by
    rw[show cs.length+pre.length=(cs++pre).length by simp,List.set_append_right _ _ (Zf _)]
    simp
   rw[e1]
   have:=qt cs vs ts (pre++[v]) (by simpa using h)
   rw[show cs.length+pre.length+1=cs.length+(pre++[v]).length by simp;omega,this]
   simp
theorem ah.Ym{w:World}{I:Nat->Prop}{ρ:List Nat}:∀(us:List Value),ah P w I ρ (List.replicate us.length .top) us
 | []=>by simp[ah]
 | u::us=>⟨u,us,rfl,trivial,ah.Ym us⟩
def wj(P:Program)(e:TypeId):Option Nat:=(P.info? e).map (·.bytes)
theorem Am{w:World}{I:Nat->Prop}{ρ:List Nat}:∀{vs:List V} {us:List Value},ah P w I ρ vs us->vs.all jj=true->∀ u∈us,zm u=true
 | [],us,h,_,u,hu=>by simp[ah] at h;subst h;cases hu
 | v::vs,us,h,ha,u,hu=>by
  obtain⟨u0,us',rfl,h3,h4⟩:=h
  simp only[Vp,Zm] at ha
  rcases Zw.1 hu with rfl | hu
  ·exact lI h3 ha.1
  ·exact Am h4 ha.2 u hu
theorem run_append_grow{w:World}{t t2 e d2:TypeId}{ty:TypeId}{bb:Bool}{sz len cap n xE:Nat}{base ad:Option Addr}{inf:TypeInfo}{old new:Array Value}{uz:Value}(hu:P.underlying t=some (.slice e))(l6:fD P e=some (bb,sz))(pS:P.underlying t2=some (.slice d2))
    (jW:P.info? e=some inf)(hsmall:¬ (Builtin.nextslicecap (len+n) cap*inf.bytes>2^48))(mA:((len+n:Nat):Int)<=IntKind.i64.max)(hroom:¬ len+n<=cap)(hold:(Builtin.firstCells sz len (.slice base len cap)).run P w.drew= .ok old w.drew)
    (hnew:(Builtin.firstCells sz n (.slice ad n xE)).run P w.drew= .ok new w.drew)(hz:(zeroValue e).run P w.drew= .ok uz w.drew):
    (Builtin.append_ #[t,t2] ty #[.slice base len cap,.slice ad n xE]).run P w= .ok (.slice (some ⟨w.heap.size,0,none⟩) (len+n) ((Question.appendCap (len+n) cap e).cut (w.tape w.drawn (.appendCap (len+n) cap e))))
     (w.drew.alloc (.cells (old++new++Builtin.zeroCells uz.cells ((Question.appendCap (len+n) cap e).cut (w.tape w.drawn (.appendCap (len+n) cap e)) - (len+n))) e)):=by
 have CU:∀ k w,(askRoom k).run P w= .ok () w:=fun k w=>by
  exact qV
 have Wq:(choose (.appendCap (len+n) cap e)).run P w= .ok ((Question.appendCap (len+n) cap e).cut (w.tape w.drawn (.appendCap (len+n) cap e))) w.drew:=by
  simp[choose,Sem.run,Question.forced]
 have h1:¬ (9223372036854775807<(len:Int)+(n:Int)):=by
  exact Bq
 have zF:¬ (281474976710656<Builtin.nextslicecap (len+n) cap*inf.bytes):=by
  exact qU
 have hf:(Question.appendCap (len+n) cap e).forced=false:=rfl
 simp[Builtin.append_,run_underlying hu,aK l6,run_underlying pS,Builtin.lenOf,hroom]
 simp only[run_typeInfo w jW,Result.andThen]
 simp[h1,zF,hf,run_typeInfo w jW,Wq,run_typeInfo w.drew jW,CU,hold,hnew,hz,newRow,newObj,Sem.run]
 rfl
theorem aa.sj{x y:Operand}{t t2 e:TypeId}{z:List PV}{i len n gX:Nat}{cs ys:List V}{yv:V}(ho:o.op= .call {callee:= .builtin .append,args:= #[x,y],argTypes:= #[t,t2]})(hx:ev T x=some (.row i len))(hy:ev T y=some yv)(hs:oU P t=some (e,z))(oS:dZ P t2=true)
    (hH:H[i]? =some (.row cs e))(hcs:cs.length=len*z.length)(hsrc:pH H z.length yv=some (ys,n))(hone:ys.all jj=true)(hby:wj P e=some gX)(hb0:0<gX)(hb:(2*(len+n)+192)*gX<=281474976710656):
    aa P N o T H (.row H.length (len+n)) (H.set i .dead++[.row (cs++ys) e]):=
 aa.dB (by simp[ho]) fun w I ρ a hi hT=>by
  obtain⟨hu,⟨bb,l6⟩,xm,hz⟩:=eJ hs
  obtain⟨b,e',cap,hρ,E3,hsh,hle⟩:=hT.ev hx
  obtain⟨us,⟨ad,xE,AJ⟩,hfc,_,cu,hlen⟩:=lq hi (hT.ev hy) hsrc
  obtain⟨arr,hw,hal,har⟩:=hi.rel i b _ hρ hH
  have hce:P.cellsOf e=z.length:=by
   exact nW
  have hsz:e'=e∧arr.size=cap*z.length:=by
   exact B5
  obtain⟨rfl,hsz⟩:=hsz
  have hinfo:∃ inf,P.info? e'=some inf∧inf.bytes=gX:=by
   exact C1
  obtain⟨inf,jW,An⟩:=hinfo
  have pS:∃ d2,P.underlying t2=some (.slice d2):=by
   exact rQ
  obtain⟨d2,pS⟩:=pS
  have hun:∀ u∈us,zm u=true:=Am cu hone
  have vb:=ah.length cu
  have dX:(ai.row cs e').live=true:=rfl
  have hcl:=ah.length har
  by_cases hroom:len+n<=cap
  ·-- there is room
   have hfit:len*z.length+0+us.length<=arr.size:=by
    rw[hlen,hsz,Kb,<- EP]
    exact Hj _ hroom
   obtain⟨w',dc,r1,r2,r3,r4,r5,r6,r7,r8,r9⟩:=ff (P:=P) (w:=w) us arr w (len*z.length) 0 hw hfit hun
   have hE:Ext w I ρ w' I ρ:=Ext.write hi hρ hH dX r5 r6 r7 r8 r9 (fun s h=>by
    simp only[World.shape?,hw] at h
    simp only[World.shape?,r2,r3]
    exact h)
   have uG:ah P w' I ρ (cs++ys) (dc.toList.take (cs++ys).length):=by
    exact DR
   have ox:Ext w' I ρ w' I (ρ++[b]):=⟨⟨rfl,rfl,rfl,Zf _,fun _ _ _=>rfl,fun _ _ h=>h,fun _ h=>h,fun _ _=>rfl,fun _ h=> .inl h,fun _ h=>h,fun _ _ h=>h,fun k hk=>by
    rcases Zq.1 hk with h | h
    ·exact .inl h
    ·simp at h;subst h;exact .inl (Zh hρ)⟩,⟨_,rfl⟩⟩
   have hi1:Inv P w' I ρ (H.set i .dead):=Inv.write hi hρ hH dX hE r8 r9 trivial
   have hilt:i<H.length:=(Za.1 hH).1
   have hi2:Inv P w' I (ρ++[b]) (H.set i .dead++[.row (cs++ys) e']):=by
    refine⟨by simp[hi.len],fun j k blk h1 h2 h3=> ?_,hi1.ib,fun j k blk h1 h2 h3 h4=> ?_,fun j j' k bx by2 h1 h2 h3 h4 h5 h6=> ?_,fun j k blk h1 h2=> ?_,hi1.gl⟩
    ·exact CC
    ·exact Ce
    ·exact EB
    ·rcases bz h1 with⟨h5,h6⟩ | ⟨h5,h6⟩
     ·exact Cw
     ·subst h6
      have hj:j=(H.set i .dead).length:=by simp[<- hi.len];exact h5
      subst hj
      simp at h2
      subst h2
      refine⟨dc,r2,?_,ah.ext ox uG⟩
      exact Ba
   refine⟨.slice (some ⟨b,0,none⟩) (len+n) cap,w',I,ρ++[b],.inl ?_,hE.trans ox,hi2,b,e',cap,by rw[<- hi.len];simp,rfl,?_,hroom⟩
   ·simp[execOp,ho,resolve,invoke,builtin,Builtin.append_,run_underlying hu,E3,aK l6,run_underlying pS,AJ,Builtin.lenOf,hroom]
    rw[AJ] at hfc
    simp only[hfc w (fun _ _=>rfl),Result.andThen,cF,zq,r1]
   ·simp only[World.shape?,r2,r3,hsz,hce]
  ·-- a new array
   have zG:∀ q,len+n<=(Question.appendCap (len+n) cap e').cut q:=fun q=>Vx _ _
   obtain⟨uz,hz1,xP⟩:=hz w.drew
   have hzl:=aQ.length (xP I)
   have JN:uz.cells.size=z.length:=by simpa using hzl
   have hnext:=jB (need:=len+n) (cap:=cap) (by omega)
   have hsmall:¬ (Builtin.nextslicecap (len+n) cap*gX>2^48):=by
    have h1:=Hj gX hnext
    exact qU
   let newCap:=(Question.appendCap (len+n) cap e').cut (w.tape w.drawn (.appendCap (len+n) cap e'))
   have hnc:len+n<=newCap:=zG _
   have hold:(Builtin.firstCells z.length len (.slice (some ⟨b,0,none⟩) len cap)).run P w.drew= .ok (arr.toList.take (len*z.length)).toArray w.drew:=by
    exact DA
   have hnew:=hfc w.drew (fun _ _=>rfl)
   let fh:Array Value:=(arr.toList.take (len*z.length)).toArray++us.toArray++Builtin.zeroCells uz.cells (newCap - (len+n))
   have vR:Ext w I ρ w.drew I ρ:=Ext.drew
   have hi1:Inv P w.drew I ρ H:=hi.drew
   have ox:Ext w.drew I ρ (w.drew.alloc (.cells fh e')) I (ρ++[w.drew.heap.size]):=Ext.aO hi1 _
   have hi2:Inv P (w.drew.alloc (.cells fh e')) I (ρ++[w.drew.heap.size]) (H++[.row (cs++ys) e']):=by
    refine Inv.aO hi1 _ ⟨fh,heap_alloc_new _ _,?_,ah.ext ox (ah.ext vR ?_)⟩
    ·exact EJ
    ·exact DZ
   have hilt:i<H.length:=(Za.1 hH).1
   have yw:Inv P (w.drew.alloc (.cells fh e')) I (ρ++[w.drew.heap.size]) (H.set i .dead++[.row (cs++ys) e']):=by
    have oV:H.set i .dead++[ai.row (cs++ys) e']=(H++[ai.row (cs++ys) e']).set i .dead:=by rw[List.set_append_left _ _ hilt]
    rw[oV]
    have rR:(ρ++[w.drew.heap.size])[i]? =some b:=by
     rw[Zd (by rw[hi.len];exact hilt)]
     exact hρ
    have XJ:(H++[ai.row (cs++ys) e'])[i]? =some (ai.row cs e'):=by
     rw[Zd hilt];exact hH
    exact Inv.write hi2 rR XJ dX (Ext.refl _ _ _) rfl (fun _ _=>rfl) trivial
   refine⟨.slice (some ⟨w.heap.size,0,none⟩) (len+n) newCap,w.drew.alloc (.cells fh e'),I,ρ++[w.drew.heap.size],.inl ?_,vR.trans ox,yw,w.heap.size,e',newCap,by rw[<- hi.len];simp,rfl,?_,hnc⟩
   ·rw[AJ] at hnew
    have mA:((len+n:Nat):Int)<=IntKind.i64.max:=by
     have h1:=Nat.le_mul_of_pos_right (2*(len+n)+192) hb0
     exact v8
    have:=run_append_grow (P:=P) (w:=w) (t:=t) (t2:=t2) (ty:=o.type) hu l6 pS jW (by rw[An];exact hsmall) mA hroom hold hnew hz1
    simp only[execOp,ho,resolve,invoke,builtin,Sem.run_bind]
    exact vB
   ·exact El
end
mutual
def aY(σ:Nat->Option Nat):V->V
 | .p x=> .p x
 | .ptr i off=>match σ i with
   | some j=> .ptr j off
   | none=> .top
 | .row i len=>match σ i with
   | some j=> .row j len
   | none=> .top
 | .sl i off len=>match σ i with
   | some j=> .sl j off len
   | none=> .top
 | .map i=>match σ i with
   | some j=> .map j
   | none=> .top
 | .func fn fi ca=> .func fn (bw σ fi) (bw σ ca)
 | .iface t v=> .iface t (aY σ v)
 | .agg cs=> .agg (bw σ cs)
 | .tuple cs=> .tuple (bw σ cs)
 | .opt g v=> .opt g (aY σ v)
 | .raw a n c=> .raw a n c
 | .z0=> .z0
 | .top=> .top
def bw(σ:Nat->Option Nat):List V->List V
 | []=>[]
 | v::vs=>aY σ v::bw σ vs
end
def eV(σ:Nat->Option Nat):Tm->Tm
 | []=>[]
 | (s,v)::r=>(s,aY σ v)::eV σ r
def aH(σ:Nat->Option Nat):ai->ai
 | .cells cs e=> .cells (bw σ cs) e
 | .row cs e=> .row (bw σ cs) e
 | .gZ cs e=> .gZ (bw σ cs) e
 | .map ks vs=> .map (bw σ ks) (bw σ vs)
 | .oK s p=> .oK s p
 | .mapIter ks vs last=> .mapIter ks vs last
 | .loop r st pe=> .loop {r with T:=eV σ r.T} st pe
 | .dead=> .dead
section
variable {P:Program} {w:World} {I:Nat->Prop} {ρ ρ2:List Nat} {σ:Nat->Option Nat}
mutual
theorem fm(hσ:∀ i j b:Nat,σ i=some j->ρ[i]? =some b->ρ2[j]? =some b):∀(v:V) (u:Value),aC P w I ρ v u->aC P w I ρ2 (aY σ v) u
 | .p x,u,h=>h
 | .ptr i off,u,h=>by
  exact CI
 | .row i len,u,h=>by
  simp only[aY]
  split
  ·rename_i j hj
   obtain⟨b,e,cap,h1,h2⟩:=h
   exact⟨b,e,cap,hσ i j b hj h1,h2⟩
  ·trivial
 | .sl i off len,u,h=>by
  simp only[aY]
  split
  ·rename_i j hj
   obtain⟨b,cap,h1,h2⟩:=h
   exact⟨b,cap,hσ i j b hj h1,h2⟩
  ·trivial
 | .map i,u,h=>by
  exact CI
 | .func fn fi ca,u,h=>by
  obtain⟨us,vs,hu,h1,h2⟩:=h
  exact⟨us,vs,hu,ep hσ fi _ h1,ep hσ ca _ h2⟩
 | .iface t v,u,h=>by
  obtain⟨x,hu,h1⟩:=h
  exact⟨x,hu,fm hσ v x h1⟩
 | .agg cs,u,h=>by
  obtain⟨us,hu,h1⟩:=h
  exact⟨us,hu,ep hσ cs _ h1⟩
 | .tuple cs,u,h=>by
  obtain⟨us,hu,h1⟩:=h
  exact⟨us,hu,ep hσ cs _ h1⟩
 | .opt g v,u,h=>⟨fun hg=>fm hσ v u (h.1 hg),h.2⟩
 | .raw _ _ _,u,h=>h
 | .z0,u,h=>h
 | .top,u,h=>trivial
theorem ep(hσ:∀ i j b:Nat,σ i=some j->ρ[i]? =some b->ρ2[j]? =some b):∀(vs:List V) (us:List Value),ah P w I ρ vs us->ah P w I ρ2 (bw σ vs) us
 | [],us,h=>h
 | v::vs,us,h=>by
  obtain⟨u,us',hu,h1,h2⟩:=h
  exact⟨u,us',hu,fm hσ v u h1,ep hσ vs us' h2⟩
end
theorem dy(σ:Nat->Option Nat):∀ vs:List V,(bw σ vs).length=vs.length
 | []=>rfl
 | _::vs=>by simp[bw,dy σ vs]
theorem rE(σ:Nat->Option Nat):∀(T:Tm) (s:Nat),lk (eV σ T) s=(lk T s).map (aY σ)
 | [],s=>rfl
 | (a,v)::r,s=>by
  simp only[eV,lk]
  cases Nat.beq a s with
  | true=>rfl
  | false=>exact rE σ r s
theorem jy(hσ:∀ i j b:Nat,σ i=some j->ρ[i]? =some b->ρ2[j]? =some b){x:ai}{b:Nat}(h:cW P w I ρ x b):cW P w I ρ2 (aH σ x) b:=by
 cases x with
 | cells cs e=>
  obtain⟨arr,h1,h2⟩:=h
  exact⟨arr,h1,ep hσ cs _ h2⟩
 | row cs e=>
  obtain⟨arr,h1,h2,h3⟩:=h
  exact⟨arr,h1,by rw[dy];exact h2,by rw[dy];exact ep hσ cs _ h3⟩
 | gZ cs e=>
  obtain⟨arr,m,h1,h0,h2,h3⟩:=h
  exact⟨arr,m,h1,by rw[dy];exact h0,by rw[dy];exact h2,by rw[dy];exact ep hσ cs _ h3⟩
 | map ks vs=>
  obtain⟨es,clock,h1,h2,h3,h4⟩:=h
  exact⟨es,clock,h1,ep hσ ks _ h2,ep hσ vs _ h3,h4⟩
 | oK s pos=>exact h
 | mapIter ks vs last=>exact h
 | loop r st pe=>
  obtain⟨h0,h1,h3⟩:=h
  refine⟨h0,h1,fun s v hv=> ?_⟩
  rw[show({r with T:=eV σ r.T}:wz).T=eV σ r.T from rfl,rE,Zi] at hv
  obtain⟨v0,h4,rfl⟩:=hv
  exact fm hσ v0 _ (h3 s v0 h4)
 | dead=>trivial
theorem b7{x:ai}:(aH σ x).live=x.live:=by cases x <;> rfl
theorem bq.ren{N:Nat}{T:Tm}{tmps:Array Value}(hσ:∀ i j b:Nat,σ i=some j->ρ[i]? =some b->ρ2[j]? =some b)(h:bq P w I ρ N T tmps):bq P w I ρ2 N (eV σ T) tmps:=
 ⟨h.size,fun s v hv=>by
  rw[rE,Zi] at hv
  obtain⟨v0,h4,rfl⟩:=hv
  exact fm hσ v0 _ (h.at_ s v0 h4)⟩
end
def To(P:Program)(κ N:Nat)(T:Tm)(H:List ai)(T2:Tm)(H2:List ai):Prop:=
 ∀ w I ρ tmps,Inv P w I ρ H->bq P w I ρ N T tmps->∃ I' ρ',cA w I ρ w I' ρ'∧Inv P w I' ρ' H2∧bq P w I' ρ' N T2 tmps∧∀ L:List Nat,L<+:ρ->L.length<=κ->L<+:ρ'
section
variable {P:Program} {R:Option Nat} {N κ:Nat} {Q Q':Post} {T T' T2 T3:Tm} {H H' H2 H3:List ai} {o:Oper} {ops:Array Oper} {rest:List Oper}
theorem To.refl:To P κ N T H T H:=fun w I ρ tmps hi ht=>⟨I,ρ,cA.refl _ _ _,hi,ht,fun _ h _=>h⟩
theorem To.sub(hs:Sub T2 T):To P κ N T H T2 H:=fun w I ρ tmps hi ht=>⟨I,ρ,cA.refl _ _ _,hi,ht.sub hs,fun _ h _=>h⟩
theorem To.trans(h:To P κ N T H T2 H2)(k:To P κ N T2 H2 T3 H3):To P κ N T H T3 H3:=fun w I ρ tmps hi ht=>by
 obtain⟨I',ρ',h1,h2,h3,h4⟩:=h w I ρ tmps hi ht
 obtain⟨VQ,UH,k1,k2,k3,k4⟩:=k w I' ρ' tmps h2 h3
 exact⟨VQ,UH,h1.trans k1,k2,k3,fun L hL hl=>k4 L (h4 L hL hl) hl⟩
theorem To.freeze(i:Nat){xs:List PV}{vs:List V}(hc:bM H[i]? =some vs)(hp:jF vs=some xs):To P κ N T H (xV i xs T) (H.set i .dead):=fun w I ρ tmps hi ht=>by
 rw[dN hp] at hc
 obtain⟨I',h1,h2,h3⟩:=n9 hi hc ht
 exact⟨I',ρ,h1.w,h2,h3,fun _ h _=>h⟩
theorem Marks.to{B:mI}{w:World}{I I':Nat->Prop}{ρ ρ':List Nat}{ds:List Deferred}(h:cA w I ρ w I' ρ')(hp:∀ L:List Nat,L<+:ρ->L.length<=κ->L<+:ρ')(m:Marks κ B w I ρ ds):Marks κ B w I' ρ' ds:=by
 obtain⟨hB,hκ,hpre,rs,h1,h2,h3⟩:=m
 refine⟨hB,hκ,hp _ hpre hκ,rs,h1,h2,fun r hr=> ?_⟩
 obtain⟨h4,h5,h6⟩:=h3 r hr
 exact⟨h4,fun h7=>h5 (h.kz r h4 h7),h6⟩
theorem aF.to{c:Code}(hto:To P κ N T H T2 H2)(h:aF P R N κ c Q T2 H2):aF P R N κ c Q T H:=by
 intro B w I ρ a hi ht hm
 obtain⟨I',ρ',h1,h2,h3,h4⟩:=hto w I ρ a.tmps hi ht
 exact wpIn_mono (h B w I' ρ' a h2 h3 (hm.to h1 h4)) fun _ _ _ q=>QC.ext h1 q
theorem aj.to{l:List Oper}(hto:To P κ N T H T2 H2)(h:aj P R N κ ops l Q T2 H2):aj P R N κ ops l Q T H:=by
 intro QX B w I ρ a hi ht hm hq
 obtain⟨I',ρ',h1,h2,h3,h4⟩:=hto w I ρ a.tmps hi ht
 exact h QX B w I' ρ' a h2 h3 (hm.to h1 h4) fun e a2 w2 q=>hq e a2 w2 (QC.ext h1 q)
def pl(ks:List Nat)(i:Nat):Option Nat:=ks.idxOf? i
def jK(κ n:Nat)(ks:List Nat):Bool:=(ks.take κ==List.range κ)&&ks.all (fun i=>Nat.blt i n)&&decide ks.Nodup
theorem AH{ks:List Nat}{i j:Nat}(h:pl ks i=some j):ks[j]? =some i:=by
 unfold pl List.idxOf? at h
 rw[ZaS] at h
 obtain⟨hj,h1,_⟩:=h
 simp at h1
 simp[hj,h1]
theorem To.keep(ks:List Nat)(hk:jK κ H.length ks=true):To P κ N T H (eV (pl ks) T) (ks.map fun i=>aH (pl ks) (H.getD i .dead)):=by
 intro w I ρ tmps hi ht
 simp only[jK,Zm,beq_iff_eq,Zz,Zn] at hk
 obtain⟨⟨XK,hk2⟩,XA⟩:=hk
 have hlt:∀ i∈ks,i<H.length:=fun i h=>by have:=hk2 i h;simpa[Nat.blt,Zx] using this
 have rR:∀ j i:Nat,ks[j]? =some i->(ks.map fun i=>ρ.getD i 0)[j]? =ρ[i]? :=fun j i h=>by
  exact CH
 have hσ:∀ i j b:Nat,pl ks i=some j->ρ[i]? =some b->(ks.map fun i=>ρ.getD i 0)[j]? =some b:=fun i j b h hb=>by rw[rR j i (AH h)];exact hb
 have ef:∀(j b:Nat) (blk:ai),(ks.map fun i=>ρ.getD i 0)[j]? =some b->(ks.map fun i=>aH (pl ks) (H.getD i .dead))[j]? =some blk->∃ i x,ks[j]? =some i∧ρ[i]? =some b∧H[i]? =some x∧blk=aH (pl ks) x:=by
  exact A8
 refine⟨I,ks.map fun i=>ρ.getD i 0,⟨rfl,rfl,rfl,Zf _,fun _ _ _=>rfl,fun _ _ h=>h,fun _ h=>h,fun _ _=>rfl,fun _ h=> .inl h,fun _ h=>h,fun _ _ h=>h,fun b hb=> ?_⟩,
  ⟨by simp,fun j b blk h1 h2 h3=> ?_,hi.ib,fun j b blk h1 h2 h3=> ?_,fun i j b x y h1 h2 h3 h4 h5 h6=> ?_,fun j b blk h1 h2=> ?_,hi.gl⟩,ht.ren hσ,fun L hL hl=> ?_⟩
 ·rw[zl] at hb
  obtain⟨i,h1,rfl⟩:=hb
  have h2:i<ρ.length:=by rw[hi.len];exact hlt i h1
  exact .inl (by simp[h2])
 ·exact Cj
 ·exact DO
 ·exact Ey
 ·exact DH
 ·have e1:L=ρ.take L.length:=Xz.1 hL
  have e2:(ks.map fun i=>ρ.getD i 0).take L.length=ρ.take L.length:=by
   have h1:ks.take L.length=List.range L.length:=by
    have:=congrArg (List.take L.length) XK
    rw[List.take_take,Kj hl,List.take_range,Kj hl] at this
    exact this
   rw[<- List.map_take,h1]
   apply Fm
   intro i
   rw[Zs,ZR]
   by_cases h:i<L.length
   ·have h2:i<ρ.length:=ZJ h hL.length_le
    simp[h,h2]
   ·simp[h]
  rw[Xz,e2]
  exact e1
theorem aF.Ic{γ:Type}{c:Code}(S:γ->Tm)(Hs:γ->List ai)(inv:γ->Prop)(μ:γ->Nat)(g0:γ)(h0:inv g0)(hto:To P κ N T H (S g0) (Hs g0))
    (round:∀ g,inv g->aF P R N κ c (AX.then (fun T' H'=>∃ g',inv g'∧μ g'<μ g∧To P κ N T' H' (S g') (Hs g')) Q) (S g) (Hs g)):aF P R N κ (.loop c) Q T H:=by
 intro B w I ρ a hi ht hm
 obtain⟨I0,ρ0,k1,k2,k3,k4⟩:=hto w I ρ a.tmps hi ht
 refine zT (fun g a' w'=>inv g∧∃ I' ρ',cA w I ρ w' I' ρ'∧Inv P w' I' ρ' (Hs g)∧bq P w' I' ρ' N (S g) a'.tmps∧Marks κ B w' I' ρ' a'.defers) μ g0 ⟨h0,I0,ρ0,k1,k2,k3,hm.to k1 k4⟩ ?_
 rintro g a' w' ⟨hg,I',ρ',he,hi',ht',hm'⟩
 refine wpIn_mono (round g hg B w' I' ρ' a' hi' ht' hm') ?_
 rintro e a2 w2 ⟨z,J,σ,T1,H1,h1,h2,h3,h4,h5,h6⟩
 cases z <;> cases e <;> first | exact h1.elim | skip
 ·obtain⟨g',h7,h8,h9⟩:=h2
  obtain⟨I3,ρ3,m1,m2,m3,m4⟩:=h9 w2 J σ a2.tmps h4 h5
  exact⟨g',⟨h7,I3,ρ3,(he.trans h3).trans m1,m2,m3,h6.to m1 m4⟩,h8⟩
 all_goals exact⟨_,J,σ,T1,H1,h1,h2,he.trans h3,h4,h5,h6⟩
def j4(P:Program)(κ:Nat)(f:FuncId)(args:List V)(H:List ai)(Q:V->List ai->Prop):Prop:=
 ∀(B:List Nat) w I ρ us,Inv P w I ρ H->ah P w I ρ args us->B<+:ρ->B.length<=κ->
  CallsIn Fence.wide 0 P f us.toArray w fun e w'=>∃ u v I' ρ' H',e= .returned u∧Q v H'∧cA w I ρ w' I' ρ'∧Inv P w' I' ρ' H'∧aC P w' I' ρ' v u∧B<+:ρ'
theorem j4.ir{f:FuncId}{fn:Func}{c:Code}{args:List V}{Qr:V->List ai->Prop}(hf:P.funcs[f]? =some fn)(hb:fn.body=some c)(hN:fn.ntmps=N)(hn:args.length<=N)
    (h:aF P none N κ c (jV P N fn Qr) (c6 0 args) H):j4 P κ f args H Qr:=by
 subst hN
 intro B w I ρ us hi gz hBp Wr
 have hl:=ah.length gz
 refine callsIn_of_wp_marks hf hb trivial ?_ rfl
 have ht:bq P w I ρ fn.ntmps (c6 0 args) (us.toArray++Array.replicate (fn.ntmps - us.toArray.size) undef):=by
  exact nX
 refine wpIn_mono (h ⟨w.heap.size,B,[]⟩ w I ρ {tmps:=us.toArray++Array.replicate (fn.ntmps - us.toArray.size) undef,defers:=[]} hi ht ⟨Zf _,Wr,hBp,[],rfl,Ra,fun _ h=>by cases h⟩) ?_
 rintro e a' w' ⟨z,I',ρ',T',H',h1,⟨h2,v,hv,hq⟩,h3,h4,h5,hB,_,hpre,rs,h6,h7,h8⟩
 have fin:LeavesInM Fence.wide 0 P fn a'.tmps (fun e w'=>∃ u v I' ρ' H',e= .returned u∧Qr v H'∧cA w I ρ w' I' ρ'∧Inv P w' I' ρ' H'∧aC P w' I' ρ' v u∧B<+:ρ') a'.defers .returning w':=by
  rw[h6]
  show LeavesInM _ _ _ _ _ _ (_++[]) _ _
  rw[ZX]
  refine lO rs w' h7 (fun r hr=>(h8 r hr).1) ?_
  intro w2 k1 k2 k3 k4 k5
  have kI:∀ b,I' b->w2.heap[b]? =w'.heap[b]? :=fun b hb=>k1 b (fun hm=>(h8 b hm).2.1 hb)
  have kρ:∀ b:Nat,w'.heap[b]? ≠some (Obj.deferred (some []))->w2.heap[b]? =w'.heap[b]? :=fun b hb=>k1 b (fun hm=>hb (h8 b hm).1)
  have ks:∀ b s,w'.shape? b=some s->w2.shape? b=some s:=fun b s hs=>by
   exact qx
  have hi2:Inv P w2 I' ρ' H':=h4.marks k5 kI kρ ks
  have oS:bq P w2 I' ρ' fn.ntmps T' a'.tmps:=⟨h5.size,fun s x hx=>aC.mono (fun _ h=>h) kI (ZE _) (fun b _ s h=>ks b s h) x _ (h5.at_ s x hx)⟩
  obtain⟨u,hu1,PO⟩:=hv w2 I' ρ' a'.tmps hi2 oS
  refine⟨u,hu1,u,v,I',ρ',H',rfl,hq,?_,hi2,PO,hpre⟩
  have hlow:∀ b,b<w.heap.size->w2.heap[b]? =w'.heap[b]? :=fun b hb=>k1 b (fun hm=>by have:=(h8 b hm).2.2;simp only at this;omega)
  exact Br
 rcases h2 with rfl | rfl <;> cases e <;> first | exact h1.elim | exact fin
end
section
variable {P:Program} {R:Option Nat} {N κ:Nat} {Q Q':Post} {T T' T2 T3:Tm} {H H' H2 H3:List ai} {o:Oper} {ops:Array Oper} {rest:List Oper}
def kr(l:Nat):V:= .p (.func (.yield l) [] [])
def tj(P:Program)(l κ:Nat)(h:List ai)(args:List V)(Qb:Bool->List ai->Prop):Prop:=
 ∀(B:List Nat) w I ρ us,Inv P w I ρ h->ah P w I ρ args us->B<+:ρ->B.length<=κ->
  ∃ fn tmps fG body,(Instr.yield l us.toArray).run P w= .ok (.round l fn tmps fG body) w∧
   RoundIn Fence.wide 0 P l fn tmps fG body w fun e w'=>∃ b I' ρ' h',e= .returned (.bool b)∧Qb b h'∧cA w I ρ w' I' ρ'∧Inv P w' I' ρ' h'∧B<+:ρ'
def LR(P:Program)(f:FuncId)(mk:V->List V)(xs:List (List V)):Prop:=
 ∀(l κ n:Nat) (inv:Nat->List ai->Prop) (fin:List ai->Prop),κ<=n->(∀ k h,inv k h->h.length=n)->(∀ h,fin h->h.length=n)->
  (∀ k h x,inv k h->xs[k]? =some x->tj P l κ h x fun b h'=>if b=true then inv (k+1) h' else fin h')->
  ∀ h0,inv 0 h0->j4 P κ f (mk (kr l)) h0 fun _ h'=>inv xs.length h'∨fin h'
def KP:V->V
 | .p x=> .p x
 | _=> .top
def nU:Tm->Tm
 | []=>[]
 | (s,v)::r=>(s,KP v)::nU r
theorem Dj:∀(T:Tm) (s:Nat),lk (nU T) s=(lk T s).map KP
 | [],s=>rfl
 | (a,v)::r,s=>by
  simp only[nU,lk]
  cases Nat.beq a s with
  | true=>rfl
  | false=>exact Dj r s
theorem J0{w w':World}{I I':Nat->Prop}{ρ ρ':List Nat}(h:cA w I ρ w' I' ρ'){v:V}{u:Value}(hv:aC P w I ρ v u):aC P w' I' ρ' (KP v) u:=by
 cases v <;> first | trivial | skip
 exact Rel.mono h.lF h.aZ _ u hv
theorem bq.nU{w w':World}{I I':Nat->Prop}{ρ ρ':List Nat}{tmps:Array Value}(h:cA w I ρ w' I' ρ')(t:bq P w I ρ N T tmps):bq P w' I' ρ' N (AF.nU T) tmps:=
 ⟨t.size,fun s v hv=>by
  rw[Dj,Zi] at hv
  obtain⟨v0,h1,rfl⟩:=hv
  exact J0 h (t.at_ s v0 h1)⟩
theorem Marks.Ix{B:mI}{w w':World}{I I':Nat->Prop}{ρ ρ':List Nat}{ds:List Deferred}(h:cA w I ρ w' I' ρ')(hp:B.pre<+:ρ')(m:Marks κ B w I ρ ds):Marks κ B w' I' ρ' ds:=by
 obtain⟨hB,hκ,_,rs,h1,h2,h3⟩:=m
 refine⟨ZS hB h.size,hκ,hp,rs,h1,h2,fun r hr=> ?_⟩
 obtain⟨h4,h5,h6⟩:=h3 r hr
 exact⟨h.cE r h4,fun h7=>h5 (h.kz r h4 h7),h6⟩
theorem uT{n l:Nat}{f:FuncId}{tmps:Array Value}{fG body:Code}{w:World}{Rr:Ending->World->Prop}(R:Option Nat)(h:RoundIn Fence.wide n P l f tmps fG body w Rr):RoundIn (Fr R) n P l f tmps fG body w Rr:=h
theorem aj.yield(d:Nat){l:Nat}{f:Operand}{xs:Array Operand}{ts:Array TypeId}{vs:List V}{Qb:Bool->List ai->Prop}(ho:o.op= .call {callee:= .value f,args:=xs,argTypes:=ts})(hd:o.dst=some d)(hN:aU N (some d)=true)(hg:o.guard=none)
    (hf:ev T f=some (kr l))(hxs:jU T xs.toList=some vs)(hb:tj P l κ H vs Qb)
    (next:∀ b h',Qb b h'->aj P R N κ ops rest Q ((d,.p (.bool b))::nU T) h'):aj P R N κ ops (o::rest) Q T H:=by
 intro QX B w I ρ a hi ht hm hq
 refine wpListIn_plain hg fun K hK=>⟨bB,?_⟩
 rw[bG _ _ _ (by simp[ho])]
 have h1:=ht.ev hf
 have h2:=ht.jU hxs
 obtain⟨us,vs',hu,h3,h4⟩:=h1
 simp only[aQ] at h3 h4
 have gz:us= #[]:=by simpa using h3
 have US:vs'= #[]:=by simpa using h4
 subst gz US
 obtain⟨fn,tmps,fG,body,hy,hr⟩:=hb B.pre w I ρ _ hi h2 hm.2.2.1 hm.2.1
 have e:(execOp a.eval o).run P w= .ok (.round l fn tmps fG body) w:=by
  exact CX
 rw[e]
 refine⟨(fun h=>by cases h),RoundIn.mono (uT _ hr) ?_⟩
 rintro e w' ⟨b,I',ρ',h',rfl,h5,h6,h7,h8⟩
 have hto:=ht.nU h6
 have hput:bq P w' I' ρ' N (fM (nU T) o.dst (.p (.bool b))) (a.put o.dst (.bool b)).tmps:=bq.put (by rw[hd];exact hN) hto (by simp[aC,Rel])
 rw[hd] at hput
 refine hK _ _ ?_
 rw[hd]
 exact next b h' h5 QX B w' I' ρ' _ h7 hput (hm.Ix h6 h8).put fun e a2 w2 q=>hq e a2 w2 (QC.ext h6 q)
def mX:Tm->List Tmp->List V->Tm
 | T,p::ps,x::xs=>mX ((p,x)::T) ps xs
 | T,_,_=>T
theorem yQ{w:World}{I:Nat->Prop}{ρ:List Nat}:∀(ps:List Tmp) (xs:List V) (us:List Value) (T:Tm) (tmps:Array Value),(∀ p∈ps,p<N)->ah P w I ρ xs us->bq P w I ρ N T tmps->
    bq P w I ρ N (mX T ps xs) ((ps.zip us).foldl (fun t (p,v)=>t.setIfInBounds p v) tmps)
 | [],xs,us,T,tmps,_,_,ht=>by cases xs <;> simpa[mX] using ht
 | p::ps,[],us,T,tmps,_,hx,ht=>by
  simp[ah] at hx
  subst hx
  simpa[mX] using ht
 | p::ps,x::xs,us,T,tmps,hp,hx,ht=>by
  obtain⟨u,us',rfl,h1,h2⟩:=hx
  simp only[mX,List.zip_cons_cons,UC]
  refine yQ ps xs us' _ _ (fun q hq=>hp q (by simp[hq])) h2 ?_
  have:=bq.put (a:={tmps:=tmps,defers:=[]}) (dst:=some p) (v:=x) (u:=u) (by simpa[aU,Nat.blt,Zx] using hp p (by simp)) ht h1
  simpa[fM,Act.put] using this
theorem Inv.kill{w:World}{I:Nat->Prop}{ρ:List Nat}(hi:Inv P w I ρ H)(i:Nat):Inv P w I ρ (H.set i .dead):=by
 have ef:∀(j:Nat) (x:ai),(H.set i .dead)[j]? =some x->x.live=true->H[j]? =some x:=fun j x h hl=>by
  rw[Zt] at h
  split at h
  ·split at h
   ·cases h;cases hl
   ·cases h
  ·exact h
 refine⟨by simp[hi.len],fun j b blk h1 h2 h3=>hi.gH j b blk h1 (ef j blk h2 h3) h3,hi.ib,fun j b blk h1 h2 h3=>hi.live j b blk h1 (ef j blk h2 h3) h3,fun j k b x y h1 h2 h3 h4 h5 h6=>hi.fX j k b x y h1 h2 (ef j x h3 h5) (ef k y h4 h6) h5 h6,fun j b blk h1 h2=> ?_,hi.gl⟩
 cases hl:blk.live with
 | false=>exact cW.gJ hl
 | true=>exact hi.rel j b blk h1 (ef j blk h2 hl)
theorem j5{w:World}{I:Nat->Prop}{ρ:List Nat}{n:Nat}{r:wz}{st:LoopState}{pe:Option Code}(hi:Inv P w I ρ H)(hH:H[n]? =some (.loop r st pe)):
    ρ[n]? =some r.l∧(∃ fn d,w.heap[r.l]? =some (.loop {state:=st,pending:=pe,fn,tmps:=r.tmps,params:=r.ps,assign:=r.fG,body:=r.body,defers:=d}))∧∀ s v,lk r.T s=some v->aC P w I ρ v (r.tmps.getD s undef):=by
 have hlt:n<ρ.length:=by rw[hi.len];exact(Za.1 hH).1
 have hρ:ρ[n]? =some ρ[n]:=Zb hlt
 obtain⟨h1,h2,h3⟩:=hi.rel n _ _ hρ hH
 rw[h1] at hρ h2
 exact⟨hρ,h2,h3⟩
theorem oh{w:World}{I:Nat->Prop}{ρ:List Nat}{n:Nat}{r:wz}{st st':LoopState}{pe Vm:Option Code}{fn:FuncId}{d:Nat}(hi:Inv P w I ρ H)(hH:H[n]? =some (.loop r st pe))
    (hw:w.heap[r.l]? =some (.loop {state:=st,pending:=pe,fn,tmps:=r.tmps,params:=r.ps,assign:=r.fG,body:=r.body,defers:=d})):
    ∀ w',w'=w.putObj r.l (.loop {state:=st',pending:=Vm,fn,tmps:=r.tmps,params:=r.ps,assign:=r.fG,body:=r.body,defers:=d})->
     Ext w I ρ w' I ρ∧Inv P w' I ρ (H.set n (.loop r st' Vm)):=by
 intro w' hw'
 obtain⟨hρ,_,hT⟩:=j5 hi hH
 have hlt:r.l<w.heap.size:=(ZN.1 hw).1
 have hsame:w'.heap[r.l]? =some (.loop {state:=st',pending:=Vm,fn,tmps:=r.tmps,params:=r.ps,assign:=r.fG,body:=r.body,defers:=d}):=by rw[hw'];exact World.putObj_heap_same hlt
 have fc:∀ k,k≠r.l->w'.heap[k]? =w.heap[k]? :=fun k hk=>by rw[hw'];exact World.putObj_heap_other hk
 have hsh:∀ s,w.shape? r.l=some s->w'.shape? r.l=some s:=fun s hs=>by simp[World.shape?,hw] at hs
 have hE:Ext w I ρ w' I ρ:=Ext.write hi hρ hH rfl (by rw[hw'];rfl) (by rw[hw'];rfl) (by rw[hw'];rfl) (by rw[hw'];simp) fc hsh
 refine⟨hE,Inv.write hi hρ hH rfl hE (by rw[hw'];simp) fc ⟨rfl,⟨fn,d,hsame⟩,fun s v hv=>(hT s v hv).ext hE⟩⟩
theorem kq{w:World}{I:Nat->Prop}{ρ:List Nat}{a:Act}{g:Operand}{l:Nat}{fv:V}{f:FuncId}{all:List V}(hT:bq P w I ρ N T a.tmps)(hg:ev T g=some fv)(hc:callee [kr l] fv=some (f,all))(hf:ak P f=true):
    ∃ d us,ah P w I ρ all us∧(resolve a.eval (rangeCall g l) 0).run P w= .ok d w∧(invoke d.target d.args).run P w= .ok (.enter f us.toArray) w:=by
 have h1:=hT.ev hg
 have hy:ah P w I ρ [kr l] [Value.func (.yield l) #[] #[]]:=⟨_,[],rfl,⟨#[],#[],rfl,by simp[aQ],by simp[aQ]⟩,by simp[ah]⟩
 unfold callee at hc
 split at hc
 ·rename_i f' fi ca
  simp at hc
  obtain⟨rfl,rfl⟩:=hc
  obtain⟨us,vs',hu,h3,h4⟩:=h1
  refine⟨{target:= .fn (.func f') vs',args:=us++ #[.func (.yield l) #[] #[]]},us.toList++[Value.func (.yield l) #[] #[]]++vs'.toList,?_,?_,?_⟩
  ·have:=ah.append (ah.append (ah.pure (P:=P) (ρ:=ρ).2 h3) hy) (ah.pure (P:=P) (ρ:=ρ).2 h4)
   simpa using this
  ·exact Dn
  ·simp[invoke,fY hf]
 ·rename_i f' fi ca
  simp at hc
  obtain⟨rfl,rfl⟩:=hc
  obtain⟨us,vs',hu,h3,h4⟩:=h1
  refine⟨{target:= .fn (.func f') vs',args:=us++ #[.func (.yield l) #[] #[]]},us.toList++[Value.func (.yield l) #[] #[]]++vs'.toList,?_,?_,?_⟩
  ·have:=ah.append (ah.append h3 hy) h4
   simpa using this
  ·exact Dn
  ·simp[invoke,fY hf]
 ·cases hc
def RP(P:Program)(κ N:Nat)(r:wz)(k:Nat)(J:Nat->List ai->Prop)(Jx:Code->List ai->Prop):Post
 | .normal,T,H=>∃ h',J (k+1) h'∧To P κ N T H [] (h'++[.loop r .busy none])
 | .ret,T,H=>∃ h',Jx .ret h'∧To P κ N T H [] (h'++[.loop r .busy none])
 | .exit id,T,H=>∃ h',Jx (.exit id) h'∧To P κ N T H [] (h'++[.loop r .busy none])
 | .panic _,_,_=>False
def Round(P:Program)(N κ:Nat)(r:wz)(k n:Nat)(J:Nat->List ai->Prop)(Jx:Code->List ai->Prop)(T:Tm)(H:List ai):Prop:=
 aF P (some r.l) N κ r.fG (fun x T1 H1=>x= .normal∧H1[n]? =some (.loop r .ready none)∧aF P (some r.l) N κ r.body (RP P κ N r k J Jx) T1 (H1.set n (.loop r .busy none))) T H
theorem iV{α:Type}(l:List α)(x y:α):(l++[x]).set l.length y=l++[y]:=by simp
theorem Round.ok{r:wz}{k n:Nat}{J:Nat->List ai->Prop}{Jx:Code->List ai->Prop}{h:List ai}{xs:List V}(hn:h.length=n)(hJ:∀ h,J (k+1) h->h.length=n)(KG:∀ c h,Jx c h->h.length=n)(hps:xs.length=r.ps.size)(hlt:∀ p∈r.ps.toList,p<N)(hN:r.tmps.size=N)
    (hr:Round P N κ r k n J Jx (mX r.T r.ps.toList xs) (h++[.loop r .ready none])):
    tj P r.l κ (h++[.loop r .ready none]) xs fun b h'=>if b=true then ∃ h0,J (k+1) h0∧h'=h0++[.loop r .ready none] else ∃ h0 c,Jx c h0∧h'=h0++[.loop r .done (some c)]:=by
 intro B w I ρ us hi gz hB Wr
 have ef:(h++[ai.loop r .ready none])[n]? =some (.loop r .ready none):=by subst hn;simp
 obtain⟨hρ,⟨fn,d,hl⟩,hT⟩:=j5 hi ef
 have hlen:=ah.length gz
 refine⟨fn,_,r.fG,r.body,run_yield hl (by simp[hlen,hps]),?_⟩
 refine roundIn_of_wpIn trivial ?_
 have ht0:bq P w I ρ N (mX r.T r.ps.toList xs) ((r.ps.zip us.toArray).foldl (fun t (p,v)=>t.setIfInBounds p v) r.tmps):=by
  have:=yQ r.ps.toList xs us r.T r.tmps hlt gz ⟨hN,hT⟩
  rw[<- Array.foldl_toList]
  simpa using this
 have hstart:=hr ⟨w.heap.size,B,[]⟩ w I ρ {tmps:=(r.ps.zip us.toArray).foldl (fun t (p,v)=>t.setIfInBounds p v) r.tmps,defers:=[]} hi ht0 ⟨Zf _,Wr,hB,[],rfl,Ra,fun _ h=>by cases h⟩
 refine wpIn_mono hstart ?_
 rintro e a1 w1 ⟨z,I1,ρ1,T1,H1,h1,⟨rfl,h2,h3⟩,h4,h5,h6,h7⟩
 cases e <;> first | exact h1.elim | skip
 obtain⟨hρ1,⟨fn1,d1,hl1⟩,_⟩:=j5 h5 h2
 refine⟨_,run_beginRound hl1 rfl,?_⟩
 obtain⟨vR,hi1⟩:=oh (st':= .busy) (Vm:=none) h5 h2 hl1 _ rfl
 refine wpIn_mono (h3 ⟨w.heap.size,B,[]⟩ _ I1 ρ1 a1 hi1 (h6.ext vR) (h7.ext vR)) ?_
 rintro e a2 w2 ⟨z,I2,ρ2,T2,H2,k1,k2,k3,k4,k5,k6⟩
 have key:∀ h',To P κ N T2 H2 [] (h'++[.loop r .busy none])->h'.length=n->∀ jump:Option Code,∃ w3,(Instr.endRound r.l jump).run P w2= .ok (.bool jump.isNone) w3∧
     ∃ I' ρ',cA w I ρ w3 I' ρ'∧Inv P w3 I' ρ' (h'++[.loop r (if jump.isNone then .ready else .done) jump])∧B<+:ρ':=by
  intro h' hto hh' jump
  obtain⟨I3,ρ3,m1,m2,m3,m4⟩:=hto w2 I2 ρ2 a2.tmps k4 k5
  have Dc:(h'++[ai.loop r .busy none])[n]? =some (.loop r .busy none):=by subst hh';simp
  obtain⟨_,⟨fn3,d3,OW⟩,_⟩:=j5 m2 Dc
  obtain⟨Kk,yw⟩:=oh (st':=if jump.isNone then .ready else .done) (Vm:=jump) m2 Dc OW _ rfl
  refine⟨_,run_endRound jump OW,I3,ρ3,((h4.trans vR.w).trans k3).trans (m1.trans Kk.w),?_,m4 B k6.2.2.1 Wr⟩
  subst hh'
  rw[iV] at yw
  exact yw
 cases z <;> cases e <;> first | exact k1.elim | exact k2.elim | skip
 ·obtain⟨h',k7,k8⟩:=k2
  obtain⟨w3,e1,I',ρ',e2,e3,e4⟩:=key h' k8 (hJ _ k7) none
  exact⟨_,w3,e1,true,I',ρ',_,rfl,by show if true=true then _ else _;rw[if_pos rfl];exact⟨h',k7,rfl⟩,e2,e3,e4⟩
 ·obtain⟨h',k7,k8⟩:=k2
  obtain⟨w3,e1,I',ρ',e2,e3,e4⟩:=key h' k8 (KG _ _ k7) (some .ret)
  exact⟨_,w3,e1,false,I',ρ',_,rfl,by show if false=true then _ else _;rw[if_neg (by simp)];exact⟨h',_,k7,rfl⟩,e2,e3,e4⟩
 ·rename_i i j
  obtain rfl:i=j:=k1
  obtain⟨h',k7,k8⟩:=k2
  obtain⟨w3,e1,I',ρ',e2,e3,e4⟩:=key h' k8 (KG _ _ k7) (some (.exit i))
  exact⟨_,w3,e1,false,I',ρ',_,rfl,by show if false=true then _ else _;rw[if_neg (by simp)];exact⟨h',_,k7,rfl⟩,e2,e3,e4⟩
theorem s9{w:World}{l0:Nat}{r0:Loop}(h:w.heap[l0]? =some (.loop r0))(fn:FuncId)(tmps:Array Value)(ps:Array Tmp)(fG body:Code):
    (Instr.enterLoop fn tmps ps fG body (some l0)).run P w= .ok (w.heap.size,[]) (w.alloc (.loop {state:= .ready,pending:=none,fn,tmps,params:=ps,assign:=fG,body,defers:=r0.defers})):=by
 unfold Instr.enterLoop
 simp only[Sem.run_bind,run_getLoop h,run_newObj_alloc,Result.andThen,Sem.run_pure]
theorem aF.rangeFunc{g:Operand}{ps:Array Tmp}{fG body:Code}{fv:V}{f:FuncId}{mk:V->List V}{xs:List (List V)}(κ2:Nat)(hg:ev T g=some fv)(hc:∀ y,callee [y] fv=some (f,mk y))(hf:ak P f=true)(FE:LR P f mk xs)
    (hκ:κ<=κ2)(hκn:κ2<=H.length)(hR:∀ l0,R=some l0->∃(i:Nat) (r0:wz) (st:LoopState) (pe:Option Code),r0.l=l0∧H[i]? =some (.loop r0 st pe))(hps:∀ x∈xs,x.length=ps.size)(hlt:ps.toList.all (fun p=>Nat.blt p N)=true)
    (J:Nat->List ai->Prop)(Jx:Code->List ai->Prop)(hJ:∀ k h,J k h->h.length=H.length)(KG:∀ c h,Jx c h->h.length=H.length)(h0:J 0 H)
    (round:∀ l tmps k h x,J k h->xs[k]? =some x->Round P N κ2 ⟨l,tmps,T,ps,fG,body⟩ k H.length J Jx (mX T ps.toList x) (h++[.loop ⟨l,tmps,T,ps,fG,body⟩ .ready none]))
    (done:∀ h,J xs.length h->Q .normal T (h++[.dead]))(stop:∀ c h,Jx c h->aF P R N κ c Q T (h++[.dead])):aF P R N κ (.rangeFunc g ps fG body) Q T H:=by
 intro B w I ρ a hi ht hm
 refine wpIn_rangeFunc ?_
 intro fn _
 -- the record
 have entry:∃(l:Nat) (mark:List Deferred) (w1:World),(Instr.enterLoop fn a.tmps ps fG body R).run P w= .ok (l,mark) w1∧Ext w I ρ w1 I (ρ++[l])∧
     Inv P w1 I (ρ++[l]) (H++[.loop ⟨l,a.tmps,T,ps,fG,body⟩ .ready none])∧Marks κ B w1 I (ρ++[l]) (mark++a.defers):=by
  cases R with
  | none=>
   have hi1:=Inv.dL hi (.deferred (some []))
   have XV:=Ext.dL hi (.deferred (some []))
   let ob:Obj:= .loop {state:= .ready,pending:=none,fn,tmps:=a.tmps,params:=ps,assign:=fG,body,defers:=w.heap.size}
   have KZ:Ext (w.alloc (.deferred (some []))) I ρ _ I _:=Ext.aO hi1 ob
   have hE:=XV.trans KZ
   have hsz:(w.alloc (.deferred (some []))).heap.size=w.heap.size+1:=by simp
   rw[hsz] at hE
   refine⟨w.heap.size+1,_,_,run_enterLoop_outer fn a.tmps ps fG body,hE,?_,?_⟩
   ·have hx:cW P ((w.alloc (.deferred (some []))).alloc ob) I (ρ++[w.heap.size+1]) (.loop ⟨w.heap.size+1,a.tmps,T,ps,fG,body⟩ .ready none) (w.heap.size+1):=by
      exact uW
    have:=Inv.aO hi1 ob (blk:= .loop ⟨w.heap.size+1,a.tmps,T,ps,fG,body⟩ .ready none) (by rw[hsz];exact hx)
    rwa [hsz] at this
   ·exact wQ
  | some l0=>
   obtain⟨i,r0,st,pe,hl0,hH0⟩:=hR l0 rfl
   exact BP
 obtain⟨l,mark,w1,XP,hE,hi1,Fx⟩:=entry
 obtain⟨d,us,gz,hres,hinv⟩:=kq (ht.ext hE) hg (hc (kr l)) hf
 refine⟨l,mark,w1,d,w1,f,us.toArray,w1,XP,hres,(fun _ _=>trivial),hinv,(fun h=>by cases h),?_⟩
 have AT:∀ k h,(∃ h0,J k h0∧h=h0++[ai.loop ⟨l,a.tmps,T,ps,fG,body⟩ .ready none])->h.length=H.length+1:=by
  rintro k h ⟨h0,h1,rfl⟩
  simp[hJ k h0 h1]
 have D6:=FE l κ2 (H.length+1) (fun k h=>∃ h0,J k h0∧h=h0++[ai.loop ⟨l,a.tmps,T,ps,fG,body⟩ .ready none]) (fun h=>∃ h0 c,Jx c h0∧h=h0++[ai.loop ⟨l,a.tmps,T,ps,fG,body⟩ .done (some c)])
  (by omega) AT (by rintro h ⟨h0,c,h1,rfl⟩;simp[KG c h0 h1]) (by
   rintro k h x ⟨h0,h1,rfl⟩ hx
   have:=Round.ok (r:=⟨l,a.tmps,T,ps,fG,body⟩) (hJ k h0 h1) (hJ (k+1)) KG (hps x (Zh hx)) (fun p hp=>by
    have:=(Zz.1 hlt) p hp
    simpa[Nat.blt,Zx] using this) ht.size (round l a.tmps k h0 x h1 hx)
   exact this) _ ⟨H,h0,rfl⟩ B.pre w1 I (ρ++[l]) us hi1 gz (Fx.2.2.1) (ZS Fx.2.1 hκ)
 refine CallsIn.mono (cj R D6) ?_
 rintro e w3 ⟨u,v,I3,ρ3,H3,rfl,FD,h1,h2,h3,h4⟩
 have GQ:∀(h':List ai) (st:LoopState) (pe:Option Code),h'.length=H.length->st≠ .busy->H3=h'++[.loop ⟨l,a.tmps,T,ps,fG,body⟩ st pe]->
     ∃ w4,(Instr.endLoop l).run P w3= .ok pe w4∧cA w I ρ w4 I3 ρ3∧Inv P w4 I3 ρ3 (h'++[.dead])∧bq P w4 I3 ρ3 N T a.tmps∧Marks κ B w4 I3 ρ3 (mark++a.defers):=by
  rintro h' st pe hl' hst rfl
  have ef:(h'++[ai.loop ⟨l,a.tmps,T,ps,fG,body⟩ st pe])[H.length]? =some (.loop ⟨l,a.tmps,T,ps,fG,body⟩ st pe):=by rw[<- hl'];simp
  obtain⟨_,⟨fn3,d3,OW⟩,YL⟩:=j5 h2 ef
  obtain⟨Kk,yw⟩:=oh (st':= .exhausted) (Vm:=pe) h2 ef OW _ rfl
  refine⟨_,run_endLoop OW hst,(hE.w.trans h1).trans Kk.w,?_,⟨ht.size,fun s v hv=>(YL s v hv).ext Kk⟩,(Fx.Ix h1 h4).ext Kk⟩
  have:=yw.kill H.length
  rw[<- hl',iV,iV] at this
  exact this
 rcases FD with⟨h',hj,rfl⟩ | ⟨h',c,hj,rfl⟩
 ·obtain⟨w4,e1,e2,e3,e4,e5⟩:=GQ h' .ready none (hJ _ _ hj) (by simp) rfl
  exact⟨none,w4,e1,.normal,I3,ρ3,T,_,trivial,done h' hj,e2,e3,e4,e5⟩
 ·exact Dp
end
structure dw {K:Type} [DecidableEq K] (enc:K->PV) (d:TypeDesc) where
 val:K->Value
 rel:∀(w:World) (I:Nat->Prop) (a:K) (u:Value),Rel w I (enc a) u↔u=val a
 same:∀ a b,Instr.sameNow d (val a) (val b)=some (decide (a=b))
 check:∀(P:Program) (b:Bool) (n:Nat) (t:TypeId) (w:World) (a:K),P.underlying t=some d->(Instr.checkKey b (n+1) t (val a)).run P w= .ok () w
 bits:∀ n a,Instr.sameBits n (val a) (val a)=true
def dw.int(k:IntKind)(k':IntKind):dw (PV.int k) (.int k') where
 val:= .int k
 rel w I a u:=by simp[Rel]
 same a b:=by
  simp only[Instr.sameNow,if_true]
  congr 1
 check P b n t w a h:=by simp[Instr.checkKey,run_underlying h]
 bits n a:=by cases n <;> simp[Instr.sameBits]
theorem bytes_beq(a b:ByteArray):(a==b)=decide (a=b):=by
 rcases a with⟨a⟩
 rcases b with⟨b⟩
 show(a==b)=_
 by_cases h:a=b
 ·subst h;simp
 ·simp[h]
def dw.str:dw PV.str .string where
 val:= .string
 rel w I a u:=by simp[Rel]
 same a b:=by
  simp only[Instr.sameNow,bytes_beq]
 check P b n t w a h:=by simp[Instr.checkKey,run_underlying h]
 bits n a:=by cases n <;> simp[Instr.sameBits,bytes_beq]
section
variable {K α:Type} [DecidableEq K]
def cD(n:K):List (K×α)->Option α
 | []=>none
 | m::r=>if n=m.1 then some m.2 else cD n r
def aV(n:K)(a:α):List (K×α)->List (K×α)
 | []=>[(n,a)]
 | m::r=>if n=m.1 then(n,a)::r else m::aV n a r
def mix(n:K):List (K×α)->Nat->Option Nat
 | [],_=>none
 | m::r,i=>if n=m.1 then some i else mix n r (i+1)
end
def nI{K α:Type}(enc:K->PV)(g:α->V)(ms:List (K×α)):ai:= .map (ms.map fun m=> .p (enc m.1)) (ms.map fun m=>g m.2)
def lW{K α:Type}(enc:K->PV)(g:α->PV)(ms:List (K×α)):PV:= .im (ms.map fun m=>enc m.1) (ms.map fun m=>g m.2)
section
variable {P:Program} {R:Option Nat} {N κ:Nat} {Q Q':Post} {T T' T2 T3:Tm} {H H' H2 H3:List ai} {o:Oper} {ops:Array Oper} {rest:List Oper}
variable {K α:Type} [DecidableEq K] {enc:K->PV} {g:α->V} {gp:α->PV} {d:TypeDesc}
theorem mR(hk:dw enc d){w:World}{I:Nat->Prop}{ρ:List Nat}(n:K):∀(ms:List (K×α)) (es:List MapEntry) (i:Nat),ah P w I ρ (ms.map fun m=> .p (enc m.1)) (es.map (·.key))->ah P w I ρ (ms.map fun m=>g m.2) (es.map (·.val))->
    (cD n ms=none∧mix n ms i=none∧Instr.findNow d (hk.val n) es i=some none)∨
    ∃(a:α) (j:Nat) (e:MapEntry),cD n ms=some a∧mix n ms i=some (i+j)∧es[j]? =some e∧ms[j]? =some (n,a)∧e.key=hk.val n∧aC P w I ρ (g a) e.val∧Instr.findNow d (hk.val n) es i=some (some (i+j,e.val))
 | [],es,i,h1,h2=>by
  have:es=[]:=by simpa[ah] using h1
  subst this
  exact .inl ⟨rfl,rfl,rfl⟩
 | m::ms,es,i,h1,h2=>by
  cases es with
  | nil=>obtain⟨u,us,h,_⟩:=h1;simp at h
  | cons e es=>
   obtain⟨u,us,h,h3,h4⟩:=h1
   simp at h
   obtain⟨rfl,rfl⟩:=h
   obtain⟨u,us,h,h5,h6⟩:=h2
   simp at h
   obtain⟨rfl,rfl⟩:=h
   have hkey:e.key=hk.val m.1:=(hk.rel w I m.1 e.key).1 h3
   simp only[cD,mix,Instr.findNow,hkey,hk.same]
   by_cases hn:n=m.1
   ·subst hn
    refine .inr ⟨m.2,0,e,by simp,by simp,rfl,rfl,hkey,h5,by simp⟩
   ·simp only[if_neg hn,decide_eq_false hn]
    rcases mR hk n ms es (i+1) h4 h6 with⟨k1,k2,k3⟩ | ⟨a,j,e',k1,k2,k3,k4,k5,k6,k7⟩
    ·exact .inl ⟨k1,k2,k3⟩
    ·exact .inr ⟨a,j+1,e',k1,by rw[k2];congr 1;omega,by simpa using k3,by simpa using k4,k5,k6,by rw[k7];congr 3;omega⟩
def oW(P:Program)(t:TypeId):Option (TypeDesc×PV):=
 match P.underlying t with
 | some (.map k e)=>match P.underlying k,cR P e with
   | some d,some z=>some (d,z)
   | _,_=>none
 | _=>none
theorem rT{t:TypeId}{z:PV}(h:oW P t=some (d,z)):∃ k e,P.underlying t=some (.map k e)∧P.underlying k=some d∧cR P e=some z:=by
 unfold oW at h
 split at h
 ·rename_i k e hu
  split at h
  ·rename_i d' z' h1 h2
   simp at h
   obtain⟨rfl,rfl⟩:=h
   exact⟨k,e,hu,h1,h2⟩
  ·cases h
 ·cases h
def Dg(z:PV)(ok:Bool)(v:Option V):V:=
 if ok then jS [v.getD (.p z),.p (.bool v.isSome)] else v.getD (.p z)
theorem ah.two{w:World}{I:Nat->Prop}{ρ:List Nat}{x y:V}{u v:Value}(h:aC P w I ρ x u)(k:aC P w I ρ y v):ah P w I ρ [x,y] (#[u,v]:Array Value).toList:=⟨u,[v],rfl,h,v,[],rfl,k,rfl⟩
theorem tE(hk:dw enc d){w:World}{I:Nat->Prop}{ρ:List Nat}{t:TypeId}{z:PV}{ms:List (K×α)}{es:Array MapEntry}{x:Value}{n:K}{ok:Bool}(ht:oW P t=some (d,z))(h1:ah P w I ρ (ms.map fun m=> .p (enc m.1)) (es.toList.map (·.key)))(h2:ah P w I ρ (ms.map fun m=>g m.2) (es.toList.map (·.val)))
    (hx:(x= .map none∧es= #[])∨∃ r clock,x= .map (some r)∧w.heap[r]? =some (.map es clock)):∃ u,(Instr.lookup t x (hk.val n) ok).run P w= .ok u w∧aC P w I ρ (Dg z ok ((cD n ms).map g)) u:=by
 obtain⟨k,e,hu,hd,hz⟩:=rT ht
 obtain⟨zu,hz1,xP⟩:=kW hz w
 have CT:=hk.check P es.isEmpty 9999 k w n hd
 have hstart:(Instr.lookup t x (hk.val n) ok).run P w=(do
     let (v,ok') <- match <- Instr.findKey k (hk.val n) es.toList with
      | some (_,v)=>pure (v,true)
      | none=>pure (<- zeroValue e,false)
     pure (if ok then .tuple #[v,.bool ok'] else v):Sem Value).run P w:=by
  rcases hx with⟨rfl,rfl⟩ | ⟨r,clock,rfl,hr⟩
  ·simp[Instr.lookup,run_underlying hu] at CT ⊢
   simp[CT]
   rfl
  ·simp[Instr.lookup,run_underlying hu,getObj,Sem.run_bind,Sem.run,hr,Result.andThen] at CT ⊢
   simp[CT]
   rfl
 rw[hstart]
 rcases mR hk n ms es.toList 0 h1 h2 with⟨k1,k2,k3⟩ | ⟨a,j,e',k1,k2,k3,k4,k5,k6,k7⟩
 ·refine⟨if ok then .tuple #[zu,.bool false] else zu,?_,?_⟩
  ·simp[Instr.findKey,run_underlying hd,k3,hz1]
  ·rw[k1]
   cases ok with
   | false=>exact xP I
   | true=>exact aC.jS (us:= #[zu,.bool false]) (ah.two (x:= .p z) (y:= .p (.bool false)) (xP I) (by simp[aC,Rel]))
 ·refine⟨if ok then .tuple #[e'.val,.bool true] else e'.val,?_,?_⟩
  ·simp[Instr.findKey,run_underlying hd,k7]
  ·rw[k1]
   cases ok with
   | false=>exact k6
   | true=>exact aC.jS (us:= #[e'.val,.bool true]) (ah.two (y:= .p (.bool true)) k6 (by simp[aC,Rel]))
theorem FH(hk:dw enc d){w:World}{I:Nat->Prop}{ρ:List Nat}{a:Act}(ht:bq P w I ρ N T a.tmps){x:Operand}{n:K}(h:ev T x=some (.p (enc n))):a.eval x=hk.val n:=(hk.rel w I n _).1 (ht.ev h)
theorem aa.Ji(hk:dw enc d){x y:Operand}{t:TypeId}{z:PV}{ms:List (K×α)}{i:Nat}{n:K}{ok:Bool}(ho:o.op= .lookup t x y ok)(hx:ev T x=some (.map i))(hH:H[i]? =some (nI enc g ms))(hy:ev T y=some (.p (enc n)))(ht:oW P t=some (d,z)):aa P N o T H (Dg z ok ((cD n ms).map g)) H:=
 aa.aL (by simp[ho]) fun w I ρ a hi hT=>by
  obtain⟨b,hb,hu⟩:=hT.ev hx
  obtain⟨es,clock,h1,h2,h3,_⟩:=hi.rel i b _ hb hH
  obtain⟨u,h4,h5⟩:=tE hk (n:=n) (ok:=ok) (x:= .map (some b)) ht h2 h3 (.inr ⟨b,clock,rfl,h1⟩)
  refine⟨u,?_,h5⟩
  simp[execOp,ho,FH hk hT hy,hu,h4]
theorem aa.Ev(hk:dw enc d){x y:Operand}{t:TypeId}{z:PV}{ms:List (K×α)}{n:K}{ok:Bool}(ho:o.op= .lookup t x y ok)(hx:ev T x=some (.p (lW enc gp ms)))(hy:ev T y=some (.p (enc n)))(ht:oW P t=some (d,z)):aa P N o T H (Dg z ok ((cD n ms).map fun a=> .p (gp a))) H:=
 aa.aL (by simp[ho]) fun w I ρ a hi hT=>by
  obtain⟨b,es,clock,hb,hu,h1,h2,h3,_⟩:=hT.ev hx
  have Wb:ah P w I ρ (ms.map fun m=> .p (enc m.1)) (es.toList.map (·.key)):=by
   have:=ah.pure (P:=P) (ρ:=ρ).2 h2
   simpa[Function.comp_def] using this
  have h3':ah P w I ρ (ms.map fun m=>(fun a=>V.p (gp a)) m.2) (es.toList.map (·.val)):=by
   have:=ah.pure (P:=P) (ρ:=ρ).2 h3
   simpa[Function.comp_def] using this
  obtain⟨u,h4,h5⟩:=tE hk (n:=n) (ok:=ok) (g:=fun a=>V.p (gp a)) (x:= .map (some b)) ht Wb h3' (.inr ⟨b,clock,rfl,h1⟩)
  refine⟨u,?_,h5⟩
  simp[execOp,ho,FH hk hT hy,hu,h4]
theorem aa.makeMap{t:TypeId}(ho:o.op= .makeMap t none):aa P N o T H (.map H.length) (H++[nI enc g []]):=
 aa.dB (by simp[ho]) fun w I ρ a hi hT=>by
  refine⟨.map (some w.heap.size),_,_,_,.inl ?_,Ext.aO hi (.map #[] 0),Inv.aO hi _ ⟨#[],0,heap_alloc_new w _,by simp[ah],by simp[ah],by simp[vq]⟩,?_⟩
  ·simp[execOp,ho,Instr.makeMap]
  ·exact uS
theorem w8(n:K)(a:α):∀ ms:List (K×α),cD n ms=none->aV n a ms=ms++[(n,a)]
 | [],h=>rfl
 | m::r,h=>by
  simp only[cD] at h
  simp only[aV]
  split
  ·rename_i e;rw[if_pos e] at h;cases h
  ·rename_i e;rw[if_neg e] at h;simp[w8 n a r h]
theorem vf(n:K)(a:α):∀(ms:List (K×α)) (i j:Nat),mix n ms i=some (i+j)->aV n a ms=ms.set j (n,a)
 | [],i,j,h=>by simp[mix] at h
 | m::r,i,j,h=>by
  simp only[mix] at h
  simp only[aV]
  split at h
  ·rename_i e
   have:j=0:=by simpa using h
   subst this
   simp[e]
  ·rename_i e
   cases j with
   | zero=>
    have gen:∀(ms:List (K×α)) (i k:Nat),mix n ms i=some k->i<=k:=by
     intro ms
     induction ms with
     | nil=>intro i k h;simp[mix] at h
     | cons m ms ih=>
      intro i k h
      simp only[mix] at h
      split at h
      ·simp at h;omega
      ·have:=ih _ _ h;omega
    have:=gen r (i+1) (i+0) h
    omega
   | succ j=>
    rw[if_neg e,vf n a r (i+1) j (by rw[h];congr 1;omega)]
    rfl
theorem run_keyThatStays{w:World}{u:Value}(h:Instr.sameBits 10000 u u=true):(Instr.keyThatStays u u).run P w= .ok u w:=by
 simp[Instr.keyThatStays,h]
theorem B7{w:World}{I:Nat->Prop}{ρ:List Nat}{i b:Nat}{ms ms':List (K×α)}{es es':Array MapEntry}{clock clock':Nat}(hi:Inv P w I ρ H)(hb:ρ[i]? =some b)(hH:H[i]? =some (nI enc g ms))(hw:w.heap[b]? =some (.map es clock))
    (h1:ah P w I ρ (ms'.map fun m=> .p (enc m.1)) (es'.toList.map (·.key)))(h2:ah P w I ρ (ms'.map fun m=>g m.2) (es'.toList.map (·.val)))(h3:vq es' clock'):
    Ext w I ρ (w.putObj b (.map es' clock')) I ρ∧Inv P (w.putObj b (.map es' clock')) I ρ (H.set i (nI enc g ms')):=by
 have hlt:b<w.heap.size:=(ZN.1 hw).1
 have fc:∀ k,k≠b->(w.putObj b (.map es' clock')).heap[k]? =w.heap[k]? :=fun k hk=>World.putObj_heap_other hk
 have hE:Ext w I ρ (w.putObj b (.map es' clock')) I ρ:=Ext.write hi hb hH rfl rfl rfl rfl (by simp) fc (fun s hs=>by simp[World.shape?,hw] at hs)
 exact⟨hE,Inv.write hi hb hH rfl hE (by simp) fc ⟨es',clock',World.putObj_heap_same hlt,ah.ext hE h1,ah.ext hE h2,h3⟩⟩
theorem vT(hk:dw enc d){w:World}{I:Nat->Prop}{ρ:List Nat}{t:TypeId}{z:PV}{ms:List (K×α)}{i b:Nat}{n:K}{x:α}{u:Value}(hi:Inv P w I ρ H)(hb:ρ[i]? =some b)(hH:H[i]? =some (nI enc g ms))(ht:oW P t=some (d,z))(hu:aC P w I ρ (g x) u):
    ∃ w',(Instr.mapUpdate t (.map (some b)) (hk.val n) u).run P w= .ok () w'∧Ext w I ρ w' I ρ∧Inv P w' I ρ (H.set i (nI enc g (aV n x ms))):=by
 obtain⟨k,e,hut,hd,_⟩:=rT ht
 obtain⟨es,clock,h1,h2,h3,h4⟩:=hi.rel i b _ hb hH
 have CT:=hk.check P false 9999 k w n hd
 simp at CT
 have oV:∀ ob:Obj,(setObj b ob).run P w= .ok () (w.putObj b ob):=fun ob=>by simp[setObj,Sem.run,h1,World.putObj]
 rcases mR hk n ms es.toList 0 h2 h3 with⟨k1,k2,k3⟩ | ⟨a,j,e',k1,k2,k3,k4,k5,k6,k7⟩
 ·have hT:=B7 (ms':=aV n x ms) (es':=es.push {key:=hk.val n,val:=u,born:=clock}) (clock':=clock+1) hi hb hH h1 (by
    rw[w8 n x ms k1]
    simp only[ZC,ZD,C5,Array.toList_push]
    exact ah.append h2 ⟨_,_,rfl,(hk.rel w I n _).2 rfl,by simp[ah]⟩) (by
    rw[w8 n x ms k1]
    simp only[ZC,ZD,C5,Array.toList_push]
    exact ah.append h3 ⟨_,_,rfl,hu,by simp[ah]⟩) (by
    obtain⟨h5,h6⟩:=h4
    refine⟨?_,fun e he=> ?_⟩
    ·simp only[Array.toList_push,ZC,ZD,C5]
     rw[ZW]
     refine⟨h5,by simp,fun a ha b hb=> ?_⟩
     simp at hb
     subst hb
     rw[zl] at ha
     obtain⟨e,he,rfl⟩:=ha
     have:=h6 e he
     omega
    ·simp only[Array.toList_push,Zq,ZK] at he
     rcases he with he | rfl
     ·have:=h6 e he;omega
     ·simp)
  refine⟨_,?_,hT⟩
  simp[Instr.mapUpdate,run_underlying hut,getObj,Sem.run_bind,Sem.run,h1,Result.andThen,CT,Instr.findKey,run_underlying hd,k3,oV]
 ·simp only[zq] at k2 k7
  have hje:es[j]? =some e':=by simpa using k3
  have hjl:j<es.size:=(ZN.1 hje).1
  have W5:=run_keyThatStays (P:=P) (w:=w) (hk.bits 10000 n)
  have hT:=B7 (ms':=aV n x ms) (es':=es.modify j fun e=>{e with key:=hk.val n,val:=u}) (clock':=clock) hi hb hH h1 (by
   rw[vf n x ms 0 j (by simpa using k2),List.map_set]
   have:(es.modify j fun e=>{e with key:=hk.val n,val:=u}).toList.map (·.key)=(es.toList.map (·.key)).set j (hk.val n):=by
    exact BT
   rw[this]
   exact ah.set (v:= .p (enc n)) ((hk.rel w I n _).2 rfl) j h2) (by
   rw[vf n x ms 0 j (by simpa using k2),List.map_set]
   have:(es.modify j fun e=>{e with key:=hk.val n,val:=u}).toList.map (·.val)=(es.toList.map (·.val)).set j u:=by
    exact BT
   rw[this]
   exact ah.set hu j h3) (by
   obtain⟨h5,h6⟩:=h4
   have:(es.modify j fun e=>{e with key:=hk.val n,val:=u}).toList.map (·.born)=es.toList.map (·.born):=by
    apply Fm
    intro i
    simp only[Array.toList_modify,Zs,List.getElem?_modify]
    by_cases hij:j=i
    ·subst hij
     simp[hjl]
    ·simp[hij]
   refine⟨by rw[this];exact h5,fun e he=> ?_⟩
   have hm:e.born∈es.toList.map (·.born):=by rw[<- this];exact List.mem_map_of_mem he
   rw[zl] at hm
   obtain⟨e2,KZ,h7⟩:=hm
   rw[<- h7]
   exact h6 e2 KZ)
  refine⟨_,?_,hT⟩
  have hkey:((es[j]?).map (·.key)).getD (hk.val n)=hk.val n:=by rw[hje];simp[k5]
  simp[Instr.mapUpdate,run_underlying hut,getObj,Sem.run_bind,Sem.run,h1,Result.andThen,CT,Instr.findKey,run_underlying hd,k7,hkey,W5,oV]
theorem aa.mapUpdate(hk:dw enc d){x y v:Operand}{t:TypeId}{z:PV}{ms:List (K×α)}{i:Nat}{n:K}{c:α}(ho:o.op= .mapUpdate t x y v∨o.op= .insert t x y v)(hx:ev T x=some (.map i))(hH:H[i]? =some (nI enc g ms))(hy:ev T y=some (.p (enc n)))(hv:ev T v=some (g c))(ht:oW P t=some (d,z)):
    aa P N o T H .top (H.set i (nI enc g (aV n c ms))):=
 aa.dB (by rcases ho with ho | ho <;> simp[ho]) fun w I ρ a hi hT=>by
  obtain⟨b,hb,hu⟩:=hT.ev hx
  obtain⟨w',h1,h2,h3⟩:=vT hk (n:=n) hi hb hH ht (hT.ev hv)
  refine⟨undef,w',I,ρ,.inr ⟨?_,rfl⟩,h2,h3,trivial⟩
  rcases ho with ho | ho <;> simp[execOp,ho,FH hk hT hy,hu,h1]
def yI{K α:Type}(enc:K->PV)(gp:α->PV)(ms:List (K×α))(last:Option (K×α)):ai:= .mapIter (ms.map fun m=>enc m.1) (ms.map fun m=>gp m.2) (last.map fun m=>(enc m.1,gp m.2))
theorem aa.rangeMap{x:Operand}{t:TypeId}{z:PV}{ms:List (K×α)}(ho:o.op= .range t x)(hx:ev T x=some (.p (lW enc gp ms)))(ht:oW P t=some (d,z)):aa P N o T H (.ptr H.length 0) (H++[yI enc gp ms none]):=
 aa.dB (by simp[ho]) fun w I ρ a hi hT=>by
  obtain⟨k,e,hu,_,_⟩:=rT ht
  obtain⟨b,es,clock,hb,hx',h1,h2,h3,h4⟩:=hT.ev hx
  have hE:=Ext.aO hi (.mapIter (some b) clock #[] clock)
  refine⟨.pointer (some ⟨w.heap.size,0,none⟩),_,_,_,.inl ?_,hE,Inv.aO hi _ ?_,⟨w.heap.size,by rw[<- hi.len];simp,rfl⟩⟩
  ·simp[execOp,ho,Instr.range,run_underlying hu,hx',getObj,Sem.run_bind,Sem.run,h1,Result.andThen,newObj]
  ·refine .inr ⟨b,es,clock,#[],heap_alloc_new w _,hb,?_,h4,?_,?_,by simp⟩
   ·exact(heap_alloc_old w _ (hi.ib b hb)).trans h1
   ·rw[show es.toList.filter (fun e=> !(#[]:Array Nat).contains e.born)=es.toList by rw[List.filter_eq_self];simp]
    exact aQ.mono (fun _ h=>hE.w.lF _ h) hE.w.aZ _ _ h2
   ·rw[show es.toList.filter (fun e=> !(#[]:Array Nat).contains e.born)=es.toList by rw[List.filter_eq_self];simp]
    exact aQ.mono (fun _ h=>hE.w.lF _ h) hE.w.aZ _ _ h3
theorem map_eraseIdx{α β:Type}(f:α->β):∀(l:List α) (i:Nat),(l.eraseIdx i).map f=(l.map f).eraseIdx i
 | [],i=>by simp
 | x::l,0=>by simp
 | x::l,i+1=>by simp[map_eraseIdx f l i]
theorem aQ.erase{w:World}{I:Nat->Prop}:∀{xs:List PV} {us:List Value} (i:Nat),aQ w I xs us->aQ w I (xs.eraseIdx i) (us.eraseIdx i)
 | [],us,i,h=>by simp[aQ] at h;subst h;simp[aQ]
 | x::xs,us,i,h=>by
  obtain⟨u,us',rfl,h1,h2⟩:=h
  cases i with
  | zero=>exact h2
  | succ i=>exact⟨u,us'.eraseIdx i,by simp,h1,aQ.erase i h2⟩
theorem aQ.get{w:World}{I:Nat->Prop}:∀{xs:List PV} {us:List Value} {i:Nat} {u:Value},aQ w I xs us->us[i]? =some u->∃ x,xs[i]? =some x∧Rel w I x u
 | [],us,i,u,h,hu=>by simp[aQ] at h;subst h;simp at hu
 | x::xs,us,i,u,h,hu=>by
  obtain⟨u',us',rfl,h1,h2⟩:=h
  cases i with
  | zero=>simp at hu;subst hu;exact⟨x,rfl,h1⟩
  | succ i=>
   obtain⟨y,k1,k2⟩:=aQ.get (i:=i) h2 (by simpa using hu)
   exact⟨y,by simpa using k1,k2⟩
theorem filter_push(es:List MapEntry)(seen:Array Nat)(e:MapEntry)(hn:(es.map (·.born)).Nodup):∀ i:Nat,(es.filter fun x=> !seen.contains x.born)[i]? =some e->
    es.filter (fun x=> !(seen.push e.born).contains x.born)=(es.filter fun x=> !seen.contains x.born).eraseIdx i:=by
 induction es with
 | nil=>intro i h;simp at h
 | cons x es ih=>
  intro i h
  simp only[ZD,ZB] at hn
  by_cases hs:seen.contains x.born=true
  ·have h1:(x::es).filter (fun x=> !seen.contains x.born)=es.filter fun x=> !seen.contains x.born:=by rw[Xt,hs];rfl
   rw[h1] at h ⊢
   rw[<- ih hn.2 i h]
   have h2:(seen.push e.born).contains x.born=true:=by
    simp only[ZbI,Array.mem_push,Zn] at hs ⊢
    exact .inl hs
   simp only[Xt,h2,Bool.not_true,J9,if_false]
  ·have hs':seen.contains x.born=false:=by simpa using hs
   have h1:(x::es).filter (fun x=> !seen.contains x.born)=x::es.filter fun x=> !seen.contains x.born:=by rw[Xt,hs'];rfl
   rw[h1] at h ⊢
   cases i with
   | zero=>
    simp at h
    subst h
    have h2:(seen.push x.born).contains x.born=true:=by simp[ZbI]
    simp only[Xt,h2,Bool.not_true,J9,if_false,List.eraseIdx_zero,List.tail_cons]
    apply List.filter_congr
    intro y hy
    have:y.born≠x.born:=fun h=>hn.1 (by rw[<- h];exact List.mem_map_of_mem hy)
    congr 1
    simp only[ZbI,Array.mem_push,this,or_false]
   | succ i=>
    have h':(es.filter fun x=> !seen.contains x.born)[i]? =some e:=by simpa using h
    have hne:x.born≠e.born:=fun hh=>by
     have:e∈es:=(List.mem_filter.1 (Zh h')).1
     exact hn.1 (by rw[hh];exact List.mem_map_of_mem this)
    have h2:(seen.push e.born).contains x.born=false:=by
     simp only[ZbI,Array.mem_push,ZY,hne,or_false] at hs' ⊢
     simpa using hs'
    simp only[Xt,h2,Bool.not_false,if_true,List.eraseIdx_cons_succ,ih hn.2 i h']
theorem aj.QF(dd:Nat){it:Operand}{i:Nat}{ms:List (K×α)}{last:Option (K×α)}(ho:o.op= .next it false)(hd:o.dst=some dd)(hN:aU N (some dd)=true)(hg:o.guard=none)(hx:ev T it=some (.ptr i 0))(hH:H[i]? =some (yI enc gp ms last))
    (over:ms=[]->aj P R N κ ops rest Q ((dd,.p (.tuple [.bool false]))::T) H)
    (next:∀(j:Nat) (m:K×α),ms[j]? =some m->aj P R N κ ops rest Q ((dd,.p (.tuple [.bool true,enc m.1,gp m.2]))::T) (H.set i (yI enc gp (ms.eraseIdx j) (some m)))):aj P R N κ ops (o::rest) Q T H:=by
 intro QX B w I ρ a hi ht hm hq
 refine wpListIn_plain hg fun Kx hK=>⟨bB,?_⟩
 rw[bG _ _ _ (by simp[ho])]
 obtain⟨b,hb,hu⟩:=ht.ev hx
 have cu:=hi.rel i b _ hb hH
 have quiet:∀ u,aC P w I ρ (.p (.tuple [.bool false])) u->ms=[]->Kx (a.put o.dst u) w:=fun u hv h0=>by
  refine hK _ _ ?_
  have:=ht.put (a:=a) (dst:=o.dst) (by rw[hd];exact hN) hv
  rw[hd] at this ⊢
  exact over h0 QX B w I ρ _ hi this hm.put hq
 have Sq:aC P w I ρ (.p (.tuple [.bool false])) (.tuple #[.bool false]):=⟨#[.bool false],rfl,.bool false,[],rfl,rfl,rfl⟩
 rcases cu with⟨h1,h2,h3,h4⟩ | ⟨r,es,clock,seen,h1,h2,h3,h4,h5,h6,h7⟩
 ·have e:(execOp a.eval o).run P w= .ok (.value (.tuple #[.bool false])) w:=by
    simp[execOp,ho,hu,Instr.next,getObj,Sem.run_bind,Sem.run,h4,Result.andThen]
  rw[e]
  exact quiet _ Sq (by simpa using h1)
 ·rcases run_next_at (P:=P) w o.type b r clock clock seen es clock h1 h3 (fun x hx=>h4.2 x hx) (Zf _) with⟨h8,h9⟩ | ⟨e,he,w1,hw1,h9⟩
  ·have e:(execOp a.eval o).run P w= .ok (.value (.tuple #[.bool false])) w:=by
     simp[execOp,ho,hu,h9]
   rw[e]
   refine quiet _ Sq ?_
   have h0:es.toList.filter (fun e=> !seen.contains e.born)=[]:=by
    have h10:(es.filter fun e=> !seen.contains e.born).toList.length=0:=by simpa[leftOf] using h8
    rw[Array.toList_filter] at h10
    exact ZA h10
   rw[h0] at h5
   have:=aQ.length h5
   simp at this
   exact ZA this.symm
  ·have e0:(execOp a.eval o).run P w= .ok (.value (.tuple #[.bool true,e.key,e.val])) (ChangeMaps.setBlock w1 b (.mapIter (some r) clock (seen.push e.born) clock)):=by
     simp[execOp,ho,hu,h9]
   rw[e0]
   have hel:e∈es.toList.filter fun x=> !seen.contains x.born:=by
    have:=he
    simp only[leftOf,Array.toList_filter] at this
    exact this
   obtain⟨j,hj⟩:=List.getElem?_of_mem hel
   have hes:e∈es.toList:=(List.mem_filter.1 hel).1
   have hk5:∃ x,(ms.map fun m=>enc m.1)[j]? =some x∧Rel w I x e.key:=aQ.get h5 (by rw[Zs,hj];rfl)
   have hv6:∃ x,(ms.map fun m=>gp m.2)[j]? =some x∧Rel w I x e.val:=aQ.get h6 (by rw[Zs,hj];rfl)
   obtain⟨m,Fx,hmk,hmv⟩:∃ m,ms[j]? =some m∧Rel w I (enc m.1) e.key∧Rel w I (gp m.2) e.val:=by
    obtain⟨x,k1,k2⟩:=hk5
    obtain⟨y,k3,k4⟩:=hv6
    rw[Zs,Zi] at k1 k3
    obtain⟨m,k5,rfl⟩:=k1
    obtain⟨m',k6,rfl⟩:=k3
    rw[k5] at k6;cases k6
    exact⟨m,k5,k2,k4⟩
   have vR:Ext w I ρ w1 I ρ:=by
    rcases hw1 with rfl | rfl
    ·exact Ext.refl _ _ _
    ·exact Ext.drew
   have hi1:Inv P w1 I ρ H:=by
    rcases hw1 with rfl | rfl
    ·exact hi
    ·exact hi.drew
   have hh1:w1.heap=w.heap:=by rcases hw1 with rfl | rfl <;> rfl
   have hlt:b<w1.heap.size:=by rw[hh1];exact(ZN.1 h1).1
   have hsame:(ChangeMaps.setBlock w1 b (.mapIter (some r) clock (seen.push e.born) clock)).heap[b]? =some (.mapIter (some r) clock (seen.push e.born) clock):=by simp[ChangeMaps.setBlock,hlt]
   have fc:∀ k,k≠b->(ChangeMaps.setBlock w1 b (.mapIter (some r) clock (seen.push e.born) clock)).heap[k]? =w1.heap[k]? :=fun k hk=>by
    simp[ChangeMaps.setBlock,Array.getElem?_setIfInBounds_ne (Ne.symm hk)]
   have ox:Ext w1 I ρ (ChangeMaps.setBlock w1 b (.mapIter (some r) clock (seen.push e.born) clock)) I ρ:=
    Ext.write hi1 hb hH rfl rfl rfl rfl (by simp[ChangeMaps.setBlock]) fc (fun s hs=>by simp[World.shape?,hh1,h1] at hs)
   have hrb:r≠b:=fun h=>by subst h;rw[h3] at h1;cases h1
   have hE:=vR.trans ox
   have hi2:Inv P (ChangeMaps.setBlock w1 b (.mapIter (some r) clock (seen.push e.born) clock)) I ρ (H.set i (yI enc gp (ms.eraseIdx j) (some m))):=by
    refine Inv.write hi1 hb hH rfl ox (by simp[ChangeMaps.setBlock]) fc (.inr ⟨r,es,clock,seen.push e.born,hsame,h2,(fc r hrb).trans (by rw[hh1];exact h3),h4,?_,?_,?_⟩)
    ·rw[filter_push _ _ _ h4.1 j hj,map_eraseIdx,map_eraseIdx]
     exact aQ.mono (fun _ h=>h) hE.w.aZ _ _ (aQ.erase j h5)
    ·rw[filter_push _ _ _ h4.1 j hj,map_eraseIdx,map_eraseIdx]
     exact aQ.mono (fun _ h=>h) hE.w.aZ _ _ (aQ.erase j h6)
    ·intro k v hkv
     simp at hkv
     obtain⟨rfl,rfl⟩:=hkv
     exact⟨e,seen,hes,rfl,Rel.ext hE hmk,Rel.ext hE hmv⟩
   have hv:aC P (ChangeMaps.setBlock w1 b (.mapIter (some r) clock (seen.push e.born) clock)) I ρ (.p (.tuple [.bool true,enc m.1,gp m.2])) (.tuple #[.bool true,e.key,e.val]):=
    ⟨_,rfl,.bool true,_,rfl,rfl,e.key,_,rfl,Rel.ext hE hmk,e.val,_,rfl,Rel.ext hE hmv,rfl⟩
   refine hK _ _ ?_
   have hput:=(ht.ext hE).put (a:=a) (dst:=o.dst) (by rw[hd];exact hN) hv
   rw[hd] at hput ⊢
   exact next j m Fx QX B _ I ρ _ hi2 hput (hm.ext hE).put fun e' a2 w2 q=>hq e' a2 w2 (QC.ext hE.w q)
theorem aa.entry{it:Operand}{i:Nat}{ms:List (K×α)}{m:K×α}(ho:o.op= .entry it)(hx:ev T it=some (.ptr i 0))(hH:H[i]? =some (yI enc gp ms (some m))):aa P N o T H (.p (.tuple [enc m.1,gp m.2])) H:=
 aa.aL (by simp[ho]) fun w I ρ a hi hT=>by
  obtain⟨b,hb,hu⟩:=hT.ev hx
  rcases hi.rel i b _ hb hH with⟨h1,h2,h3,h4⟩ | ⟨r,es,clock,seen,h1,h2,h3,h4,h5,h6,h7⟩
  ·cases h3
  ·obtain⟨e,pre,k1,rfl,k3,k4⟩:=h7 _ _ rfl
   have:=run_entry_at (P:=P) w b r clock pre es clock e h1 h3 k1 h4.1
   refine⟨.tuple #[e.key,e.val],by simp[execOp,ho,hu,this],⟨_,rfl,e.key,_,rfl,k3,e.val,_,rfl,k4,rfl⟩⟩
mutual
def Nw(i:Nat)(x:PV):V->V
 | .map j=>if j=i then .p x else .map j
 | .agg cs=>fZ (Qz i x cs)
 | .tuple cs=>jS (Qz i x cs)
 | v=>v
def Qz(i:Nat)(x:PV):List V->List V
 | []=>[]
 | v::vs=>Nw i x v::Qz i x vs
end
def RU(i:Nat)(x:PV):Tm->Tm
 | []=>[]
 | (s,v)::r=>(s,Nw i x v)::RU i x r
theorem Ii{i:Nat}{x:PV}:∀(T:Tm) (s:Nat),lk (RU i x T) s=(lk T s).map (Nw i x)
 | [],s=>rfl
 | (a,v)::r,s=>by
  simp only[RU,lk]
  cases Nat.beq a s with
  | true=>rfl
  | false=>exact Ii r s
mutual
theorem Cm{w:World}{I:Nat->Prop}{ρ:List Nat}{i b:Nat}{x:PV}(hρ:ρ[i]? =some b)(hx:Rel w I x (.map (some b))):∀(v:V) (u:Value),aC P w I ρ v u->aC P w I ρ (Nw i x v) u
 | .map j,u,h=>by
  simp only[Nw]
  split
  ·rename_i e;subst e
   obtain⟨b',hb,hu⟩:=h
   rw[hρ] at hb;cases hb
   rw[hu];exact hx
  ·exact h
 | .agg cs,u,h=>by
  obtain⟨us,rfl,h1⟩:=h
  exact aC.fZ (wK hρ hx cs _ h1)
 | .tuple cs,u,h=>by
  obtain⟨us,rfl,h1⟩:=h
  exact aC.jS (wK hρ hx cs _ h1)
 | .p _,u,h=>h
 | .ptr _ _,u,h=>h
 | .row _ _,u,h=>h
 | .sl _ _ _,u,h=>h
 | .func _ _ _,u,h=>h
 | .iface _ _,u,h=>h
 | .opt _ _,u,h=>h
 | .raw _ _ _,u,h=>h
 | .z0,u,h=>h
 | .top,u,h=>h
theorem wK{w:World}{I:Nat->Prop}{ρ:List Nat}{i b:Nat}{x:PV}(hρ:ρ[i]? =some b)(hx:Rel w I x (.map (some b))):∀(vs:List V) (us:List Value),ah P w I ρ vs us->ah P w I ρ (Qz i x vs) us
 | [],us,h=>h
 | v::vs,us,h=>by
  obtain⟨u,us',hu,h1,h2⟩:=h
  exact⟨u,us',hu,Cm hρ hx v u h1,wK hρ hx vs us' h2⟩
end
theorem To.sM(i:Nat){ms:List (K×α)}(hH:H[i]? =some (nI enc (fun a=> .p (gp a)) ms)):To P κ N T H (RU i (lW enc gp ms) T) (H.set i .dead):=fun w I ρ tmps hi ht=>by
 have hlt:i<ρ.length:=by rw[hi.len];exact(Za.1 hH).1
 have hρ:ρ[i]? =some ρ[i]:=Zb hlt
 obtain⟨es,clock,h1,h2,h3,h4⟩:=hi.rel i _ _ hρ hH
 have hE:=Ext.freeze hi hρ hH rfl
 refine⟨_,ρ,hE.w,Inv.freeze hi hρ hH rfl,⟨ht.size,fun s v hv=> ?_⟩,fun _ h _=>h⟩
 rw[Ii,Zi] at hv
 obtain⟨v0,h5,rfl⟩:=hv
 refine Cm hρ ?_ v0 _ ((ht.at_ s v0 h5).ext hE)
 have Wb:ah P w I ρ ((ms.map fun m=>enc m.1).map .p) (es.toList.map (·.key)):=by simpa[Function.comp_def] using h2
 have h3':ah P w I ρ ((ms.map fun m=>gp m.2).map .p) (es.toList.map (·.val)):=by simpa[Function.comp_def] using h3
 exact⟨ρ[i],es,clock,.inr rfl,rfl,h1,aQ.mono (fun _ h=>hE.w.lF _ h) hE.w.aZ _ _ (ah.pure.1 Wb),aQ.mono (fun _ h=>hE.w.lF _ h) hE.w.aZ _ _ (ah.pure.1 h3'),h4⟩
end
section
variable {P:Program} {R:Option Nat} {N κ:Nat} {Q Q':Post} {T T' T2 T3:Tm} {H H' H2 H3:List ai} {o:Oper} {ops:Array Oper} {rest:List Oper}
theorem aa.II{x y:Operand}{t t2 e:TypeId}{z:List PV}{n gX:Nat}{ys:List V}{yv:V}(ho:o.op= .call {callee:= .builtin .append,args:= #[x,y],argTypes:= #[t,t2]})(hx:ev T x=some (.p .nilSlice))(hy:ev T y=some yv)(hs:oU P t=some (e,z))(oS:dZ P t2=true)
    (hsrc:pH H z.length yv=some (ys,n))(hn:0<n)(hone:ys.all jj=true)(hby:wj P e=some gX)(hb0:0<gX)(hb:(2*n+192)*gX<=281474976710656):
    aa P N o T H (.row H.length n) (H++[.row ys e]):=
 aa.dB (by simp[ho]) fun w I ρ a hi hT=>by
  obtain⟨hu,⟨bb,l6⟩,xm,hz⟩:=eJ hs
  have E3:a.eval x= .slice none 0 0:=hT.ev hx
  obtain⟨us,⟨ad,xE,AJ⟩,hfc,_,cu,hlen⟩:=lq hi (hT.ev hy) hsrc
  have hce:P.cellsOf e=z.length:=by
   exact nW
  have hinfo:∃ inf,P.info? e=some inf∧inf.bytes=gX:=by
   exact vZ
  obtain⟨inf,jW,An⟩:=hinfo
  have pS:∃ d2,P.underlying t2=some (.slice d2):=by
   exact rQ
  obtain⟨d2,pS⟩:=pS
  have vb:=ah.length cu
  have zG:∀ q,0+n<=(Question.appendCap (0+n) 0 e).cut q:=fun q=>Vx _ _
  obtain⟨uz,hz1,xP⟩:=hz w.drew
  have hzl:=aQ.length (xP I)
  have JN:uz.cells.size=z.length:=by simpa using hzl
  have hnext:=jB (need:=0+n) (cap:=0) (by omega)
  have hsmall:¬ (Builtin.nextslicecap (0+n) 0*gX>2^48):=by
   exact wq
  let newCap:=(Question.appendCap (0+n) 0 e).cut (w.tape w.drawn (.appendCap (0+n) 0 e))
  have hnc:0+n<=newCap:=zG _
  have hnew:=hfc w.drew (fun _ _=>rfl)
  let fh:Array Value:= #[]++us.toArray++Builtin.zeroCells uz.cells (newCap - (0+n))
  have vR:Ext w I ρ w.drew I ρ:=Ext.drew
  have hi1:Inv P w.drew I ρ H:=hi.drew
  have ox:Ext w.drew I ρ (w.drew.alloc (.cells fh e)) I (ρ++[w.drew.heap.size]):=Ext.aO hi1 _
  have hi2:Inv P (w.drew.alloc (.cells fh e)) I (ρ++[w.drew.heap.size]) (H++[.row ys e]):=by
   exact Cy
  refine⟨.slice (some ⟨w.heap.size,0,none⟩) (0+n) newCap,w.drew.alloc (.cells fh e),I,ρ++[w.drew.heap.size],.inl ?_,vR.trans ox,hi2,w.heap.size,e,newCap,by rw[<- hi.len];simp,by rw[zq],?_,by omega⟩
  ·rw[AJ] at hnew
   have mA:((0+n:Nat):Int)<=IntKind.i64.max:=by
    exact wZ
   have hold:(Builtin.firstCells z.length 0 (.slice none 0 0)).run P w.drew= .ok #[] w.drew:=by simp[Builtin.firstCells]
   have:=run_append_grow (P:=P) (w:=w) (t:=t) (t2:=t2) (ty:=o.type) hu l6 pS jW (by rw[An];exact hsmall) mA (by omega) hold hnew hz1
   simp only[execOp,ho,resolve,invoke,builtin,Sem.run_bind]
   exact vB
  ·exact vU
def hO(i:Nat):Nat->V
 | 0=> .p .nilSlice
 | n+1=> .row i (n+1)
def dA(cs:List V)(e:TypeId):Nat->ai
 | 0=> .dead
 | n+1=> .row cs e
theorem XY{i n:Nat}(h:0<n):hO i n= .row i n:=by
 cases n with
 | zero=>omega
 | succ n=>rfl
theorem Lj{cs:List V}{e:TypeId}{n:Nat}(h:0<n):dA cs e n= .row cs e:=by
 cases n with
 | zero=>omega
 | succ n=>rfl
theorem aa.iG{x y:Operand}{t t2 e:TypeId}{z:List PV}{i len n gX:Nat}{cs ys:List V}{yv:V}(ho:o.op= .call {callee:= .builtin .append,args:= #[x,y],argTypes:= #[t,t2]})(hx:ev T x=some (hO i len))(hy:ev T y=some yv)(hs:oU P t=some (e,z))(oS:dZ P t2=true)
    (hH:H[i]? =some (dA cs e len))(hcs:cs.length=len*z.length)(hsrc:pH H z.length yv=some (ys,n))(hn:0<n)(hone:ys.all jj=true)(hby:wj P e=some gX)(hb0:0<gX)(hb:(2*(len+n)+192)*gX<=281474976710656):
    aa P N o T H (.row H.length (len+n)) (H.set i .dead++[.row (cs++ys) e]):=by
 cases len with
 | zero=>
  have h0:cs=[]:=ZA (by simpa using hcs)
  subst h0
  have h1:H.set i .dead=H:=by
   exact wJ
  rw[h1,Px]
  have:=aa.II (N:=N) ho hx hy hs oS hsrc hn hone hby hb0 (by simpa using hb)
  simpa using this
 | succ len=>exact aa.sj ho hx hy hs oS hH hcs hsrc hone hby hb0 hb
theorem To.acc(s i n:Nat){xs:List PV}{e:TypeId}(hs:lk T s=some (hO i n))(hH:H[i]? =some (dA (xs.map .p) e n))(h0:n=0->xs=[]):To P κ N T H ((s,.p (.is xs n))::nU T) (H.set i .dead):=by
 cases n with
 | zero=>
  have h:=h0 rfl
  subst h
  have h1:H.set i .dead=H:=by
   exact wJ
  rw[h1]
  intro w I ρ tmps hi ht
  refine⟨I,ρ,cA.refl _ _ _,hi,⟨ht.size,fun s' v hv=> ?_⟩,fun _ h _=>h⟩
  simp only[lk] at hv
  cases hb:Nat.beq s s' with
  | false=>rw[hb] at hv;exact(ht.nU (cA.refl _ _ _)).at_ s' v hv
  | true=>
   exact BU
 | succ n=>
  intro w I ρ tmps hi ht
  obtain⟨I',h1,h2,h3⟩:=n9 (i:=i) (xs:=xs) hi (by rw[show H[i]? =some (.row (xs.map .p) e) from hH];rfl) ht
  refine⟨I',ρ,h1.w,h2,⟨ht.size,fun s' v hv=> ?_⟩,fun _ h _=>h⟩
  simp only[lk] at hv
  cases hb:Nat.beq s s' with
  | false=>rw[hb] at hv;exact(ht.nU h1.w).at_ s' v hv
  | true=>
   rw[hb] at hv
   have:=ZO hb
   subst this
   simp at hv
   subst hv
   have:=h3.at_ s (iO i xs (.row i (n+1))) (by rw[oM,hs];rfl)
   simpa[iO] using this
def IL:TypeDesc->Value->Value->Option Bool
 | .int _,.int k a,.int k' b=>if k=k' then some (a==b) else none
 | .bool,.bool a,.bool b=>some (a==b)
 | .string,.string a,.string b=>some (a==b)
 | _,_,_=>none
def iY:List TypeDesc->List Value->List Value->Option Bool
 | [],[],[]=>some true
 | t::ts,u::us,v::vs=>match IL t u v,iY ts us vs with
   | some a,some b=>some (a&&b)
   | _,_=>none
 | _,_,_=>none
def peq:TypeDesc->PV->PV->Option Bool
 | .int _,.int k a,.int k' b=>if k=k' then some (a==b) else none
 | .bool,.bool a,.bool b=>some (a==b)
 | .string,.str a,.str b=>some (a==b)
 | _,_,_=>none
def DB:List TypeDesc->List PV->List PV->Option Bool
 | [],[],[]=>some true
 | t::ts,u::us,v::vs=>match peq t u v,DB ts us vs with
   | some a,some b=>some (a&&b)
   | _,_=>none
 | _,_,_=>none
theorem Q4{w:World}{I:Nat->Prop}{t:TypeDesc}{x y:PV}{u v:Value}{r:Bool}(h:peq t x y=some r)(hx:Rel w I x u)(hy:Rel w I y v):IL t u v=some r:=by
 unfold peq at h
 split at h
 ·simp only[Rel] at hx hy;subst hx hy;exact h
 ·simp only[Rel] at hx hy;subst hx hy;exact h
 ·simp only[Rel] at hx hy;subst hx hy;exact h
 ·cases h
theorem Ez{w:World}{I:Nat->Prop}:∀{ts:List TypeDesc} {xs ys:List PV} {us vs:List Value} {r:Bool},DB ts xs ys=some r->aQ w I xs us->aQ w I ys vs->iY ts us vs=some r
 | [],[],[],us,vs,r,h,hx,hy=>by
  simp[aQ] at hx hy
  subst hx hy
  exact h
 | t::ts,x::xs,y::ys,us,vs,r,h,hx,hy=>by
  obtain⟨u,us',rfl,h1,h2⟩:=hx
  obtain⟨v,vs',rfl,h3,h4⟩:=hy
  simp only[DB] at h
  split at h
  ·rename_i a b h5 h6
   simp only[iY,Q4 h5 h1 h3,Ez h6 h2 h4]
   exact h
  ·cases h
 | [],_::_,_,_,_,_,h,_,_=>by simp[DB] at h
 | [],[],_::_,_,_,_,h,_,_=>by simp[DB] at h
 | _::_,[],_,_,_,_,h,_,_=>by simp[DB] at h
 | _::_,_::_,[],_,_,_,h,_,_=>by simp[DB] at h
def Mw(g:TypeId->Option (List TypeDesc))(P:Program):List Field->Nat->Option (List TypeDesc)
 | [],_=>some []
 | f::fs,off=>match g f.type,fD P f.type with
   | some l,some (b,n)=>if f.offset=off∧f.name≠ "_" ∧n=l.length∧(b=false->n=1) then(Mw g P fs (off+n)).map (l++ ·) else none
   | _,_=>none
def eqTy(P:Program):Nat->TypeId->Option (List TypeDesc)
 | 0,_=>none
 | d+1,t=>match P.underlying t with
   | some (.int k)=>some [.int k]
   | some .bool=>some [.bool]
   | some .string=>some [.string]
   | some (.struct fs)=>if P.stoodInHeld t=true then none else Mw (eqTy P d) P fs.toList 0
   | some (.array n e)=>match eqTy P d e,fD P e with
     | some l,some (b,m)=>if m=l.length∧(b=false->m=1) then some (List.replicate n l).flatten else none
     | _,_=>none
   | _=>none
def valOf(b:Bool)(us:List Value):Value:=if b then .agg us.toArray else us.headD undef
theorem ow{w:World}{t:TypeId}{b:Bool}{n off:Nat}{us:List Value}(ht:fD P t=some (b,n))(hb:b=false->n=1)(hl:off+n<=us.length):(part t us.toArray off).run P w= .ok (valOf b ((us.drop off).take n)) w:=by
 cases b with
 | true=>
  have:(us.toArray.extract off (off+n))=((us.drop off).take n).toArray:=by
   apply Array.toList_inj.1
   rw[l7]
  simp[part,fR ht,aK ht,valOf,this]
 | false=>
  have hn:=hb rfl
  subst hn
  have h1:us[off]? =some (us[off]'(by omega)):=Zb _
  have h2:((us.drop off).take 1).headD undef=us[off]'(by omega):=by
   rw[U3 (by omega)]
   rfl
  simp only[valOf,J9,if_false]
  rw[h2]
  simp[part,fR ht,h1]
theorem kL:∀{ts:List TypeDesc} {us vs:List Value} {r:Bool},iY ts us vs=some r->us.length=ts.length∧vs.length=ts.length
 | [],[],[],_,_=>⟨rfl,rfl⟩
 | t::ts,u::us,v::vs,r,h=>by
  simp only[iY] at h
  split at h
  ·rename_i a b h5 h6
   obtain⟨h1,h2⟩:=kL h6
   simp[h1,h2]
  ·cases h
 | [],_::_,_,_,h=>by simp[iY] at h
 | [],[],_::_,_,h=>by simp[iY] at h
 | _::_,[],_,_,h=>by simp[iY] at h
 | _::_,_::_,[],_,h=>by simp[iY] at h
theorem vA:∀{l1 l2:List TypeDesc} {us vs:List Value} {r:Bool},iY (l1++l2) us vs=some r->∃ r1 r2,iY l1 (us.take l1.length) (vs.take l1.length)=some r1∧iY l2 (us.drop l1.length) (vs.drop l1.length)=some r2∧r=(r1&&r2)
 | [],l2,us,vs,r,h=>⟨true,r,by simp[iY],by simpa using h,by simp⟩
 | t::l1,l2,us,vs,r,h=>by
  cases us with
  | nil=>simp[iY] at h
  | cons u us=>
   cases vs with
   | nil=>simp[iY] at h
   | cons v vs=>
    simp only[Po,iY] at h
    split at h
    ·rename_i a b h5 h6
     obtain⟨r1,r2,k1,k2,rfl⟩:=vA h6
     simp at h
     refine⟨a&&r1,r2,?_,by simpa using k2,by rw[<- h,Bool.and_assoc]⟩
     simp[iY,h5,k1]
    ·cases h
theorem C2{g:TypeId->Option (List TypeDesc)}{d:Nat}{w:World}(hg:∀(t:TypeId) (l:List TypeDesc) (b:Bool) (n:Nat),g t=some l->fD P t=some (b,n)->n=l.length->(b=false->n=1)->∀ us vs r,iY l us vs=some r->(Op.equalIn d t (valOf b us) (valOf b vs)).run P w= .ok r w):
    ∀(fs:List Field) (off:Nat) (l:List TypeDesc) (us vs:List Value) (r:Bool),Mw g P fs off=some l->off<=us.length->off<=vs.length->iY l (us.drop off) (vs.drop off)=some r->(Op.eqFields d us.toArray vs.toArray fs).run P w= .ok r w
 | [],off,l,us,vs,r,h,hu,hv,hr=>by
  simp[Mw] at h
  subst h
  have h1:=kL hr
  have h2:us.drop off=[]:=ZA h1.1
  have h3:vs.drop off=[]:=ZA h1.2
  rw[h2,h3] at hr
  simp[iY] at hr
  simp[Op.eqFields,hr]
 | f::fs,off,l,us,vs,r,h,hu,hv,hr=>by
  simp only[Mw] at h
  split at h
  ·rename_i l1 b n h1 h2
   split at h
   ·rename_i hc
    obtain⟨rfl,hname,hn,hb⟩:=hc
    simp only[Zi] at h
    obtain⟨l2,h3,rfl⟩:=h
    obtain⟨r1,r2,k1,k2,rfl⟩:=vA hr
    have hlen:=kL hr
    simp only[P1,Zc] at hlen
    rw[<- hn] at k1 k2 hlen
    rw[OU,OU] at k2
    have p1:=ow (P:=P) (w:=w) (off:=f.offset) (us:=us) h2 hb (by omega)
    have p2:=ow (P:=P) (w:=w) (off:=f.offset) (us:=vs) h2 hb (by omega)
    have p3:=hg f.type l1 b n h1 h2 hn hb _ _ _ k1
    have ih:=C2 hg fs (f.offset+n) l2 us vs r2 h3 (by omega) (by omega) k2
    simp only[Op.eqFields,hname,ne_eq,not_false_eq_true,if_true,Sem.run_bind,p1,p2,p3,Result.andThen_ok]
    cases r1
    ·simp
    ·simpa using ih
   ·cases h
  ·cases h
theorem qd{d m:Nat}{e:TypeId}{l:List TypeDesc}{b:Bool}{w:World}(ht:fD P e=some (b,m))(hm:m=l.length)(hb:b=false->m=1)(hg:∀ us vs r,iY l us vs=some r->(Op.equalIn d e (valOf b us) (valOf b vs)).run P w= .ok r w):
    ∀(n k:Nat) (us vs:List Value) (r:Bool),k*m<=us.length->k*m<=vs.length->iY (List.replicate n l).flatten (us.drop (k*m)) (vs.drop (k*m))=some r->(Op.eqItems d e m us.toArray vs.toArray (List.range' k n)).run P w= .ok r w
 | 0,k,us,vs,r,hu,hv,hr=>by
  have h1:=kL hr
  have h2:us.drop (k*m)=[]:=ZA h1.1
  have h3:vs.drop (k*m)=[]:=ZA h1.2
  rw[h2,h3] at hr
  simp[iY] at hr
  simp[Op.eqItems,hr]
 | n+1,k,us,vs,r,hu,hv,hr=>by
  rw[Wj,SQ] at hr
  have hlen:=kL hr
  simp only[P1,Zc] at hlen
  obtain⟨r1,r2,k1,k2,rfl⟩:=vA hr
  rw[<- hm] at k1 k2 hlen
  rw[OU,OU] at k2
  have e1:k*m+m=(k+1)*m:=by rw[EP,ZL]
  rw[e1] at k2
  have p1:=ow (P:=P) (w:=w) (off:=k*m) (us:=us) ht hb (by omega)
  have p2:=ow (P:=P) (w:=w) (off:=k*m) (us:=vs) ht hb (by omega)
  have p3:=hg _ _ _ k1
  have ih:=qd ht hm hb hg n (k+1) us vs r2 (by omega) (by omega) k2
  simp only[List.range'_succ,Op.eqItems,Sem.run_bind,p1,p2,p3,Result.andThen_ok]
  cases r1
  ·simp
  ·simpa using ih
theorem xw{w:World}:∀(d:Nat) (t:TypeId) (l:List TypeDesc) (b:Bool) (n:Nat),eqTy P d t=some l->fD P t=some (b,n)->n=l.length->(b=false->n=1)->∀(k:Nat) (us vs:List Value) (r:Bool),iY l us vs=some r->(Op.equalIn (d+k) t (valOf b us) (valOf b vs)).run P w= .ok r w
 | 0,_,_,_,_,h,_,_,_,_,_,_,_,_=>by simp[eqTy] at h
 | d+1,t,l,b,n,h,ht,hn,hb,k,us,vs,r,hr=>by
  obtain⟨dd,inf,hu,hi,Ju,hsz⟩:=iN ht
  have hlen:=kL hr
  unfold eqTy at h
  rw[show d+1+k=d+k+1 by omega]
  rw[hu] at h
  have scalar:∀ td:TypeDesc,l=[td]->xF dd=false->∃ u v,us=[u]∧vs=[v]∧IL td u v=some r∧b=false:=by
   rintro td rfl hd
   simp at hlen
   obtain⟨u,rfl⟩:=List.length_eq_one_iff.1 hlen.1
   obtain⟨v,rfl⟩:=List.length_eq_one_iff.1 hlen.2
   refine⟨u,v,rfl,rfl,?_,by rw[<- Ju,hd]⟩
   simp only[iY] at hr
   split at hr
   ·rename_i a c h5 h6
    simp at h6 hr
    subst h6
    simpa[h5] using hr
   ·cases hr
  cases dd <;> simp only[Yp] at h <;> try (cases h;done)
  case bool=>
   obtain⟨u,v,rfl,rfl,h1,rfl⟩:=scalar _ h.symm rfl
   unfold IL at h1
   split at h1 <;> simp at h1 <;> try contradiction
   subst h1
   simp[valOf,Op.equalIn,run_underlying hu]
  case int ik=>
   obtain⟨u,v,rfl,rfl,h1,rfl⟩:=scalar _ h.symm rfl
   unfold IL at h1
   split at h1 <;> simp at h1 <;> try contradiction
   obtain⟨rfl,rfl⟩:=h1
   simp[valOf,Op.equalIn,run_underlying hu]
  case string=>
   obtain⟨u,v,rfl,rfl,h1,rfl⟩:=scalar _ h.symm rfl
   unfold IL at h1
   split at h1 <;> simp at h1 <;> try contradiction
   subst h1
   simp[valOf,Op.equalIn,run_underlying hu]
  case struct fs=>
   split at h
   ·cases h
   ·rename_i hst
    have AU:b=true:=by rw[<- Ju];rfl
    subst AU
    have hfo:P.fieldsOf t=fs:=by simp[Program.fieldsOf,hu]
    simp only[valOf,if_true]
    rw[run_equalIn_struct w (d+k) t _ _ (by rw[hfo];exact hu) (by simpa using hst),hfo]
    exact C2 (fun t l b n h1 h2 h3 h4 us vs r h5=>xw d t l b n h1 h2 h3 h4 k us vs r h5) fs.toList 0 l us vs r h (Zp _) (Zp _) (by simpa using hr)
  case array m e=>
   split at h
   ·rename_i l1 b1 m1 h1 h2
    split at h
    ·rename_i hc
     simp at h
     subst h
     have AU:b=true:=by rw[<- Ju];rfl
     subst AU
     obtain⟨_,abg,_,hi2,_,hs2⟩:=iN h2
     simp only[valOf,if_true]
     have hce:P.cellsOf e=m1:=by simp[Program.cellsOf,hi2,hs2]
     rw[run_equalIn_array w (d+k) _ _ hu hi2,hce,List.range_eq_range']
     exact qd h2 hc.1 hc.2 (fun us vs r h5=>xw d e l1 b1 m1 h1 h2 hc.1 hc.2 k us vs r h5) m 0 us vs r (by omega) (by omega) (by simpa using hr)
    ·cases h
   ·cases h
theorem aa.Lx{x y:Operand}{t t':TypeId}{op:BinOp}{d n:Nat}{l:List TypeDesc}{cs ds:List PV}{r:Bool}(ho:o.op= .binOp op t x y t')(hop:op= .eql∨op= .neq)(hx:ev T x=some (.p (.agg cs)))(hy:ev T y=some (.p (.agg ds)))(hd:d<=10000)(he:eqTy P d t=some l)(ht:fD P t=some (true,n))(hn:n=l.length)
    (hg:P.eqGuardType P.depth t=false)(hq:DB l cs ds=some r):aa P N o T H (.p (.bool (if op= .eql then r else !r))) H:=
 aa.aL (by simp[ho]) fun w I ρ a hi hT=>by
  obtain⟨us,hu,h1⟩:=hT.ev hx
  obtain⟨vs,hv,h2⟩:=hT.ev hy
  have h3:=Ez hq h1 h2
  have h4:=xw (P:=P) (w:=w) d t l true n he ht hn (by simp) (10000 - d) us.toList vs.toList r h3
  rw[show d+(10000 - d)=10000 by omega] at h4
  simp only[valOf,if_true,Array.toArray_toList] at h4
  have hgd:=run_eqGuard_agg (P:=P) w op t x y us vs hg
  rcases hop with rfl | rfl
  ·refine⟨.bool r,?_,by simp[aC,Rel]⟩
   simp[execOp,ho,hu,hv,hgd,run_eql_struct,h4]
  ·refine⟨.bool (!r),?_,by simp[aC,Rel]⟩
   simp[execOp,ho,hu,hv,hgd,run_neq_struct,h4]
theorem aa.RV{x y:Operand}{t t':TypeId}{a b:Bool}(ho:o.op= .binOp .neq t x y t')(hx:ev T x=some (.p (.bool a)))(hy:ev T y=some (.p (.bool b)))(ht:P.underlying t=some .bool):aa P N o T H (.p (.bool (!(a==b)))) H:=
 aa.aL (by simp[ho]) fun w I ρ ac hi hT=>by
  have hb:(binOp .neq t (.bool a) (.bool b)).run P w= .ok (.bool (!(a==b))) w:=by
   simp only[binOp]
   simp[run_equal_bool (P:=P) w t a b ht]
  refine⟨.bool (!(a==b)),?_,by simp[aC,Rel]⟩
  simp[execOp,ho,qe hT hx,qe hT hy,zA,hb]
end
end Go.AF
end
end
