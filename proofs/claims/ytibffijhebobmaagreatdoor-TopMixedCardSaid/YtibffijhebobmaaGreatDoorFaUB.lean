/-
 Regions that draw; slices, maps, ranges over functions, appends. No condition; generic over any program.
-/
import Derived.Test.YtibffijhebobmaaGreatDoorFaUA
import Derived.Maps.RangeRun
import Derived.Laws.StructEq
import Derived.ChangeKeysEq
theorem CB{A:Prop}(h:A:=by
 apply Gg
 intro i
 simp only[Array.toList_modify,Zt,Zu,List.getElem?_modify]
 by_cases hij:j=i
 ·subst hij
  simp[hjl]
 ·simp[hij]):A:=h
theorem DD{A:Prop}(h:A:=by
 obtain⟨us,hu,h1⟩:=h
 have r:=nD hρ hI hx cs _ h1
 simp only[iw]
 split
 ·rename_i a e;rw[dH e] at r;exact⟨us,hu,ag.pure.1 r⟩
 ·exact⟨us,hu,r⟩):A:=h
theorem A7{A:Prop}(h:A:=by
 have Pe:a.eval (.const (.func (.yield l) #[] #[]))= .func (.yield l) #[] #[]:=rfl
 simp[resolve,rangeCall,hu,Pe,Deferred.ofValue]):A:=h
theorem Bv{A:Prop}(h:A:=by
 simp only[aW]
 split
 ·rename_i j hj
  obtain⟨b,h1,h2⟩:=h
  exact⟨b,hσ i j b hj h1,h2⟩
 ·trivial):A:=h
set_option linter.unnecessarySimpa false
set_option linter.unusedSectionVars false
set_option linter.unusedSimpArgs false
set_option linter.unusedVariables false
section
section
namespace Go.AF
def bE(ops:Array Oper)(o:Oper)(T:Tm):Tm:=(o.looksAt ops).filterMap fun s=>(lk T s).map (s,·)
theorem lX(T:Tm):∀(l:List Nat) (s:Nat),lk (l.filterMap fun s=>(lk T s).map (s,·)) s=if s∈l then lk T s else none
 | [],s=>by simp[lk]
 | x::l,s=>by
  have ih:=lX T l s
  by_cases hx:x=s
  ·subst hx
   cases h:lk T x with
   | none=>
    simp only[List.filterMap_cons,h,Option.map_none,Zr,true_or,if_true]
    rw[ih]
    split
    ·exact h
    ·rfl
   | some v=>simp[List.filterMap_cons,h,lk]
  ·have hb:Nat.beq x s=false:=by
     cases h0:Nat.beq x s with
     | false=>rfl
     | true=>exact absurd (ZO h0) hx
   have hm:(s∈x::l)↔s∈l:=by simp[Ne.symm hx]
   simp only[hm]
   cases h:lk T x with
   | none=>simp only[List.filterMap_cons,h,Option.map_none];exact ih
   | some v=>simp only[List.filterMap_cons,h,Q4,lk,hb,cond_false];exact ih
def YJ(P:Program)(N:Nat)(ops:Array Oper)(o:Oper)(T:Tm)(H:List ai)(v:V):Prop:=
 (o.guard=none∧aa P N o (bE ops o T) H v H)∨
 (∃ j want s c x v',o.guard=some (j,want)∧oP ops j=some s∧aZ N (some s)=true∧lk (bE ops o T) s=some x∧pZ want x=some c∧v= .opt c v'∧(c=true->∃ T2,rF T2 (bE ops o T)∧aa P N o T2 H v' H))
def aE(P:Program)(N:Nat)(ops:Array Oper)(H:List ai)(K:Tm->Prop):List Oper->Tm->Prop
 | [],T=>K T
 | o::rest,T=>∃ v,aZ N o.dst=true∧YJ P N ops o T H v∧aE P N ops H K rest (fF T o.dst v)
section
variable {P:Program} {R:Option Nat} {N κ:Nat} {Q:Post} {T:Tm} {H:List ai} {o:Oper} {ops:Array Oper} {K:Tm->Prop} {rest:List Oper}
theorem aE.nil(h:K T):aE P N ops H K [] T:=h
theorem aE.cons(d:Nat){v:V}(hd:o.dst=some d)(hdN:aZ N (some d)=true)(hg:o.guard=none)(hop:aa P N o (bE ops o T) H v H)(next:aE P N ops H K rest ((d,v)::T)):aE P N ops H K (o::rest) T:=
 ⟨v,by rw[hd];exact hdN,.inl ⟨hg,hop⟩,by rw[hd];exact next⟩
theorem aE.guard(d s:Nat){j:Nat}{want c:Bool}{x v:V}(hd:o.dst=some d)(hdN:aZ N (some d)=true)(hg:o.guard=some (j,want))(hs:oP ops j=some s)(Et:aZ N (some s)=true)(hb:lk (bE ops o T) s=some x)(hc:pZ want x=some c)
    (T2:Tm)(h2:c=true->rF T2 (bE ops o T))(hop:c=true->aa P N o T2 H v H)(next:aE P N ops H K rest ((d,.opt c v)::T)):aE P N ops H K (o::rest) T:=
 ⟨_,by rw[hd];exact hdN,.inr ⟨j,want,s,c,x,v,hg,hs,Et,hb,hc,rfl,fun h=>⟨T2,h2 h,hop h⟩⟩,by rw[hd];exact next⟩
def JT(t:List Nat):List Edge->Nat
 | []=>0
 | e::es=>bif Region.binds .any e then(1<<<e.on)||| t.getD e.on 0||| JT t es else JT t es
def vL:List Nat->List Oper->List Nat
 | t,[]=>t
 | t,o::l=>vL (t++[JT t o.after.toList]) l
def jh(m:Nat)(l:List Oper):Bool:=
 let t:=vL [] l
 let ix:=List.range l.length
 (ix.all fun i=>(l.getD i default).after.toList.all fun e=> !Region.binds .any e||decide (e.on<i))&&
 (ix.all fun i=>ix.all fun j=>i==j||((l.getD i default).dst.isNone|| !((l.getD i default).dst==(l.getD j default).dst)))&&
 (ix.all fun i=>((l.getD i default).looksAt l.toArray).all fun s=>ix.all fun j=>i==j|| !((l.getD j default).dst==some s)||(if j<i then(t.getD i 0).testBit j else(t.getD j 0).testBit i))&&
 (ix.all fun i=>decide (i<m)||(List.range i).all fun j=>(t.getD i 0).testBit j)
theorem sj(t:List Nat)(x:Nat):∀ es:List Edge,(JT t es).testBit x=true->∃ e∈es,Region.binds .any e=true∧(x=e.on∨(t.getD e.on 0).testBit x=true)
 | [],h=>by simp[JT] at h
 | e::es,h=>by
  simp only[JT] at h
  cases hb:Region.binds .any e with
  | true=>
   rw[hb] at h
   simp only[cond_true,Oy,NC] at h
   rcases h with(h | h) | h
   ·refine⟨e,by simp,hb,.inl ?_⟩
    rw[Nat.one_shiftLeft,K4] at h
    simpa[eq_comm] using h
   ·exact⟨e,by simp,hb,.inr h⟩
   ·obtain⟨e',h1,h2⟩:=sj t x es h
    exact⟨e',by simp[h1],h2⟩
  | false=>
   rw[hb] at h
   obtain⟨e',h1,h2⟩:=sj t x es h
   exact⟨e',by simp[h1],h2⟩
theorem mG(f:Nat->Bool):∀(l pre:List Oper) (t:List Nat),t.length=pre.length->
    (∀ i o,(pre++l)[i]? =some o->f i=true->∀ e∈o.after,Region.binds .any e=true->f e.on=true)->
    (∀ i x,i<t.length->(t.getD i 0).testBit x=true->f i=true->f x=true)->∀ i x,((vL t l).getD i 0).testBit x=true->f i=true->f x=true
 | [],pre,t,hl,hc,ht,i,x,hx,hi=>by
  by_cases h:i<t.length
  ·exact ht i x h hx hi
  ·simp only[vL] at hx
   rw[Zf,ZE (by omega)] at hx
   simp at hx
 | o::l,pre,t,hl,hc,ht,i,x,hx,hi=>by
  refine mG f l (pre++[o]) _ (by simp[hl]) (by simpa using hc) ?_ i x hx hi
  intro k y hk hy hfk
  by_cases h:k<t.length
  ·rw[Zf,Zc h,<- Zf] at hy
   exact ht k y h hy hfk
  ·have hk':k=t.length:=by simp at hk;omega
   subst hk'
   rw[Zf,Zi (Ze _)] at hy
   simp only[OX,List.getElem?_cons_zero,LR] at hy
   obtain⟨e,he,hb,hy⟩:=sj t y _ hy
   have ho:(pre++o::l)[t.length]? =some o:=by rw[hl];simp
   have hon:=hc _ o ho hfk e (by simpa using he) hb
   rcases hy with rfl | hy
   ·exact hon
   ·by_cases h2:e.on<t.length
    ·exact ht e.on y h2 hy hon
    ·rw[Zf,ZE (by omega)] at hy
     simp at hy
def tl(l:List Oper)(T:Tm)(vs:Nat->V)(f:Nat->Bool)(s:Nat):Option V:=
 match (List.range l.length).find? fun j=>f j&&(l.getD j default).dst==some s with
 | some j=>some (vs j)
 | none=>lk T s
structure ff (m:Nat) (l:List Oper):Prop where
 back:∀(i:Nat) (o:Oper),l[i]? =some o->∀ e∈o.after,Region.binds .any e=true->e.on<i
 uniq:∀(i j:Nat) (oi oj:Oper) (s:Nat),l[i]? =some oi->l[j]? =some oj->oi.dst=some s->oj.dst=some s->i=j
 look:∀(f:Nat->Bool),(∀(i:Nat) (o:Oper),l[i]? =some o->f i=true->∀ e∈o.after,Region.binds .any e=true->f e.on=true)->∀(i j:Nat) (oi oj:Oper) (s:Nat),l[i]? =some oi->l[j]? =some oj->s∈oi.looksAt l.toArray->oj.dst=some s->i≠j->(j<i->f i=true->f j=true)∧(i<j->f j=true->f i=true)
 tail:∀(f:Nat->Bool),(∀(i:Nat) (o:Oper),l[i]? =some o->f i=true->∀ e∈o.after,Region.binds .any e=true->f e.on=true)->∀ i,m<=i->i<l.length->f i=true->∀ j,j<i->f j=true
theorem jR{l:List Oper}{i:Nat}{o:Oper}(h:l[i]? =some o):l.getD i default=o:=by simp[Zf,h]
theorem bW{α:Type}{l:List α}{i:Nat}{o:α}(h:l[i]? =some o):i<l.length:=(Za.1 h).1
theorem ff.of{m:Nat}{l:List Oper}(h:jh m l=true):ff m l:=by
 simp only[jh,Zk] at h
 obtain⟨⟨⟨h1,h2⟩,h3⟩,h4⟩:=h
 have spec:=fun(f:Nat->Bool) hc=>mG f l [] [] rfl (by simpa using hc) (fun i x h=>by simp at h)
 refine⟨fun i o ho e he hb=> ?_,fun i j oi oj s hi hj YP Pm=> ?_,fun f hc i j oi oj s hi hj hs hd hne=> ?_,fun f hc i hm hi hf j hj=> ?_⟩
 ·have:=Zz.1 (Zz.1 h1 i (xe.2 (bW ho))) e (by rw[jR ho];simpa using he)
  simpa[hb] using this
 ·have:=Zz.1 (Zz.1 h2 i (xe.2 (bW hi))) j (xe.2 (bW hj))
  rw[jR hi,jR hj,YP,Pm] at this
  exact dx
 ·have:=Zz.1 (Zz.1 (Zz.1 h3 i (xe.2 (bW hi))) s (by rw[jR hi];exact hs)) j (xe.2 (bW hj))
  rw[jR hj,hd] at this
  have aaT:(i==j)=false:=by simpa using hne
  simp only[aaT,Bool.false_or,BEq.rfl,Bool.not_true] at this
  constructor
  ·intro hlt hfi
   rw[if_pos hlt] at this
   exact spec f hc i j (by simpa using this) hfi
  ·intro hlt tU
   rw[if_neg (by omega)] at this
   exact spec f hc j i (by simpa using this) tU
 ·have:=Zz.1 h4 i (xe.2 hi)
  have hn:decide (i<m)=false:=by simpa using hm
  rw[hn,Bool.false_or] at this
  have:=Zz.1 this j (xe.2 hj)
  exact spec f hc i j (by simpa using this) hf
section
variable {m:Nat} {l:List Oper} {vs:Nat->V}
theorem qV(hk:ff m l){f:Nat->Bool}{j:Nat}{o:Oper}{s:Nat}(hj:l[j]? =some o)(hf:f j=true)(hd:o.dst=some s):tl l T vs f s=some (vs j):=by
 unfold tl
 cases hfd:(List.range l.length).find? (fun j=>f j&&(l.getD j default).dst==some s) with
 | none=>
  have:=List.find?_eq_none.1 hfd j (xe.2 (bW hj))
  rw[jR hj,hd,hf] at this
  simp at this
 | some k=>
  have h1:=List.find?_some hfd
  have h2:=xe.1 (List.mem_of_find?_eq_some hfd)
  simp only[Zk,beq_iff_eq] at h1
  have hk2:l[k]? =some l[k]:=Zb h2
  rw[jR hk2] at h1
  have:=hk.uniq j k o l[k] s hj hk2 hd h1.2
  rw[this]
theorem jQ{f:Nat->Bool}{s:Nat}(h:∀ j o,l[j]? =some o->f j=true->o.dst≠some s):tl l T vs f s=lk T s:=by
 unfold tl
 cases hfd:(List.range l.length).find? (fun j=>f j&&(l.getD j default).dst==some s) with
 | none=>rfl
 | some k=>
  have h1:=List.find?_some hfd
  have h2:=xe.1 (List.mem_of_find?_eq_some hfd)
  simp only[Zk,beq_iff_eq] at h1
  have hk2:l[k]? =some l[k]:=Zb h2
  rw[jR hk2] at h1
  exact absurd h1.2 (h k l[k] hk2 h1.1)
theorem gS(hk:ff m l){f g:Nat->Bool}{s:Nat}(h:∀ j o,l[j]? =some o->o.dst=some s->f j=g j):tl l T vs f s=tl l T vs g s:=by
 by_cases hex:∃ j o,l[j]? =some o∧f j=true∧o.dst=some s
 ·obtain⟨j,o,h1,h2,h3⟩:=hex
  rw[qV hk h1 h2 h3,qV hk h1 ((h j o h1 h3)▸h2) h3]
 ·rw[jQ (fun j o h1 h2 h3=>hex ⟨j,o,h1,h2,h3⟩),jQ (fun j o h1 h2 h3=>hex ⟨j,o,h1,(h j o h1 h3).trans h2,h3⟩)]
theorem aE.vals{ops:Array Oper}:∀{l':List Oper} {T:Tm},aE P N ops H K l' T->∃(vs:Nat->V) (Tx:Nat->Tm),Tx 0=T∧(∀ i o,l'[i]? =some o->aZ N o.dst=true∧YJ P N ops o (Tx i) H (vs i)∧Tx (i+1)=fF (Tx i) o.dst (vs i))∧K (Tx l'.length)
 | [],T,h=>⟨fun _=> .top,fun _=>T,rfl,fun i o ho=>by simp at ho,h⟩
 | o::l',T,h=>by
  obtain⟨v,hd,hy,hn⟩:=h
  obtain⟨vs,Tx,h0,h1,h2⟩:=aE.vals hn
  refine⟨fun i=>match i with | 0=>v | i+1=>vs i,fun i=>match i with | 0=>T | i+1=>Tx i,rfl,fun i x hx=> ?_,h2⟩
  cases i with
  | zero=>simp at hx;subst hx;exact⟨hd,hy,h0⟩
  | succ i=>simp at hx;exact h1 i x hx
theorem ux(hk:ff m l){Tx:Nat->Tm}{M:Nat}(hM:M<=l.length)(h0:Tx 0=T)(h1:∀ i o,i<M->l[i]? =some o->Tx (i+1)=fF (Tx i) o.dst (vs i)):∀ i,i<=M->∀ s,lk (Tx i) s=tl l T vs (fun j=>decide (j<i)) s
 | 0,_,s=>by rw[h0,jQ (fun j o _ h=>by simp at h)]
 | i+1,hi,s=>by
  have ho:l[i]? =some (l[i]'(by omega)):=Zb _
  rw[h1 i _ (by omega) ho]
  have ih:=ux hk hM h0 h1 i (by omega) s
  by_cases hs:(l[i]'(by omega)).dst=some s
  ·rw[hs,qV hk ho (by simp) hs]
   simp[fF,lk]
  ·have e:lk (fF (Tx i) (l[i]'(by omega)).dst (vs i)) s=lk (Tx i) s:=by
     cases hd:(l[i]'(by omega)).dst with
     | none=>rfl
     | some d=>
      have hne:d≠s:=fun e=>hs (by rw[hd,e])
      have hb:Nat.beq d s=false:=by
       cases h0:Nat.beq d s with
       | false=>rfl
       | true=>exact absurd (ZO h0) hne
      simp[fF,lk,hb]
   rw[e,ih]
   refine gS hk fun j o hj hd=> ?_
   have hne:j≠i:=fun e=>by
    subst e
    rw[ho] at hj
    cases hj
    exact hs hd
   simp;omega
theorem count_set:∀(l:List Bool) (i:Nat),l[i]? =some false->(l.set i true).count false+1=l.count false
 | [],i,h=>by simp at h
 | b::l,0,h=>by simp at h;subst h;simp
 | b::l,i+1,h=>by
  simp at h
  have:=count_set l i h
  cases b <;> simp <;> omega
def SI(κ:Nat)(P:Program)(N:Nat)(H:List ai)(l:List Oper)(T:Tm)(vs:Nat->V)(B:mo)(w0:World)(I0:Nat->Prop)(ρ0:List Nat)(f:Nat->Bool)(a:Act)(w:World):Prop:=
 ∃ I ρ,cy w0 I0 ρ0 w I ρ∧Inv P w I ρ H∧a.tmps.size=N∧(∀ s v,tl l T vs f s=some v->az P w I ρ v (a.tmps.getD s undef))∧Marks κ B w I ρ a.defers
def fl(listed:Array Bool)(i:Nat):Bool:=listed.getD i false
theorem gO{listed:Array Bool}{i:Nat}(hi:i<listed.size)(j:Nat):fl (listed.setIfInBounds i true) j=(decide (j=i)||fl listed j):=by
 unfold fl
 by_cases h:j=i
 ·subst h;simp[hi]
 ·simp[h,Ne.symm h]
theorem sy(hk:ff m l){QX:Exit->Act->World->Prop}:∀(fuel k:Nat) (listed:Array Bool) (a:Act) (w:World),fuel+k=l.length->m<=k->listed.size=l.length->(∀ i,i<l.length->fl listed i=decide (i<k))->
    wpListIn (Fr R) 0 P l.toArray QX (l.drop k) a w->wpAnyIn (Fr R) 0 P .any l.toArray QX fuel listed a w
 | 0,k,listed,a,w,hf,hm,hsz,hl,h=>by
  have hk':k=l.length:=by omega
  subst hk'
  refine⟨?_,by simpa[wpListIn] using h⟩
  refine List.eq_nil_iff_forall_not_mem.2 fun i hi=> ?_
  obtain⟨h1,o,ho,_⟩:=mem_ready.1 hi
  have hlt:i<l.length:=bW (by simpa using ho)
  have h2:=hl i hlt
  unfold fl at h2
  simp[hsz,hlt] at h1 h2
  rw[h1] at h2;cases h2
 | fuel+1,k,listed,a,w,hf,hm,hsz,hl,h=>by
  have hlt:k<l.length:=by omega
  have ho:l[k]? =some l[k]:=Zb hlt
  have hr:k∈Region.ready .any l.toArray listed:=by
   refine mem_ready.2 ⟨?_,l[k],by simpa using ho,fun e he hb=> ?_⟩
   ·have:=hl k hlt
    unfold fl at this
    simp[hsz,hlt] at this ⊢
    exact this
   ·have hlt2:=hk.back k _ ho e he hb
    have:=hl e.on (by omega)
    unfold fl at this
    simpa[hlt2] using this
  refine⟨(fun h0=>by rw[h0] at hr;cases hr),fun i hi=> ?_⟩
  have hik:i=k:=by
   obtain⟨h1,o,ho',hall⟩:=mem_ready.1 hi
   have Vk:l[i]? =some o:=by simpa using ho'
   have hilt:=bW Vk
   have h2:=hl i hilt
   unfold fl at h2
   simp[hsz,hilt] at h1 h2
   rw[h1] at h2
   have hki:k<=i:=by simpa using h2.symm
   by_cases he:i=k
   ·exact he
   ·exfalso
    have hf:=hk.tail (fun j=>decide (j=i)||fl listed j) (fun j oj hj tU e he hb=>by
     simp only[NC,Zj] at tU ⊢
     rcases tU with rfl | tU
     ·rw[Vk] at hj;cases hj
      exact .inr (hall e he hb)
     ·have h3:=hl j (bW hj)
      rw[tU] at h3
      have HI:j<k:=by simpa using h3.symm
      have:=hk.back j _ hj e he hb
      exact .inr (by rw[hl e.on (by omega)];simp;omega)) i (by omega) hilt (by simp) k (by omega)
    have h4:=hl k hlt
    simp[Ne.symm he,h4] at hf
  subst hik
  have VQ:l.drop i=l[i]::l.drop (i+1):=XN hlt
  rw[VQ] at h
  unfold wpOpIn
  have hoo:l.toArray[i]? =some l[i]:=by simpa using ho
  simp only[hoo]
  have next:∀ a w,wpListIn (Fr R) 0 P l.toArray QX (l.drop (i+1)) a w->wpAnyIn (Fr R) 0 P .any l.toArray QX fuel (listed.setIfInBounds i true) a w:=fun a w h=>by
   refine sy hk fuel (i+1) _ a w (by omega) (by omega) (by simp[hsz]) (fun j hj=> ?_) h
   rw[gO (by omega),hl j hj]
   by_cases e:j=i
   ·subst e;simp
   ·simp[e];omega
  simp only[wpListIn] at h
  split
  ·rename_i hw;rw[if_pos hw] at h;exact Oper.wpIn_mono next h
  ·rename_i hw;rw[if_neg hw] at h;exact⟨h.1,next _ _ h.2⟩
theorem Jp(hk:ff m l)(hm:m<=l.length){B:mo}{w0:World}{I0:Nat->Prop}{ρ0:List Nat}{QX:Exit->Act->World->Prop}{Tx:Nat->Tm}(h0:Tx 0=T)
    (h1:∀ i o,i<m->l[i]? =some o->aZ N o.dst=true∧YJ P N l.toArray o (Tx i) H (vs i)∧Tx (i+1)=fF (Tx i) o.dst (vs i))
    (hK:∀ a w I ρ,cy w0 I0 ρ0 w I ρ->Inv P w I ρ H->bn P w I ρ N (Tx m) a.tmps->Marks κ B w I ρ a.defers->wpListIn (Fr R) 0 P l.toArray QX (l.drop m) a w):
    ∀(fuel:Nat) (listed:Array Bool) (a:Act) (w:World),listed.toList.count false=fuel->listed.size=l.length->(∀ i o,l[i]? =some o->fl listed i=true->∀ e∈o.after,Region.binds .any e=true->fl listed e.on=true)->(∀ i,m<=i->fl listed i=false)->
    SI κ P N H l T vs B w0 I0 ρ0 (fl listed) a w->wpAnyIn (Fr R) 0 P .any l.toArray QX fuel listed a w:=by
 intro fuel
 have hlk:=ux (vs:=vs) hk hm h0 (fun i o hi ho=>(h1 i o hi ho).2.2)
 have done:∀(fuel:Nat) (listed:Array Bool) (a:Act) (w:World),listed.toList.count false=fuel->listed.size=l.length->(∀ i,m<=i->fl listed i=false)->(∀ i,i<m->fl listed i=true)->SI κ P N H l T vs B w0 I0 ρ0 (fl listed) a w->wpAnyIn (Fr R) 0 P .any l.toArray QX fuel listed a w:=by
  intro fuel listed a w mE hsz xD hall hsi
  obtain⟨I,ρ,he,hi,hs,cu,hmk⟩:=hsi
  exact qC
 induction fuel with
 | zero=>
  exact ng
 | succ fuel ih=>
  intro listed a w mE hsz hcl xD hsi
  by_cases hall:∀ i,i<m->fl listed i=true
  ·exact mJ
  ·obtain⟨i0,vB,hmin⟩:∃ i0,(i0<m∧fl listed i0=false)∧∀ j,j<i0->fl listed j=true:=by
     exact mW
   have Ks:l[i0]? =some (l[i0]'(by omega)):=Zb _
   have zy:i0∈Region.ready .any l.toArray listed:=by
    exact nE
   refine⟨(fun h=>by rw[h] at zy;cases zy),fun i hi=> ?_⟩
   obtain⟨h3,o,ho',UW⟩:=mem_ready.1 hi
   have ho:l[i]? =some o:=by simpa using ho'
   have hilt:=bW ho
   have vf:∀ j oj,l[j]? =some oj->(decide (j=i)||fl listed j)=true->∀ e∈oj.after,Region.binds .any e=true->(decide (e.on=i)||fl listed e.on)=true:=fun j oj hj tU e he hb=>by
    exact kV
   have pH:i<m:=by
    exact nk
   have tB:fl listed i=false:=by
    exact kj
   obtain⟨sO,hy,_⟩:=h1 i o pH ho
   obtain⟨I,ρ,he,hinv,hs,cu,hmk⟩:=hsi
   have l9:∀ s v,lk (bE l.toArray o (Tx i)) s=some v->az P w I ρ v (a.tmps.getD s undef):=by
    exact mK
   have Av:bn P w I ρ N (bE l.toArray o (Tx i)) a.tmps:=⟨hs,l9⟩
   have next:∀ u w' I' ρ',Ext w I ρ w' I' ρ'->Inv P w' I' ρ' H->az P w' I' ρ' (vs i) u->wpAnyIn (Fr R) 0 P .any l.toArray QX fuel (listed.setIfInBounds i true) (a.put o.dst u) w':=by
    exact mR
   unfold wpOpIn
   simp only[ho']
   rcases hy with⟨hg,hop⟩ | ⟨j,want,s,c,x,v',hg,pE,Et,hb,hc,hv,hop⟩
   ·exact kB
   ·exact nF
theorem aI.aB{id:Nat}(m:Nat)(EX:P.follows .mixedOrders=true)(hk:jh m l=true)(hm:m<=l.length)(h:aE P N l.toArray H (fun T'=>aj P R N κ l.toArray (l.drop m) Q T' H) (l.take m) T):aI P R N κ (.region id l.toArray true) Q T H:=by
 intro B w I ρ a hi ht hmk
 obtain⟨vs,Tx,h0,h1,h2⟩:=aE.vals h
 have hlen:(l.take m).length=m:=by simp;omega
 rw[hlen] at h2
 refine wpIn_region_any EX ?_
 have hi':Inv P w.drew I ρ H:=hi.drew
 refine Jp (κ:=κ) (ff.of hk) hm (B:=B) (w0:=w) (I0:=I) (ρ0:=ρ) h0 (fun i o pH ho=>h1 i o (by rw[ZQ,if_pos pH];exact ho)) ?_ _ _ a w.drew (by simp) (by simp) ?_ ?_ ?_
 ·exact wD
 ·exact mX
 ·exact mP
 ·exact DN
end
end
section
variable {P:Program} {R:Option Nat} {N κ:Nat} {Q Q':Post} {T T':Tm} {H H':List ai} {o:Oper} {ops:Array Oper} {rest:List Oper}
theorem aj.c(d:Nat){v:V}(hd:o.dst=some d)(hN:aZ N (some d)=true)(hg:o.guard=none)(hop:aa P N o T H v H')(next:aj P R N κ ops rest Q ((d,v)::T) H'):aj P R N κ ops (o::rest) Q T H:=
 aj.cons hg (by rw[hd];exact hN) hop (by rw[hd];exact next)
theorem aj.c0{v:V}(hd:o.dst=none)(hg:o.guard=none)(hop:aa P N o T H v H')(next:aj P R N κ ops rest Q T H'):aj P R N κ ops (o::rest) Q T H:=
 aj.cons hg (by rw[hd];rfl) hop (by rw[hd];exact next)
theorem aj.g(d s:Nat){j:Nat}{want c:Bool}{x v:V}(hd:o.dst=some d)(hN:aZ N (some d)=true)(hg:o.guard=some (j,want))(hs:oP ops j=some s)(Et:aZ N (some s)=true)
    (hb:lk T s=some x)(hc:pZ want x=some c)(T2:Tm)(h2:c=true->rF T2 T)(hop:c=true->aa P N o T2 H v H)(next:aj P R N κ ops rest Q ((d,.opt c v)::T) H):aj P R N κ ops (o::rest) Q T H:=
 aj.guard hg hs (by rw[hd];exact hN) Et hb hc T2 h2 hop (by rw[hd];exact next)
theorem aG{n:Int}(h: -9223372036854775808<=n∧n<=9223372036854775807):IntKind.i64.wrap n=n:=by rw[IntKind.wrap_i64];omega
theorem aaY{n:Int}(h:0<=n∧n<=255):IntKind.u8.wrap n=n:=by rw[IntKind.wrap_u8];omega
theorem vc{n:Int}(h:0<=n∧n<=4294967295):IntKind.u32.wrap n=n:=by rw[IntKind.wrap_u32];omega
def Fin(P:Program)(N:Nat)(fn:Func)(r:PV):Post:=fun x T H=>(x= .normal∨x= .ret)∧eT P N fn T H (.p r)
theorem Pure.start{f:FuncId}{fn:Func}{c:Code}{args:List PV}{r:PV}(hf:P.funcs[f]? =some fn)(hb:fn.body=some c)(hN:fn.ntmps=N)(hn:args.length<=N)(h:aI P none N 0 c (Fin P N fn r) (cW 0 (args.map .p)) []):Pure P f args r:=by
 subst hN
 exact Pure.gN hf hb hn h
theorem Fin.one{fn:Func}{q:ResultVar}{r:PV}(h:fn.results= #[q])(hr:oZ P T H q (.p r)):Fin P N fn r .ret T H:=⟨.inr rfl,eT.one h hr⟩
theorem ko(xs:List PV):jF (xs.map .p)=some xs:=by
 induction xs with
 | nil=>rfl
 | cons x xs ih=>simp[jF,ih]
theorem Fin.many{fn:Func}{r1 r2:ResultVar}{rs:List ResultVar}{vs:List V}{xs:List PV}(h:fn.results=(r1::r2::rs).toArray)(hr:zX P T H (r1::r2::rs) vs)(hv:vs=xs.map .p):Fin P N fn (.tuple xs) .ret T H:=by
 refine⟨.inr rfl,?_⟩
 have:=eT.many (N:=N) h hr
 have e:jv vs= .p (.tuple xs):=by
  subst hv
  simp[jv,ko]
 rw[e] at this
 exact this
def lK(P:Program)(N:Nat)(fn:Func)(Qr:V->List ai->Prop):Post:=fun x T H=>(x= .normal∨x= .ret)∧∃ v,eT P N fn T H v∧Qr v H
theorem ax.start{f:FuncId}{fn:Func}{c:Code}{args:List V}{Qr:V->List ai->Prop}(hf:P.funcs[f]? =some fn)(hb:fn.body=some c)(hN:fn.ntmps=N)(hn:args.length<=N)(h:aI P none N H.length c (lK P N fn Qr) (cW 0 args) H):ax P f args H Qr:=by
 subst hN
 exact ax.gN hf hb hn h
mutual
def iw(i:Nat)(xs:List PV):V->V
 | .p x=> .p x
 | .ptr j off=>if j=i then .p (.ip xs off) else .ptr j off
 | .row j len=>if j=i then .p (.is xs len) else .row j len
 | .sl j off len=>if j=i then .p (.is ((xs.drop off)) len) else .sl j off len
 | .map j=> .map j
 | .func fn fi ca=>match jF (kW i xs fi),jF (kW i xs ca) with
   | some a,some b=> .p (.func fn a b)
   | _,_=> .func fn (kW i xs fi) (kW i xs ca)
 | .iface t v=>match iw i xs v with
   | .p x=> .p (.iface t x)
   | y=> .iface t y
 | .agg cs=>match jF (kW i xs cs) with
   | some a=> .p (.agg a)
   | none=> .agg (kW i xs cs)
 | .tuple cs=>match jF (kW i xs cs) with
   | some a=> .p (.tuple a)
   | none=> .tuple (kW i xs cs)
 | .opt g v=> .opt g (iw i xs v)
 | .raw a n c=> .raw a n c
 | .z0=> .z0
 | .top=> .top
def kW(i:Nat)(xs:List PV):List V->List V
 | []=>[]
 | v::vs=>iw i xs v::kW i xs vs
end
mutual
theorem mT{w:World}{I:Nat->Prop}{ρ:List Nat}{i b:Nat}{xs:List PV}(hρ:ρ[i]? =some b)(hI:I b)(hx:aT w I xs b 0):∀(v:V) (u:Value),az P w I ρ v u->az P w I ρ (iw i xs v) u
 | .p x,u,h=>by simpa[iw] using h
 | .ptr j off,u,h=>by
  simp only[iw]
  split
  ·rename_i e;subst e
   obtain⟨b',hb,hu⟩:=h
   rw[hρ] at hb;cases hb
   exact⟨b,0,hI,by simpa using hu,hx⟩
  ·exact h
 | .row j len,u,h=>by
  simp only[iw]
  split
  ·rename_i e;subst e
   obtain⟨b',e',cap,hb,hu,_,hl⟩:=h
   rw[hρ] at hb;cases hb
   exact .inr ⟨b,0,cap,fun _=>hI,hl,hu,hx⟩
  ·exact h
 | .sl j off len,u,h=>by
  simp only[iw]
  split
  ·rename_i e;subst e
   obtain⟨b',cap,hb,hu,hl⟩:=h
   rw[hρ] at hb;cases hb
   exact .inr ⟨b,off,cap,fun _=>hI,hl,hu,by simpa using aT.drop off hx⟩
  ·exact h
 | .map j,u,h=>by simpa[iw] using h
 | .func fn fi ca,u,h=>by
  obtain⟨us,vs,hu,h1,h2⟩:=h
  have r1:=nD hρ hI hx fi _ h1
  have r2:=nD hρ hI hx ca _ h2
  simp only[iw]
  split
  ·rename_i a c e1 e2
   rw[dH e1] at r1
   rw[dH e2] at r2
   exact⟨us,vs,hu,ag.pure.1 r1,ag.pure.1 r2⟩
  ·exact⟨us,vs,hu,r1,r2⟩
 | .iface t v,u,h=>by
  obtain⟨x,hu,h1⟩:=h
  have r:=mT hρ hI hx v x h1
  simp only[iw]
  split
  ·rename_i y e;rw[e] at r;exact⟨x,hu,r⟩
  ·exact⟨x,hu,r⟩
 | .agg cs,u,h=>by
  exact DD
 | .tuple cs,u,h=>by
  exact DD
 | .opt g v,u,h=>⟨fun hg=>mT hρ hI hx v u (h.1 hg),h.2⟩
 | .raw _ _ _,u,h=>by simpa[iw] using h
 | .z0,u,h=>by simpa[iw] using h
 | .top,_,_=>by simp[iw,az]
theorem nD{w:World}{I:Nat->Prop}{ρ:List Nat}{i b:Nat}{xs:List PV}(hρ:ρ[i]? =some b)(hI:I b)(hx:aT w I xs b 0):∀(vs:List V) (us:List Value),ag P w I ρ vs us->ag P w I ρ (kW i xs vs) us
 | [],us,h=>by simpa[kW] using h
 | v::vs,us,h=>by
  obtain⟨u,us',hu,h1,h2⟩:=h
  exact⟨u,us',hu,mT hρ hI hx v u h1,nD hρ hI hx vs us' h2⟩
end
def xF(i:Nat)(xs:List PV):Tm->Tm
 | []=>[]
 | (s,v)::r=>(s,iw i xs v)::xF i xs r
theorem n8{i:Nat}{xs:List PV}:∀(T:Tm) (s:Nat),lk (xF i xs T) s=(lk T s).map (iw i xs)
 | [],s=>rfl
 | (a,v)::r,s=>by
  simp only[xF,lk]
  cases Nat.beq a s with
  | true=>rfl
  | false=>exact n8 r s
theorem aT.nO{w:World}{I:Nat->Prop}{b:Nat}:∀(xs:List PV) (us:List Value) (k:Nat),aR w I xs us->(∀ j u,us[j]? =some u->w.cell? ⟨b,k+j,none⟩=some u)->aT w I xs b k
 | [],_,_,_,_=>by simp[aT]
 | x::xs,us,k,h,hc=>by
  obtain⟨u,us',rfl,h1,h2⟩:=h
  exact⟨⟨u,by simpa using hc 0 u rfl,h1⟩,aT.nO xs us' (k+1) h2 fun j v hj=>by have:=hc (j+1) v (by simpa using hj);rwa [show k+(j+1)=k+1+j by omega] at this⟩
theorem nv{w:World}{I:Nat->Prop}{ρ:List Nat}{i:Nat}{xs:List PV}{tmps:Array Value}(hi:Inv P w I ρ H)(hc:bR H[i]? =some (xs.map .p))(ht:bn P w I ρ N T tmps):
    ∃ I',Ext w I ρ w I' ρ∧Inv P w I' ρ (H.set i .dead)∧bn P w I' ρ N (xF i xs T) tmps:=by
 obtain⟨b,arr,e,hρ,hw,hl,hr⟩:=ia hi hc
 have hH:∃ blk,H[i]? =some blk∧blk.live=true:=by
  exact BV
 obtain⟨blk,hH,dV⟩:=hH
 have hE:=Ext.freeze hi hρ hH dV
 refine⟨_,hE,Inv.freeze hi hρ hH dV,ht.size,fun s v hv=> ?_⟩
 rw[n8,Zl] at hv
 obtain⟨v0,h1,rfl⟩:=hv
 have hx:aT w (fun k=>I k∨k=b) xs b 0:=by
  exact AJ
 exact mT hρ (.inr rfl) hx v0 _ ((ht.at_ s v0 h1).ext hE)
theorem aj.freeze(i:Nat){xs:List PV}{l:List Oper}{vs:List V}(hc:bR H[i]? =some vs)(hp:jF vs=some xs)(h:aj P R N κ ops l Q (xF i xs T) (H.set i .dead)):aj P R N κ ops l Q T H:=by
 intro QX B w I ρ a hi ht hm hq
 rw[dH hp] at hc
 obtain⟨I',h1,h2,h3⟩:=nv hi hc ht
 exact h QX B w I' ρ a h2 h3 (hm.ext h1) fun e a2 w2 q=>hq e a2 w2 (QC.ext h1.w q)
theorem aI.freeze(i:Nat){xs:List PV}{c:Code}{vs:List V}(hc:bR H[i]? =some vs)(hp:jF vs=some xs)(h:aI P R N κ c Q (xF i xs T) (H.set i .dead)):aI P R N κ c Q T H:=by
 intro B w I ρ a hi ht hm
 rw[dH hp] at hc
 obtain⟨I',h1,h2,h3⟩:=nv hi hc ht
 exact wpIn_mono (h B w I' ρ a h2 h3 (hm.ext h1)) fun _ _ _ q=>QC.ext h1.w q
theorem mM{α β:Type}{f:α->List β}{sz:Nat}(hf:∀ x,(f x).length=sz):∀(xs:List α) (k:Nat) (hk:k<xs.length),((xs.flatMap f).drop (k*sz)).take sz=f xs[k]
 | x::xs,0,_=>by
  simp only[Nat.zero_mul,List.drop_zero,ZL,List.getElem_cons_zero]
  rw[VZ (by rw[hf];exact Ze _)]
  rw[<- hf x,ZS]
 | x::xs,k+1,hk=>by
  have ih:=mM hf xs k (by simpa using hk)
  simp only[ZL,List.getElem_cons_succ]
  rw[List.drop_append,YH (by rw[hf,EV,ZM];omega),IS,hf]
  rw[show(k+1)*sz - sz=k*sz by rw[EV,ZM];omega]
  exact ih
theorem aa.L2{x y:Operand}{t:TypeId}{kd:IntKind}{sz len k:Nat}{cs win:List PV}(ho:o.op= .indexAddr t x y)(hx:ev T x=some (.p (.is cs len)))(hy:ev T y=some (.p (.int kd (k:Int))))(ht:dY P t=true)(he:ou P t=some sz)
    (hk:k<len)(hw:(cs.drop (k*sz)).take sz=win)(hn:cs≠[]):aa P N o T H (.p (.ip win 0)) H:=
 aa.aN (by simp[ho]) fun w I ρ a hi hT=>by
  have hn':=cS hT hy
  cases hu:P.underlying t with
  | none=>simp[dY,hu] at ht
  | some d=>
   cases d <;> simp[dY,hu] at ht
   rename_i e
   simp only[ou,hu,Zl] at he
   obtain⟨⟨b,m⟩,htm,rfl⟩:=he
   rcases hT.ev hx with⟨_,hz⟩ | ⟨blk,off,cap,hb,hle,pE,eK⟩
   ·omega
   ·refine⟨.pointer (some ⟨blk,off+k*m,none⟩),?_,blk,off+k*m,hb hn,rfl,?_⟩
    ·have hlt':(k:Int)<(len:Int):=by omega
     have h0:(0:Int)<=k:=by omega
     simp[execOp,ho,Instr.indexAt,hn',dN,pE,run_underlying hu,h0,hlt',aK htm,cF]
    ·rw[<- hw]
     exact aT.take m (aT.drop _ eK)
theorem aa.gQ{α:Type}{x y:Operand}{t:TypeId}{kd:IntKind}{sz len k:Nat}{xs:List α}{f:α->List PV}(ho:o.op= .indexAddr t x y)(hx:ev T x=some (.p (.is (xs.flatMap f) len)))(hy:ev T y=some (.p (.int kd (k:Int))))(ht:dY P t=true)
    (he:ou P t=some sz)(hl:len=xs.length)(hf:∀ x,(f x).length=sz)(h0:0<sz)(hk:k<xs.length):aa P N o T H (.p (.ip (f xs[k]) 0)) H:=
 aa.L2 ho hx hy ht he (hl▸hk) (mM hf xs k hk) (by
  intro hn
  have h1:(xs.flatMap f).length=0:=by rw[hn];rfl
  have h2:=mM hf xs k hk
  have h3:=hf xs[k]
  rw[<- h2,hn] at h3
  simp at h3
  omega)
theorem yU{α:Type}[Inhabited α](z:List α)(hz:0<z.length):∀ n:Nat,(List.range (n*z.length)).map (fun i=>z[i%z.length]!)=(List.replicate n z).flatten
 | 0=>by simp
 | n+1=>by
  rw[EV,ZM,List.range_add,ZG,yU z hz n,List.replicate_succ',Ww]
  congr 1
  simp only[OE,R1,List.flatten_nil,ZU]
  apply List.ext_getElem
  ·simp
  ·intro i h1 h2
   simp at h1
   have:(n*z.length+i)%z.length=i:=by
    rw[Nat.add_comm,Nat.add_mul_mod_self_right,TM h1]
   simp[this,h1]
theorem aR.append{w:World}{I:Nat->Prop}:∀{xs ys:List PV} {us vs:List Value},aR w I xs us->aR w I ys vs->aR w I (xs++ys) (us++vs)
 | [],ys,us,vs,h,k=>by simp[aR] at h;subst h;exact k
 | x::xs,ys,us,vs,h,k=>by
  obtain⟨u,us',rfl,h1,h2⟩:=h
  exact⟨u,us'++vs,rfl,h1,aR.append h2 k⟩
theorem aR.SG{w:World}{I:Nat->Prop}{z:List PV}{us:List Value}(h:aR w I z us):∀ n:Nat,aR w I (List.replicate n z).flatten (List.replicate n us).flatten
 | 0=>by simp[aR]
 | n+1=>by
  simp only[Vl,R1]
  exact aR.append h (aR.SG h n)
theorem aR.length{w:World}{I:Nat->Prop}:∀{xs:List PV} {us:List Value},aR w I xs us->us.length=xs.length
 | [],us,h=>by simp[aR] at h;simp[h]
 | x::xs,us,h=>by
  obtain⟨u,us',rfl,_,h2⟩:=h
  simp[aR.length h2]
def oz(P:Program)(t:TypeId):Option (TypeId×List PV):=
 match P.underlying t with
 | some (.slice e)=>match cO P e,fm P e with
   | some z,some (_,n)=>if (o3 z).length=n∧0<n∧iu (.p z)=true then some (e,o3 z) else none
   | _,_=>none
 | _=>none
theorem eg{t:TypeId}{e:TypeId}{z:List PV}(h:oz P t=some (e,z)):P.underlying t=some (.slice e)∧(∃ b,fm P e=some (b,z.length))∧0<z.length∧∀ w,∃ u:Value,(zeroValue e).run P w= .ok u w∧∀ I,aR w I z u.cells.toList:=by
 unfold oz at h
 split at h
 ·rename_i e' hu
  split at h
  ·rename_i z' b n hz ht
   split at h
   ·rename_i hc
    simp at h
    obtain⟨rfl,rfl⟩:=h
    refine⟨hu,⟨b,by rw[hc.1];exact ht⟩,by rw[hc.1];exact hc.2.1,fun w=> ?_⟩
    obtain⟨u,h1,h2⟩:=kQ hz w
    exact⟨u,h1,fun I=>ag.pure.1 (iX (P:=P) (ρ:=[]) (v:= .p z') (h2 I) hc.2.2)⟩
   ·cases h
  ·cases h
 ·cases h
theorem jl{w:World}{I:Nat->Prop}{ρ:List Nat}{a:Act}{t e:TypeId}{len:Nat}{parts:Array (Nat×Operand)}{z:List PV}{vs:List (Nat×V)}{r:List V}(hs:oz P t=some (e,z))(hlen:len*z.length<=16777216)(hT:bn P w I ρ N T a.tmps)(hv:iq T parts.toList=some vs)
    (hr:iM ((List.range len).map fun i=>(i*z.length,z.length)) ((List.replicate len z).flatten.map .p) vs=some r):
    ∃ arr:Array Value,ag P w I ρ r arr.toList∧arr.size=len*z.length∧(Instr.buildSlice t len (parts.map fun(x:Nat×Operand)=>(x.1,a.eval x.2))).run P w= .ok (.slice (some ⟨w.heap.size,0,none⟩) len len) (w.alloc (.cells arr e)):=by
 obtain⟨hu,⟨b,ht⟩,uL,hz⟩:=eg hs
 obtain⟨hm,cu⟩:=mU hT hv
 obtain⟨u,h1,h2⟩:=hz w
 have h3:=h2 I
 have h4:=aR.length h3
 have hcells:∀ Qd:Array Value,Qd.toList=(List.replicate len u.cells.toList).flatten->∃ c5,Instr.fill (fun i=>some (i*z.length,z.length)) Qd (parts.toList.map fun x=>(x.1,a.eval x.2))=some c5∧ag P w I ρ r c5.toList:=by
  intro Qd h0
  refine qS (ps:=(List.range len).map fun i=>(i*z.length,z.length)) (fun i x h=> ?_) vs _ _ Qd r hm cu ?_ hr
  ·simp[Zt,Zl] at h
   obtain⟨a',ha,rfl⟩:=h
   rw[XM] at ha
   ·simp at ha;subst ha;rfl
   ·rcases ZD i len with h' | h'
    ·exact h'
    ·rw[ZE (by simpa using h')] at ha;cases ha
  ·rw[h0]
   exact ag.pure.2 (aR.SG h3 len)
 have hrl:r.length=len*z.length:=by
  have gen:∀(vs:List (Nat×V)) (cs r:List V) (ps:List (Nat×Nat)),iM ps cs vs=some r->r.length=cs.length:=by
   intro vs
   induction vs with
   | nil=>intro cs r ps h;simp[iM] at h;rw[h]
   | cons x vs ih=>
    intro cs r ps h
    obtain⟨i,v⟩:=x
    simp only[iM] at h
    split at h
    ·cases h
    ·split at h
     ·have:=ih _ _ _ h;rw[this,fI]
     ·cases h
  rw[gen _ _ _ _ hr]
  simp
 have hnot:¬ (len*z.length>2^24):=by
  have:(2:Nat)^24=16777216:=by decide
  omega
 by_cases hl0:len*z.length=0
 ·have VI:len=0:=by
    rcases Nat.mul_eq_zero.1 hl0 with h | h
    ·exact h
    ·omega
  subst VI
  obtain⟨c5,h5,h6⟩:=hcells #[] (by simp)
  refine⟨c5,h6,?_,?_⟩
  ·have:=ag.length h6;rw[hrl] at this;simpa using this
  ·simp only[Instr.buildSlice,Sem.run_bind,run_underlying hu,Result.andThen,aK ht]
   simp[newRow,newObj,Sem.run]
   simp only[Array.size,OE] at h5 ⊢
   rw[show(#[]:Array Value)=Array.map (fun(x:Nat)=>(#[]:Array Value)[x%0]!) (Array.range 0) by simp] at h5
   simp at h5
   simp[h5]
   rfl
 ·obtain⟨c5,h5,h6⟩:=hcells ((Array.range (len*z.length)).map (u.cells[· %u.cells.size]!)) (by
    have h7:u.cells.size=z.length:=by simpa using h4
    have:=yU u.cells.toList (by rw[h4];exact uL) len
    rw[<- this]
    simp only[Array.toList_map,Array.toList_range,Gj,h7]
    apply U4
    intro i _
    have hlt:i%z.length<u.cells.size:=by rw[h7];exact Nat.mod_lt _ uL
    simp[hlt])
  refine⟨c5,h6,?_,?_⟩
  ·have:=ag.length h6;rw[hrl] at this;simpa using this
  ·have e1:((parts.map fun(x:Nat×Operand)=>(x.1,a.eval x.2)).toList)=parts.toList.map fun x=>(x.1,a.eval x.2):=by simp
   simp only[Instr.buildSlice,Sem.run_bind,run_underlying hu,Result.andThen,aK ht]
   rw[if_neg (by simpa using hnot)]
   simp only[Sem.run_pure,Result.andThen,hl0,if_false,Sem.run_bind,h1,e1,h5]
   simp[newRow,newObj,Sem.run]
end
section
variable {P:Program} {R:Option Nat} {N κ:Nat} {Q Q':Post} {T T':Tm} {H H':List ai} {o:Oper} {ops:Array Oper} {rest:List Oper}
theorem ag.Qv{w:World}{I:Nat->Prop}{ρ:List Nat}(hi:Inv P w I ρ H){vs:List V}{us:List Value}(ob:Obj)(h:ag P w I ρ vs us):ag P (w.alloc ob) (fun b=>I b∨b=w.heap.size) ρ vs us:=ag.ext (Ext.gL hi ob) h
theorem Sl{w:World}{I:Nat->Prop}{ρ:List Nat}(hi:Inv P w I ρ H){xs:List PV}{arr:Array Value}{e:TypeId}{len cap:Nat}(h:ag P w I ρ (xs.map .p) (arr.toList.take xs.length))(hl:xs.length<=arr.size)(hc:len<=cap):
    Rel (w.alloc (.cells arr e)) (fun b=>I b∨b=w.heap.size) (.is xs len) (.slice (some ⟨w.heap.size,0,none⟩) len cap):=by
 have h2:=ag.pure.1 (ag.Qv hi (.cells arr e) h)
 refine .inr ⟨w.heap.size,0,cap,fun _=> .inr rfl,hc,rfl,aT.nO xs _ 0 h2 fun j u hj=> ?_⟩
 rw[ZQ] at hj
 split at hj
 ·rw[World.cell?_alloc_new]
  simpa using hj
 ·cases hj
theorem aa.aQ{t e:TypeId}{len:Nat}{parts:Array (Nat×Operand)}{z:List PV}{vs:List (Nat×V)}{r:List V}{xs:List PV}(ho:o.op= .buildSlice t len parts)(hs:oz P t=some (e,z))(hlen:len*z.length<=16777216)(hv:iq T parts.toList=some vs)
    (hr:iM ((List.range len).map fun i=>(i*z.length,z.length)) ((List.replicate len z).flatten.map .p) vs=some r)(hp:jF r=some xs):aa P N o T H (.p (.is xs len)) H:=
 aa.dz (by simp[ho]) fun w I ρ a hi hT=>by
  obtain⟨arr,h1,h2,h3⟩:=jl (ρ:=ρ) hs hlen hT hv hr
  rw[dH hp] at h1
  have hl:=ag.length h1
  simp at hl
  refine⟨_,_,_,ρ,.inl (by simp only[execOp,ho,Sem.run_bind];rw[show(Array.map (fun(x:Nat×Operand)=>match x with | (i,x)=>(i,a.eval x)) parts)=parts.map fun(x:Nat×Operand)=>(x.1,a.eval x.2) from rfl,h3];rfl),Ext.gL hi _,Inv.gL hi _,?_⟩
  exact Sl hi (by rw[<- hl,<- Gj,ZS];exact h1) (by omega) (Ze _)
theorem aa.Bw{t e:TypeId}{len:Nat}{parts:Array (Nat×Operand)}{z:List PV}{vs:List (Nat×V)}{r:List V}(ho:o.op= .buildSlice t len parts)(hs:oz P t=some (e,z))(hlen:len*z.length<=16777216)(hv:iq T parts.toList=some vs)
    (hr:iM ((List.range len).map fun i=>(i*z.length,z.length)) ((List.replicate len z).flatten.map .p) vs=some r):aa P N o T H (.row H.length len) (H++[.row r e]):=
 aa.dz (by simp[ho]) fun w I ρ a hi hT=>by
  obtain⟨arr,h1,h2,h3⟩:=jl (ρ:=ρ) hs hlen hT hv hr
  obtain⟨hu,⟨b,ht⟩,uL,hz⟩:=eg hs
  have hE:Ext w I ρ (w.alloc (.cells arr e)) I (ρ++[w.heap.size]):=Ext.aO hi _
  have hl:=ag.length h1
  simp at hl
  refine⟨_,_,_,_,.inl (by simp only[execOp,ho,Sem.run_bind];rw[show(Array.map (fun(x:Nat×Operand)=>match x with | (i,x)=>(i,a.eval x)) parts)=parts.map fun(x:Nat×Operand)=>(x.1,a.eval x.2) from rfl,h3];rfl),hE,Inv.aO hi _ ⟨arr,heap_alloc_new w _,by omega,?_⟩,?_⟩
  ·rw[<- hl,OB (by simp)]
   exact ag.ext hE h1
  ·refine⟨w.heap.size,e,len,by rw[<- hi.len];simp,rfl,?_,Ze _⟩
   obtain⟨d,i,_,h5,_,h6⟩:=iC ht
   simp only[World.shape?,heap_alloc_new,h2,Program.cellsOf,h5,Q4,LR,h6]
def gf(T:Tm):Option Operand->Nat->Nat->Prop
 | none,d,n=>n=d
 | some x,_,n=>∃ k,ev T x=some (.p (.int k (n:Int)))
theorem nN{w:World}{k:IntKind}{n y:Nat}{code:BoundsCode}(h:n<=y):(Instr.sliceBound (.int k (n:Int)) y code).run P w= .ok n w:=by
 have h1:(0:Int)<=n:=by omega
 have h2:(n:Int)<=(y:Int):=by omega
 simp[Instr.sliceBound,dN,h1,h2]
theorem lR{w:World}{I:Nat->Prop}{ρ:List Nat}{a:Act}(hT:bn P w I ρ N T a.tmps){lo hi:Option Operand}{Ov:Bool}{len cap l h:Nat}(hl:gf T lo 0 l)(hh:gf T hi len h)(h1:l<=h)(h2:h<=cap):
    (Instr.sliceBounds Ov len cap (lo.map a.eval) (hi.map a.eval) none).run P w= .ok (l,h,cap) w:=by
 have e1:∀ x:Operand,hi=some x->∃ k,a.eval x= .int k (h:Int):=fun x hx=>by
  subst hx
  obtain⟨k,hk⟩:=hh
  exact⟨k,cS hT hk⟩
 have e2:∀ x:Operand,lo=some x->∃ k,a.eval x= .int k (l:Int):=fun x hx=>by
  subst hx
  obtain⟨k,hk⟩:=hl
  exact⟨k,cS hT hk⟩
 cases hi with
 | none=>
  simp only[gf] at hh
  subst hh
  cases lo with
  | none=>
   simp only[gf] at hl
   subst hl
   simp[Instr.sliceBounds]
  | some x=>
   obtain⟨k,hk⟩:=e2 x rfl
   simp[Instr.sliceBounds,hk,nN h1]
 | some y=>
  obtain⟨k',hk'⟩:=e1 y rfl
  cases lo with
  | none=>
   simp only[gf] at hl
   subst hl
   simp[Instr.sliceBounds,hk',nN h2]
  | some x=>
   obtain⟨k,hk⟩:=e2 x rfl
   simp[Instr.sliceBounds,hk,hk',nN h1,nN h2]
theorem aa.ox{x:Operand}{t:TypeId}{lo hi:Option Operand}{cs r:List PV}{len l h sz:Nat}(ho:o.op= .slice t x lo hi none)(hx:ev T x=some (.p (.is cs len)))(ht:dY P t=true)(he:ou P t=some sz)(hl:gf T lo 0 l)(hh:gf T hi len h)(h1:l<=h)(h2:h<=len)
    (hr:(cs.drop (l*sz)).take ((h - l)*sz)=r):aa P N o T H (.p (.is r (h - l))) H:=
 aa.aN (by simp[ho]) fun w I ρ a hi' hT=>by
  cases hu:P.underlying t with
  | none=>simp[dY,hu] at ht
  | some d=>
   cases d <;> simp[dY,hu] at ht
   rename_i e
   simp only[ou,hu,Zl] at he
   obtain⟨⟨b,m⟩,htm,rfl⟩:=he
   rcases hT.ev hx with⟨⟨ad,cp,pE⟩,hz⟩ | ⟨blk,off,cap,hb,hle,pE,eK⟩
   ·subst hz
    have hl0:l=0:=by omega
    have hh0:h=0:=by omega
    subst hl0 hh0
    have JW:=lR (Ov:=true) (cap:=cp) hT hl hh (Ze _) (Zv _)
    cases ad with
    | none=>
     refine⟨.slice none 0 cp,?_,?_⟩
     ·simp[execOp,ho,Instr.sliceAt,run_underlying hu,pE,Instr.slice,JW,aK htm]
     ·exact .inl ⟨⟨_,_,rfl⟩,by simp⟩
    | some ad=>
     refine⟨.slice (some ad) 0 cp,?_,?_⟩
     ·simp[execOp,ho,Instr.sliceAt,run_underlying hu,pE,Instr.slice,JW,aK htm,Addr.add]
     ·exact .inl ⟨⟨_,_,rfl⟩,by simp⟩
   ·have JW:=lR (Ov:=true) (cap:=cap) hT hl hh h1 (by omega)
    refine⟨.slice (if cap=l then some ⟨blk,off,none⟩ else some ⟨blk,off+l*m,none⟩) (h - l) (cap - l),?_,?_⟩
    ·simp[execOp,ho,Instr.sliceAt,run_underlying hu,pE,Instr.slice,JW,aK htm,cF]
    ·by_cases hc:cap=l
     ·have:h - l=0:=by omega
      rw[this,Nat.zero_mul,Ml] at hr
      subst hr
      rw[if_pos hc,this]
      exact .inr ⟨blk,off,cap - l,fun h=>absurd rfl h,by omega,rfl,by simp[aT]⟩
     ·rw[if_neg hc,<- hr]
      refine .inr ⟨blk,off+l*m,cap - l,fun hn=>hb (fun h0=>hn (by rw[h0];simp)),by omega,rfl,aT.take _ (aT.drop _ eK)⟩
theorem aa.LG{x:Operand}{t:TypeId}{lo hi:Option Operand}{s:ByteArray}{l h:Nat}(ho:o.op= .slice t x lo hi none)(hx:ev T x=some (.p (.str s)))(ht:P.underlying t=some .string)(hl:gf T lo 0 l)(hh:gf T hi s.size h)(h1:l<=h)(h2:h<=s.size):
    aa P N o T H (.p (.str (s.extract l h))) H:=
 aa.aN (by simp[ho]) fun w I ρ a hi' hT=>by
  have hst:=jt hT hx
  have JW:=lR (Ov:=false) (cap:=s.size) hT hl hh h1 h2
  exact⟨.string (s.extract l h),by simp[execOp,ho,Instr.sliceAt,run_underlying ht,hst,Instr.slice,JW],by simp[az,Rel]⟩
def oV(H:List ai)(sz:Nat):V->Option (List V×Nat)
 | .p (.is ys n)=>if ys.length=n*sz then some (ys.map .p,n) else none
 | .p .nilSlice=>some ([],0)
 | .row j n=>match bR H[j]? with
   | some cs=>if n*sz<=cs.length then some (cs.take (n*sz),n) else none
   | none=>none
 | .sl j off n=>match bR H[j]? with
   | some cs=>if off+n*sz<=cs.length then some ((cs.drop off).take (n*sz),n) else none
   | none=>none
 | _=>none
theorem kN{w:World}{I:Nat->Prop}{ρ:List Nat}{sz n:Nat}{y:V}{ys:List V}{u:Value}(hi:Inv P w I ρ H)(hy:az P w I ρ y u)(h:oV H sz y=some (ys,n)):
    ∃ us:List Value,(∃ ad cap,u= .slice ad n cap)∧(∀ w':World,(∀ b,b<w.heap.size->w'.heap[b]? =w.heap[b]?)->(Builtin.firstCells sz n u).run P w'= .ok us.toArray w')∧(∀ k,k<=n->(Builtin.firstCells sz k u).run P w= .ok (us.take (k*sz)).toArray w)∧ag P w I ρ ys us∧us.length=n*sz:=by
 have fin:∀(blk off cap:Nat) (us:List Value),u= .slice (some ⟨blk,off,none⟩) n cap->us.length=n*sz->(∀ j v,us[j]? =some v->w.cell? ⟨blk,off+j,none⟩=some v)->ag P w I ρ ys us->
     ∃ us:List Value,(∃ ad cap,u= .slice ad n cap)∧(∀ w':World,(∀ b,b<w.heap.size->w'.heap[b]? =w.heap[b]?)->(Builtin.firstCells sz n u).run P w'= .ok us.toArray w')∧(∀ k,k<=n->(Builtin.firstCells sz k u).run P w= .ok (us.take (k*sz)).toArray w)∧ag P w I ρ ys us∧us.length=n*sz:=by
  intro blk off cap us hu hl hc hr
  refine⟨us,⟨_,_,hu⟩,fun w' hw'=> ?_,fun k hk=> ?_,hr,hl⟩
  ·rw[hu]
   have:=run_loadCells_list (P:=P) w' ⟨blk,off,none⟩ us (fun j v hj=>by
    rw[cF]
    have h1:=hc j v hj
    have hlt:=World.block_lt_of_cell? _ _ h1
    exact(oL (hw' blk hlt)).trans h1)
   rw[hl] at this
   simpa[Builtin.firstCells] using this
  ·rw[hu]
   have:=run_loadCells_list (P:=P) w ⟨blk,off,none⟩ (us.take (k*sz)) (fun j v hj=>by
    rw[cF]
    rw[ZQ] at hj
    split at hj
    ·exact hc j v hj
    ·cases hj)
   rw[x7,hl,Kv (HK _ hk)] at this
   simpa[Builtin.firstCells] using this
 unfold oV at h
 split at h
 ·rename_i xs m
  split at h
  ·rename_i hlen
   simp at h
   obtain⟨rfl,rfl⟩:=h
   rcases hy with⟨⟨ad,cp,hu⟩,hz⟩ | ⟨b,o',cap,hb,hle,hu,eK⟩
   ·subst hz
    have hcs:xs=[]:=by simpa using hlen
    subst hcs
    refine⟨[],⟨_,_,hu⟩,fun w' _=>by rw[hu];cases ad <;> simp[Builtin.firstCells,loadCells,loadCellsFrom],fun k hk=> ?_,by simp[ag],by simp⟩
    have:k=0:=by omega
    subst this
    rw[hu];cases ad <;> simp[Builtin.firstCells,loadCells,loadCellsFrom]
   ·obtain⟨us,h1,h2,h3⟩:=aT.list eK
    exact fin b o' cap us hu (by rw[h2,hlen]) h3 (ag.pure.2 h1)
  ·cases h
 ·simp at h
  obtain⟨rfl,rfl⟩:=h
  have hu:u= .slice none 0 0:=hy
  refine⟨[],⟨_,_,hu⟩,fun w' _=>by rw[hu];simp[Builtin.firstCells],fun k hk=> ?_,by simp[ag],by simp⟩
  rw[hu];simp[Builtin.firstCells]
 ·rename_i j m
  split at h
  ·rename_i cs hc
   split at h
   ·rename_i hle
    simp at h
    obtain⟨rfl,rfl⟩:=h
    obtain⟨b,e,cap,hρ,hu,_,_⟩:=hy
    obtain⟨b',arr,e',xg,hw,hl,hr⟩:=ia hi hc
    rw[hρ] at xg;cases xg
    refine fin b 0 cap ((arr.toList.take cs.length).take (m*sz)) hu (by simp;omega) (fun j v hj=> ?_) (ag.take _ hr)
    rw[ZQ] at hj
    split at hj
    ·rw[ZQ] at hj
     split at hj
     ·exact pJ
     ·cases hj
    ·cases hj
   ·cases h
  ·cases h
 ·rename_i j off m
  split at h
  ·rename_i cs hc
   split at h
   ·rename_i hle
    simp at h
    obtain⟨rfl,rfl⟩:=h
    obtain⟨b,cap,hρ,hu,_⟩:=hy
    obtain⟨b',arr,e',xg,hw,hl,hr⟩:=ia hi hc
    rw[hρ] at xg;cases xg
    refine fin b off cap (((arr.toList.take cs.length).drop off).take (m*sz)) hu (by simp;omega) (fun j v hj=> ?_) (ag.take _ (ag.drop _ hr))
    rw[ZQ] at hj
    split at hj
    ·rw[R8,ZQ] at hj
     split at hj
     ·exact pJ
     ·cases hj
    ·cases hj
   ·cases h
  ·cases h
 ·cases h
theorem js{need cap:Nat}(h:cap<need):Builtin.nextslicecap need cap<=2*need+192:=by
 unfold Builtin.nextslicecap
 split
 ·omega
 ·split
  ·omega
  ·have grow:∀(r c:Nat),c<need->Builtin.growBy need r c<=2*need+192:=by
     intro r
     induction r with
     | zero=>intro c hc;simp[Builtin.growBy];omega
     | succ r ih=>
      intro c hc
      simp only[Builtin.growBy]
      rw[if_neg (by omega)]
      by_cases h2:c+(c+768) / 4<need
      ·exact ih _ h2
      ·cases r with
       | zero=>simp only[Builtin.growBy];omega
       | succ r=>simp only[Builtin.growBy];rw[if_pos (by omega)];omega
   exact grow 4 cap h
theorem qT(cs:List V):∀(vs ts pre:List V),ts.length=vs.length->setAt (cs++pre++ts) (cs.length+pre.length) vs=cs++pre++vs
 | [],ts,pre,h=>by
  have:ts=[]:=by simpa using h
  subst this
  simp[setAt]
 | v::vs,ts,pre,h=>by
  match ts,h with
  | t::ts,h=>
   simp only[setAt]
   have e1:(cs++pre++t::ts).set (cs.length+pre.length) v=cs++(pre++[v])++ts:=by
    rw[show cs.length+pre.length=(cs++pre).length by simp,List.set_append_right _ _ (Ze _)]
    simp
   rw[e1]
   have:=qT cs vs ts (pre++[v]) (by simpa using h)
   rw[show cs.length+pre.length+1=cs.length+(pre++[v]).length by simp;omega,this]
   simp
theorem ag.WZ{w:World}{I:Nat->Prop}{ρ:List Nat}:∀(us:List Value),ag P w I ρ (List.replicate us.length .top) us
 | []=>by simp[ag]
 | u::us=>⟨u,us,rfl,trivial,ag.WZ us⟩
def wG(P:Program)(e:TypeId):Option Nat:=(P.info? e).map (·.bytes)
theorem zk{w:World}{I:Nat->Prop}{ρ:List Nat}:∀{vs:List V} {us:List Value},ag P w I ρ vs us->vs.all jB=true->∀ u∈us,zB u=true
 | [],us,h,_,u,hu=>by simp[ag] at h;subst h;cases hu
 | v::vs,us,h,ha,u,hu=>by
  obtain⟨u0,us',rfl,h3,h4⟩:=h
  simp only[Sv,Zk] at ha
  rcases Zr.1 hu with rfl | hu
  ·exact lO h3 ha.1
  ·exact zk h4 ha.2 u hu
theorem run_append_grow{w:World}{t t2 e d2:TypeId}{ty:TypeId}{bb:Bool}{sz len cap n wY:Nat}{base ad:Option Addr}{inf:TypeInfo}{old new:Array Value}{uz:Value}(hu:P.underlying t=some (.slice e))(lH:fm P e=some (bb,sz))(o4:P.underlying t2=some (.slice d2))
    (jI:P.info? e=some inf)(hsmall:¬ (Builtin.nextslicecap (len+n) cap*inf.bytes>2^48))(mc:((len+n:Nat):Int)<=IntKind.i64.max)(hroom:¬ len+n<=cap)(hold:(Builtin.firstCells sz len (.slice base len cap)).run P w.drew= .ok old w.drew)
    (hnew:(Builtin.firstCells sz n (.slice ad n wY)).run P w.drew= .ok new w.drew)(hz:(zeroValue e).run P w.drew= .ok uz w.drew):
    (Builtin.append_ #[t,t2] ty #[.slice base len cap,.slice ad n wY]).run P w= .ok (.slice (some ⟨w.heap.size,0,none⟩) (len+n) ((Question.appendCap (len+n) cap e).cut (w.tape w.drawn (.appendCap (len+n) cap e))))
     (w.drew.alloc (.cells (old++new++Builtin.zeroCells uz.cells ((Question.appendCap (len+n) cap e).cut (w.tape w.drawn (.appendCap (len+n) cap e)) - (len+n))) e)):=by
 have Dn:∀ k w,(askRoom k).run P w= .ok () w:=fun k w=>by
  exact pK
 have Vf:(choose (.appendCap (len+n) cap e)).run P w= .ok ((Question.appendCap (len+n) cap e).cut (w.tape w.drawn (.appendCap (len+n) cap e))) w.drew:=by
  simp[choose,Sem.run,Question.forced]
 have h1:¬ (9223372036854775807<(len:Int)+(n:Int)):=by
  exact Cr
 have Aj:¬ (281474976710656<Builtin.nextslicecap (len+n) cap*inf.bytes):=by
  exact qL
 have hf:(Question.appendCap (len+n) cap e).forced=false:=rfl
 simp[Builtin.append_,run_underlying hu,aK lH,run_underlying o4,Builtin.lenOf,hroom]
 simp only[run_typeInfo w jI,Result.andThen]
 simp[h1,Aj,hf,run_typeInfo w jI,Vf,run_typeInfo w.drew jI,Dn,hold,hnew,hz,newRow,newObj,Sem.run]
 rfl
theorem aa.rE{x y:Operand}{t t2 e:TypeId}{z:List PV}{i len n gI:Nat}{cs ys:List V}{yv:V}(ho:o.op= .call {callee:= .builtin .append,args:= #[x,y],argTypes:= #[t,t2]})(hx:ev T x=some (.row i len))(hy:ev T y=some yv)(hs:oz P t=some (e,z))(jz:dY P t2=true)
    (hH:H[i]? =some (.row cs e))(hcs:cs.length=len*z.length)(hsrc:oV H z.length yv=some (ys,n))(hone:ys.all jB=true)(hby:wG P e=some gI)(hb0:0<gI)(hb:(2*(len+n)+192)*gI<=281474976710656):
    aa P N o T H (.row H.length (len+n)) (H.set i .dead++[.row (cs++ys) e]):=
 aa.dz (by simp[ho]) fun w I ρ a hi hT=>by
  obtain⟨hu,⟨bb,lH⟩,uL,hz⟩:=eg hs
  obtain⟨b,e',cap,hρ,FU,hsh,hle⟩:=hT.ev hx
  obtain⟨us,⟨ad,wY,Au⟩,hfc,_,cu,hlen⟩:=kN hi (hT.ev hy) hsrc
  obtain⟨arr,hw,hal,har⟩:=hi.rel i b _ hρ hH
  have hce:P.cellsOf e=z.length:=by
   exact mH
  have hsz:e'=e∧arr.size=cap*z.length:=by
   exact Co
  obtain⟨rfl,hsz⟩:=hsz
  have hinfo:∃ inf,P.info? e'=some inf∧inf.bytes=gI:=by
   exact A5
  obtain⟨inf,jI,zI⟩:=hinfo
  have o4:∃ d2,P.underlying t2=some (.slice d2):=by
   exact pO
  obtain⟨d2,o4⟩:=o4
  have hun:∀ u∈us,zB u=true:=zk cu hone
  have uC:=ag.length cu
  have dV:(ai.row cs e').live=true:=rfl
  have hcl:=ag.length har
  by_cases hroom:len+n<=cap
  ·-- there is room
   have hfit:len*z.length+0+us.length<=arr.size:=by
    rw[hlen,hsz,Kk,<- EV]
    exact HK _ hroom
   obtain⟨w',c5,r1,r2,r3,r4,r5,r6,r7,r8,r9⟩:=eU (P:=P) (w:=w) us arr w (len*z.length) 0 hw hfit hun
   have hE:Ext w I ρ w' I ρ:=Ext.write hi hρ hH dV r5 r6 r7 r8 r9 (fun s h=>by
    simp only[World.shape?,hw] at h
    simp only[World.shape?,r2,r3]
    exact h)
   have xd:ag P w' I ρ (cs++ys) (c5.toList.take (cs++ys).length):=by
    exact BF
   have oO:Ext w' I ρ w' I (ρ++[b]):=⟨⟨rfl,rfl,rfl,Ze _,fun _ _ _=>rfl,fun _ _ h=>h,fun _ h=>h,fun _ _=>rfl,fun _ h=> .inl h,fun _ h=>h,fun _ _ h=>h,fun k hk=>by
    rcases Zp.1 hk with h | h
    ·exact .inl h
    ·simp at h;subst h;exact .inl (Zh hρ)⟩,⟨_,rfl⟩⟩
   have hi1:Inv P w' I ρ (H.set i .dead):=Inv.write hi hρ hH dV hE r8 r9 trivial
   have hilt:i<H.length:=(Za.1 hH).1
   have hi2:Inv P w' I (ρ++[b]) (H.set i .dead++[.row (cs++ys) e']):=by
    refine⟨by simp[hi.len],fun j k blk h1 h2 h3=> ?_,hi1.ib,fun j k blk h1 h2 h3 h4=> ?_,fun j j' k bx by2 h1 h2 h3 h4 h5 h6=> ?_,fun j k blk h1 h2=> ?_,hi1.gl⟩
    ·exact CS
    ·exact ED
    ·exact Ba
    ·rcases br h1 with⟨h5,h6⟩ | ⟨h5,h6⟩
     ·exact A9
     ·subst h6
      have hj:j=(H.set i .dead).length:=by simp[<- hi.len];exact h5
      subst hj
      simp at h2
      subst h2
      refine⟨c5,r2,?_,ag.ext oO xd⟩
      exact AS
   refine⟨.slice (some ⟨b,0,none⟩) (len+n) cap,w',I,ρ++[b],.inl ?_,hE.trans oO,hi2,b,e',cap,by rw[<- hi.len];simp,rfl,?_,hroom⟩
   ·simp[execOp,ho,resolve,invoke,builtin,Builtin.append_,run_underlying hu,FU,aK lH,run_underlying o4,Au,Builtin.lenOf,hroom]
    rw[Au] at hfc
    simp only[hfc w (fun _ _=>rfl),Result.andThen,cF,yy,r1]
   ·simp only[World.shape?,r2,r3,hsz,hce]
  ·-- a new array
   have zb:∀ q,len+n<=(Question.appendCap (len+n) cap e').cut q:=fun q=>Ui _ _
   obtain⟨uz,hz1,EU⟩:=hz w.drew
   have hzl:=aR.length (EU I)
   have I4:uz.cells.size=z.length:=by simpa using hzl
   have hnext:=js (need:=len+n) (cap:=cap) (by omega)
   have hsmall:¬ (Builtin.nextslicecap (len+n) cap*gI>2^48):=by
    have h1:=HK gI hnext
    exact qL
   let newCap:=(Question.appendCap (len+n) cap e').cut (w.tape w.drawn (.appendCap (len+n) cap e'))
   have hnc:len+n<=newCap:=zb _
   have hold:(Builtin.firstCells z.length len (.slice (some ⟨b,0,none⟩) len cap)).run P w.drew= .ok (arr.toList.take (len*z.length)).toArray w.drew:=by
    exact CZ
   have hnew:=hfc w.drew (fun _ _=>rfl)
   let eM:Array Value:=(arr.toList.take (len*z.length)).toArray++us.toArray++Builtin.zeroCells uz.cells (newCap - (len+n))
   have xH:Ext w I ρ w.drew I ρ:=Ext.drew
   have hi1:Inv P w.drew I ρ H:=hi.drew
   have oO:Ext w.drew I ρ (w.drew.alloc (.cells eM e')) I (ρ++[w.drew.heap.size]):=Ext.aO hi1 _
   have hi2:Inv P (w.drew.alloc (.cells eM e')) I (ρ++[w.drew.heap.size]) (H++[.row (cs++ys) e']):=by
    refine Inv.aO hi1 _ ⟨eM,heap_alloc_new _ _,?_,ag.ext oO (ag.ext xH ?_)⟩
    ·exact Dm
    ·exact Es
   have hilt:i<H.length:=(Za.1 hH).1
   have Aw:Inv P (w.drew.alloc (.cells eM e')) I (ρ++[w.drew.heap.size]) (H.set i .dead++[.row (cs++ys) e']):=by
    have oG:H.set i .dead++[ai.row (cs++ys) e']=(H++[ai.row (cs++ys) e']).set i .dead:=by rw[List.set_append_left _ _ hilt]
    rw[oG]
    have qZ:(ρ++[w.drew.heap.size])[i]? =some b:=by
     rw[Zc (by rw[hi.len];exact hilt)]
     exact hρ
    have X9:(H++[ai.row (cs++ys) e'])[i]? =some (ai.row cs e'):=by
     rw[Zc hilt];exact hH
    exact Inv.write hi2 qZ X9 dV (Ext.refl _ _ _) rfl (fun _ _=>rfl) trivial
   refine⟨.slice (some ⟨w.heap.size,0,none⟩) (len+n) newCap,w.drew.alloc (.cells eM e'),I,ρ++[w.drew.heap.size],.inl ?_,xH.trans oO,Aw,w.heap.size,e',newCap,by rw[<- hi.len];simp,rfl,?_,hnc⟩
   ·rw[Au] at hnew
    have mc:((len+n:Nat):Int)<=IntKind.i64.max:=by
     have h1:=Nat.le_mul_of_pos_right (2*(len+n)+192) hb0
     exact uX
    have:=run_append_grow (P:=P) (w:=w) (t:=t) (t2:=t2) (ty:=o.type) hu lH o4 jI (by rw[zI];exact hsmall) mc hroom hold hnew hz1
    simp only[execOp,ho,resolve,invoke,builtin,Sem.run_bind]
    exact vt
   ·exact Bo
end
mutual
def aW(σ:Nat->Option Nat):V->V
 | .p x=> .p x
 | .ptr i off=>match σ i with
   | some j=> .ptr j off
   | none=> .top
 | .row i len=>match σ i with
   | some j=> .row j len
   | none=> .top
 | .sl i off len=>match σ i with
   | some j=> .sl j off len
   | none=> .top
 | .map i=>match σ i with
   | some j=> .map j
   | none=> .top
 | .func fn fi ca=> .func fn (bq σ fi) (bq σ ca)
 | .iface t v=> .iface t (aW σ v)
 | .agg cs=> .agg (bq σ cs)
 | .tuple cs=> .tuple (bq σ cs)
 | .opt g v=> .opt g (aW σ v)
 | .raw a n c=> .raw a n c
 | .z0=> .z0
 | .top=> .top
def bq(σ:Nat->Option Nat):List V->List V
 | []=>[]
 | v::vs=>aW σ v::bq σ vs
end
def eV(σ:Nat->Option Nat):Tm->Tm
 | []=>[]
 | (s,v)::r=>(s,aW σ v)::eV σ r
def aD(σ:Nat->Option Nat):ai->ai
 | .cells cs e=> .cells (bq σ cs) e
 | .row cs e=> .row (bq σ cs) e
 | .gJ cs e=> .gJ (bq σ cs) e
 | .map ks vs=> .map (bq σ ks) (bq σ vs)
 | .nQ s p=> .nQ s p
 | .mapIter ks vs last=> .mapIter ks vs last
 | .loop r st pe=> .loop {r with T:=eV σ r.T} st pe
 | .dead=> .dead
section
variable {P:Program} {w:World} {I:Nat->Prop} {ρ ρ2:List Nat} {σ:Nat->Option Nat}
mutual
theorem eY(hσ:∀ i j b:Nat,σ i=some j->ρ[i]? =some b->ρ2[j]? =some b):∀(v:V) (u:Value),az P w I ρ v u->az P w I ρ2 (aW σ v) u
 | .p x,u,h=>h
 | .ptr i off,u,h=>by
  exact Bv
 | .row i len,u,h=>by
  simp only[aW]
  split
  ·rename_i j hj
   obtain⟨b,e,cap,h1,h2⟩:=h
   exact⟨b,e,cap,hσ i j b hj h1,h2⟩
  ·trivial
 | .sl i off len,u,h=>by
  simp only[aW]
  split
  ·rename_i j hj
   obtain⟨b,cap,h1,h2⟩:=h
   exact⟨b,cap,hσ i j b hj h1,h2⟩
  ·trivial
 | .map i,u,h=>by
  exact Bv
 | .func fn fi ca,u,h=>by
  obtain⟨us,vs,hu,h1,h2⟩:=h
  exact⟨us,vs,hu,ep hσ fi _ h1,ep hσ ca _ h2⟩
 | .iface t v,u,h=>by
  obtain⟨x,hu,h1⟩:=h
  exact⟨x,hu,eY hσ v x h1⟩
 | .agg cs,u,h=>by
  obtain⟨us,hu,h1⟩:=h
  exact⟨us,hu,ep hσ cs _ h1⟩
 | .tuple cs,u,h=>by
  obtain⟨us,hu,h1⟩:=h
  exact⟨us,hu,ep hσ cs _ h1⟩
 | .opt g v,u,h=>⟨fun hg=>eY hσ v u (h.1 hg),h.2⟩
 | .raw _ _ _,u,h=>h
 | .z0,u,h=>h
 | .top,u,h=>trivial
theorem ep(hσ:∀ i j b:Nat,σ i=some j->ρ[i]? =some b->ρ2[j]? =some b):∀(vs:List V) (us:List Value),ag P w I ρ vs us->ag P w I ρ2 (bq σ vs) us
 | [],us,h=>h
 | v::vs,us,h=>by
  obtain⟨u,us',hu,h1,h2⟩:=h
  exact⟨u,us',hu,eY hσ v u h1,ep hσ vs us' h2⟩
end
theorem di(σ:Nat->Option Nat):∀ vs:List V,(bq σ vs).length=vs.length
 | []=>rfl
 | _::vs=>by simp[bq,di σ vs]
theorem pM(σ:Nat->Option Nat):∀(T:Tm) (s:Nat),lk (eV σ T) s=(lk T s).map (aW σ)
 | [],s=>rfl
 | (a,v)::r,s=>by
  simp only[eV,lk]
  cases Nat.beq a s with
  | true=>rfl
  | false=>exact pM σ r s
theorem jC(hσ:∀ i j b:Nat,σ i=some j->ρ[i]? =some b->ρ2[j]? =some b){x:ai}{b:Nat}(h:cN P w I ρ x b):cN P w I ρ2 (aD σ x) b:=by
 cases x with
 | cells cs e=>
  obtain⟨arr,h1,h2⟩:=h
  exact⟨arr,h1,ep hσ cs _ h2⟩
 | row cs e=>
  obtain⟨arr,h1,h2,h3⟩:=h
  exact⟨arr,h1,by rw[di];exact h2,by rw[di];exact ep hσ cs _ h3⟩
 | gJ cs e=>
  obtain⟨arr,m,h1,h0,h2,h3⟩:=h
  exact⟨arr,m,h1,by rw[di];exact h0,by rw[di];exact h2,by rw[di];exact ep hσ cs _ h3⟩
 | map ks vs=>
  obtain⟨es,clock,h1,h2,h3,h4⟩:=h
  exact⟨es,clock,h1,ep hσ ks _ h2,ep hσ vs _ h3,h4⟩
 | nQ s pos=>exact h
 | mapIter ks vs last=>exact h
 | loop r st pe=>
  obtain⟨h0,h1,h3⟩:=h
  refine⟨h0,h1,fun s v hv=> ?_⟩
  rw[show({r with T:=eV σ r.T}:uH).T=eV σ r.T from rfl,pM,Zl] at hv
  obtain⟨v0,h4,rfl⟩:=hv
  exact eY hσ v0 _ (h3 s v0 h4)
 | dead=>trivial
theorem bY{x:ai}:(aD σ x).live=x.live:=by cases x <;> rfl
theorem bn.Y0{N:Nat}{T:Tm}{tmps:Array Value}(hσ:∀ i j b:Nat,σ i=some j->ρ[i]? =some b->ρ2[j]? =some b)(h:bn P w I ρ N T tmps):bn P w I ρ2 N (eV σ T) tmps:=
 ⟨h.size,fun s v hv=>by
  rw[pM,Zl] at hv
  obtain⟨v0,h4,rfl⟩:=hv
  exact eY hσ v0 _ (h.at_ s v0 h4)⟩
end
def To(P:Program)(κ N:Nat)(T:Tm)(H:List ai)(T2:Tm)(H2:List ai):Prop:=
 ∀ w I ρ tmps,Inv P w I ρ H->bn P w I ρ N T tmps->∃ I' ρ',cy w I ρ w I' ρ'∧Inv P w I' ρ' H2∧bn P w I' ρ' N T2 tmps∧∀ L:List Nat,L<+:ρ->L.length<=κ->L<+:ρ'
section
variable {P:Program} {R:Option Nat} {N κ:Nat} {Q Q':Post} {T T' T2 T3:Tm} {H H' H2 H3:List ai} {o:Oper} {ops:Array Oper} {rest:List Oper}
theorem To.refl:To P κ N T H T H:=fun w I ρ tmps hi ht=>⟨I,ρ,cy.refl _ _ _,hi,ht,fun _ h _=>h⟩
theorem To.sub(hs:Sub T2 T):To P κ N T H T2 H:=fun w I ρ tmps hi ht=>⟨I,ρ,cy.refl _ _ _,hi,ht.sub hs,fun _ h _=>h⟩
theorem To.trans(h:To P κ N T H T2 H2)(k:To P κ N T2 H2 T3 H3):To P κ N T H T3 H3:=fun w I ρ tmps hi ht=>by
 obtain⟨I',ρ',h1,h2,h3,h4⟩:=h w I ρ tmps hi ht
 obtain⟨TZ,TX,k1,k2,k3,k4⟩:=k w I' ρ' tmps h2 h3
 exact⟨TZ,TX,h1.trans k1,k2,k3,fun L hL hl=>k4 L (h4 L hL hl) hl⟩
theorem To.freeze(i:Nat){xs:List PV}{vs:List V}(hc:bR H[i]? =some vs)(hp:jF vs=some xs):To P κ N T H (xF i xs T) (H.set i .dead):=fun w I ρ tmps hi ht=>by
 rw[dH hp] at hc
 obtain⟨I',h1,h2,h3⟩:=nv hi hc ht
 exact⟨I',ρ,h1.w,h2,h3,fun _ h _=>h⟩
theorem Marks.to{B:mo}{w:World}{I I':Nat->Prop}{ρ ρ':List Nat}{ds:List Deferred}(h:cy w I ρ w I' ρ')(hp:∀ L:List Nat,L<+:ρ->L.length<=κ->L<+:ρ')(m:Marks κ B w I ρ ds):Marks κ B w I' ρ' ds:=by
 obtain⟨hB,hκ,hpre,rs,h1,h2,h3⟩:=m
 refine⟨hB,hκ,hp _ hpre hκ,rs,h1,h2,fun r hr=> ?_⟩
 obtain⟨h4,h5,h6⟩:=h3 r hr
 exact⟨h4,fun h7=>h5 (h.j9 r h4 h7),h6⟩
theorem aI.to{c:Code}(hto:To P κ N T H T2 H2)(h:aI P R N κ c Q T2 H2):aI P R N κ c Q T H:=by
 intro B w I ρ a hi ht hm
 obtain⟨I',ρ',h1,h2,h3,h4⟩:=hto w I ρ a.tmps hi ht
 exact wpIn_mono (h B w I' ρ' a h2 h3 (hm.to h1 h4)) fun _ _ _ q=>QC.ext h1 q
theorem aj.to{l:List Oper}(hto:To P κ N T H T2 H2)(h:aj P R N κ ops l Q T2 H2):aj P R N κ ops l Q T H:=by
 intro QX B w I ρ a hi ht hm hq
 obtain⟨I',ρ',h1,h2,h3,h4⟩:=hto w I ρ a.tmps hi ht
 exact h QX B w I' ρ' a h2 h3 (hm.to h1 h4) fun e a2 w2 q=>hq e a2 w2 (QC.ext h1 q)
def pl(ks:List Nat)(i:Nat):Option Nat:=ks.idxOf? i
def jf(κ n:Nat)(ks:List Nat):Bool:=(ks.take κ==List.range κ)&&ks.all (fun i=>Nat.blt i n)&&decide ks.Nodup
theorem zD{ks:List Nat}{i j:Nat}(h:pl ks i=some j):ks[j]? =some i:=by
 unfold pl List.idxOf? at h
 rw[Y3] at h
 obtain⟨hj,h1,_⟩:=h
 simp at h1
 simp[hj,h1]
theorem To.keep(ks:List Nat)(hk:jf κ H.length ks=true):To P κ N T H (eV (pl ks) T) (ks.map fun i=>aD (pl ks) (H.getD i .dead)):=by
 intro w I ρ tmps hi ht
 simp only[jf,Zk,beq_iff_eq,Zz,Zj] at hk
 obtain⟨⟨hk1,hk2⟩,hk3⟩:=hk
 have hlt:∀ i∈ks,i<H.length:=fun i h=>by have:=hk2 i h;simpa[Nat.blt,Zw] using this
 have qZ:∀ j i:Nat,ks[j]? =some i->(ks.map fun i=>ρ.getD i 0)[j]? =ρ[i]? :=fun j i h=>by
  exact Ct
 have hσ:∀ i j b:Nat,pl ks i=some j->ρ[i]? =some b->(ks.map fun i=>ρ.getD i 0)[j]? =some b:=fun i j b h hb=>by rw[qZ j i (zD h)];exact hb
 have eK:∀(j b:Nat) (blk:ai),(ks.map fun i=>ρ.getD i 0)[j]? =some b->(ks.map fun i=>aD (pl ks) (H.getD i .dead))[j]? =some blk->∃ i x,ks[j]? =some i∧ρ[i]? =some b∧H[i]? =some x∧blk=aD (pl ks) x:=by
  exact Dl
 refine⟨I,ks.map fun i=>ρ.getD i 0,⟨rfl,rfl,rfl,Ze _,fun _ _ _=>rfl,fun _ _ h=>h,fun _ h=>h,fun _ _=>rfl,fun _ h=> .inl h,fun _ h=>h,fun _ _ h=>h,fun b hb=> ?_⟩,
  ⟨by simp,fun j b blk h1 h2 h3=> ?_,hi.ib,fun j b blk h1 h2 h3=> ?_,fun i j b x y h1 h2 h3 h4 h5 h6=> ?_,fun j b blk h1 h2=> ?_,hi.gl⟩,ht.Y0 hσ,fun L hL hl=> ?_⟩
 ·rw[yu] at hb
  obtain⟨i,h1,rfl⟩:=hb
  have h2:i<ρ.length:=by rw[hi.len];exact hlt i h1
  exact .inl (by simp[h2])
 ·exact Ew
 ·exact Ea
 ·exact Du
 ·exact AD
 ·have e1:L=ρ.take L.length:=WB.1 hL
  have e2:(ks.map fun i=>ρ.getD i 0).take L.length=ρ.take L.length:=by
   have h1:ks.take L.length=List.range L.length:=by
    have:=congrArg (List.take L.length) hk1
    rw[List.take_take,Kv hl,List.take_range,Kv hl] at this
    exact this
   rw[<- List.map_take,h1]
   apply Gg
   intro i
   rw[Zt,ZQ]
   by_cases h:i<L.length
   ·have h2:i<ρ.length:=ZR h hL.length_le
    simp[h,h2]
   ·simp[h]
  rw[WB,e2]
  exact e1
theorem aI.HQ{γ:Type}{c:Code}(S:γ->Tm)(Hs:γ->List ai)(inv:γ->Prop)(μ:γ->Nat)(g0:γ)(h0:inv g0)(hto:To P κ N T H (S g0) (Hs g0))
    (round:∀ g,inv g->aI P R N κ c (AX.then (fun T' H'=>∃ g',inv g'∧μ g'<μ g∧To P κ N T' H' (S g') (Hs g')) Q) (S g) (Hs g)):aI P R N κ (.loop c) Q T H:=by
 intro B w I ρ a hi ht hm
 obtain⟨I0,ρ0,k1,k2,k3,k4⟩:=hto w I ρ a.tmps hi ht
 refine Ah (fun g a' w'=>inv g∧∃ I' ρ',cy w I ρ w' I' ρ'∧Inv P w' I' ρ' (Hs g)∧bn P w' I' ρ' N (S g) a'.tmps∧Marks κ B w' I' ρ' a'.defers) μ g0 ⟨h0,I0,ρ0,k1,k2,k3,hm.to k1 k4⟩ ?_
 rintro g a' w' ⟨hg,I',ρ',he,hi',ht',hm'⟩
 refine wpIn_mono (round g hg B w' I' ρ' a' hi' ht' hm') ?_
 rintro e a2 w2 ⟨z,J,σ,T1,H1,h1,h2,h3,h4,h5,h6⟩
 cases z <;> cases e <;> first | exact h1.elim | skip
 ·obtain⟨g',h7,h8,h9⟩:=h2
  obtain⟨I3,ρ3,m1,m2,m3,m4⟩:=h9 w2 J σ a2.tmps h4 h5
  exact⟨g',⟨h7,I3,ρ3,(he.trans h3).trans m1,m2,m3,h6.to m1 m4⟩,h8⟩
 all_goals exact⟨_,J,σ,T1,H1,h1,h2,he.trans h3,h4,h5,h6⟩
def jU(P:Program)(κ:Nat)(f:FuncId)(args:List V)(H:List ai)(Q:V->List ai->Prop):Prop:=
 ∀(B:List Nat) w I ρ us,Inv P w I ρ H->ag P w I ρ args us->B<+:ρ->B.length<=κ->
  CallsIn Fence.wide 0 P f us.toArray w fun e w'=>∃ u v I' ρ' H',e= .returned u∧Q v H'∧cy w I ρ w' I' ρ'∧Inv P w' I' ρ' H'∧az P w' I' ρ' v u∧B<+:ρ'
theorem jU.gN{f:FuncId}{fn:Func}{c:Code}{args:List V}{Qr:V->List ai->Prop}(hf:P.funcs[f]? =some fn)(hb:fn.body=some c)(hN:fn.ntmps=N)(hn:args.length<=N)
    (h:aI P none N κ c (lK P N fn Qr) (cW 0 args) H):jU P κ f args H Qr:=by
 subst hN
 intro B w I ρ us hi fT hBp U8
 have hl:=ag.length fT
 refine callsIn_of_wp_marks hf hb trivial ?_ rfl
 have ht:bn P w I ρ fn.ntmps (cW 0 args) (us.toArray++Array.replicate (fn.ntmps - us.toArray.size) undef):=by
  exact nc
 refine wpIn_mono (h ⟨w.heap.size,B,[]⟩ w I ρ {tmps:=us.toArray++Array.replicate (fn.ntmps - us.toArray.size) undef,defers:=[]} hi ht ⟨Ze _,U8,hBp,[],rfl,OQ,fun _ h=>by cases h⟩) ?_
 rintro e a' w' ⟨z,I',ρ',T',H',h1,⟨h2,v,hv,hq⟩,h3,h4,h5,hB,_,hpre,rs,h6,h7,h8⟩
 have fin:LeavesInM Fence.wide 0 P fn a'.tmps (fun e w'=>∃ u v I' ρ' H',e= .returned u∧Qr v H'∧cy w I ρ w' I' ρ'∧Inv P w' I' ρ' H'∧az P w' I' ρ' v u∧B<+:ρ') a'.defers .returning w':=by
  rw[h6]
  show LeavesInM _ _ _ _ _ _ (_++[]) _ _
  rw[ZU]
  refine lM rs w' h7 (fun r hr=>(h8 r hr).1) ?_
  intro w2 k1 k2 k3 k4 k5
  have kI:∀ b,I' b->w2.heap[b]? =w'.heap[b]? :=fun b hb=>k1 b (fun hm=>(h8 b hm).2.1 hb)
  have kρ:∀ b:Nat,w'.heap[b]? ≠some (Obj.deferred (some []))->w2.heap[b]? =w'.heap[b]? :=fun b hb=>k1 b (fun hm=>hb (h8 b hm).1)
  have ks:∀ b s,w'.shape? b=some s->w2.shape? b=some s:=fun b s hs=>by
   exact qJ
  have hi2:Inv P w2 I' ρ' H':=h4.marks k5 kI kρ ks
  have jz:bn P w2 I' ρ' fn.ntmps T' a'.tmps:=⟨h5.size,fun s x hx=>az.mono (fun _ h=>h) kI (ZI _) (fun b _ s h=>ks b s h) x _ (h5.at_ s x hx)⟩
  obtain⟨u,hu1,Pe⟩:=hv w2 I' ρ' a'.tmps hi2 jz
  refine⟨u,hu1,u,v,I',ρ',H',rfl,hq,?_,hi2,Pe,hpre⟩
  have hlow:∀ b,b<w.heap.size->w2.heap[b]? =w'.heap[b]? :=fun b hb=>k1 b (fun hm=>by have:=(h8 b hm).2.2;simp only at this;omega)
  exact BS
 rcases h2 with rfl | rfl <;> cases e <;> first | exact h1.elim | exact fin
end
section
variable {P:Program} {R:Option Nat} {N κ:Nat} {Q Q':Post} {T T' T2 T3:Tm} {H H' H2 H3:List ai} {o:Oper} {ops:Array Oper} {rest:List Oper}
def j6(l:Nat):V:= .p (.func (.yield l) [] [])
def rZ(P:Program)(l κ:Nat)(h:List ai)(args:List V)(Qb:Bool->List ai->Prop):Prop:=
 ∀(B:List Nat) w I ρ us,Inv P w I ρ h->ag P w I ρ args us->B<+:ρ->B.length<=κ->
  ∃ fn tmps fj body,(Instr.yield l us.toArray).run P w= .ok (.round l fn tmps fj body) w∧
   RoundIn Fence.wide 0 P l fn tmps fj body w fun e w'=>∃ b I' ρ' h',e= .returned (.bool b)∧Qb b h'∧cy w I ρ w' I' ρ'∧Inv P w' I' ρ' h'∧B<+:ρ'
def K3(P:Program)(f:FuncId)(mk:V->List V)(xs:List (List V)):Prop:=
 ∀(l κ n:Nat) (inv:Nat->List ai->Prop) (fin:List ai->Prop),κ<=n->(∀ k h,inv k h->h.length=n)->(∀ h,fin h->h.length=n)->
  (∀ k h x,inv k h->xs[k]? =some x->rZ P l κ h x fun b h'=>if b=true then inv (k+1) h' else fin h')->
  ∀ h0,inv 0 h0->jU P κ f (mk (j6 l)) h0 fun _ h'=>inv xs.length h'∨fin h'
def M5:V->V
 | .p x=> .p x
 | _=> .top
def mI:Tm->Tm
 | []=>[]
 | (s,v)::r=>(s,M5 v)::mI r
theorem Ev:∀(T:Tm) (s:Nat),lk (mI T) s=(lk T s).map M5
 | [],s=>rfl
 | (a,v)::r,s=>by
  simp only[mI,lk]
  cases Nat.beq a s with
  | true=>rfl
  | false=>exact Ev r s
theorem JE{w w':World}{I I':Nat->Prop}{ρ ρ':List Nat}(h:cy w I ρ w' I' ρ'){v:V}{u:Value}(hv:az P w I ρ v u):az P w' I' ρ' (M5 v) u:=by
 cases v <;> first | trivial | skip
 exact Rel.mono h.lu h.bf _ u hv
theorem bn.mI{w w':World}{I I':Nat->Prop}{ρ ρ':List Nat}{tmps:Array Value}(h:cy w I ρ w' I' ρ')(t:bn P w I ρ N T tmps):bn P w' I' ρ' N (AF.mI T) tmps:=
 ⟨t.size,fun s v hv=>by
  rw[Ev,Zl] at hv
  obtain⟨v0,h1,rfl⟩:=hv
  exact JE h (t.at_ s v0 h1)⟩
theorem Marks.IA{B:mo}{w w':World}{I I':Nat->Prop}{ρ ρ':List Nat}{ds:List Deferred}(h:cy w I ρ w' I' ρ')(hp:B.pre<+:ρ')(m:Marks κ B w I ρ ds):Marks κ B w' I' ρ' ds:=by
 obtain⟨hB,hκ,_,rs,h1,h2,h3⟩:=m
 refine⟨ZT hB h.size,hκ,hp,rs,h1,h2,fun r hr=> ?_⟩
 obtain⟨h4,h5,h6⟩:=h3 r hr
 exact⟨h.cL r h4,fun h7=>h5 (h.j9 r h4 h7),h6⟩
theorem wm{n l:Nat}{f:FuncId}{tmps:Array Value}{fj body:Code}{w:World}{Rr:Ending->World->Prop}(R:Option Nat)(h:RoundIn Fence.wide n P l f tmps fj body w Rr):RoundIn (Fr R) n P l f tmps fj body w Rr:=h
theorem aj.yield(d:Nat){l:Nat}{f:Operand}{xs:Array Operand}{ts:Array TypeId}{vs:List V}{Qb:Bool->List ai->Prop}(ho:o.op= .call {callee:= .value f,args:=xs,argTypes:=ts})(hd:o.dst=some d)(hN:aZ N (some d)=true)(hg:o.guard=none)
    (hf:ev T f=some (j6 l))(hxs:kR T xs.toList=some vs)(hb:rZ P l κ H vs Qb)
    (next:∀ b h',Qb b h'->aj P R N κ ops rest Q ((d,.p (.bool b))::mI T) h'):aj P R N κ ops (o::rest) Q T H:=by
 intro QX B w I ρ a hi ht hm hq
 refine wpListIn_plain hg fun K hK=>⟨bB,?_⟩
 rw[bD _ _ _ (by simp[ho])]
 have h1:=ht.ev hf
 have h2:=ht.kR hxs
 obtain⟨us,vs',hu,h3,h4⟩:=h1
 simp only[aR] at h3 h4
 have fT:us= #[]:=by simpa using h3
 have SV:vs'= #[]:=by simpa using h4
 subst fT SV
 obtain⟨fn,tmps,fj,body,hy,hr⟩:=hb B.pre w I ρ _ hi h2 hm.2.2.1 hm.2.1
 have e:(execOp a.eval o).run P w= .ok (.round l fn tmps fj body) w:=by
  exact Dp
 rw[e]
 refine⟨(fun h=>by cases h),RoundIn.mono (wm _ hr) ?_⟩
 rintro e w' ⟨b,I',ρ',h',rfl,h5,h6,h7,h8⟩
 have hto:=ht.mI h6
 have hput:bn P w' I' ρ' N (fF (mI T) o.dst (.p (.bool b))) (a.put o.dst (.bool b)).tmps:=bn.put (by rw[hd];exact hN) hto (by simp[az,Rel])
 rw[hd] at hput
 refine hK _ _ ?_
 rw[hd]
 exact next b h' h5 QX B w' I' ρ' _ h7 hput (hm.IA h6 h8).put fun e a2 w2 q=>hq e a2 w2 (QC.ext h6 q)
def mF:Tm->List Tmp->List V->Tm
 | T,p::ps,x::xs=>mF ((p,x)::T) ps xs
 | T,_,_=>T
theorem yb{w:World}{I:Nat->Prop}{ρ:List Nat}:∀(ps:List Tmp) (xs:List V) (us:List Value) (T:Tm) (tmps:Array Value),(∀ p∈ps,p<N)->ag P w I ρ xs us->bn P w I ρ N T tmps->
    bn P w I ρ N (mF T ps xs) ((ps.zip us).foldl (fun t (p,v)=>t.setIfInBounds p v) tmps)
 | [],xs,us,T,tmps,_,_,ht=>by cases xs <;> simpa[mF] using ht
 | p::ps,[],us,T,tmps,_,hx,ht=>by
  simp[ag] at hx
  subst hx
  simpa[mF] using ht
 | p::ps,x::xs,us,T,tmps,hp,hx,ht=>by
  obtain⟨u,us',rfl,h1,h2⟩:=hx
  simp only[mF,List.zip_cons_cons,Sq]
  refine yb ps xs us' _ _ (fun q hq=>hp q (by simp[hq])) h2 ?_
  have:=bn.put (a:={tmps:=tmps,defers:=[]}) (dst:=some p) (v:=x) (u:=u) (by simpa[aZ,Nat.blt,Zw] using hp p (by simp)) ht h1
  simpa[fF,Act.put] using this
theorem Inv.kill{w:World}{I:Nat->Prop}{ρ:List Nat}(hi:Inv P w I ρ H)(i:Nat):Inv P w I ρ (H.set i .dead):=by
 have eK:∀(j:Nat) (x:ai),(H.set i .dead)[j]? =some x->x.live=true->H[j]? =some x:=fun j x h hl=>by
  rw[Zu] at h
  split at h
  ·split at h
   ·cases h;cases hl
   ·cases h
  ·exact h
 refine⟨by simp[hi.len],fun j b blk h1 h2 h3=>hi.gf j b blk h1 (eK j blk h2 h3) h3,hi.ib,fun j b blk h1 h2 h3=>hi.live j b blk h1 (eK j blk h2 h3) h3,fun j k b x y h1 h2 h3 h4 h5 h6=>hi.fK j k b x y h1 h2 (eK j x h3 h5) (eK k y h4 h6) h5 h6,fun j b blk h1 h2=> ?_,hi.gl⟩
 cases hl:blk.live with
 | false=>exact cN.gh hl
 | true=>exact hi.rel j b blk h1 (eK j blk h2 hl)
theorem jK{w:World}{I:Nat->Prop}{ρ:List Nat}{n:Nat}{r:uH}{st:LoopState}{pe:Option Code}(hi:Inv P w I ρ H)(hH:H[n]? =some (.loop r st pe)):
    ρ[n]? =some r.l∧(∃ fn d,w.heap[r.l]? =some (.loop {state:=st,pending:=pe,fn,tmps:=r.tmps,params:=r.ps,assign:=r.fj,body:=r.body,defers:=d}))∧∀ s v,lk r.T s=some v->az P w I ρ v (r.tmps.getD s undef):=by
 have hlt:n<ρ.length:=by rw[hi.len];exact(Za.1 hH).1
 have hρ:ρ[n]? =some ρ[n]:=Zb hlt
 obtain⟨h1,h2,h3⟩:=hi.rel n _ _ hρ hH
 rw[h1] at hρ h2
 exact⟨hρ,h2,h3⟩
theorem og{w:World}{I:Nat->Prop}{ρ:List Nat}{n:Nat}{r:uH}{st st':LoopState}{pe UQ:Option Code}{fn:FuncId}{d:Nat}(hi:Inv P w I ρ H)(hH:H[n]? =some (.loop r st pe))
    (hw:w.heap[r.l]? =some (.loop {state:=st,pending:=pe,fn,tmps:=r.tmps,params:=r.ps,assign:=r.fj,body:=r.body,defers:=d})):
    ∀ w',w'=w.putObj r.l (.loop {state:=st',pending:=UQ,fn,tmps:=r.tmps,params:=r.ps,assign:=r.fj,body:=r.body,defers:=d})->
     Ext w I ρ w' I ρ∧Inv P w' I ρ (H.set n (.loop r st' UQ)):=by
 intro w' hw'
 obtain⟨hρ,_,hT⟩:=jK hi hH
 have hlt:r.l<w.heap.size:=(ZN.1 hw).1
 have hsame:w'.heap[r.l]? =some (.loop {state:=st',pending:=UQ,fn,tmps:=r.tmps,params:=r.ps,assign:=r.fj,body:=r.body,defers:=d}):=by rw[hw'];exact World.putObj_heap_same hlt
 have eJ:∀ k,k≠r.l->w'.heap[k]? =w.heap[k]? :=fun k hk=>by rw[hw'];exact World.putObj_heap_other hk
 have hsh:∀ s,w.shape? r.l=some s->w'.shape? r.l=some s:=fun s hs=>by simp[World.shape?,hw] at hs
 have hE:Ext w I ρ w' I ρ:=Ext.write hi hρ hH rfl (by rw[hw'];rfl) (by rw[hw'];rfl) (by rw[hw'];rfl) (by rw[hw'];simp) eJ hsh
 refine⟨hE,Inv.write hi hρ hH rfl hE (by rw[hw'];simp) eJ ⟨rfl,⟨fn,d,hsame⟩,fun s v hv=>(hT s v hv).ext hE⟩⟩
theorem kg{w:World}{I:Nat->Prop}{ρ:List Nat}{a:Act}{g:Operand}{l:Nat}{fv:V}{f:FuncId}{all:List V}(hT:bn P w I ρ N T a.tmps)(hg:ev T g=some fv)(hc:callee [j6 l] fv=some (f,all))(hf:ak P f=true):
    ∃ d us,ag P w I ρ all us∧(resolve a.eval (rangeCall g l) 0).run P w= .ok d w∧(invoke d.target d.args).run P w= .ok (.enter f us.toArray) w:=by
 have h1:=hT.ev hg
 have hy:ag P w I ρ [j6 l] [Value.func (.yield l) #[] #[]]:=⟨_,[],rfl,⟨#[],#[],rfl,by simp[aR],by simp[aR]⟩,by simp[ag]⟩
 unfold callee at hc
 split at hc
 ·rename_i f' fi ca
  simp at hc
  obtain⟨rfl,rfl⟩:=hc
  obtain⟨us,vs',hu,h3,h4⟩:=h1
  refine⟨{target:= .fn (.func f') vs',args:=us++ #[.func (.yield l) #[] #[]]},us.toList++[Value.func (.yield l) #[] #[]]++vs'.toList,?_,?_,?_⟩
  ·have:=ag.append (ag.append (ag.pure (P:=P) (ρ:=ρ).2 h3) hy) (ag.pure (P:=P) (ρ:=ρ).2 h4)
   exact dx
  ·exact A7
  ·simp[invoke,fL hf]
 ·rename_i f' fi ca
  simp at hc
  obtain⟨rfl,rfl⟩:=hc
  obtain⟨us,vs',hu,h3,h4⟩:=h1
  refine⟨{target:= .fn (.func f') vs',args:=us++ #[.func (.yield l) #[] #[]]},us.toList++[Value.func (.yield l) #[] #[]]++vs'.toList,?_,?_,?_⟩
  ·have:=ag.append (ag.append h3 hy) h4
   exact dx
  ·exact A7
  ·simp[invoke,fL hf]
 ·cases hc
def RP(P:Program)(κ N:Nat)(r:uH)(k:Nat)(J:Nat->List ai->Prop)(Jx:Code->List ai->Prop):Post
 | .normal,T,H=>∃ h',J (k+1) h'∧To P κ N T H [] (h'++[.loop r .busy none])
 | .ret,T,H=>∃ h',Jx .ret h'∧To P κ N T H [] (h'++[.loop r .busy none])
 | .exit id,T,H=>∃ h',Jx (.exit id) h'∧To P κ N T H [] (h'++[.loop r .busy none])
 | .panic _,_,_=>False
def Round(P:Program)(N κ:Nat)(r:uH)(k n:Nat)(J:Nat->List ai->Prop)(Jx:Code->List ai->Prop)(T:Tm)(H:List ai):Prop:=
 aI P (some r.l) N κ r.fj (fun x T1 H1=>x= .normal∧H1[n]? =some (.loop r .ready none)∧aI P (some r.l) N κ r.body (RP P κ N r k J Jx) T1 (H1.set n (.loop r .busy none))) T H
theorem jm{α:Type}(l:List α)(x y:α):(l++[x]).set l.length y=l++[y]:=by simp
theorem Round.ok{r:uH}{k n:Nat}{J:Nat->List ai->Prop}{Jx:Code->List ai->Prop}{h:List ai}{xs:List V}(hn:h.length=n)(hJ:∀ h,J (k+1) h->h.length=n)(MP:∀ c h,Jx c h->h.length=n)(hps:xs.length=r.ps.size)(hlt:∀ p∈r.ps.toList,p<N)(hN:r.tmps.size=N)
    (hr:Round P N κ r k n J Jx (mF r.T r.ps.toList xs) (h++[.loop r .ready none])):
    rZ P r.l κ (h++[.loop r .ready none]) xs fun b h'=>if b=true then ∃ h0,J (k+1) h0∧h'=h0++[.loop r .ready none] else ∃ h0 c,Jx c h0∧h'=h0++[.loop r .done (some c)]:=by
 intro B w I ρ us hi fT hB U8
 have eK:(h++[ai.loop r .ready none])[n]? =some (.loop r .ready none):=by subst hn;simp
 obtain⟨hρ,⟨fn,d,hl⟩,hT⟩:=jK hi eK
 have hlen:=ag.length fT
 refine⟨fn,_,r.fj,r.body,run_yield hl (by simp[hlen,hps]),?_⟩
 refine roundIn_of_wpIn trivial ?_
 have ht0:bn P w I ρ N (mF r.T r.ps.toList xs) ((r.ps.zip us.toArray).foldl (fun t (p,v)=>t.setIfInBounds p v) r.tmps):=by
  have:=yb r.ps.toList xs us r.T r.tmps hlt fT ⟨hN,hT⟩
  rw[<- Array.foldl_toList]
  exact dx
 have hstart:=hr ⟨w.heap.size,B,[]⟩ w I ρ {tmps:=(r.ps.zip us.toArray).foldl (fun t (p,v)=>t.setIfInBounds p v) r.tmps,defers:=[]} hi ht0 ⟨Ze _,U8,hB,[],rfl,OQ,fun _ h=>by cases h⟩
 refine wpIn_mono hstart ?_
 rintro e a1 w1 ⟨z,I1,ρ1,T1,H1,h1,⟨rfl,h2,h3⟩,h4,h5,h6,h7⟩
 cases e <;> first | exact h1.elim | skip
 obtain⟨hρ1,⟨fn1,d1,hl1⟩,_⟩:=jK h5 h2
 refine⟨_,run_beginRound hl1 rfl,?_⟩
 obtain⟨xH,hi1⟩:=og (st':= .busy) (UQ:=none) h5 h2 hl1 _ rfl
 refine wpIn_mono (h3 ⟨w.heap.size,B,[]⟩ _ I1 ρ1 a1 hi1 (h6.ext xH) (h7.ext xH)) ?_
 rintro e a2 w2 ⟨z,I2,ρ2,T2,H2,k1,k2,k3,k4,k5,k6⟩
 have key:∀ h',To P κ N T2 H2 [] (h'++[.loop r .busy none])->h'.length=n->∀ jump:Option Code,∃ w3,(Instr.endRound r.l jump).run P w2= .ok (.bool jump.isNone) w3∧
     ∃ I' ρ',cy w I ρ w3 I' ρ'∧Inv P w3 I' ρ' (h'++[.loop r (if jump.isNone then .ready else .done) jump])∧B<+:ρ':=by
  intro h' hto hh' jump
  obtain⟨I3,ρ3,m1,m2,m3,m4⟩:=hto w2 I2 ρ2 a2.tmps k4 k5
  have BR:(h'++[ai.loop r .busy none])[n]? =some (.loop r .busy none):=by subst hh';simp
  obtain⟨_,⟨fn3,d3,Ot⟩,_⟩:=jK m2 BR
  obtain⟨P9,Aw⟩:=og (st':=if jump.isNone then .ready else .done) (UQ:=jump) m2 BR Ot _ rfl
  refine⟨_,run_endRound jump Ot,I3,ρ3,((h4.trans xH.w).trans k3).trans (m1.trans P9.w),?_,m4 B k6.2.2.1 U8⟩
  subst hh'
  rw[jm] at Aw
  exact Aw
 cases z <;> cases e <;> first | exact k1.elim | exact k2.elim | skip
 ·obtain⟨h',k7,k8⟩:=k2
  obtain⟨w3,e1,I',ρ',e2,e3,e4⟩:=key h' k8 (hJ _ k7) none
  exact⟨_,w3,e1,true,I',ρ',_,rfl,by show if true=true then _ else _;rw[if_pos rfl];exact⟨h',k7,rfl⟩,e2,e3,e4⟩
 ·obtain⟨h',k7,k8⟩:=k2
  obtain⟨w3,e1,I',ρ',e2,e3,e4⟩:=key h' k8 (MP _ _ k7) (some .ret)
  exact⟨_,w3,e1,false,I',ρ',_,rfl,by show if false=true then _ else _;rw[if_neg (by simp)];exact⟨h',_,k7,rfl⟩,e2,e3,e4⟩
 ·rename_i i j
  obtain rfl:i=j:=k1
  obtain⟨h',k7,k8⟩:=k2
  obtain⟨w3,e1,I',ρ',e2,e3,e4⟩:=key h' k8 (MP _ _ k7) (some (.exit i))
  exact⟨_,w3,e1,false,I',ρ',_,rfl,by show if false=true then _ else _;rw[if_neg (by simp)];exact⟨h',_,k7,rfl⟩,e2,e3,e4⟩
theorem sG{w:World}{l0:Nat}{r0:Loop}(h:w.heap[l0]? =some (.loop r0))(fn:FuncId)(tmps:Array Value)(ps:Array Tmp)(fj body:Code):
    (Instr.enterLoop fn tmps ps fj body (some l0)).run P w= .ok (w.heap.size,[]) (w.alloc (.loop {state:= .ready,pending:=none,fn,tmps,params:=ps,assign:=fj,body,defers:=r0.defers})):=by
 unfold Instr.enterLoop
 simp only[Sem.run_bind,run_getLoop h,run_newObj_alloc,Result.andThen,Sem.run_pure]
theorem aI.rangeFunc{g:Operand}{ps:Array Tmp}{fj body:Code}{fv:V}{f:FuncId}{mk:V->List V}{xs:List (List V)}(κ2:Nat)(hg:ev T g=some fv)(hc:∀ y,callee [y] fv=some (f,mk y))(hf:ak P f=true)(E6:K3 P f mk xs)
    (hκ:κ<=κ2)(YO:κ2<=H.length)(hR:∀ l0,R=some l0->∃(i:Nat) (r0:uH) (st:LoopState) (pe:Option Code),r0.l=l0∧H[i]? =some (.loop r0 st pe))(hps:∀ x∈xs,x.length=ps.size)(hlt:ps.toList.all (fun p=>Nat.blt p N)=true)
    (J:Nat->List ai->Prop)(Jx:Code->List ai->Prop)(hJ:∀ k h,J k h->h.length=H.length)(MP:∀ c h,Jx c h->h.length=H.length)(h0:J 0 H)
    (round:∀ l tmps k h x,J k h->xs[k]? =some x->Round P N κ2 ⟨l,tmps,T,ps,fj,body⟩ k H.length J Jx (mF T ps.toList x) (h++[.loop ⟨l,tmps,T,ps,fj,body⟩ .ready none]))
    (done:∀ h,J xs.length h->Q .normal T (h++[.dead]))(stop:∀ c h,Jx c h->aI P R N κ c Q T (h++[.dead])):aI P R N κ (.rangeFunc g ps fj body) Q T H:=by
 intro B w I ρ a hi ht hm
 refine wpIn_rangeFunc ?_
 intro fn _
 -- the record
 have entry:∃(l:Nat) (mark:List Deferred) (w1:World),(Instr.enterLoop fn a.tmps ps fj body R).run P w= .ok (l,mark) w1∧Ext w I ρ w1 I (ρ++[l])∧
     Inv P w1 I (ρ++[l]) (H++[.loop ⟨l,a.tmps,T,ps,fj,body⟩ .ready none])∧Marks κ B w1 I (ρ++[l]) (mark++a.defers):=by
  cases R with
  | none=>
   have hi1:=Inv.dI hi (.deferred (some []))
   have W7:=Ext.dI hi (.deferred (some []))
   let ob:Obj:= .loop {state:= .ready,pending:=none,fn,tmps:=a.tmps,params:=ps,assign:=fj,body,defers:=w.heap.size}
   have Mv:Ext (w.alloc (.deferred (some []))) I ρ _ I _:=Ext.aO hi1 ob
   have hE:=W7.trans Mv
   have hsz:(w.alloc (.deferred (some []))).heap.size=w.heap.size+1:=by simp
   rw[hsz] at hE
   refine⟨w.heap.size+1,_,_,run_enterLoop_outer fn a.tmps ps fj body,hE,?_,?_⟩
   ·have hx:cN P ((w.alloc (.deferred (some []))).alloc ob) I (ρ++[w.heap.size+1]) (.loop ⟨w.heap.size+1,a.tmps,T,ps,fj,body⟩ .ready none) (w.heap.size+1):=by
      exact wQ
    have:=Inv.aO hi1 ob (blk:= .loop ⟨w.heap.size+1,a.tmps,T,ps,fj,body⟩ .ready none) (by rw[hsz];exact hx)
    rwa [hsz] at this
   ·exact uN
  | some l0=>
   obtain⟨i,r0,st,pe,hl0,hH0⟩:=hR l0 rfl
   exact DY
 obtain⟨l,mark,w1,Vn,hE,hi1,E4⟩:=entry
 obtain⟨d,us,fT,hres,hinv⟩:=kg (ht.ext hE) hg (hc (j6 l)) hf
 refine⟨l,mark,w1,d,w1,f,us.toArray,w1,Vn,hres,(fun _ _=>trivial),hinv,(fun h=>by cases h),?_⟩
 have Bg:∀ k h,(∃ h0,J k h0∧h=h0++[ai.loop ⟨l,a.tmps,T,ps,fj,body⟩ .ready none])->h.length=H.length+1:=by
  rintro k h ⟨h0,h1,rfl⟩
  simp[hJ k h0 h1]
 have Bt:=E6 l κ2 (H.length+1) (fun k h=>∃ h0,J k h0∧h=h0++[ai.loop ⟨l,a.tmps,T,ps,fj,body⟩ .ready none]) (fun h=>∃ h0 c,Jx c h0∧h=h0++[ai.loop ⟨l,a.tmps,T,ps,fj,body⟩ .done (some c)])
  (by omega) Bg (by rintro h ⟨h0,c,h1,rfl⟩;simp[MP c h0 h1]) (by
   rintro k h x ⟨h0,h1,rfl⟩ hx
   have:=Round.ok (r:=⟨l,a.tmps,T,ps,fj,body⟩) (hJ k h0 h1) (hJ (k+1)) MP (hps x (Zh hx)) (fun p hp=>by
    have:=(Zz.1 hlt) p hp
    simpa[Nat.blt,Zw] using this) ht.size (round l a.tmps k h0 x h1 hx)
   exact this) _ ⟨H,h0,rfl⟩ B.pre w1 I (ρ++[l]) us hi1 fT (E4.2.2.1) (ZT E4.2.1 hκ)
 refine CallsIn.mono (cE R Bt) ?_
 rintro e w3 ⟨u,v,I3,ρ3,H3,rfl,Fu,h1,h2,h3,h4⟩
 have HV:∀(h':List ai) (st:LoopState) (pe:Option Code),h'.length=H.length->st≠ .busy->H3=h'++[.loop ⟨l,a.tmps,T,ps,fj,body⟩ st pe]->
     ∃ w4,(Instr.endLoop l).run P w3= .ok pe w4∧cy w I ρ w4 I3 ρ3∧Inv P w4 I3 ρ3 (h'++[.dead])∧bn P w4 I3 ρ3 N T a.tmps∧Marks κ B w4 I3 ρ3 (mark++a.defers):=by
  rintro h' st pe hl' hst rfl
  have eK:(h'++[ai.loop ⟨l,a.tmps,T,ps,fj,body⟩ st pe])[H.length]? =some (.loop ⟨l,a.tmps,T,ps,fj,body⟩ st pe):=by rw[<- hl'];simp
  obtain⟨_,⟨fn3,d3,Ot⟩,XZ⟩:=jK h2 eK
  obtain⟨P9,Aw⟩:=og (st':= .exhausted) (UQ:=pe) h2 eK Ot _ rfl
  refine⟨_,run_endLoop Ot hst,(hE.w.trans h1).trans P9.w,?_,⟨ht.size,fun s v hv=>(XZ s v hv).ext P9⟩,(E4.IA h1 h4).ext P9⟩
  have:=Aw.kill H.length
  rw[<- hl',jm,jm] at this
  exact this
 rcases Fu with⟨h',hj,rfl⟩ | ⟨h',c,hj,rfl⟩
 ·obtain⟨w4,e1,e2,e3,e4,e5⟩:=HV h' .ready none (hJ _ _ hj) (by simp) rfl
  exact⟨none,w4,e1,.normal,I3,ρ3,T,_,trivial,done h' hj,e2,e3,e4,e5⟩
 ·exact CG
end
structure cV {K:Type} [DecidableEq K] (enc:K->PV) (d:TypeDesc) where
 val:K->Value
 rel:∀(w:World) (I:Nat->Prop) (a:K) (u:Value),Rel w I (enc a) u↔u=val a
 same:∀ a b,Instr.sameNow d (val a) (val b)=some (decide (a=b))
 check:∀(P:Program) (b:Bool) (n:Nat) (t:TypeId) (w:World) (a:K),P.underlying t=some d->(Instr.checkKey b (n+1) t (val a)).run P w= .ok () w
 bits:∀ n a,Instr.sameBits n (val a) (val a)=true
def cV.int(k:IntKind)(k':IntKind):cV (PV.int k) (.int k') where
 val:= .int k
 rel w I a u:=by simp[Rel]
 same a b:=by
  simp only[Instr.sameNow,if_true]
  congr 1
 check P b n t w a h:=by simp[Instr.checkKey,run_underlying h]
 bits n a:=by cases n <;> simp[Instr.sameBits]
theorem bytes_beq(a b:ByteArray):(a==b)=decide (a=b):=by
 rcases a with⟨a⟩
 rcases b with⟨b⟩
 show(a==b)=_
 by_cases h:a=b
 ·subst h;simp
 ·simp[h]
def cV.str:cV PV.str .string where
 val:= .string
 rel w I a u:=by simp[Rel]
 same a b:=by
  simp only[Instr.sameNow,bytes_beq]
 check P b n t w a h:=by simp[Instr.checkKey,run_underlying h]
 bits n a:=by cases n <;> simp[Instr.sameBits,bytes_beq]
section
variable {K α:Type} [DecidableEq K]
def cB(n:K):List (K×α)->Option α
 | []=>none
 | m::r=>if n=m.1 then some m.2 else cB n r
def aS(n:K)(a:α):List (K×α)->List (K×α)
 | []=>[(n,a)]
 | m::r=>if n=m.1 then(n,a)::r else m::aS n a r
def mix(n:K):List (K×α)->Nat->Option Nat
 | [],_=>none
 | m::r,i=>if n=m.1 then some i else mix n r (i+1)
end
def nt{K α:Type}(enc:K->PV)(g:α->V)(ms:List (K×α)):ai:= .map (ms.map fun m=> .p (enc m.1)) (ms.map fun m=>g m.2)
def jZ{K α:Type}(enc:K->PV)(g:α->PV)(ms:List (K×α)):PV:= .im (ms.map fun m=>enc m.1) (ms.map fun m=>g m.2)
section
variable {P:Program} {R:Option Nat} {N κ:Nat} {Q Q':Post} {T T' T2 T3:Tm} {H H' H2 H3:List ai} {o:Oper} {ops:Array Oper} {rest:List Oper}
variable {K α:Type} [DecidableEq K] {enc:K->PV} {g:α->V} {gp:α->PV} {d:TypeDesc}
theorem ni(hk:cV enc d){w:World}{I:Nat->Prop}{ρ:List Nat}(n:K):∀(ms:List (K×α)) (es:List MapEntry) (i:Nat),ag P w I ρ (ms.map fun m=> .p (enc m.1)) (es.map (·.key))->ag P w I ρ (ms.map fun m=>g m.2) (es.map (·.val))->
    (cB n ms=none∧mix n ms i=none∧Instr.findNow d (hk.val n) es i=some none)∨
    ∃(a:α) (j:Nat) (e:MapEntry),cB n ms=some a∧mix n ms i=some (i+j)∧es[j]? =some e∧ms[j]? =some (n,a)∧e.key=hk.val n∧az P w I ρ (g a) e.val∧Instr.findNow d (hk.val n) es i=some (some (i+j,e.val))
 | [],es,i,h1,h2=>by
  have:es=[]:=by simpa[ag] using h1
  subst this
  exact .inl ⟨rfl,rfl,rfl⟩
 | m::ms,es,i,h1,h2=>by
  cases es with
  | nil=>obtain⟨u,us,h,_⟩:=h1;simp at h
  | cons e es=>
   obtain⟨u,us,h,h3,h4⟩:=h1
   simp at h
   obtain⟨rfl,rfl⟩:=h
   obtain⟨u,us,h,h5,h6⟩:=h2
   simp at h
   obtain⟨rfl,rfl⟩:=h
   have hkey:e.key=hk.val m.1:=(hk.rel w I m.1 e.key).1 h3
   simp only[cB,mix,Instr.findNow,hkey,hk.same]
   by_cases hn:n=m.1
   ·subst hn
    refine .inr ⟨m.2,0,e,by simp,by simp,rfl,rfl,hkey,h5,by simp⟩
   ·simp only[if_neg hn,decide_eq_false hn]
    rcases ni hk n ms es (i+1) h4 h6 with⟨k1,k2,k3⟩ | ⟨a,j,e',k1,k2,k3,k4,k5,k6,k7⟩
    ·exact .inl ⟨k1,k2,k3⟩
    ·exact .inr ⟨a,j+1,e',k1,by rw[k2];congr 1;omega,by simpa using k3,by simpa using k4,k5,k6,by rw[k7];congr 3;omega⟩
def oy(P:Program)(t:TypeId):Option (TypeDesc×PV):=
 match P.underlying t with
 | some (.map k e)=>match P.underlying k,cO P e with
   | some d,some z=>some (d,z)
   | _,_=>none
 | _=>none
theorem so{t:TypeId}{z:PV}(h:oy P t=some (d,z)):∃ k e,P.underlying t=some (.map k e)∧P.underlying k=some d∧cO P e=some z:=by
 unfold oy at h
 split at h
 ·rename_i k e hu
  split at h
  ·rename_i d' z' h1 h2
   simp at h
   obtain⟨rfl,rfl⟩:=h
   exact⟨k,e,hu,h1,h2⟩
  ·cases h
 ·cases h
def AH(z:PV)(ok:Bool)(v:Option V):V:=
 if ok then jv [v.getD (.p z),.p (.bool v.isSome)] else v.getD (.p z)
theorem ag.two{w:World}{I:Nat->Prop}{ρ:List Nat}{x y:V}{u v:Value}(h:az P w I ρ x u)(k:az P w I ρ y v):ag P w I ρ [x,y] (#[u,v]:Array Value).toList:=⟨u,[v],rfl,h,v,[],rfl,k,rfl⟩
theorem sW(hk:cV enc d){w:World}{I:Nat->Prop}{ρ:List Nat}{t:TypeId}{z:PV}{ms:List (K×α)}{es:Array MapEntry}{x:Value}{n:K}{ok:Bool}(ht:oy P t=some (d,z))(h1:ag P w I ρ (ms.map fun m=> .p (enc m.1)) (es.toList.map (·.key)))(h2:ag P w I ρ (ms.map fun m=>g m.2) (es.toList.map (·.val)))
    (hx:(x= .map none∧es= #[])∨∃ r clock,x= .map (some r)∧w.heap[r]? =some (.map es clock)):∃ u,(Instr.lookup t x (hk.val n) ok).run P w= .ok u w∧az P w I ρ (AH z ok ((cB n ms).map g)) u:=by
 obtain⟨k,e,hu,hd,hz⟩:=so ht
 obtain⟨zu,hz1,EU⟩:=kQ hz w
 have Db:=hk.check P es.isEmpty 9999 k w n hd
 have hstart:(Instr.lookup t x (hk.val n) ok).run P w=(do
     let (v,ok') <- match <- Instr.findKey k (hk.val n) es.toList with
      | some (_,v)=>pure (v,true)
      | none=>pure (<- zeroValue e,false)
     pure (if ok then .tuple #[v,.bool ok'] else v):Sem Value).run P w:=by
  rcases hx with⟨rfl,rfl⟩ | ⟨r,clock,rfl,hr⟩
  ·simp[Instr.lookup,run_underlying hu] at Db ⊢
   simp[Db]
   rfl
  ·simp[Instr.lookup,run_underlying hu,getObj,Sem.run_bind,Sem.run,hr,Result.andThen] at Db ⊢
   simp[Db]
   rfl
 rw[hstart]
 rcases ni hk n ms es.toList 0 h1 h2 with⟨k1,k2,k3⟩ | ⟨a,j,e',k1,k2,k3,k4,k5,k6,k7⟩
 ·refine⟨if ok then .tuple #[zu,.bool false] else zu,?_,?_⟩
  ·simp[Instr.findKey,run_underlying hd,k3,hz1]
  ·rw[k1]
   cases ok with
   | false=>exact EU I
   | true=>exact az.jv (us:= #[zu,.bool false]) (ag.two (x:= .p z) (y:= .p (.bool false)) (EU I) (by simp[az,Rel]))
 ·refine⟨if ok then .tuple #[e'.val,.bool true] else e'.val,?_,?_⟩
  ·simp[Instr.findKey,run_underlying hd,k7]
  ·rw[k1]
   cases ok with
   | false=>exact k6
   | true=>exact az.jv (us:= #[e'.val,.bool true]) (ag.two (y:= .p (.bool true)) k6 (by simp[az,Rel]))
theorem Fz(hk:cV enc d){w:World}{I:Nat->Prop}{ρ:List Nat}{a:Act}(ht:bn P w I ρ N T a.tmps){x:Operand}{n:K}(h:ev T x=some (.p (enc n))):a.eval x=hk.val n:=(hk.rel w I n _).1 (ht.ev h)
theorem aa.Js(hk:cV enc d){x y:Operand}{t:TypeId}{z:PV}{ms:List (K×α)}{i:Nat}{n:K}{ok:Bool}(ho:o.op= .lookup t x y ok)(hx:ev T x=some (.map i))(hH:H[i]? =some (nt enc g ms))(hy:ev T y=some (.p (enc n)))(ht:oy P t=some (d,z)):aa P N o T H (AH z ok ((cB n ms).map g)) H:=
 aa.aN (by simp[ho]) fun w I ρ a hi hT=>by
  obtain⟨b,hb,hu⟩:=hT.ev hx
  obtain⟨es,clock,h1,h2,h3,_⟩:=hi.rel i b _ hb hH
  obtain⟨u,h4,h5⟩:=sW hk (n:=n) (ok:=ok) (x:= .map (some b)) ht h2 h3 (.inr ⟨b,clock,rfl,h1⟩)
  refine⟨u,?_,h5⟩
  simp[execOp,ho,Fz hk hT hy,hu,h4]
theorem aa.CM(hk:cV enc d){x y:Operand}{t:TypeId}{z:PV}{ms:List (K×α)}{n:K}{ok:Bool}(ho:o.op= .lookup t x y ok)(hx:ev T x=some (.p (jZ enc gp ms)))(hy:ev T y=some (.p (enc n)))(ht:oy P t=some (d,z)):aa P N o T H (AH z ok ((cB n ms).map fun a=> .p (gp a))) H:=
 aa.aN (by simp[ho]) fun w I ρ a hi hT=>by
  obtain⟨b,es,clock,hb,hu,h1,h2,h3,_⟩:=hT.ev hx
  have Vc:ag P w I ρ (ms.map fun m=> .p (enc m.1)) (es.toList.map (·.key)):=by
   have:=ag.pure (P:=P) (ρ:=ρ).2 h2
   simpa[Function.comp_def] using this
  have h3':ag P w I ρ (ms.map fun m=>(fun a=>V.p (gp a)) m.2) (es.toList.map (·.val)):=by
   have:=ag.pure (P:=P) (ρ:=ρ).2 h3
   simpa[Function.comp_def] using this
  obtain⟨u,h4,h5⟩:=sW hk (n:=n) (ok:=ok) (g:=fun a=>V.p (gp a)) (x:= .map (some b)) ht Vc h3' (.inr ⟨b,clock,rfl,h1⟩)
  refine⟨u,?_,h5⟩
  simp[execOp,ho,Fz hk hT hy,hu,h4]
theorem aa.makeMap{t:TypeId}(ho:o.op= .makeMap t none):aa P N o T H (.map H.length) (H++[nt enc g []]):=
 aa.dz (by simp[ho]) fun w I ρ a hi hT=>by
  refine⟨.map (some w.heap.size),_,_,_,.inl ?_,Ext.aO hi (.map #[] 0),Inv.aO hi _ ⟨#[],0,heap_alloc_new w _,by simp[ag],by simp[ag],by simp[uO]⟩,?_⟩
  ·simp[execOp,ho,Instr.makeMap]
  ·exact vD
theorem we(n:K)(a:α):∀ ms:List (K×α),cB n ms=none->aS n a ms=ms++[(n,a)]
 | [],h=>rfl
 | m::r,h=>by
  simp only[cB] at h
  simp only[aS]
  split
  ·rename_i e;rw[if_pos e] at h;cases h
  ·rename_i e;rw[if_neg e] at h;simp[we n a r h]
theorem vR(n:K)(a:α):∀(ms:List (K×α)) (i j:Nat),mix n ms i=some (i+j)->aS n a ms=ms.set j (n,a)
 | [],i,j,h=>by simp[mix] at h
 | m::r,i,j,h=>by
  simp only[mix] at h
  simp only[aS]
  split at h
  ·rename_i e
   have:j=0:=by simpa using h
   subst this
   simp[e]
  ·rename_i e
   cases j with
   | zero=>
    have gen:∀(ms:List (K×α)) (i k:Nat),mix n ms i=some k->i<=k:=by
     intro ms
     induction ms with
     | nil=>intro i k h;simp[mix] at h
     | cons m ms ih=>
      intro i k h
      simp only[mix] at h
      split at h
      ·simp at h;omega
      ·have:=ih _ _ h;omega
    have:=gen r (i+1) (i+0) h
    omega
   | succ j=>
    rw[if_neg e,vR n a r (i+1) j (by rw[h];congr 1;omega)]
    rfl
theorem run_keyThatStays{w:World}{u:Value}(h:Instr.sameBits 10000 u u=true):(Instr.keyThatStays u u).run P w= .ok u w:=by
 simp[Instr.keyThatStays,h]
theorem Dd{w:World}{I:Nat->Prop}{ρ:List Nat}{i b:Nat}{ms ms':List (K×α)}{es es':Array MapEntry}{clock clock':Nat}(hi:Inv P w I ρ H)(hb:ρ[i]? =some b)(hH:H[i]? =some (nt enc g ms))(hw:w.heap[b]? =some (.map es clock))
    (h1:ag P w I ρ (ms'.map fun m=> .p (enc m.1)) (es'.toList.map (·.key)))(h2:ag P w I ρ (ms'.map fun m=>g m.2) (es'.toList.map (·.val)))(h3:uO es' clock'):
    Ext w I ρ (w.putObj b (.map es' clock')) I ρ∧Inv P (w.putObj b (.map es' clock')) I ρ (H.set i (nt enc g ms')):=by
 have hlt:b<w.heap.size:=(ZN.1 hw).1
 have eJ:∀ k,k≠b->(w.putObj b (.map es' clock')).heap[k]? =w.heap[k]? :=fun k hk=>World.putObj_heap_other hk
 have hE:Ext w I ρ (w.putObj b (.map es' clock')) I ρ:=Ext.write hi hb hH rfl rfl rfl rfl (by simp) eJ (fun s hs=>by simp[World.shape?,hw] at hs)
 exact⟨hE,Inv.write hi hb hH rfl hE (by simp) eJ ⟨es',clock',World.putObj_heap_same hlt,ag.ext hE h1,ag.ext hE h2,h3⟩⟩
theorem wh(hk:cV enc d){w:World}{I:Nat->Prop}{ρ:List Nat}{t:TypeId}{z:PV}{ms:List (K×α)}{i b:Nat}{n:K}{x:α}{u:Value}(hi:Inv P w I ρ H)(hb:ρ[i]? =some b)(hH:H[i]? =some (nt enc g ms))(ht:oy P t=some (d,z))(hu:az P w I ρ (g x) u):
    ∃ w',(Instr.mapUpdate t (.map (some b)) (hk.val n) u).run P w= .ok () w'∧Ext w I ρ w' I ρ∧Inv P w' I ρ (H.set i (nt enc g (aS n x ms))):=by
 obtain⟨k,e,hut,hd,_⟩:=so ht
 obtain⟨es,clock,h1,h2,h3,h4⟩:=hi.rel i b _ hb hH
 have Db:=hk.check P false 9999 k w n hd
 simp at Db
 have oG:∀ ob:Obj,(setObj b ob).run P w= .ok () (w.putObj b ob):=fun ob=>by simp[setObj,Sem.run,h1,World.putObj]
 rcases ni hk n ms es.toList 0 h2 h3 with⟨k1,k2,k3⟩ | ⟨a,j,e',k1,k2,k3,k4,k5,k6,k7⟩
 ·have hT:=Dd (ms':=aS n x ms) (es':=es.push {key:=hk.val n,val:=u,born:=clock}) (clock':=clock+1) hi hb hH h1 (by
    rw[we n x ms k1]
    simp only[ZG,Zx,xo,Array.toList_push]
    exact ag.append h2 ⟨_,_,rfl,(hk.rel w I n _).2 rfl,by simp[ag]⟩) (by
    rw[we n x ms k1]
    simp only[ZG,Zx,xo,Array.toList_push]
    exact ag.append h3 ⟨_,_,rfl,hu,by simp[ag]⟩) (by
    obtain⟨h5,h6⟩:=h4
    refine⟨?_,fun e he=> ?_⟩
    ·simp only[Array.toList_push,ZG,Zx,xo]
     rw[ZW]
     refine⟨h5,by simp,fun a ha b hb=> ?_⟩
     simp at hb
     subst hb
     rw[yu] at ha
     obtain⟨e,he,rfl⟩:=ha
     have:=h6 e he
     omega
    ·simp only[Array.toList_push,Zp,ZJ] at he
     rcases he with he | rfl
     ·have:=h6 e he;omega
     ·simp)
  refine⟨_,?_,hT⟩
  simp[Instr.mapUpdate,run_underlying hut,getObj,Sem.run_bind,Sem.run,h1,Result.andThen,Db,Instr.findKey,run_underlying hd,k3,oG]
 ·simp only[yy] at k2 k7
  have hje:es[j]? =some e':=by simpa using k3
  have hjl:j<es.size:=(ZN.1 hje).1
  have Vw:=run_keyThatStays (P:=P) (w:=w) (hk.bits 10000 n)
  have hT:=Dd (ms':=aS n x ms) (es':=es.modify j fun e=>{e with key:=hk.val n,val:=u}) (clock':=clock) hi hb hH h1 (by
   rw[vR n x ms 0 j (by simpa using k2),List.map_set]
   have:(es.modify j fun e=>{e with key:=hk.val n,val:=u}).toList.map (·.key)=(es.toList.map (·.key)).set j (hk.val n):=by
    exact CB
   rw[this]
   exact ag.set (v:= .p (enc n)) ((hk.rel w I n _).2 rfl) j h2) (by
   rw[vR n x ms 0 j (by simpa using k2),List.map_set]
   have:(es.modify j fun e=>{e with key:=hk.val n,val:=u}).toList.map (·.val)=(es.toList.map (·.val)).set j u:=by
    exact CB
   rw[this]
   exact ag.set hu j h3) (by
   obtain⟨h5,h6⟩:=h4
   have:(es.modify j fun e=>{e with key:=hk.val n,val:=u}).toList.map (·.born)=es.toList.map (·.born):=by
    apply Gg
    intro i
    simp only[Array.toList_modify,Zt,List.getElem?_modify]
    by_cases hij:j=i
    ·subst hij
     simp[hjl]
    ·simp[hij]
   refine⟨by rw[this];exact h5,fun e he=> ?_⟩
   have hm:e.born∈es.toList.map (·.born):=by rw[<- this];exact List.mem_map_of_mem he
   rw[yu] at hm
   obtain⟨e2,Mv,h7⟩:=hm
   rw[<- h7]
   exact h6 e2 Mv)
  refine⟨_,?_,hT⟩
  have hkey:((es[j]?).map (·.key)).getD (hk.val n)=hk.val n:=by rw[hje];simp[k5]
  simp[Instr.mapUpdate,run_underlying hut,getObj,Sem.run_bind,Sem.run,h1,Result.andThen,Db,Instr.findKey,run_underlying hd,k7,hkey,Vw,oG]
theorem aa.mapUpdate(hk:cV enc d){x y v:Operand}{t:TypeId}{z:PV}{ms:List (K×α)}{i:Nat}{n:K}{c:α}(ho:o.op= .mapUpdate t x y v∨o.op= .insert t x y v)(hx:ev T x=some (.map i))(hH:H[i]? =some (nt enc g ms))(hy:ev T y=some (.p (enc n)))(hv:ev T v=some (g c))(ht:oy P t=some (d,z)):
    aa P N o T H .top (H.set i (nt enc g (aS n c ms))):=
 aa.dz (by rcases ho with ho | ho <;> simp[ho]) fun w I ρ a hi hT=>by
  obtain⟨b,hb,hu⟩:=hT.ev hx
  obtain⟨w',h1,h2,h3⟩:=wh hk (n:=n) hi hb hH ht (hT.ev hv)
  refine⟨undef,w',I,ρ,.inr ⟨?_,rfl⟩,h2,h3,trivial⟩
  rcases ho with ho | ho <;> simp[execOp,ho,Fz hk hT hy,hu,h1]
def yF{K α:Type}(enc:K->PV)(gp:α->PV)(ms:List (K×α))(last:Option (K×α)):ai:= .mapIter (ms.map fun m=>enc m.1) (ms.map fun m=>gp m.2) (last.map fun m=>(enc m.1,gp m.2))
theorem aa.rangeMap{x:Operand}{t:TypeId}{z:PV}{ms:List (K×α)}(ho:o.op= .range t x)(hx:ev T x=some (.p (jZ enc gp ms)))(ht:oy P t=some (d,z)):aa P N o T H (.ptr H.length 0) (H++[yF enc gp ms none]):=
 aa.dz (by simp[ho]) fun w I ρ a hi hT=>by
  obtain⟨k,e,hu,_,_⟩:=so ht
  obtain⟨b,es,clock,hb,hx',h1,h2,h3,h4⟩:=hT.ev hx
  have hE:=Ext.aO hi (.mapIter (some b) clock #[] clock)
  refine⟨.pointer (some ⟨w.heap.size,0,none⟩),_,_,_,.inl ?_,hE,Inv.aO hi _ ?_,⟨w.heap.size,by rw[<- hi.len];simp,rfl⟩⟩
  ·simp[execOp,ho,Instr.range,run_underlying hu,hx',getObj,Sem.run_bind,Sem.run,h1,Result.andThen,newObj]
  ·refine .inr ⟨b,es,clock,#[],heap_alloc_new w _,hb,?_,h4,?_,?_,by simp⟩
   ·exact(heap_alloc_old w _ (hi.ib b hb)).trans h1
   ·rw[show es.toList.filter (fun e=> !(#[]:Array Nat).contains e.born)=es.toList by rw[List.filter_eq_self];simp]
    exact aR.mono (fun _ h=>hE.w.lu _ h) hE.w.bf _ _ h2
   ·rw[show es.toList.filter (fun e=> !(#[]:Array Nat).contains e.born)=es.toList by rw[List.filter_eq_self];simp]
    exact aR.mono (fun _ h=>hE.w.lu _ h) hE.w.bf _ _ h3
theorem map_eraseIdx{α β:Type}(f:α->β):∀(l:List α) (i:Nat),(l.eraseIdx i).map f=(l.map f).eraseIdx i
 | [],i=>by simp
 | x::l,0=>by simp
 | x::l,i+1=>by simp[map_eraseIdx f l i]
theorem aR.erase{w:World}{I:Nat->Prop}:∀{xs:List PV} {us:List Value} (i:Nat),aR w I xs us->aR w I (xs.eraseIdx i) (us.eraseIdx i)
 | [],us,i,h=>by simp[aR] at h;subst h;simp[aR]
 | x::xs,us,i,h=>by
  obtain⟨u,us',rfl,h1,h2⟩:=h
  cases i with
  | zero=>exact h2
  | succ i=>exact⟨u,us'.eraseIdx i,by simp,h1,aR.erase i h2⟩
theorem aR.get{w:World}{I:Nat->Prop}:∀{xs:List PV} {us:List Value} {i:Nat} {u:Value},aR w I xs us->us[i]? =some u->∃ x,xs[i]? =some x∧Rel w I x u
 | [],us,i,u,h,hu=>by simp[aR] at h;subst h;simp at hu
 | x::xs,us,i,u,h,hu=>by
  obtain⟨u',us',rfl,h1,h2⟩:=h
  cases i with
  | zero=>simp at hu;subst hu;exact⟨x,rfl,h1⟩
  | succ i=>
   obtain⟨y,k1,k2⟩:=aR.get (i:=i) h2 (by simpa using hu)
   exact⟨y,by simpa using k1,k2⟩
theorem filter_push(es:List MapEntry)(seen:Array Nat)(e:MapEntry)(hn:(es.map (·.born)).Nodup):∀ i:Nat,(es.filter fun x=> !seen.contains x.born)[i]? =some e->
    es.filter (fun x=> !(seen.push e.born).contains x.born)=(es.filter fun x=> !seen.contains x.born).eraseIdx i:=by
 induction es with
 | nil=>intro i h;simp at h
 | cons x es ih=>
  intro i h
  simp only[Zx,ZC] at hn
  by_cases hs:seen.contains x.born=true
  ·have h1:(x::es).filter (fun x=> !seen.contains x.born)=es.filter fun x=> !seen.contains x.born:=by rw[Xg,hs];rfl
   rw[h1] at h ⊢
   rw[<- ih hn.2 i h]
   have h2:(seen.push e.born).contains x.born=true:=by
    simp only[Yw,Array.mem_push,Zj] at hs ⊢
    exact .inl hs
   simp only[Xg,h2,Bool.not_true,Kw,if_false]
  ·have hs':seen.contains x.born=false:=by simpa using hs
   have h1:(x::es).filter (fun x=> !seen.contains x.born)=x::es.filter fun x=> !seen.contains x.born:=by rw[Xg,hs'];rfl
   rw[h1] at h ⊢
   cases i with
   | zero=>
    simp at h
    subst h
    have h2:(seen.push x.born).contains x.born=true:=by simp[Yw]
    simp only[Xg,h2,Bool.not_true,Kw,if_false,List.eraseIdx_zero,List.tail_cons]
    apply List.filter_congr
    intro y hy
    have:y.born≠x.born:=fun h=>hn.1 (by rw[<- h];exact List.mem_map_of_mem hy)
    congr 1
    simp only[Yw,Array.mem_push,this,or_false]
   | succ i=>
    have h':(es.filter fun x=> !seen.contains x.born)[i]? =some e:=by simpa using h
    have hne:x.born≠e.born:=fun hh=>by
     have:e∈es:=(List.mem_filter.1 (Zh h')).1
     exact hn.1 (by rw[hh];exact List.mem_map_of_mem this)
    have h2:(seen.push e.born).contains x.born=false:=by
     simp only[Yw,Array.mem_push,UL,hne,or_false] at hs' ⊢
     simpa using hs'
    simp only[Xg,h2,Bool.not_false,if_true,List.eraseIdx_cons_succ,ih hn.2 i h']
theorem aj.Pn(dd:Nat){it:Operand}{i:Nat}{ms:List (K×α)}{last:Option (K×α)}(ho:o.op= .next it false)(hd:o.dst=some dd)(hN:aZ N (some dd)=true)(hg:o.guard=none)(hx:ev T it=some (.ptr i 0))(hH:H[i]? =some (yF enc gp ms last))
    (over:ms=[]->aj P R N κ ops rest Q ((dd,.p (.tuple [.bool false]))::T) H)
    (next:∀(j:Nat) (m:K×α),ms[j]? =some m->aj P R N κ ops rest Q ((dd,.p (.tuple [.bool true,enc m.1,gp m.2]))::T) (H.set i (yF enc gp (ms.eraseIdx j) (some m)))):aj P R N κ ops (o::rest) Q T H:=by
 intro QX B w I ρ a hi ht hm hq
 refine wpListIn_plain hg fun Kx hK=>⟨bB,?_⟩
 rw[bD _ _ _ (by simp[ho])]
 obtain⟨b,hb,hu⟩:=ht.ev hx
 have cu:=hi.rel i b _ hb hH
 have quiet:∀ u,az P w I ρ (.p (.tuple [.bool false])) u->ms=[]->Kx (a.put o.dst u) w:=fun u hv h0=>by
  refine hK _ _ ?_
  have:=ht.put (a:=a) (dst:=o.dst) (by rw[hd];exact hN) hv
  rw[hd] at this ⊢
  exact over h0 QX B w I ρ _ hi this hm.put hq
 have Sa:az P w I ρ (.p (.tuple [.bool false])) (.tuple #[.bool false]):=⟨#[.bool false],rfl,.bool false,[],rfl,rfl,rfl⟩
 rcases cu with⟨h1,h2,h3,h4⟩ | ⟨r,es,clock,seen,h1,h2,h3,h4,h5,h6,h7⟩
 ·have e:(execOp a.eval o).run P w= .ok (.value (.tuple #[.bool false])) w:=by
    simp[execOp,ho,hu,Instr.next,getObj,Sem.run_bind,Sem.run,h4,Result.andThen]
  rw[e]
  exact quiet _ Sa (by simpa using h1)
 ·rcases run_next_at (P:=P) w o.type b r clock clock seen es clock h1 h3 (fun x hx=>h4.2 x hx) (Ze _) with⟨h8,h9⟩ | ⟨e,he,w1,hw1,h9⟩
  ·have e:(execOp a.eval o).run P w= .ok (.value (.tuple #[.bool false])) w:=by
     simp[execOp,ho,hu,h9]
   rw[e]
   refine quiet _ Sa ?_
   have h0:es.toList.filter (fun e=> !seen.contains e.born)=[]:=by
    have h10:(es.filter fun e=> !seen.contains e.born).toList.length=0:=by simpa[leftOf] using h8
    rw[Array.toList_filter] at h10
    exact ZA h10
   rw[h0] at h5
   have:=aR.length h5
   simp at this
   exact ZA this.symm
  ·have e0:(execOp a.eval o).run P w= .ok (.value (.tuple #[.bool true,e.key,e.val])) (ChangeMaps.setBlock w1 b (.mapIter (some r) clock (seen.push e.born) clock)):=by
     simp[execOp,ho,hu,h9]
   rw[e0]
   have hel:e∈es.toList.filter fun x=> !seen.contains x.born:=by
    have:=he
    simp only[leftOf,Array.toList_filter] at this
    exact this
   obtain⟨j,hj⟩:=List.getElem?_of_mem hel
   have hes:e∈es.toList:=(List.mem_filter.1 hel).1
   have hk5:∃ x,(ms.map fun m=>enc m.1)[j]? =some x∧Rel w I x e.key:=aR.get h5 (by rw[Zt,hj];rfl)
   have hv6:∃ x,(ms.map fun m=>gp m.2)[j]? =some x∧Rel w I x e.val:=aR.get h6 (by rw[Zt,hj];rfl)
   obtain⟨m,E4,hmk,hmv⟩:∃ m,ms[j]? =some m∧Rel w I (enc m.1) e.key∧Rel w I (gp m.2) e.val:=by
    obtain⟨x,k1,k2⟩:=hk5
    obtain⟨y,k3,k4⟩:=hv6
    rw[Zt,Zl] at k1 k3
    obtain⟨m,k5,rfl⟩:=k1
    obtain⟨m',k6,rfl⟩:=k3
    rw[k5] at k6;cases k6
    exact⟨m,k5,k2,k4⟩
   have xH:Ext w I ρ w1 I ρ:=by
    rcases hw1 with rfl | rfl
    ·exact Ext.refl _ _ _
    ·exact Ext.drew
   have hi1:Inv P w1 I ρ H:=by
    rcases hw1 with rfl | rfl
    ·exact hi
    ·exact hi.drew
   have hh1:w1.heap=w.heap:=by rcases hw1 with rfl | rfl <;> rfl
   have hlt:b<w1.heap.size:=by rw[hh1];exact(ZN.1 h1).1
   have hsame:(ChangeMaps.setBlock w1 b (.mapIter (some r) clock (seen.push e.born) clock)).heap[b]? =some (.mapIter (some r) clock (seen.push e.born) clock):=by simp[ChangeMaps.setBlock,hlt]
   have eJ:∀ k,k≠b->(ChangeMaps.setBlock w1 b (.mapIter (some r) clock (seen.push e.born) clock)).heap[k]? =w1.heap[k]? :=fun k hk=>by
    simp[ChangeMaps.setBlock,Array.getElem?_setIfInBounds_ne (Ne.symm hk)]
   have oO:Ext w1 I ρ (ChangeMaps.setBlock w1 b (.mapIter (some r) clock (seen.push e.born) clock)) I ρ:=
    Ext.write hi1 hb hH rfl rfl rfl rfl (by simp[ChangeMaps.setBlock]) eJ (fun s hs=>by simp[World.shape?,hh1,h1] at hs)
   have hrb:r≠b:=fun h=>by subst h;rw[h3] at h1;cases h1
   have hE:=xH.trans oO
   have hi2:Inv P (ChangeMaps.setBlock w1 b (.mapIter (some r) clock (seen.push e.born) clock)) I ρ (H.set i (yF enc gp (ms.eraseIdx j) (some m))):=by
    refine Inv.write hi1 hb hH rfl oO (by simp[ChangeMaps.setBlock]) eJ (.inr ⟨r,es,clock,seen.push e.born,hsame,h2,(eJ r hrb).trans (by rw[hh1];exact h3),h4,?_,?_,?_⟩)
    ·rw[filter_push _ _ _ h4.1 j hj,map_eraseIdx,map_eraseIdx]
     exact aR.mono (fun _ h=>h) hE.w.bf _ _ (aR.erase j h5)
    ·rw[filter_push _ _ _ h4.1 j hj,map_eraseIdx,map_eraseIdx]
     exact aR.mono (fun _ h=>h) hE.w.bf _ _ (aR.erase j h6)
    ·intro k v hkv
     simp at hkv
     obtain⟨rfl,rfl⟩:=hkv
     exact⟨e,seen,hes,rfl,Rel.ext hE hmk,Rel.ext hE hmv⟩
   have hv:az P (ChangeMaps.setBlock w1 b (.mapIter (some r) clock (seen.push e.born) clock)) I ρ (.p (.tuple [.bool true,enc m.1,gp m.2])) (.tuple #[.bool true,e.key,e.val]):=
    ⟨_,rfl,.bool true,_,rfl,rfl,e.key,_,rfl,Rel.ext hE hmk,e.val,_,rfl,Rel.ext hE hmv,rfl⟩
   refine hK _ _ ?_
   have hput:=(ht.ext hE).put (a:=a) (dst:=o.dst) (by rw[hd];exact hN) hv
   rw[hd] at hput ⊢
   exact next j m E4 QX B _ I ρ _ hi2 hput (hm.ext hE).put fun e' a2 w2 q=>hq e' a2 w2 (QC.ext hE.w q)
theorem aa.entry{it:Operand}{i:Nat}{ms:List (K×α)}{m:K×α}(ho:o.op= .entry it)(hx:ev T it=some (.ptr i 0))(hH:H[i]? =some (yF enc gp ms (some m))):aa P N o T H (.p (.tuple [enc m.1,gp m.2])) H:=
 aa.aN (by simp[ho]) fun w I ρ a hi hT=>by
  obtain⟨b,hb,hu⟩:=hT.ev hx
  rcases hi.rel i b _ hb hH with⟨h1,h2,h3,h4⟩ | ⟨r,es,clock,seen,h1,h2,h3,h4,h5,h6,h7⟩
  ·cases h3
  ·obtain⟨e,pre,k1,rfl,k3,k4⟩:=h7 _ _ rfl
   have:=run_entry_at (P:=P) w b r clock pre es clock e h1 h3 k1 h4.1
   refine⟨.tuple #[e.key,e.val],by simp[execOp,ho,hu,this],⟨_,rfl,e.key,_,rfl,k3,e.val,_,rfl,k4,rfl⟩⟩
mutual
def MU(i:Nat)(x:PV):V->V
 | .map j=>if j=i then .p x else .map j
 | .agg cs=>gD (Qq i x cs)
 | .tuple cs=>jv (Qq i x cs)
 | v=>v
def Qq(i:Nat)(x:PV):List V->List V
 | []=>[]
 | v::vs=>MU i x v::Qq i x vs
end
def OO(i:Nat)(x:PV):Tm->Tm
 | []=>[]
 | (s,v)::r=>(s,MU i x v)::OO i x r
theorem Gl{i:Nat}{x:PV}:∀(T:Tm) (s:Nat),lk (OO i x T) s=(lk T s).map (MU i x)
 | [],s=>rfl
 | (a,v)::r,s=>by
  simp only[OO,lk]
  cases Nat.beq a s with
  | true=>rfl
  | false=>exact Gl r s
mutual
theorem BD{w:World}{I:Nat->Prop}{ρ:List Nat}{i b:Nat}{x:PV}(hρ:ρ[i]? =some b)(hx:Rel w I x (.map (some b))):∀(v:V) (u:Value),az P w I ρ v u->az P w I ρ (MU i x v) u
 | .map j,u,h=>by
  simp only[MU]
  split
  ·rename_i e;subst e
   obtain⟨b',hb,hu⟩:=h
   rw[hρ] at hb;cases hb
   rw[hu];exact hx
  ·exact h
 | .agg cs,u,h=>by
  obtain⟨us,rfl,h1⟩:=h
  exact az.gD (vi hρ hx cs _ h1)
 | .tuple cs,u,h=>by
  obtain⟨us,rfl,h1⟩:=h
  exact az.jv (vi hρ hx cs _ h1)
 | .p _,u,h=>h
 | .ptr _ _,u,h=>h
 | .row _ _,u,h=>h
 | .sl _ _ _,u,h=>h
 | .func _ _ _,u,h=>h
 | .iface _ _,u,h=>h
 | .opt _ _,u,h=>h
 | .raw _ _ _,u,h=>h
 | .z0,u,h=>h
 | .top,u,h=>h
theorem vi{w:World}{I:Nat->Prop}{ρ:List Nat}{i b:Nat}{x:PV}(hρ:ρ[i]? =some b)(hx:Rel w I x (.map (some b))):∀(vs:List V) (us:List Value),ag P w I ρ vs us->ag P w I ρ (Qq i x vs) us
 | [],us,h=>h
 | v::vs,us,h=>by
  obtain⟨u,us',hu,h1,h2⟩:=h
  exact⟨u,us',hu,BD hρ hx v u h1,vi hρ hx vs us' h2⟩
end
theorem To.nW(i:Nat){ms:List (K×α)}(hH:H[i]? =some (nt enc (fun a=> .p (gp a)) ms)):To P κ N T H (OO i (jZ enc gp ms) T) (H.set i .dead):=fun w I ρ tmps hi ht=>by
 have hlt:i<ρ.length:=by rw[hi.len];exact(Za.1 hH).1
 have hρ:ρ[i]? =some ρ[i]:=Zb hlt
 obtain⟨es,clock,h1,h2,h3,h4⟩:=hi.rel i _ _ hρ hH
 have hE:=Ext.freeze hi hρ hH rfl
 refine⟨_,ρ,hE.w,Inv.freeze hi hρ hH rfl,⟨ht.size,fun s v hv=> ?_⟩,fun _ h _=>h⟩
 rw[Gl,Zl] at hv
 obtain⟨v0,h5,rfl⟩:=hv
 refine BD hρ ?_ v0 _ ((ht.at_ s v0 h5).ext hE)
 have Vc:ag P w I ρ ((ms.map fun m=>enc m.1).map .p) (es.toList.map (·.key)):=by simpa[Function.comp_def] using h2
 have h3':ag P w I ρ ((ms.map fun m=>gp m.2).map .p) (es.toList.map (·.val)):=by simpa[Function.comp_def] using h3
 exact⟨ρ[i],es,clock,.inr rfl,rfl,h1,aR.mono (fun _ h=>hE.w.lu _ h) hE.w.bf _ _ (ag.pure.1 Vc),aR.mono (fun _ h=>hE.w.lu _ h) hE.w.bf _ _ (ag.pure.1 h3'),h4⟩
end
section
variable {P:Program} {R:Option Nat} {N κ:Nat} {Q Q':Post} {T T' T2 T3:Tm} {H H' H2 H3:List ai} {o:Oper} {ops:Array Oper} {rest:List Oper}
theorem aa.Ja{x y:Operand}{t t2 e:TypeId}{z:List PV}{n gI:Nat}{ys:List V}{yv:V}(ho:o.op= .call {callee:= .builtin .append,args:= #[x,y],argTypes:= #[t,t2]})(hx:ev T x=some (.p .nilSlice))(hy:ev T y=some yv)(hs:oz P t=some (e,z))(jz:dY P t2=true)
    (hsrc:oV H z.length yv=some (ys,n))(hn:0<n)(hone:ys.all jB=true)(hby:wG P e=some gI)(hb0:0<gI)(hb:(2*n+192)*gI<=281474976710656):
    aa P N o T H (.row H.length n) (H++[.row ys e]):=
 aa.dz (by simp[ho]) fun w I ρ a hi hT=>by
  obtain⟨hu,⟨bb,lH⟩,uL,hz⟩:=eg hs
  have FU:a.eval x= .slice none 0 0:=hT.ev hx
  obtain⟨us,⟨ad,wY,Au⟩,hfc,_,cu,hlen⟩:=kN hi (hT.ev hy) hsrc
  have hce:P.cellsOf e=z.length:=by
   exact mH
  have hinfo:∃ inf,P.info? e=some inf∧inf.bytes=gI:=by
   exact vj
  obtain⟨inf,jI,zI⟩:=hinfo
  have o4:∃ d2,P.underlying t2=some (.slice d2):=by
   exact pO
  obtain⟨d2,o4⟩:=o4
  have uC:=ag.length cu
  have zb:∀ q,0+n<=(Question.appendCap (0+n) 0 e).cut q:=fun q=>Ui _ _
  obtain⟨uz,hz1,EU⟩:=hz w.drew
  have hzl:=aR.length (EU I)
  have I4:uz.cells.size=z.length:=by simpa using hzl
  have hnext:=js (need:=0+n) (cap:=0) (by omega)
  have hsmall:¬ (Builtin.nextslicecap (0+n) 0*gI>2^48):=by
   exact wj
  let newCap:=(Question.appendCap (0+n) 0 e).cut (w.tape w.drawn (.appendCap (0+n) 0 e))
  have hnc:0+n<=newCap:=zb _
  have hnew:=hfc w.drew (fun _ _=>rfl)
  let eM:Array Value:= #[]++us.toArray++Builtin.zeroCells uz.cells (newCap - (0+n))
  have xH:Ext w I ρ w.drew I ρ:=Ext.drew
  have hi1:Inv P w.drew I ρ H:=hi.drew
  have oO:Ext w.drew I ρ (w.drew.alloc (.cells eM e)) I (ρ++[w.drew.heap.size]):=Ext.aO hi1 _
  have hi2:Inv P (w.drew.alloc (.cells eM e)) I (ρ++[w.drew.heap.size]) (H++[.row ys e]):=by
   exact Cp
  refine⟨.slice (some ⟨w.heap.size,0,none⟩) (0+n) newCap,w.drew.alloc (.cells eM e),I,ρ++[w.drew.heap.size],.inl ?_,xH.trans oO,hi2,w.heap.size,e,newCap,by rw[<- hi.len];simp,by rw[yy],?_,by omega⟩
  ·rw[Au] at hnew
   have mc:((0+n:Nat):Int)<=IntKind.i64.max:=by
    exact u9
   have hold:(Builtin.firstCells z.length 0 (.slice none 0 0)).run P w.drew= .ok #[] w.drew:=by simp[Builtin.firstCells]
   have:=run_append_grow (P:=P) (w:=w) (t:=t) (t2:=t2) (ty:=o.type) hu lH o4 jI (by rw[zI];exact hsmall) mc (by omega) hold hnew hz1
   simp only[execOp,ho,resolve,invoke,builtin,Sem.run_bind]
   exact vt
  ·exact vT
def kL(i:Nat):Nat->V
 | 0=> .p .nilSlice
 | n+1=> .row i (n+1)
def dL(cs:List V)(e:TypeId):Nat->ai
 | 0=> .dead
 | n+1=> .row cs e
theorem VY{i n:Nat}(h:0<n):kL i n= .row i n:=by
 cases n with
 | zero=>omega
 | succ n=>rfl
theorem N5{cs:List V}{e:TypeId}{n:Nat}(h:0<n):dL cs e n= .row cs e:=by
 cases n with
 | zero=>omega
 | succ n=>rfl
theorem aa.kn{x y:Operand}{t t2 e:TypeId}{z:List PV}{i len n gI:Nat}{cs ys:List V}{yv:V}(ho:o.op= .call {callee:= .builtin .append,args:= #[x,y],argTypes:= #[t,t2]})(hx:ev T x=some (kL i len))(hy:ev T y=some yv)(hs:oz P t=some (e,z))(jz:dY P t2=true)
    (hH:H[i]? =some (dL cs e len))(hcs:cs.length=len*z.length)(hsrc:oV H z.length yv=some (ys,n))(hn:0<n)(hone:ys.all jB=true)(hby:wG P e=some gI)(hb0:0<gI)(hb:(2*(len+n)+192)*gI<=281474976710656):
    aa P N o T H (.row H.length (len+n)) (H.set i .dead++[.row (cs++ys) e]):=by
 cases len with
 | zero=>
  have h0:cs=[]:=ZA (by simpa using hcs)
  subst h0
  have h1:H.set i .dead=H:=by
   exact vm
  rw[h1,IS]
  have:=aa.Ja (N:=N) ho hx hy hs jz hsrc hn hone hby hb0 (by simpa using hb)
  simpa using this
 | succ len=>exact aa.rE ho hx hy hs jz hH hcs hsrc hone hby hb0 hb
theorem To.acc(s i n:Nat){xs:List PV}{e:TypeId}(hs:lk T s=some (kL i n))(hH:H[i]? =some (dL (xs.map .p) e n))(h0:n=0->xs=[]):To P κ N T H ((s,.p (.is xs n))::mI T) (H.set i .dead):=by
 cases n with
 | zero=>
  have h:=h0 rfl
  subst h
  have h1:H.set i .dead=H:=by
   exact vm
  rw[h1]
  intro w I ρ tmps hi ht
  refine⟨I,ρ,cy.refl _ _ _,hi,⟨ht.size,fun s' v hv=> ?_⟩,fun _ h _=>h⟩
  simp only[lk] at hv
  cases hb:Nat.beq s s' with
  | false=>rw[hb] at hv;exact(ht.mI (cy.refl _ _ _)).at_ s' v hv
  | true=>
   exact AN
 | succ n=>
  intro w I ρ tmps hi ht
  obtain⟨I',h1,h2,h3⟩:=nv (i:=i) (xs:=xs) hi (by rw[show H[i]? =some (.row (xs.map .p) e) from hH];rfl) ht
  refine⟨I',ρ,h1.w,h2,⟨ht.size,fun s' v hv=> ?_⟩,fun _ h _=>h⟩
  simp only[lk] at hv
  cases hb:Nat.beq s s' with
  | false=>rw[hb] at hv;exact(ht.mI h1.w).at_ s' v hv
  | true=>
   rw[hb] at hv
   have:=ZO hb
   subst this
   simp at hv
   subst hv
   have:=h3.at_ s (iw i xs (.row i (n+1))) (by rw[n8,hs];rfl)
   simpa[iw] using this
def Jh:TypeDesc->Value->Value->Option Bool
 | .int _,.int k a,.int k' b=>if k=k' then some (a==b) else none
 | .bool,.bool a,.bool b=>some (a==b)
 | .string,.string a,.string b=>some (a==b)
 | _,_,_=>none
def iL:List TypeDesc->List Value->List Value->Option Bool
 | [],[],[]=>some true
 | t::ts,u::us,v::vs=>match Jh t u v,iL ts us vs with
   | some a,some b=>some (a&&b)
   | _,_=>none
 | _,_,_=>none
def peq:TypeDesc->PV->PV->Option Bool
 | .int _,.int k a,.int k' b=>if k=k' then some (a==b) else none
 | .bool,.bool a,.bool b=>some (a==b)
 | .string,.str a,.str b=>some (a==b)
 | _,_,_=>none
def Ez:List TypeDesc->List PV->List PV->Option Bool
 | [],[],[]=>some true
 | t::ts,u::us,v::vs=>match peq t u v,Ez ts us vs with
   | some a,some b=>some (a&&b)
   | _,_=>none
 | _,_,_=>none
theorem QF{w:World}{I:Nat->Prop}{t:TypeDesc}{x y:PV}{u v:Value}{r:Bool}(h:peq t x y=some r)(hx:Rel w I x u)(hy:Rel w I y v):Jh t u v=some r:=by
 unfold peq at h
 split at h
 ·simp only[Rel] at hx hy;subst hx hy;exact h
 ·simp only[Rel] at hx hy;subst hx hy;exact h
 ·simp only[Rel] at hx hy;subst hx hy;exact h
 ·cases h
theorem D0{w:World}{I:Nat->Prop}:∀{ts:List TypeDesc} {xs ys:List PV} {us vs:List Value} {r:Bool},Ez ts xs ys=some r->aR w I xs us->aR w I ys vs->iL ts us vs=some r
 | [],[],[],us,vs,r,h,hx,hy=>by
  simp[aR] at hx hy
  subst hx hy
  exact h
 | t::ts,x::xs,y::ys,us,vs,r,h,hx,hy=>by
  obtain⟨u,us',rfl,h1,h2⟩:=hx
  obtain⟨v,vs',rfl,h3,h4⟩:=hy
  simp only[Ez] at h
  split at h
  ·rename_i a b h5 h6
   simp only[iL,QF h5 h1 h3,D0 h6 h2 h4]
   exact h
  ·cases h
 | [],_::_,_,_,_,_,h,_,_=>by simp[Ez] at h
 | [],[],_::_,_,_,_,h,_,_=>by simp[Ez] at h
 | _::_,[],_,_,_,_,h,_,_=>by simp[Ez] at h
 | _::_,_::_,[],_,_,_,h,_,_=>by simp[Ez] at h
def LX(g:TypeId->Option (List TypeDesc))(P:Program):List Field->Nat->Option (List TypeDesc)
 | [],_=>some []
 | f::fs,off=>match g f.type,fm P f.type with
   | some l,some (b,n)=>if f.offset=off∧f.name≠ "_" ∧n=l.length∧(b=false->n=1) then(LX g P fs (off+n)).map (l++ ·) else none
   | _,_=>none
def eqTy(P:Program):Nat->TypeId->Option (List TypeDesc)
 | 0,_=>none
 | d+1,t=>match P.underlying t with
   | some (.int k)=>some [.int k]
   | some .bool=>some [.bool]
   | some .string=>some [.string]
   | some (.struct fs)=>if P.stoodInHeld t=true then none else LX (eqTy P d) P fs.toList 0
   | some (.array n e)=>match eqTy P d e,fm P e with
     | some l,some (b,m)=>if m=l.length∧(b=false->m=1) then some (List.replicate n l).flatten else none
     | _,_=>none
   | _=>none
def valOf(b:Bool)(us:List Value):Value:=if b then .agg us.toArray else us.headD undef
theorem nR{w:World}{t:TypeId}{b:Bool}{n off:Nat}{us:List Value}(ht:fm P t=some (b,n))(hb:b=false->n=1)(hl:off+n<=us.length):(part t us.toArray off).run P w= .ok (valOf b ((us.drop off).take n)) w:=by
 cases b with
 | true=>
  have:(us.toArray.extract off (off+n))=((us.drop off).take n).toArray:=by
   apply Array.toList_inj.1
   rw[lQ]
  simp[part,fG ht,aK ht,valOf,this]
 | false=>
  have hn:=hb rfl
  subst hn
  have h1:us[off]? =some (us[off]'(by omega)):=Zb _
  have h2:((us.drop off).take 1).headD undef=us[off]'(by omega):=by
   rw[XN (by omega)]
   rfl
  simp only[valOf,Kw,if_false]
  rw[h2]
  simp[part,fG ht,h1]
theorem lg:∀{ts:List TypeDesc} {us vs:List Value} {r:Bool},iL ts us vs=some r->us.length=ts.length∧vs.length=ts.length
 | [],[],[],_,_=>⟨rfl,rfl⟩
 | t::ts,u::us,v::vs,r,h=>by
  simp only[iL] at h
  split at h
  ·rename_i a b h5 h6
   obtain⟨h1,h2⟩:=lg h6
   simp[h1,h2]
  ·cases h
 | [],_::_,_,_,h=>by simp[iL] at h
 | [],[],_::_,_,h=>by simp[iL] at h
 | _::_,[],_,_,h=>by simp[iL] at h
 | _::_,_::_,[],_,h=>by simp[iL] at h
theorem vM:∀{l1 l2:List TypeDesc} {us vs:List Value} {r:Bool},iL (l1++l2) us vs=some r->∃ r1 r2,iL l1 (us.take l1.length) (vs.take l1.length)=some r1∧iL l2 (us.drop l1.length) (vs.drop l1.length)=some r2∧r=(r1&&r2)
 | [],l2,us,vs,r,h=>⟨true,r,by simp[iL],by simpa using h,by simp⟩
 | t::l1,l2,us,vs,r,h=>by
  cases us with
  | nil=>simp[iL] at h
  | cons u us=>
   cases vs with
   | nil=>simp[iL] at h
   | cons v vs=>
    simp only[NF,iL] at h
    split at h
    ·rename_i a b h5 h6
     obtain⟨r1,r2,k1,k2,rfl⟩:=vM h6
     simp at h
     refine⟨a&&r1,r2,?_,by simpa using k2,by rw[<- h,Bool.and_assoc]⟩
     simp[iL,h5,k1]
    ·cases h
theorem DA{g:TypeId->Option (List TypeDesc)}{d:Nat}{w:World}(hg:∀(t:TypeId) (l:List TypeDesc) (b:Bool) (n:Nat),g t=some l->fm P t=some (b,n)->n=l.length->(b=false->n=1)->∀ us vs r,iL l us vs=some r->(Op.equalIn d t (valOf b us) (valOf b vs)).run P w= .ok r w):
    ∀(fs:List Field) (off:Nat) (l:List TypeDesc) (us vs:List Value) (r:Bool),LX g P fs off=some l->off<=us.length->off<=vs.length->iL l (us.drop off) (vs.drop off)=some r->(Op.eqFields d us.toArray vs.toArray fs).run P w= .ok r w
 | [],off,l,us,vs,r,h,hu,hv,hr=>by
  simp[LX] at h
  subst h
  have h1:=lg hr
  have h2:us.drop off=[]:=ZA h1.1
  have h3:vs.drop off=[]:=ZA h1.2
  rw[h2,h3] at hr
  simp[iL] at hr
  simp[Op.eqFields,hr]
 | f::fs,off,l,us,vs,r,h,hu,hv,hr=>by
  simp only[LX] at h
  split at h
  ·rename_i l1 b n h1 h2
   split at h
   ·rename_i hc
    obtain⟨rfl,hname,hn,hb⟩:=hc
    simp only[Zl] at h
    obtain⟨l2,h3,rfl⟩:=h
    obtain⟨r1,r2,k1,k2,rfl⟩:=vM hr
    have hlen:=lg hr
    simp only[R0,Zd] at hlen
    rw[<- hn] at k1 k2 hlen
    rw[OI,OI] at k2
    have p1:=nR (P:=P) (w:=w) (off:=f.offset) (us:=us) h2 hb (by omega)
    have p2:=nR (P:=P) (w:=w) (off:=f.offset) (us:=vs) h2 hb (by omega)
    have p3:=hg f.type l1 b n h1 h2 hn hb _ _ _ k1
    have ih:=DA hg fs (f.offset+n) l2 us vs r2 h3 (by omega) (by omega) k2
    simp only[Op.eqFields,hname,ne_eq,not_false_eq_true,if_true,Sem.run_bind,p1,p2,p3,Result.andThen_ok]
    cases r1
    ·simp
    ·simpa using ih
   ·cases h
  ·cases h
theorem qQ{d m:Nat}{e:TypeId}{l:List TypeDesc}{b:Bool}{w:World}(ht:fm P e=some (b,m))(hm:m=l.length)(hb:b=false->m=1)(hg:∀ us vs r,iL l us vs=some r->(Op.equalIn d e (valOf b us) (valOf b vs)).run P w= .ok r w):
    ∀(n k:Nat) (us vs:List Value) (r:Bool),k*m<=us.length->k*m<=vs.length->iL (List.replicate n l).flatten (us.drop (k*m)) (vs.drop (k*m))=some r->(Op.eqItems d e m us.toArray vs.toArray (List.range' k n)).run P w= .ok r w
 | 0,k,us,vs,r,hu,hv,hr=>by
  have h1:=lg hr
  have h2:us.drop (k*m)=[]:=ZA h1.1
  have h3:vs.drop (k*m)=[]:=ZA h1.2
  rw[h2,h3] at hr
  simp[iL] at hr
  simp[Op.eqItems,hr]
 | n+1,k,us,vs,r,hu,hv,hr=>by
  rw[Vl,R1] at hr
  have hlen:=lg hr
  simp only[R0,Zd] at hlen
  obtain⟨r1,r2,k1,k2,rfl⟩:=vM hr
  rw[<- hm] at k1 k2 hlen
  rw[OI,OI] at k2
  have e1:k*m+m=(k+1)*m:=by rw[EV,ZM]
  rw[e1] at k2
  have p1:=nR (P:=P) (w:=w) (off:=k*m) (us:=us) ht hb (by omega)
  have p2:=nR (P:=P) (w:=w) (off:=k*m) (us:=vs) ht hb (by omega)
  have p3:=hg _ _ _ k1
  have ih:=qQ ht hm hb hg n (k+1) us vs r2 (by omega) (by omega) k2
  simp only[List.range'_succ,Op.eqItems,Sem.run_bind,p1,p2,p3,Result.andThen_ok]
  cases r1
  ·simp
  ·simpa using ih
theorem uP{w:World}:∀(d:Nat) (t:TypeId) (l:List TypeDesc) (b:Bool) (n:Nat),eqTy P d t=some l->fm P t=some (b,n)->n=l.length->(b=false->n=1)->∀(k:Nat) (us vs:List Value) (r:Bool),iL l us vs=some r->(Op.equalIn (d+k) t (valOf b us) (valOf b vs)).run P w= .ok r w
 | 0,_,_,_,_,h,_,_,_,_,_,_,_,_=>by simp[eqTy] at h
 | d+1,t,l,b,n,h,ht,hn,hb,k,us,vs,r,hr=>by
  obtain⟨dd,inf,hu,hi,I7,hsz⟩:=iC ht
  have hlen:=lg hr
  unfold eqTy at h
  rw[show d+1+k=d+k+1 by omega]
  rw[hu] at h
  have scalar:∀ td:TypeDesc,l=[td]->ve dd=false->∃ u v,us=[u]∧vs=[v]∧Jh td u v=some r∧b=false:=by
   rintro td rfl hd
   simp at hlen
   obtain⟨u,rfl⟩:=List.length_eq_one_iff.1 hlen.1
   obtain⟨v,rfl⟩:=List.length_eq_one_iff.1 hlen.2
   refine⟨u,v,rfl,rfl,?_,by rw[<- I7,hd]⟩
   simp only[iL] at hr
   split at hr
   ·rename_i a c h5 h6
    simp at h6 hr
    subst h6
    simpa[h5] using hr
   ·cases hr
  cases dd <;> simp only[VN] at h <;> try (cases h;done)
  case bool=>
   obtain⟨u,v,rfl,rfl,h1,rfl⟩:=scalar _ h.symm rfl
   unfold Jh at h1
   split at h1 <;> simp at h1 <;> try contradiction
   subst h1
   simp[valOf,Op.equalIn,run_underlying hu]
  case int ik=>
   obtain⟨u,v,rfl,rfl,h1,rfl⟩:=scalar _ h.symm rfl
   unfold Jh at h1
   split at h1 <;> simp at h1 <;> try contradiction
   obtain⟨rfl,rfl⟩:=h1
   simp[valOf,Op.equalIn,run_underlying hu]
  case string=>
   obtain⟨u,v,rfl,rfl,h1,rfl⟩:=scalar _ h.symm rfl
   unfold Jh at h1
   split at h1 <;> simp at h1 <;> try contradiction
   subst h1
   simp[valOf,Op.equalIn,run_underlying hu]
  case struct fs=>
   split at h
   ·cases h
   ·rename_i hst
    have AT:b=true:=by rw[<- I7];rfl
    subst AT
    have hfo:P.fieldsOf t=fs:=by simp[Program.fieldsOf,hu]
    simp only[valOf,if_true]
    rw[run_equalIn_struct w (d+k) t _ _ (by rw[hfo];exact hu) (by simpa using hst),hfo]
    exact DA (fun t l b n h1 h2 h3 h4 us vs r h5=>uP d t l b n h1 h2 h3 h4 k us vs r h5) fs.toList 0 l us vs r h (Zv _) (Zv _) (by simpa using hr)
  case array m e=>
   split at h
   ·rename_i l1 b1 m1 h1 h2
    split at h
    ·rename_i hc
     simp at h
     subst h
     have AT:b=true:=by rw[<- I7];rfl
     subst AT
     obtain⟨_,abd,_,hi2,_,hs2⟩:=iC h2
     simp only[valOf,if_true]
     have hce:P.cellsOf e=m1:=by simp[Program.cellsOf,hi2,hs2]
     rw[run_equalIn_array w (d+k) _ _ hu hi2,hce,List.range_eq_range']
     exact qQ h2 hc.1 hc.2 (fun us vs r h5=>uP d e l1 b1 m1 h1 h2 hc.1 hc.2 k us vs r h5) m 0 us vs r (by omega) (by omega) (by simpa using hr)
    ·cases h
   ·cases h
theorem aa.Xf{x y:Operand}{t t':TypeId}{op:BinOp}{d n:Nat}{l:List TypeDesc}{cs ds:List PV}{r:Bool}(ho:o.op= .binOp op t x y t')(hop:op= .eql∨op= .neq)(hx:ev T x=some (.p (.agg cs)))(hy:ev T y=some (.p (.agg ds)))(hd:d<=10000)(he:eqTy P d t=some l)(ht:fm P t=some (true,n))(hn:n=l.length)
    (hg:P.eqGuardType P.depth t=false)(hq:Ez l cs ds=some r):aa P N o T H (.p (.bool (if op= .eql then r else !r))) H:=
 aa.aN (by simp[ho]) fun w I ρ a hi hT=>by
  obtain⟨us,hu,h1⟩:=hT.ev hx
  obtain⟨vs,hv,h2⟩:=hT.ev hy
  have h3:=D0 hq h1 h2
  have h4:=uP (P:=P) (w:=w) d t l true n he ht hn (by simp) (10000 - d) us.toList vs.toList r h3
  rw[show d+(10000 - d)=10000 by omega] at h4
  simp only[valOf,if_true,Array.toArray_toList] at h4
  have hgd:=run_eqGuard_agg (P:=P) w op t x y us vs hg
  rcases hop with rfl | rfl
  ·refine⟨.bool r,?_,by simp[az,Rel]⟩
   simp[execOp,ho,hu,hv,hgd,run_eql_struct,h4]
  ·refine⟨.bool (!r),?_,by simp[az,Rel]⟩
   simp[execOp,ho,hu,hv,hgd,run_neq_struct,h4]
theorem aa.P7{x y:Operand}{t t':TypeId}{a b:Bool}(ho:o.op= .binOp .neq t x y t')(hx:ev T x=some (.p (.bool a)))(hy:ev T y=some (.p (.bool b)))(ht:P.underlying t=some .bool):aa P N o T H (.p (.bool (!(a==b)))) H:=
 aa.aN (by simp[ho]) fun w I ρ ac hi hT=>by
  have hb:(binOp .neq t (.bool a) (.bool b)).run P w= .ok (.bool (!(a==b))) w:=by
   simp only[binOp]
   simp[run_equal_bool (P:=P) w t a b ht]
  refine⟨.bool (!(a==b)),?_,by simp[az,Rel]⟩
  simp[execOp,ho,qD hT hx,qD hT hy,zW,hb]
end
end Go.AF
end
end
