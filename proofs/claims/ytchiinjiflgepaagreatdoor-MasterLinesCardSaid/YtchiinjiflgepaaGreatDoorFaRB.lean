/-
 Regions that draw; slices, maps, ranges over functions, appends. No condition; generic over any program.
-/
import Derived.Test.YtchiinjiflgepaaGreatDoorFaRA
import Derived.Maps.RangeRun
import Derived.Laws.StructEq
import Derived.ChangeKeysEq
theorem abh{A:Prop}(h:A:=by
 apply Dt
 intro i
 simp only[Array.toList_modify,Zt,Zu,List.getElem?_modify]
 by_cases hij:j=i
 ·subst hij
  simp[hjl]
 ·simp[hij]):A:=h
theorem RI{A:Prop}(h:A:=by
 obtain⟨us,hu,h1⟩:=h
 have r:=og hρ hI hx cs _ h1
 simp only[jq]
 split
 ·rename_i a e;rw[eK e] at r;exact⟨us,hu,aj.pure.1 r⟩
 ·exact⟨us,hu,r⟩):A:=h
theorem SJ{A:Prop}(h:A:=by
 have PZ:a.eval (.const (.func (.yield l) #[] #[]))= .func (.yield l) #[] #[]:=rfl
 simp[resolve,rangeCall,hu,PZ,Deferred.ofValue]):A:=h
theorem aag{A:Prop}(h:A:=by
 simp only[aZ]
 split
 ·rename_i j hj
  obtain⟨b,h1,h2⟩:=h
  exact⟨b,hσ i j b hj h1,h2⟩
 ·trivial):A:=h
set_option linter.unnecessarySimpa false
set_option linter.unusedSectionVars false
set_option linter.unusedSimpArgs false
set_option linter.unusedVariables false
section
section
namespace Go.AF
def cu(ops:Array Oper)(o:Oper)(T:Tm):Tm:=(o.looksAt ops).filterMap fun s=>(lk T s).map (s,·)
theorem mX(T:Tm):∀(l:List Nat) (s:Nat),lk (l.filterMap fun s=>(lk T s).map (s,·)) s=if s∈l then lk T s else none
 | [],s=>by simp[lk]
 | x::l,s=>by
  have ih:=mX T l s
  by_cases hx:x=s
  ·subst hx
   cases h:lk T x with
   | none=>
    simp only[List.filterMap_cons,h,Option.map_none,Zv,true_or,if_true]
    rw[ih]
    split
    ·exact h
    ·rfl
   | some v=>simp[List.filterMap_cons,h,lk]
  ·have hb:Nat.beq x s=false:=by
     cases h0:Nat.beq x s with
     | false=>rfl
     | true=>exact absurd (ZL h0) hx
   have hm:(s∈x::l)↔s∈l:=by simp[Ne.symm hx]
   simp only[hm]
   cases h:lk T x with
   | none=>simp only[List.filterMap_cons,h,Option.map_none];exact ih
   | some v=>simp only[List.filterMap_cons,h,QA,lk,hb,cond_false];exact ih
def YJ(P:Program)(N:Nat)(ops:Array Oper)(o:Oper)(T:Tm)(H:List ak)(v:V):Prop:=
 (o.guard=none∧aa P N o (cu ops o T) H v H)∨
 (∃ j want s c x v',o.guard=some (j,want)∧qW ops j=some s∧bC N (some s)=true∧lk (cu ops o T) s=some x∧tH want x=some c∧v= .opt c v'∧(c=true->∃ T2,vY T2 (cu ops o T)∧aa P N o T2 H v' H))
def ay(P:Program)(N:Nat)(ops:Array Oper)(H:List ak)(K:Tm->Prop):List Oper->Tm->Prop
 | [],T=>K T
 | o::rest,T=>∃ v,bC N o.dst=true∧YJ P N ops o T H v∧ay P N ops H K rest (gN T o.dst v)
section
variable {P:Program} {R:Option Nat} {N κ:Nat} {Q:Post} {T:Tm} {H:List ak} {o:Oper} {ops:Array Oper} {K:Tm->Prop} {rest:List Oper}
theorem ay.nil(h:K T):ay P N ops H K [] T:=h
theorem ay.cons(d:Nat){v:V}(hd:o.dst=some d)(xe:bC N (some d)=true)(hg:o.guard=none)(hop:aa P N o (cu ops o T) H v H)(next:ay P N ops H K rest ((d,v)::T)):ay P N ops H K (o::rest) T:=
 ⟨v,by rw[hd];exact xe,.inl ⟨hg,hop⟩,by rw[hd];exact next⟩
theorem ay.guard(d s:Nat){j:Nat}{want c:Bool}{x v:V}(hd:o.dst=some d)(xe:bC N (some d)=true)(hg:o.guard=some (j,want))(hs:qW ops j=some s)(GS:bC N (some s)=true)(hb:lk (cu ops o T) s=some x)(hc:tH want x=some c)
    (T2:Tm)(h2:c=true->vY T2 (cu ops o T))(hop:c=true->aa P N o T2 H v H)(next:ay P N ops H K rest ((d,.opt c v)::T)):ay P N ops H K (o::rest) T:=
 ⟨_,by rw[hd];exact xe,.inr ⟨j,want,s,c,x,v,hg,hs,GS,hb,hc,rfl,fun h=>⟨T2,h2 h,hop h⟩⟩,by rw[hd];exact next⟩
def Hy(t:List Nat):List Edge->Nat
 | []=>0
 | e::es=>bif Region.binds .any e then(1<<<e.on)||| t.getD e.on 0||| Hy t es else Hy t es
def vK:List Nat->List Oper->List Nat
 | t,[]=>t
 | t,o::l=>vK (t++[Hy t o.after.toList]) l
def ld(m:Nat)(l:List Oper):Bool:=
 let t:=vK [] l
 let ix:=List.range l.length
 (ix.all fun i=>(l.getD i default).after.toList.all fun e=> !Region.binds .any e||decide (e.on<i))&&
 (ix.all fun i=>ix.all fun j=>i==j||((l.getD i default).dst.isNone|| !((l.getD i default).dst==(l.getD j default).dst)))&&
 (ix.all fun i=>((l.getD i default).looksAt l.toArray).all fun s=>ix.all fun j=>i==j|| !((l.getD j default).dst==some s)||(if j<i then(t.getD i 0).testBit j else(t.getD j 0).testBit i))&&
 (ix.all fun i=>decide (i<m)||(List.range i).all fun j=>(t.getD i 0).testBit j)
theorem rY(t:List Nat)(x:Nat):∀ es:List Edge,(Hy t es).testBit x=true->∃ e∈es,Region.binds .any e=true∧(x=e.on∨(t.getD e.on 0).testBit x=true)
 | [],h=>by simp[Hy] at h
 | e::es,h=>by
  simp only[Hy] at h
  cases hb:Region.binds .any e with
  | true=>
   rw[hb] at h
   simp only[cond_true,Ij,CK] at h
   rcases h with(h | h) | h
   ·refine⟨e,by simp,hb,.inl ?_⟩
    rw[Nat.one_shiftLeft,H8] at h
    simpa[eq_comm] using h
   ·exact⟨e,by simp,hb,.inr h⟩
   ·obtain⟨e',h1,h2⟩:=rY t x es h
    exact⟨e',by simp[h1],h2⟩
  | false=>
   rw[hb] at h
   obtain⟨e',h1,h2⟩:=rY t x es h
   exact⟨e',by simp[h1],h2⟩
theorem nU(f:Nat->Bool):∀(l pre:List Oper) (t:List Nat),t.length=pre.length->
    (∀ i o,(pre++l)[i]? =some o->f i=true->∀ e∈o.after,Region.binds .any e=true->f e.on=true)->
    (∀ i x,i<t.length->(t.getD i 0).testBit x=true->f i=true->f x=true)->∀ i x,((vK t l).getD i 0).testBit x=true->f i=true->f x=true
 | [],pre,t,hl,hc,ht,i,x,hx,hi=>by
  by_cases h:i<t.length
  ·exact ht i x h hx hi
  ·simp only[vK] at hx
   rw[Zh,ZH (by omega)] at hx
   simp at hx
 | o::l,pre,t,hl,hc,ht,i,x,hx,hi=>by
  refine nU f l (pre++[o]) _ (by simp[hl]) (by simpa using hc) ?_ i x hx hi
  intro k y hk hy hfk
  by_cases h:k<t.length
  ·rw[Zh,Zd h,<- Zh] at hy
   exact ht k y h hy hfk
  ·have hk':k=t.length:=by simp at hk;omega
   subst hk'
   rw[Zh,Zj (Zg _)] at hy
   simp only[NQ,List.getElem?_cons_zero,NW] at hy
   obtain⟨e,he,hb,hy⟩:=rY t y _ hy
   have ho:(pre++o::l)[t.length]? =some o:=by rw[hl];simp
   have hon:=hc _ o ho hfk e (by simpa using he) hb
   rcases hy with rfl | hy
   ·exact hon
   ·by_cases h2:e.on<t.length
    ·exact ht e.on y h2 hy hon
    ·rw[Zh,ZH (by omega)] at hy
     simp at hy
def tl(l:List Oper)(T:Tm)(vs:Nat->V)(f:Nat->Bool)(s:Nat):Option V:=
 match (List.range l.length).find? fun j=>f j&&(l.getD j default).dst==some s with
 | some j=>some (vs j)
 | none=>lk T s
structure gS (m:Nat) (l:List Oper):Prop where
 back:∀(i:Nat) (o:Oper),l[i]? =some o->∀ e∈o.after,Region.binds .any e=true->e.on<i
 uniq:∀(i j:Nat) (oi oj:Oper) (s:Nat),l[i]? =some oi->l[j]? =some oj->oi.dst=some s->oj.dst=some s->i=j
 look:∀(f:Nat->Bool),(∀(i:Nat) (o:Oper),l[i]? =some o->f i=true->∀ e∈o.after,Region.binds .any e=true->f e.on=true)->∀(i j:Nat) (oi oj:Oper) (s:Nat),l[i]? =some oi->l[j]? =some oj->s∈oi.looksAt l.toArray->oj.dst=some s->i≠j->(j<i->f i=true->f j=true)∧(i<j->f j=true->f i=true)
 tail:∀(f:Nat->Bool),(∀(i:Nat) (o:Oper),l[i]? =some o->f i=true->∀ e∈o.after,Region.binds .any e=true->f e.on=true)->∀ i,m<=i->i<l.length->f i=true->∀ j,j<i->f j=true
theorem kO{l:List Oper}{i:Nat}{o:Oper}(h:l[i]? =some o):l.getD i default=o:=by simp[Zh,h]
theorem cZ{α:Type}{l:List α}{i:Nat}{o:α}(h:l[i]? =some o):i<l.length:=(Za.1 h).1
theorem gS.of{m:Nat}{l:List Oper}(h:ld m l=true):gS m l:=by
 simp only[ld,Zo] at h
 obtain⟨⟨⟨h1,h2⟩,h3⟩,h4⟩:=h
 have spec:=fun(f:Nat->Bool) hc=>nU f l [] [] rfl (by simpa using hc) (fun i x h=>by simp at h)
 refine⟨fun i o ho e he hb=> ?_,fun i j oi oj s hi hj XF OR=> ?_,fun f hc i j oi oj s hi hj hs hd hne=> ?_,fun f hc i hm hi hf j hj=> ?_⟩
 ·have:=ZC.1 (ZC.1 h1 i (wX.2 (cZ ho))) e (by rw[kO ho];simpa using he)
  simpa[hb] using this
 ·have:=ZC.1 (ZC.1 h2 i (wX.2 (cZ hi))) j (wX.2 (cZ hj))
  rw[kO hi,kO hj,XF,OR] at this
  simpa using this
 ·have:=ZC.1 (ZC.1 (ZC.1 h3 i (wX.2 (cZ hi))) s (by rw[kO hi];exact hs)) j (wX.2 (cZ hj))
  rw[kO hj,hd] at this
  have acg:(i==j)=false:=by simpa using hne
  simp only[acg,Bool.false_or,BEq.rfl,Bool.not_true] at this
  constructor
  ·intro hlt V5
   rw[if_pos hlt] at this
   exact spec f hc i j (by simpa using this) V5
  ·intro hlt wZ
   rw[if_neg (by omega)] at this
   exact spec f hc j i (by simpa using this) wZ
 ·have:=ZC.1 h4 i (wX.2 hi)
  have hn:decide (i<m)=false:=by simpa using hm
  rw[hn,Bool.false_or] at this
  have:=ZC.1 this j (wX.2 hj)
  exact spec f hc i j (by simpa using this) hf
section
variable {m:Nat} {l:List Oper} {vs:Nat->V}
theorem qZ(hk:gS m l){f:Nat->Bool}{j:Nat}{o:Oper}{s:Nat}(hj:l[j]? =some o)(hf:f j=true)(hd:o.dst=some s):tl l T vs f s=some (vs j):=by
 unfold tl
 cases hfd:(List.range l.length).find? (fun j=>f j&&(l.getD j default).dst==some s) with
 | none=>
  have:=List.find?_eq_none.1 hfd j (wX.2 (cZ hj))
  rw[kO hj,hd,hf] at this
  simp at this
 | some k=>
  have h1:=List.find?_some hfd
  have h2:=wX.1 (List.mem_of_find?_eq_some hfd)
  simp only[Zo,beq_iff_eq] at h1
  have hk2:l[k]? =some l[k]:=Zb h2
  rw[kO hk2] at h1
  have:=hk.uniq j k o l[k] s hj hk2 hd h1.2
  rw[this]
theorem ng{f:Nat->Bool}{s:Nat}(h:∀ j o,l[j]? =some o->f j=true->o.dst≠some s):tl l T vs f s=lk T s:=by
 unfold tl
 cases hfd:(List.range l.length).find? (fun j=>f j&&(l.getD j default).dst==some s) with
 | none=>rfl
 | some k=>
  have h1:=List.find?_some hfd
  have h2:=wX.1 (List.mem_of_find?_eq_some hfd)
  simp only[Zo,beq_iff_eq] at h1
  have hk2:l[k]? =some l[k]:=Zb h2
  rw[kO hk2] at h1
  exact absurd h1.2 (h k l[k] hk2 h1.1)
theorem iR(hk:gS m l){f g:Nat->Bool}{s:Nat}(h:∀ j o,l[j]? =some o->o.dst=some s->f j=g j):tl l T vs f s=tl l T vs g s:=by
 by_cases hex:∃ j o,l[j]? =some o∧f j=true∧o.dst=some s
 ·obtain⟨j,o,h1,h2,h3⟩:=hex
  rw[qZ hk h1 h2 h3,qZ hk h1 ((h j o h1 h3)▸h2) h3]
 ·rw[ng (fun j o h1 h2 h3=>hex ⟨j,o,h1,h2,h3⟩),ng (fun j o h1 h2 h3=>hex ⟨j,o,h1,(h j o h1 h3).trans h2,h3⟩)]
theorem ay.vals{ops:Array Oper}:∀{l':List Oper} {T:Tm},ay P N ops H K l' T->∃(vs:Nat->V) (Tx:Nat->Tm),Tx 0=T∧(∀ i o,l'[i]? =some o->bC N o.dst=true∧YJ P N ops o (Tx i) H (vs i)∧Tx (i+1)=gN (Tx i) o.dst (vs i))∧K (Tx l'.length)
 | [],T,h=>⟨fun _=> .top,fun _=>T,rfl,fun i o ho=>by simp at ho,h⟩
 | o::l',T,h=>by
  obtain⟨v,hd,hy,hn⟩:=h
  obtain⟨vs,Tx,h0,h1,h2⟩:=ay.vals hn
  refine⟨fun i=>match i with | 0=>v | i+1=>vs i,fun i=>match i with | 0=>T | i+1=>Tx i,rfl,fun i x hx=> ?_,h2⟩
  cases i with
  | zero=>simp at hx;subst hx;exact⟨hd,hy,h0⟩
  | succ i=>simp at hx;exact h1 i x hx
theorem B1(hk:gS m l){Tx:Nat->Tm}{M:Nat}(hM:M<=l.length)(h0:Tx 0=T)(h1:∀ i o,i<M->l[i]? =some o->Tx (i+1)=gN (Tx i) o.dst (vs i)):∀ i,i<=M->∀ s,lk (Tx i) s=tl l T vs (fun j=>decide (j<i)) s
 | 0,_,s=>by rw[h0,ng (fun j o _ h=>by simp at h)]
 | i+1,hi,s=>by
  have ho:l[i]? =some (l[i]'(by omega)):=Zb _
  rw[h1 i _ (by omega) ho]
  have ih:=B1 hk hM h0 h1 i (by omega) s
  by_cases hs:(l[i]'(by omega)).dst=some s
  ·rw[hs,qZ hk ho (by simp) hs]
   simp[gN,lk]
  ·have e:lk (gN (Tx i) (l[i]'(by omega)).dst (vs i)) s=lk (Tx i) s:=by
     cases hd:(l[i]'(by omega)).dst with
     | none=>rfl
     | some d=>
      have hne:d≠s:=fun e=>hs (by rw[hd,e])
      have hb:Nat.beq d s=false:=by
       cases h0:Nat.beq d s with
       | false=>rfl
       | true=>exact absurd (ZL h0) hne
      simp[gN,lk,hb]
   rw[e,ih]
   refine iR hk fun j o hj hd=> ?_
   have hne:j≠i:=fun e=>by
    subst e
    rw[ho] at hj
    cases hj
    exact hs hd
   simp;omega
theorem count_set:∀(l:List Bool) (i:Nat),l[i]? =some false->(l.set i true).count false+1=l.count false
 | [],i,h=>by simp at h
 | b::l,0,h=>by simp at h;subst h;simp
 | b::l,i+1,h=>by
  simp at h
  have:=count_set l i h
  cases b <;> simp <;> omega
def SI(κ:Nat)(P:Program)(N:Nat)(H:List ak)(l:List Oper)(T:Tm)(vs:Nat->V)(B:pV)(w0:World)(I0:Nat->Prop)(ρ0:List Nat)(f:Nat->Bool)(a:Act)(w:World):Prop:=
 ∃ I ρ,cR w0 I0 ρ0 w I ρ∧Inv P w I ρ H∧a.tmps.size=N∧(∀ s v,tl l T vs f s=some v->aG P w I ρ v (a.tmps.getD s undef))∧Marks κ B w I ρ a.defers
def fl(listed:Array Bool)(i:Nat):Bool:=listed.getD i false
theorem jF{listed:Array Bool}{i:Nat}(hi:i<listed.size)(j:Nat):fl (listed.setIfInBounds i true) j=(decide (j=i)||fl listed j):=by
 unfold fl
 by_cases h:j=i
 ·subst h;simp[hi]
 ·simp[h,Ne.symm h]
theorem sC(hk:gS m l){QX:Exit->Act->World->Prop}:∀(fuel k:Nat) (listed:Array Bool) (a:Act) (w:World),fuel+k=l.length->m<=k->listed.size=l.length->(∀ i,i<l.length->fl listed i=decide (i<k))->
    wpListIn (Fr R) 0 P l.toArray QX (l.drop k) a w->wpAnyIn (Fr R) 0 P .any l.toArray QX fuel listed a w
 | 0,k,listed,a,w,hf,hm,hsz,hl,h=>by
  have hk':k=l.length:=by omega
  subst hk'
  refine⟨?_,by simpa[wpListIn] using h⟩
  refine List.eq_nil_iff_forall_not_mem.2 fun i hi=> ?_
  obtain⟨h1,o,ho,_⟩:=mem_ready.1 hi
  have hlt:i<l.length:=cZ (by simpa using ho)
  have h2:=hl i hlt
  unfold fl at h2
  simp[hsz,hlt] at h1 h2
  rw[h1] at h2;cases h2
 | fuel+1,k,listed,a,w,hf,hm,hsz,hl,h=>by
  have hlt:k<l.length:=by omega
  have ho:l[k]? =some l[k]:=Zb hlt
  have hr:k∈Region.ready .any l.toArray listed:=by
   refine mem_ready.2 ⟨?_,l[k],by simpa using ho,fun e he hb=> ?_⟩
   ·have:=hl k hlt
    unfold fl at this
    simp[hsz,hlt] at this ⊢
    exact this
   ·have hlt2:=hk.back k _ ho e he hb
    have:=hl e.on (by omega)
    unfold fl at this
    simpa[hlt2] using this
  refine⟨(fun h0=>by rw[h0] at hr;cases hr),fun i hi=> ?_⟩
  have hik:i=k:=by
   obtain⟨h1,o,ho',hall⟩:=mem_ready.1 hi
   have XJ:l[i]? =some o:=by simpa using ho'
   have hilt:=cZ XJ
   have h2:=hl i hilt
   unfold fl at h2
   simp[hsz,hilt] at h1 h2
   rw[h1] at h2
   have hki:k<=i:=by simpa using h2.symm
   by_cases he:i=k
   ·exact he
   ·exfalso
    have hf:=hk.tail (fun j=>decide (j=i)||fl listed j) (fun j oj hj wZ e he hb=>by
     simp only[CK,Zl] at wZ ⊢
     rcases wZ with rfl | wZ
     ·rw[XJ] at hj;cases hj
      exact .inr (hall e he hb)
     ·have h3:=hl j (cZ hj)
      rw[wZ] at h3
      have Eg:j<k:=by simpa using h3.symm
      have:=hk.back j _ hj e he hb
      exact .inr (by rw[hl e.on (by omega)];simp;omega)) i (by omega) hilt (by simp) k (by omega)
    have h4:=hl k hlt
    simp[Ne.symm he,h4] at hf
  subst hik
  have YO:l.drop i=l[i]::l.drop (i+1):=VI hlt
  rw[YO] at h
  unfold wpOpIn
  have hoo:l.toArray[i]? =some l[i]:=by simpa using ho
  simp only[hoo]
  have next:∀ a w,wpListIn (Fr R) 0 P l.toArray QX (l.drop (i+1)) a w->wpAnyIn (Fr R) 0 P .any l.toArray QX fuel (listed.setIfInBounds i true) a w:=fun a w h=>by
   refine sC hk fuel (i+1) _ a w (by omega) (by omega) (by simp[hsz]) (fun j hj=> ?_) h
   rw[jF (by omega),hl j hj]
   by_cases e:j=i
   ·subst e;simp
   ·simp[e];omega
  simp only[wpListIn] at h
  split
  ·rename_i hw;rw[if_pos hw] at h;exact Oper.wpIn_mono next h
  ·rename_i hw;rw[if_neg hw] at h;exact⟨h.1,next _ _ h.2⟩
def Wv(P:Program)(N:Nat)(o:Oper)(T:Tm)(H:List ak)(v:V)(G:List ak->Prop):Prop:=
 ∀ R w I ρ a,Inv P w I ρ H->bR P w I ρ N T a.tmps->∀(K:Act->World->Prop) (QX:Exit->Act->World->Prop),
  (∀ u w' I' ρ' H2,G H2->Ext w I ρ w' I' ρ'->Inv P w' I' ρ' H2->aG P w' I' ρ' v u->K (a.put o.dst u) w')->o.wpIn (Fr R) 0 P a w K QX
def Yo(P:Program)(G:List ak->Prop)(H:List ak)(b:Bool)(w:World)(I:Nat->Prop)(ρ:List Nat):Prop:=∃ H2,(bif b then G H2 else H2=H)∧Inv P w I ρ H2
section
variable {G:List ak->Prop}
def SIE(κ:Nat)(P:Program)(N:Nat)(H:List ak)(G:List ak->Prop)(q:Nat)(l:List Oper)(T:Tm)(vs:Nat->V)(B:pV)(w0:World)(I0:Nat->Prop)(ρ0:List Nat)(f:Nat->Bool)(a:Act)(w:World):Prop:=
 ∃ I ρ,cR w0 I0 ρ0 w I ρ∧Yo P G H (f q) w I ρ∧a.tmps.size=N∧(∀ s v,tl l T vs f s=some v->aG P w I ρ v (a.tmps.getD s undef))∧Marks κ B w I ρ a.defers
theorem qm(hk:gS m l)(hm:m<=l.length){q:Nat}{B:pV}{w0:World}{I0:Nat->Prop}{ρ0:List Nat}{QX:Exit->Act->World->Prop}{Tx:Nat->Tm}(h0:Tx 0=T)
    (h1:∀ i o,i<m->l[i]? =some o->bC N o.dst=true∧((i≠q∧∀ H0,(H0=H∨G H0)->YJ P N l.toArray o (Tx i) H0 (vs i))∨(i=q∧o.guard=none∧Wv P N o (cu l.toArray o (Tx i)) H (vs i) G))∧Tx (i+1)=gN (Tx i) o.dst (vs i))
    (hK:∀ H2,(bif decide (q<m) then G H2 else H2=H)->∀ a w I ρ,cR w0 I0 ρ0 w I ρ->Inv P w I ρ H2->bR P w I ρ N (Tx m) a.tmps->Marks κ B w I ρ a.defers->wpListIn (Fr R) 0 P l.toArray QX (l.drop m) a w):
    ∀(fuel:Nat) (listed:Array Bool) (a:Act) (w:World),listed.toList.count false=fuel->listed.size=l.length->(∀ i o,l[i]? =some o->fl listed i=true->∀ e∈o.after,Region.binds .any e=true->fl listed e.on=true)->(∀ i,m<=i->fl listed i=false)->
    SIE κ P N H G q l T vs B w0 I0 ρ0 (fl listed) a w->wpAnyIn (Fr R) 0 P .any l.toArray QX fuel listed a w:=by
 intro fuel
 have hlk:=B1 (vs:=vs) hk hm h0 (fun i o hi ho=>(h1 i o hi ho).2.2)
 have done:∀(fuel:Nat) (listed:Array Bool) (a:Act) (w:World),listed.toList.count false=fuel->listed.size=l.length->(∀ i,m<=i->fl listed i=false)->(∀ i,i<m->fl listed i=true)->SIE κ P N H G q l T vs B w0 I0 ρ0 (fl listed) a w->wpAnyIn (Fr R) 0 P .any l.toArray QX fuel listed a w:=by
  intro fuel listed a w sF hsz CL hall hsi
  obtain⟨I,ρ,he,hi,hs,cT,hmk⟩:=hsi
  obtain⟨H2,hG,hi⟩:=hi
  have hfl:∀ i,fl listed i=decide (i<m):=fun i=>by
   exact aaJ
  rw[hfl q] at hG
  have Dp:fuel+m=l.length:=by
   exact Te
  refine sC hk fuel m listed a w Dp (Zg _) hsz (fun i _=>hfl i) (hK H2 hG a w I ρ he hi ⟨hs,fun s v hv=>cT s v ?_⟩ hmk)
  rw[<- hv,hlk m (Zg _)]
  exact iR hk fun j o hj hd=>hfl j
 induction fuel with
 | zero=>
  exact QY
 | succ fuel ih=>
  intro listed a w sF hsz hcl CL hsi
  by_cases hall:∀ i,i<m->fl listed i=true
  ·exact Rf
  ·obtain⟨i0,rU,hmin⟩:∃ i0,(i0<m∧fl listed i0=false)∧∀ j,j<i0->fl listed j=true:=by
     exact Q3
   have NL:l[i0]? =some (l[i0]'(by omega)):=Zb _
   have Gr:i0∈Region.ready .any l.toArray listed:=by
    exact Ml
   refine⟨(fun h=>by rw[h] at Gr;cases Gr),fun i hi=> ?_⟩
   obtain⟨h3,o,ho',hev⟩:=mem_ready.1 hi
   have ho:l[i]? =some o:=by simpa using ho'
   have hilt:=cZ ho
   have BK:∀ j oj,l[j]? =some oj->(decide (j=i)||fl listed j)=true->∀ e∈oj.after,Region.binds .any e=true->(decide (e.on=i)||fl listed e.on)=true:=fun j oj hj wZ e he hb=>by
    exact IM
   have tG:i<m:=by
    exact Ql
   have w7:fl listed i=false:=by
    exact KK
   obtain⟨v7,hy,_⟩:=h1 i o tG ho
   obtain⟨I,ρ,he,hinv,hs,cT,hmk⟩:=hsi
   have tD:∀ s v,lk (cu l.toArray o (Tx i)) s=some v->aG P w I ρ v (a.tmps.getD s undef):=by
    exact L2
   have Bb:bR P w I ρ N (cu l.toArray o (Tx i)) a.tmps:=⟨hs,tD⟩
   have next:∀ u w' I' ρ',Ext w I ρ w' I' ρ'->Yo P G H (fl (listed.setIfInBounds i true) q) w' I' ρ'->aG P w' I' ρ' (vs i) u->wpAnyIn (Fr R) 0 P .any l.toArray QX fuel (listed.setIfInBounds i true) (a.put o.dst u) w':=by
    exact Qk
   have step:∀(H0:List ak),Inv P w I ρ H0->(∀ u w' I' ρ',Ext w I ρ w' I' ρ'->Inv P w' I' ρ' H0->aG P w' I' ρ' (vs i) u->wpAnyIn (Fr R) 0 P .any l.toArray QX fuel (listed.setIfInBounds i true) (a.put o.dst u) w')->YJ P N l.toArray o (Tx i) H0 (vs i)->
       wpOpIn (Fr R) 0 P l.toArray QX i (wpAnyIn (Fr R) 0 P .any l.toArray QX fuel (listed.setIfInBounds i true)) a w:=by
    intro H0 hinv next hy
    unfold wpOpIn
    simp only[ho']
    rcases hy with⟨hg,hop⟩ | ⟨j,want,s,c,x,v',hg,pE,GS,hb,hc,hv,hop⟩
    ·exact Eh
    ·exact Rj
   rcases hy with⟨Kr,hy⟩ | ⟨Kr,hg,hop⟩
   ·have e:fl (listed.setIfInBounds i true) q=fl listed q:=by
      rw[jF (by omega)]
      simp[Ne.symm Kr]
    rw[e] at next
    obtain⟨H0,hG,hinv⟩:=hinv
    refine step H0 hinv (fun u w' I' ρ' g1 g2 g3=>next u w' I' ρ' g1 ⟨H0,hG,g2⟩ g3) (hy H0 ?_)
    cases hfq:fl listed q with
    | true=>rw[hfq] at hG;exact .inr hG
    | false=>rw[hfq] at hG;exact .inl hG
   ·subst Kr
    rw[w7] at hinv
    obtain⟨H0,rfl,hinv⟩:=hinv
    rw[show fl (listed.setIfInBounds i true) i=true by rw[jF (by omega)];simp] at next
    unfold wpOpIn
    simp only[ho']
    simp only[Region.wanted,hg,if_true]
    exact hop R w I ρ a hinv Bb _ _ fun u w' I' ρ' H2 g0 g1 g2 g3=>next u w' I' ρ' g1 ⟨H2,g0,g2⟩ g3
end
theorem aC.az{id:Nat}(m:Nat)(DR:P.follows .mixedOrders=true)(hk:ld m l=true)(hm:m<=l.length)(h:ay P N l.toArray H (fun T'=>aq P R N κ l.toArray (l.drop m) Q T' H) (l.take m) T):aC P R N κ (.region id l.toArray true) Q T H:=by
 intro B w I ρ a hi ht hmk
 obtain⟨vs,Tx,h0,h1,h2⟩:=ay.vals h
 have hlen:(l.take m).length=m:=by simp;omega
 rw[hlen] at h2
 refine wpIn_region_any DR ?_
 have hi':Inv P w.drew I ρ H:=hi.drew
 refine qm (κ:=κ) (G:=fun _=>False) (q:=m) (gS.of hk) hm (B:=B) (w0:=w) (I0:=I) (ρ0:=ρ) h0 (fun i o tG ho=>by
  obtain⟨k1,k2,k3⟩:=h1 i o (by rw[ZU,if_pos tG];exact ho)
  exact⟨k1,.inl ⟨by omega,fun H0 h0=>by
   rcases h0 with rfl | h0
   ·exact k2
   ·exact h0.elim⟩,k3⟩) ?_ _ _ a w.drew (by simp) (by simp) ?_ ?_ ?_
 ·intro H2 hG a' w' I' ρ' he hi2 nF hm2
  have hG:H2=H:=by simpa using hG
  subst hG
  exact Lg
 ·exact DS
 ·exact BI
 ·have e0:fl (Array.replicate l.length false) m=false:=by
    unfold fl
    by_cases hlt:m<l.length <;> simp[hlt]
  refine⟨I,ρ,Ext.drew.w,⟨H,(show(bif fl (Array.replicate l.length false) m then False else H=H) from by rw[e0];rfl),hi'⟩,ht.size,fun s v hv=> ?_,hmk.ext Ext.drew⟩
  exact Fp
end
end
section
variable {P:Program} {R:Option Nat} {N κ:Nat} {Q Q':Post} {T T':Tm} {H H':List ak} {o:Oper} {ops:Array Oper} {rest:List Oper}
theorem aq.c(d:Nat){v:V}(hd:o.dst=some d)(hN:bC N (some d)=true)(hg:o.guard=none)(hop:aa P N o T H v H')(next:aq P R N κ ops rest Q ((d,v)::T) H'):aq P R N κ ops (o::rest) Q T H:=
 aq.cons hg (by rw[hd];exact hN) hop (by rw[hd];exact next)
theorem aq.c0{v:V}(hd:o.dst=none)(hg:o.guard=none)(hop:aa P N o T H v H')(next:aq P R N κ ops rest Q T H'):aq P R N κ ops (o::rest) Q T H:=
 aq.cons hg (by rw[hd];rfl) hop (by rw[hd];exact next)
theorem aq.g(d s:Nat){j:Nat}{want c:Bool}{x v:V}(hd:o.dst=some d)(hN:bC N (some d)=true)(hg:o.guard=some (j,want))(hs:qW ops j=some s)(GS:bC N (some s)=true)
    (hb:lk T s=some x)(hc:tH want x=some c)(T2:Tm)(h2:c=true->vY T2 T)(hop:c=true->aa P N o T2 H v H)(next:aq P R N κ ops rest Q ((d,.opt c v)::T) H):aq P R N κ ops (o::rest) Q T H:=
 aq.guard hg hs (by rw[hd];exact hN) GS hb hc T2 h2 hop (by rw[hd];exact next)
theorem aA{n:Int}(h: -9223372036854775808<=n∧n<=9223372036854775807):IntKind.i64.wrap n=n:=by rw[IntKind.wrap_i64];omega
theorem aaZ{n:Int}(h:0<=n∧n<=255):IntKind.u8.wrap n=n:=by rw[IntKind.wrap_u8];omega
theorem u7{n:Int}(h:0<=n∧n<=4294967295):IntKind.u32.wrap n=n:=by rw[IntKind.wrap_u32];omega
theorem RW{n:Int}(h: -2147483648<=n∧n<=2147483647):IntKind.i32.wrap n=n:=by rw[IntKind.wrap_i32];omega
def Fin(P:Program)(N:Nat)(fn:Func)(r:PV):Post:=fun x T H=>(x= .normal∨x= .ret)∧fE P N fn T H (.p r)
theorem Pure.start{f:FuncId}{fn:Func}{c:Code}{args:List PV}{r:PV}(hf:P.funcs[f]? =some fn)(hb:fn.body=some c)(hN:fn.ntmps=N)(hn:args.length<=N)(h:aC P none N 0 c (Fin P N fn r) (dB 0 (args.map .p)) []):Pure P f args r:=by
 subst hN
 exact Pure.iS hf hb hn h
theorem Fin.one{fn:Func}{q:ResultVar}{r:PV}(h:fn.results= #[q])(hr:pT P T H q (.p r)):Fin P N fn r .ret T H:=⟨.inr rfl,fE.one h hr⟩
theorem jy(xs:List PV):jS (xs.map .p)=some xs:=by
 induction xs with
 | nil=>rfl
 | cons x xs ih=>simp[jS,ih]
theorem Fin.many{fn:Func}{r1 r2:ResultVar}{rs:List ResultVar}{vs:List V}{xs:List PV}(h:fn.results=(r1::r2::rs).toArray)(hr:Ak P T H (r1::r2::rs) vs)(hv:vs=xs.map .p):Fin P N fn (.tuple xs) .ret T H:=by
 refine⟨.inr rfl,?_⟩
 have:=fE.many (N:=N) h hr
 have e:ki vs= .p (.tuple xs):=by
  subst hv
  simp[ki,jy]
 rw[e] at this
 exact this
def nk(P:Program)(N:Nat)(fn:Func)(Qr:V->List ak->Prop):Post:=fun x T H=>(x= .normal∨x= .ret)∧∃ v,fE P N fn T H v∧Qr v H
theorem aE.start{f:FuncId}{fn:Func}{c:Code}{args:List V}{Qr:V->List ak->Prop}(hf:P.funcs[f]? =some fn)(hb:fn.body=some c)(hN:fn.ntmps=N)(hn:args.length<=N)(h:aC P none N H.length c (nk P N fn Qr) (dB 0 args) H):aE P f args H Qr:=by
 subst hN
 exact aE.iS hf hb hn h
mutual
def jq(i:Nat)(xs:List PV):V->V
 | .p x=> .p x
 | .ptr j off=>if j=i then .p (.ip xs off) else .ptr j off
 | .row j len=>if j=i then .p (.is xs len) else .row j len
 | .sl j off len=>if j=i then .p (.is ((xs.drop off)) len) else .sl j off len
 | .map j=> .map j
 | .func fn fi ca=>match jS (lQ i xs fi),jS (lQ i xs ca) with
   | some a,some b=> .p (.func fn a b)
   | _,_=> .func fn (lQ i xs fi) (lQ i xs ca)
 | .iface t v=>match jq i xs v with
   | .p x=> .p (.iface t x)
   | y=> .iface t y
 | .agg cs=>match jS (lQ i xs cs) with
   | some a=> .p (.agg a)
   | none=> .agg (lQ i xs cs)
 | .tuple cs=>match jS (lQ i xs cs) with
   | some a=> .p (.tuple a)
   | none=> .tuple (lQ i xs cs)
 | .opt g v=> .opt g (jq i xs v)
 | .raw a n c=> .raw a n c
 | .z0=> .z0
 | .top=> .top
def lQ(i:Nat)(xs:List PV):List V->List V
 | []=>[]
 | v::vs=>jq i xs v::lQ i xs vs
end
mutual
theorem nK{w:World}{I:Nat->Prop}{ρ:List Nat}{i b:Nat}{xs:List PV}(hρ:ρ[i]? =some b)(hI:I b)(hx:aY w I xs b 0):∀(v:V) (u:Value),aG P w I ρ v u->aG P w I ρ (jq i xs v) u
 | .p x,u,h=>by simpa[jq] using h
 | .ptr j off,u,h=>by
  simp only[jq]
  split
  ·rename_i e;subst e
   obtain⟨b',hb,hu⟩:=h
   rw[hρ] at hb;cases hb
   exact⟨b,0,hI,by simpa using hu,hx⟩
  ·exact h
 | .row j len,u,h=>by
  simp only[jq]
  split
  ·rename_i e;subst e
   obtain⟨b',e',cap,hb,hu,_,hl⟩:=h
   rw[hρ] at hb;cases hb
   exact .inr ⟨b,0,cap,fun _=>hI,hl,hu,hx⟩
  ·exact h
 | .sl j off len,u,h=>by
  simp only[jq]
  split
  ·rename_i e;subst e
   obtain⟨b',cap,hb,hu,hl⟩:=h
   rw[hρ] at hb;cases hb
   exact .inr ⟨b,off,cap,fun _=>hI,hl,hu,by simpa using aY.drop off hx⟩
  ·exact h
 | .map j,u,h=>by simpa[jq] using h
 | .func fn fi ca,u,h=>by
  obtain⟨us,vs,hu,h1,h2⟩:=h
  have r1:=og hρ hI hx fi _ h1
  have r2:=og hρ hI hx ca _ h2
  simp only[jq]
  split
  ·rename_i a c e1 e2
   rw[eK e1] at r1
   rw[eK e2] at r2
   exact⟨us,vs,hu,aj.pure.1 r1,aj.pure.1 r2⟩
  ·exact⟨us,vs,hu,r1,r2⟩
 | .iface t v,u,h=>by
  obtain⟨x,hu,h1⟩:=h
  have r:=nK hρ hI hx v x h1
  simp only[jq]
  split
  ·rename_i y e;rw[e] at r;exact⟨x,hu,r⟩
  ·exact⟨x,hu,r⟩
 | .agg cs,u,h=>by
  exact RI
 | .tuple cs,u,h=>by
  exact RI
 | .opt g v,u,h=>⟨fun hg=>nK hρ hI hx v u (h.1 hg),h.2⟩
 | .raw _ _ _,u,h=>by simpa[jq] using h
 | .z0,u,h=>by simpa[jq] using h
 | .top,_,_=>by simp[jq,aG]
theorem og{w:World}{I:Nat->Prop}{ρ:List Nat}{i b:Nat}{xs:List PV}(hρ:ρ[i]? =some b)(hI:I b)(hx:aY w I xs b 0):∀(vs:List V) (us:List Value),aj P w I ρ vs us->aj P w I ρ (lQ i xs vs) us
 | [],us,h=>by simpa[lQ] using h
 | v::vs,us,h=>by
  obtain⟨u,us',hu,h1,h2⟩:=h
  exact⟨u,us',hu,nK hρ hI hx v u h1,og hρ hI hx vs us' h2⟩
end
def xB(i:Nat)(xs:List PV):Tm->Tm
 | []=>[]
 | (s,v)::r=>(s,jq i xs v)::xB i xs r
theorem oF{i:Nat}{xs:List PV}:∀(T:Tm) (s:Nat),lk (xB i xs T) s=(lk T s).map (jq i xs)
 | [],s=>rfl
 | (a,v)::r,s=>by
  simp only[xB,lk]
  cases Nat.beq a s with
  | true=>rfl
  | false=>exact oF r s
theorem aY.mK{w:World}{I:Nat->Prop}{b:Nat}:∀(xs:List PV) (us:List Value) (k:Nat),aW w I xs us->(∀ j u,us[j]? =some u->w.cell? ⟨b,k+j,none⟩=some u)->aY w I xs b k
 | [],_,_,_,_=>by simp[aY]
 | x::xs,us,k,h,hc=>by
  obtain⟨u,us',rfl,h1,h2⟩:=h
  exact⟨⟨u,by simpa using hc 0 u rfl,h1⟩,aY.mK xs us' (k+1) h2 fun j v hj=>by have:=hc (j+1) v (by simpa using hj);rwa [show k+(j+1)=k+1+j by omega] at this⟩
theorem oD{w:World}{I:Nat->Prop}{ρ:List Nat}{i:Nat}{xs:List PV}{tmps:Array Value}(hi:Inv P w I ρ H)(hc:b6 H[i]? =some (xs.map .p))(ht:bR P w I ρ N T tmps):
    ∃ I',Ext w I ρ w I' ρ∧Inv P w I' ρ (H.set i .dead)∧bR P w I' ρ N (xB i xs T) tmps:=by
 obtain⟨b,arr,e,hρ,hw,hl,hr⟩:=iH hi hc
 have hH:∃ blk,H[i]? =some blk∧blk.live=true:=by
  exact abd
 obtain⟨blk,hH,e9⟩:=hH
 have hE:=Ext.freeze hi hρ hH e9
 refine⟨_,hE,Inv.freeze hi hρ hH e9,ht.size,fun s v hv=> ?_⟩
 rw[oF,Zm] at hv
 obtain⟨v0,h1,rfl⟩:=hv
 have hx:aY w (fun k=>I k∨k=b) xs b 0:=by
  exact S5
 exact nK hρ (.inr rfl) hx v0 _ ((ht.at_ s v0 h1).ext hE)
theorem aq.freeze(i:Nat){xs:List PV}{l:List Oper}{vs:List V}(hc:b6 H[i]? =some vs)(hp:jS vs=some xs)(h:aq P R N κ ops l Q (xB i xs T) (H.set i .dead)):aq P R N κ ops l Q T H:=by
 intro QX B w I ρ a hi ht hm hq
 rw[eK hp] at hc
 obtain⟨I',h1,h2,h3⟩:=oD hi hc ht
 exact h QX B w I' ρ a h2 h3 (hm.ext h1) fun e a2 w2 q=>hq e a2 w2 (QC.ext h1.w q)
theorem aC.freeze(i:Nat){xs:List PV}{c:Code}{vs:List V}(hc:b6 H[i]? =some vs)(hp:jS vs=some xs)(h:aC P R N κ c Q (xB i xs T) (H.set i .dead)):aC P R N κ c Q T H:=by
 intro B w I ρ a hi ht hm
 rw[eK hp] at hc
 obtain⟨I',h1,h2,h3⟩:=oD hi hc ht
 exact wpIn_mono (h B w I' ρ a h2 h3 (hm.ext h1)) fun _ _ _ q=>QC.ext h1.w q
theorem mj{α β:Type}{f:α->List β}{sz:Nat}(hf:∀ x,(f x).length=sz):∀(xs:List α) (k:Nat) (hk:k<xs.length),((xs.flatMap f).drop (k*sz)).take sz=f xs[k]
 | x::xs,0,_=>by
  simp only[Nat.zero_mul,Xj,ZJ,List.getElem_cons_zero]
  rw[ZaP (by rw[hf];exact Zg _)]
  rw[<- hf x,ZT]
 | x::xs,k+1,hk=>by
  have ih:=mj hf xs k (by simpa using hk)
  simp only[ZJ,List.getElem_cons_succ]
  rw[List.drop_append,ZbI (by rw[hf,CM,ZN];omega),FF,hf]
  rw[show(k+1)*sz - sz=k*sz by rw[CM,ZN];omega]
  exact ih
theorem aa.kn{x y:Operand}{t:TypeId}{kd:IntKind}{sz len k:Nat}{cs win:List PV}(ho:o.op= .indexAddr t x y)(hx:ev T x=some (.p (.is cs len)))(hy:ev T y=some (.p (.int kd (k:Int))))(ht:eB P t=true)(he:nq P t=some sz)
    (hk:k<len)(hw:(cs.drop (k*sz)).take sz=win)(hn:cs≠[]):aa P N o T H (.p (.ip win 0)) H:=
 aa.aR (by simp[ho]) fun w I ρ a hi hT=>by
  have hn':=c5 hT hy
  cases hu:P.underlying t with
  | none=>simp[eB,hu] at ht
  | some d=>
   cases d <;> simp[eB,hu] at ht
   rename_i e
   simp only[nq,hu,Zm] at he
   obtain⟨⟨b,m⟩,htm,rfl⟩:=he
   rcases hT.ev hx with⟨_,hz⟩ | ⟨blk,off,cap,hb,hle,pE,fD⟩
   ·omega
   ·refine⟨.pointer (some ⟨blk,off+k*m,none⟩),?_,blk,off+k*m,hb hn,rfl,?_⟩
    ·have hlt':(k:Int)<(len:Int):=by omega
     have h0:(0:Int)<=k:=by omega
     simp[execOp,ho,Instr.indexAt,hn',eT,pE,run_underlying hu,h0,hlt',aS htm,cN]
    ·rw[<- hw]
     exact aY.take m (aY.drop _ fD)
theorem aa.eM{α:Type}{x y:Operand}{t:TypeId}{kd:IntKind}{sz len k:Nat}{xs:List α}{f:α->List PV}(ho:o.op= .indexAddr t x y)(hx:ev T x=some (.p (.is (xs.flatMap f) len)))(hy:ev T y=some (.p (.int kd (k:Int))))(ht:eB P t=true)
    (he:nq P t=some sz)(hl:len=xs.length)(hf:∀ x,(f x).length=sz)(h0:0<sz)(hk:k<xs.length):aa P N o T H (.p (.ip (f xs[k]) 0)) H:=
 aa.kn ho hx hy ht he (hl▸hk) (mj hf xs k hk) (by
  intro hn
  have h1:(xs.flatMap f).length=0:=by rw[hn];rfl
  have h2:=mj hf xs k hk
  have h3:=hf xs[k]
  rw[<- h2,hn] at h3
  simp at h3
  omega)
theorem xQ{α:Type}[Inhabited α](z:List α)(hz:0<z.length):∀ n:Nat,(List.range (n*z.length)).map (fun i=>z[i%z.length]!)=(List.replicate n z).flatten
 | 0=>by simp
 | n+1=>by
  rw[CM,ZN,List.range_add,Zy,xQ z hz n,List.replicate_succ',YG]
  congr 1
  simp only[QI,Q8,List.flatten_nil,ZY]
  apply List.ext_getElem
  ·simp
  ·intro i h1 h2
   simp at h1
   have:(n*z.length+i)%z.length=i:=by
    rw[XK,Nat.add_mul_mod_self_right,Un h1]
   simp[this,h1]
theorem aW.append{w:World}{I:Nat->Prop}:∀{xs ys:List PV} {us vs:List Value},aW w I xs us->aW w I ys vs->aW w I (xs++ys) (us++vs)
 | [],ys,us,vs,h,k=>by simp[aW] at h;subst h;exact k
 | x::xs,ys,us,vs,h,k=>by
  obtain⟨u,us',rfl,h1,h2⟩:=h
  exact⟨u,us'++vs,rfl,h1,aW.append h2 k⟩
theorem aW.Ux{w:World}{I:Nat->Prop}{z:List PV}{us:List Value}(h:aW w I z us):∀ n:Nat,aW w I (List.replicate n z).flatten (List.replicate n us).flatten
 | 0=>by simp[aW]
 | n+1=>by
  simp only[Xu,Q8]
  exact aW.append h (aW.Ux h n)
theorem aW.length{w:World}{I:Nat->Prop}:∀{xs:List PV} {us:List Value},aW w I xs us->us.length=xs.length
 | [],us,h=>by simp[aW] at h;simp[h]
 | x::xs,us,h=>by
  obtain⟨u,us',rfl,_,h2⟩:=h
  simp[aW.length h2]
def nL(P:Program)(t:TypeId):Option (TypeId×List PV):=
 match P.underlying t with
 | some (.slice e)=>match cO P e,fN P e with
   | some z,some (_,n)=>if (rZ z).length=n∧0<n∧jk (.p z)=true then some (e,rZ z) else none
   | _,_=>none
 | _=>none
theorem fC{t:TypeId}{e:TypeId}{z:List PV}(h:nL P t=some (e,z)):P.underlying t=some (.slice e)∧(∃ b,fN P e=some (b,z.length))∧0<z.length∧∀ w,∃ u:Value,(zeroValue e).run P w= .ok u w∧∀ I,aW w I z u.cells.toList:=by
 unfold nL at h
 split at h
 ·rename_i e' hu
  split at h
  ·rename_i z' b n hz ht
   split at h
   ·rename_i hc
    simp at h
    obtain⟨rfl,rfl⟩:=h
    refine⟨hu,⟨b,by rw[hc.1];exact ht⟩,by rw[hc.1];exact hc.2.1,fun w=> ?_⟩
    obtain⟨u,h1,h2⟩:=mq hz w
    exact⟨u,h1,fun I=>aj.pure.1 (jY (P:=P) (ρ:=[]) (v:= .p z') (h2 I) hc.2.2)⟩
   ·cases h
  ·cases h
 ·cases h
theorem kH{w:World}{I:Nat->Prop}{ρ:List Nat}{a:Act}{t e:TypeId}{len:Nat}{parts:Array (Nat×Operand)}{z:List PV}{vs:List (Nat×V)}{r:List V}(hs:nL P t=some (e,z))(hlen:len*z.length<=16777216)(hT:bR P w I ρ N T a.tmps)(hv:jl T parts.toList=some vs)
    (hr:jI ((List.range len).map fun i=>(i*z.length,z.length)) ((List.replicate len z).flatten.map .p) vs=some r):
    ∃ arr:Array Value,aj P w I ρ r arr.toList∧arr.size=len*z.length∧(Instr.buildSlice t len (parts.map fun(x:Nat×Operand)=>(x.1,a.eval x.2))).run P w= .ok (.slice (some ⟨w.heap.size,0,none⟩) len len) (w.alloc (.cells arr e)):=by
 obtain⟨hu,⟨b,ht⟩,wW,hz⟩:=fC hs
 obtain⟨hm,cT⟩:=n8 hT hv
 obtain⟨u,h1,h2⟩:=hz w
 have h3:=h2 I
 have h4:=aW.length h3
 have hcells:∀ Qv:Array Value,Qv.toList=(List.replicate len u.cells.toList).flatten->∃ dK,Instr.fill (fun i=>some (i*z.length,z.length)) Qv (parts.toList.map fun x=>(x.1,a.eval x.2))=some dK∧aj P w I ρ r dK.toList:=by
  intro Qv h0
  refine rB (ps:=(List.range len).map fun i=>(i*z.length,z.length)) (fun i x h=> ?_) vs _ _ Qv r hm cT ?_ hr
  ·simp[Zt,Zm] at h
   obtain⟨a',ha,rfl⟩:=h
   rw[Ys] at ha
   ·simp at ha;subst ha;rfl
   ·rcases ZS i len with h' | h'
    ·exact h'
    ·rw[ZH (by simpa using h')] at ha;cases ha
  ·rw[h0]
   exact aj.pure.2 (aW.Ux h3 len)
 have hrl:r.length=len*z.length:=by
  have gen:∀(vs:List (Nat×V)) (cs r:List V) (ps:List (Nat×Nat)),jI ps cs vs=some r->r.length=cs.length:=by
   intro vs
   induction vs with
   | nil=>intro cs r ps h;simp[jI] at h;rw[h]
   | cons x vs ih=>
    intro cs r ps h
    obtain⟨i,v⟩:=x
    simp only[jI] at h
    split at h
    ·cases h
    ·split at h
     ·have:=ih _ _ _ h;rw[this,gH]
     ·cases h
  rw[gen _ _ _ _ hr]
  simp
 have hnot:¬ (len*z.length>2^24):=by
  have:(2:Nat)^24=16777216:=by decide
  omega
 by_cases hl0:len*z.length=0
 ·have Y9:len=0:=by
    rcases Nat.mul_eq_zero.1 hl0 with h | h
    ·exact h
    ·omega
  subst Y9
  obtain⟨dK,h5,h6⟩:=hcells #[] (by simp)
  refine⟨dK,h6,?_,?_⟩
  ·have:=aj.length h6;rw[hrl] at this;simpa using this
  ·simp only[Instr.buildSlice,Sem.run_bind,run_underlying hu,Result.andThen,aS ht]
   simp[newRow,newObj,Sem.run]
   simp only[Array.size,QI] at h5 ⊢
   rw[show(#[]:Array Value)=Array.map (fun(x:Nat)=>(#[]:Array Value)[x%0]!) (Array.range 0) by simp] at h5
   simp at h5
   simp[h5]
   rfl
 ·obtain⟨dK,h5,h6⟩:=hcells ((Array.range (len*z.length)).map (u.cells[· %u.cells.size]!)) (by
    have h7:u.cells.size=z.length:=by simpa using h4
    have:=xQ u.cells.toList (by rw[h4];exact wW) len
    rw[<- this]
    simp only[Array.toList_map,Array.toList_range,CZ,h7]
    apply Xx
    intro i _
    have hlt:i%z.length<u.cells.size:=by rw[h7];exact Nat.mod_lt _ wW
    simp[hlt])
  refine⟨dK,h6,?_,?_⟩
  ·have:=aj.length h6;rw[hrl] at this;simpa using this
  ·have e1:((parts.map fun(x:Nat×Operand)=>(x.1,a.eval x.2)).toList)=parts.toList.map fun x=>(x.1,a.eval x.2):=by simp
   simp only[Instr.buildSlice,Sem.run_bind,run_underlying hu,Result.andThen,aS ht]
   rw[if_neg (by simpa using hnot)]
   simp only[Sem.run_pure,Result.andThen,hl0,if_false,Sem.run_bind,h1,e1,h5]
   simp[newRow,newObj,Sem.run]
end
section
variable {P:Program} {R:Option Nat} {N κ:Nat} {Q Q':Post} {T T':Tm} {H H':List ak} {o:Oper} {ops:Array Oper} {rest:List Oper}
theorem aj.PI{w:World}{I:Nat->Prop}{ρ:List Nat}(hi:Inv P w I ρ H){vs:List V}{us:List Value}(ob:Obj)(h:aj P w I ρ vs us):aj P (w.alloc ob) (fun b=>I b∨b=w.heap.size) ρ vs us:=aj.ext (Ext.iO hi ob) h
theorem Vd{w:World}{I:Nat->Prop}{ρ:List Nat}(hi:Inv P w I ρ H){xs:List PV}{arr:Array Value}{e:TypeId}{len cap:Nat}(h:aj P w I ρ (xs.map .p) (arr.toList.take xs.length))(hl:xs.length<=arr.size)(hc:len<=cap):
    Rel (w.alloc (.cells arr e)) (fun b=>I b∨b=w.heap.size) (.is xs len) (.slice (some ⟨w.heap.size,0,none⟩) len cap):=by
 have h2:=aj.pure.1 (aj.PI hi (.cells arr e) h)
 refine .inr ⟨w.heap.size,0,cap,fun _=> .inr rfl,hc,rfl,aY.mK xs _ 0 h2 fun j u hj=> ?_⟩
 rw[ZU] at hj
 split at hj
 ·rw[World.cell?_alloc_new]
  simpa using hj
 ·cases hj
theorem aa.aF{t e:TypeId}{len:Nat}{parts:Array (Nat×Operand)}{z:List PV}{vs:List (Nat×V)}{r:List V}{xs:List PV}(ho:o.op= .buildSlice t len parts)(hs:nL P t=some (e,z))(hlen:len*z.length<=16777216)(hv:jl T parts.toList=some vs)
    (hr:jI ((List.range len).map fun i=>(i*z.length,z.length)) ((List.replicate len z).flatten.map .p) vs=some r)(hp:jS r=some xs):aa P N o T H (.p (.is xs len)) H:=
 aa.dZ (by simp[ho]) fun w I ρ a hi hT=>by
  obtain⟨arr,h1,h2,h3⟩:=kH (ρ:=ρ) hs hlen hT hv hr
  rw[eK hp] at h1
  have hl:=aj.length h1
  simp at hl
  refine⟨_,_,_,ρ,.inl (by simp only[execOp,ho,Sem.run_bind];rw[show(Array.map (fun(x:Nat×Operand)=>match x with | (i,x)=>(i,a.eval x)) parts)=parts.map fun(x:Nat×Operand)=>(x.1,a.eval x.2) from rfl,h3];rfl),Ext.iO hi _,Inv.iO hi _,?_⟩
  exact Vd hi (by rw[<- hl,<- CZ,ZT];exact h1) (by omega) (Zg _)
theorem aa.jA{t e:TypeId}{len:Nat}{parts:Array (Nat×Operand)}{z:List PV}{vs:List (Nat×V)}{r:List V}(ho:o.op= .buildSlice t len parts)(hs:nL P t=some (e,z))(hlen:len*z.length<=16777216)(hv:jl T parts.toList=some vs)
    (hr:jI ((List.range len).map fun i=>(i*z.length,z.length)) ((List.replicate len z).flatten.map .p) vs=some r):aa P N o T H (.row H.length len) (H++[.row r e]):=
 aa.dZ (by simp[ho]) fun w I ρ a hi hT=>by
  obtain⟨arr,h1,h2,h3⟩:=kH (ρ:=ρ) hs hlen hT hv hr
  obtain⟨hu,⟨b,ht⟩,wW,hz⟩:=fC hs
  have hE:Ext w I ρ (w.alloc (.cells arr e)) I (ρ++[w.heap.size]):=Ext.aI hi _
  have hl:=aj.length h1
  simp at hl
  refine⟨_,_,_,_,.inl (by simp only[execOp,ho,Sem.run_bind];rw[show(Array.map (fun(x:Nat×Operand)=>match x with | (i,x)=>(i,a.eval x)) parts)=parts.map fun(x:Nat×Operand)=>(x.1,a.eval x.2) from rfl,h3];rfl),hE,Inv.aI hi _ ⟨arr,heap_alloc_new w _,by omega,?_⟩,?_⟩
  ·rw[<- hl,NP (by simp)]
   exact aj.ext hE h1
  ·refine⟨w.heap.size,e,len,by rw[<- hi.len];simp,rfl,?_,Zg _⟩
   obtain⟨d,i,_,h5,_,h6⟩:=jz ht
   simp only[World.shape?,heap_alloc_new,h2,Program.cellsOf,h5,QA,NW,h6]
def iq(T:Tm):Option Operand->Nat->Nat->Prop
 | none,d,n=>n=d
 | some x,_,n=>∃ k,ev T x=some (.p (.int k (n:Int)))
theorem oU{w:World}{k:IntKind}{n y:Nat}{code:BoundsCode}(h:n<=y):(Instr.sliceBound (.int k (n:Int)) y code).run P w= .ok n w:=by
 have h1:(0:Int)<=n:=by omega
 have h2:(n:Int)<=(y:Int):=by omega
 simp[Instr.sliceBound,eT,h1,h2]
theorem mN{w:World}{I:Nat->Prop}{ρ:List Nat}{a:Act}(hT:bR P w I ρ N T a.tmps){lo hi:Option Operand}{NV:Bool}{len cap l h:Nat}(hl:iq T lo 0 l)(hh:iq T hi len h)(h1:l<=h)(h2:h<=cap):
    (Instr.sliceBounds NV len cap (lo.map a.eval) (hi.map a.eval) none).run P w= .ok (l,h,cap) w:=by
 have e1:∀ x:Operand,hi=some x->∃ k,a.eval x= .int k (h:Int):=fun x hx=>by
  subst hx
  obtain⟨k,hk⟩:=hh
  exact⟨k,c5 hT hk⟩
 have e2:∀ x:Operand,lo=some x->∃ k,a.eval x= .int k (l:Int):=fun x hx=>by
  subst hx
  obtain⟨k,hk⟩:=hl
  exact⟨k,c5 hT hk⟩
 cases hi with
 | none=>
  simp only[iq] at hh
  subst hh
  cases lo with
  | none=>
   simp only[iq] at hl
   subst hl
   simp[Instr.sliceBounds]
  | some x=>
   obtain⟨k,hk⟩:=e2 x rfl
   simp[Instr.sliceBounds,hk,oU h1]
 | some y=>
  obtain⟨k',hk'⟩:=e1 y rfl
  cases lo with
  | none=>
   simp only[iq] at hl
   subst hl
   simp[Instr.sliceBounds,hk',oU h2]
  | some x=>
   obtain⟨k,hk⟩:=e2 x rfl
   simp[Instr.sliceBounds,hk,hk',oU h1,oU h2]
theorem aa.kS{x:Operand}{t:TypeId}{lo hi:Option Operand}{cs r:List PV}{len l h sz:Nat}(ho:o.op= .slice t x lo hi none)(hx:ev T x=some (.p (.is cs len)))(ht:eB P t=true)(he:nq P t=some sz)(hl:iq T lo 0 l)(hh:iq T hi len h)(h1:l<=h)(h2:h<=len)
    (hr:(cs.drop (l*sz)).take ((h - l)*sz)=r):aa P N o T H (.p (.is r (h - l))) H:=
 aa.aR (by simp[ho]) fun w I ρ a hi' hT=>by
  cases hu:P.underlying t with
  | none=>simp[eB,hu] at ht
  | some d=>
   cases d <;> simp[eB,hu] at ht
   rename_i e
   simp only[nq,hu,Zm] at he
   obtain⟨⟨b,m⟩,htm,rfl⟩:=he
   rcases hT.ev hx with⟨⟨ad,cp,pE⟩,hz⟩ | ⟨blk,off,cap,hb,hle,pE,fD⟩
   ·subst hz
    have hl0:l=0:=by omega
    have hh0:h=0:=by omega
    subst hl0 hh0
    have FZ:=mN (NV:=true) (cap:=cp) hT hl hh (Zg _) (Zn _)
    cases ad with
    | none=>
     refine⟨.slice none 0 cp,?_,?_⟩
     ·simp[execOp,ho,Instr.sliceAt,run_underlying hu,pE,Instr.slice,FZ,aS htm]
     ·exact .inl ⟨⟨_,_,rfl⟩,by simp⟩
    | some ad=>
     refine⟨.slice (some ad) 0 cp,?_,?_⟩
     ·simp[execOp,ho,Instr.sliceAt,run_underlying hu,pE,Instr.slice,FZ,aS htm,Addr.add]
     ·exact .inl ⟨⟨_,_,rfl⟩,by simp⟩
   ·have FZ:=mN (NV:=true) (cap:=cap) hT hl hh h1 (by omega)
    refine⟨.slice (if cap=l then some ⟨blk,off,none⟩ else some ⟨blk,off+l*m,none⟩) (h - l) (cap - l),?_,?_⟩
    ·simp[execOp,ho,Instr.sliceAt,run_underlying hu,pE,Instr.slice,FZ,aS htm,cN]
    ·by_cases hc:cap=l
     ·have:h - l=0:=by omega
      rw[this,Nat.zero_mul,JP] at hr
      subst hr
      rw[if_pos hc,this]
      exact .inr ⟨blk,off,cap - l,fun h=>absurd rfl h,by omega,rfl,by simp[aY]⟩
     ·rw[if_neg hc,<- hr]
      refine .inr ⟨blk,off+l*m,cap - l,fun hn=>hb (fun h0=>hn (by rw[h0];simp)),by omega,rfl,aY.take _ (aY.drop _ fD)⟩
theorem aa.It{x:Operand}{t:TypeId}{lo hi:Option Operand}{s:ByteArray}{l h:Nat}(ho:o.op= .slice t x lo hi none)(hx:ev T x=some (.p (.str s)))(ht:P.underlying t=some .string)(hl:iq T lo 0 l)(hh:iq T hi s.size h)(h1:l<=h)(h2:h<=s.size):
    aa P N o T H (.p (.str (s.extract l h))) H:=
 aa.aR (by simp[ho]) fun w I ρ a hi' hT=>by
  have hst:=ke hT hx
  have FZ:=mN (NV:=false) (cap:=s.size) hT hl hh h1 h2
  exact⟨.string (s.extract l h),by simp[execOp,ho,Instr.sliceAt,run_underlying ht,hst,Instr.slice,FZ],by simp[aG,Rel]⟩
def ql(H:List ak)(sz:Nat):V->Option (List V×Nat)
 | .p (.is ys n)=>if ys.length=n*sz then some (ys.map .p,n) else none
 | .p .nilSlice=>some ([],0)
 | .row j n=>match b6 H[j]? with
   | some cs=>if n*sz<=cs.length then some (cs.take (n*sz),n) else none
   | none=>none
 | .sl j off n=>match b6 H[j]? with
   | some cs=>if off+n*sz<=cs.length then some ((cs.drop off).take (n*sz),n) else none
   | none=>none
 | _=>none
theorem lO{w:World}{I:Nat->Prop}{ρ:List Nat}{sz n:Nat}{y:V}{ys:List V}{u:Value}(hi:Inv P w I ρ H)(hy:aG P w I ρ y u)(h:ql H sz y=some (ys,n)):
    ∃ us:List Value,(∃ ad cap,u= .slice ad n cap)∧(∀ w':World,(∀ b,b<w.heap.size->w'.heap[b]? =w.heap[b]?)->(Builtin.firstCells sz n u).run P w'= .ok us.toArray w')∧(∀ k,k<=n->(Builtin.firstCells sz k u).run P w= .ok (us.take (k*sz)).toArray w)∧aj P w I ρ ys us∧us.length=n*sz:=by
 have fin:∀(blk off cap:Nat) (us:List Value),u= .slice (some ⟨blk,off,none⟩) n cap->us.length=n*sz->(∀ j v,us[j]? =some v->w.cell? ⟨blk,off+j,none⟩=some v)->aj P w I ρ ys us->
     ∃ us:List Value,(∃ ad cap,u= .slice ad n cap)∧(∀ w':World,(∀ b,b<w.heap.size->w'.heap[b]? =w.heap[b]?)->(Builtin.firstCells sz n u).run P w'= .ok us.toArray w')∧(∀ k,k<=n->(Builtin.firstCells sz k u).run P w= .ok (us.take (k*sz)).toArray w)∧aj P w I ρ ys us∧us.length=n*sz:=by
  intro blk off cap us hu hl hc hr
  refine⟨us,⟨_,_,hu⟩,fun w' hw'=> ?_,fun k hk=> ?_,hr,hl⟩
  ·rw[hu]
   have:=run_loadCells_list (P:=P) w' ⟨blk,off,none⟩ us (fun j v hj=>by
    rw[cN]
    have h1:=hc j v hj
    have hlt:=World.block_lt_of_cell? _ _ h1
    exact(pN (hw' blk hlt)).trans h1)
   rw[hl] at this
   simpa[Builtin.firstCells] using this
  ·rw[hu]
   have:=run_loadCells_list (P:=P) w ⟨blk,off,none⟩ (us.take (k*sz)) (fun j v hj=>by
    rw[cN]
    rw[ZU] at hj
    split at hj
    ·exact hc j v hj
    ·cases hj)
   rw[zC,hl,Hl (FP _ hk)] at this
   simpa[Builtin.firstCells] using this
 unfold ql at h
 split at h
 ·rename_i xs m
  split at h
  ·rename_i hlen
   simp at h
   obtain⟨rfl,rfl⟩:=h
   rcases hy with⟨⟨ad,cp,hu⟩,hz⟩ | ⟨b,o',cap,hb,hle,hu,fD⟩
   ·subst hz
    have hcs:xs=[]:=by simpa using hlen
    subst hcs
    refine⟨[],⟨_,_,hu⟩,fun w' _=>by rw[hu];cases ad <;> simp[Builtin.firstCells,loadCells,loadCellsFrom],fun k hk=> ?_,by simp[aj],by simp⟩
    have:k=0:=by omega
    subst this
    rw[hu];cases ad <;> simp[Builtin.firstCells,loadCells,loadCellsFrom]
   ·obtain⟨us,h1,h2,h3⟩:=aY.list fD
    exact fin b o' cap us hu (by rw[h2,hlen]) h3 (aj.pure.2 h1)
  ·cases h
 ·simp at h
  obtain⟨rfl,rfl⟩:=h
  have hu:u= .slice none 0 0:=hy
  refine⟨[],⟨_,_,hu⟩,fun w' _=>by rw[hu];simp[Builtin.firstCells],fun k hk=> ?_,by simp[aj],by simp⟩
  rw[hu];simp[Builtin.firstCells]
 ·rename_i j m
  split at h
  ·rename_i cs hc
   split at h
   ·rename_i hle
    simp at h
    obtain⟨rfl,rfl⟩:=h
    obtain⟨b,e,cap,hρ,hu,_,_⟩:=hy
    obtain⟨b',arr,e',qf,hw,hl,hr⟩:=iH hi hc
    rw[hρ] at qf;cases qf
    refine fin b 0 cap ((arr.toList.take cs.length).take (m*sz)) hu (by simp;omega) (fun j v hj=> ?_) (aj.take _ hr)
    rw[ZU] at hj
    split at hj
    ·exact PK
    ·cases hj
   ·cases h
  ·cases h
 ·rename_i j off m
  split at h
  ·rename_i cs hc
   split at h
   ·rename_i hle
    simp at h
    obtain⟨rfl,rfl⟩:=h
    obtain⟨b,cap,hρ,hu,_⟩:=hy
    obtain⟨b',arr,e',qf,hw,hl,hr⟩:=iH hi hc
    rw[hρ] at qf;cases qf
    refine fin b off cap (((arr.toList.take cs.length).drop off).take (m*sz)) hu (by simp;omega) (fun j v hj=> ?_) (aj.take _ (aj.drop _ hr))
    rw[ZU] at hj
    split at hj
    ·rw[Rd,ZU] at hj
     split at hj
     ·exact Lj
     ·cases hj
    ·cases hj
   ·cases h
  ·cases h
 ·cases h
theorem kF{need cap:Nat}(h:cap<need):Builtin.nextslicecap need cap<=2*need+192:=by
 unfold Builtin.nextslicecap
 split
 ·omega
 ·split
  ·omega
  ·have grow:∀(r c:Nat),c<need->Builtin.growBy need r c<=2*need+192:=by
     intro r
     induction r with
     | zero=>intro c hc;simp[Builtin.growBy];omega
     | succ r ih=>
      intro c hc
      simp only[Builtin.growBy]
      rw[if_neg (by omega)]
      by_cases h2:c+(c+768) / 4<need
      ·exact ih _ h2
      ·cases r with
       | zero=>simp only[Builtin.growBy];omega
       | succ r=>simp only[Builtin.growBy];rw[if_pos (by omega)];omega
   exact grow 4 cap h
theorem rA(cs:List V):∀(vs ts pre:List V),ts.length=vs.length->setAt (cs++pre++ts) (cs.length+pre.length) vs=cs++pre++vs
 | [],ts,pre,h=>by
  have:ts=[]:=by simpa using h
  subst this
  simp[setAt]
 | v::vs,ts,pre,h=>by
  match ts,h with
  | t::ts,h=>
   simp only[setAt]
   have e1:(cs++pre++t::ts).set (cs.length+pre.length) v=cs++(pre++[v])++ts:=by
    rw[show cs.length+pre.length=(cs++pre).length by simp,List.set_append_right _ _ (Zg _)]
    simp
   rw[e1]
   have:=rA cs vs ts (pre++[v]) (by simpa using h)
   rw[show cs.length+pre.length+1=cs.length+(pre++[v]).length by simp;omega,this]
   simp
theorem aj.Yv{w:World}{I:Nat->Prop}{ρ:List Nat}:∀(us:List Value),aj P w I ρ (List.replicate us.length .top) us
 | []=>by simp[aj]
 | u::us=>⟨u,us,rfl,trivial,aj.Yv us⟩
def tU(P:Program)(e:TypeId):Option Nat:=(P.info? e).map (·.bytes)
theorem zN{w:World}{I:Nat->Prop}{ρ:List Nat}:∀{vs:List V} {us:List Value},aj P w I ρ vs us->vs.all jT=true->∀ u∈us,zk u=true
 | [],us,h,_,u,hu=>by simp[aj] at h;subst h;cases hu
 | v::vs,us,h,ha,u,hu=>by
  obtain⟨u0,us',rfl,h3,h4⟩:=h
  simp only[P1,Zo] at ha
  rcases Zv.1 hu with rfl | hu
  ·exact mW h3 ha.1
  ·exact zN h4 ha.2 u hu
theorem run_append_grow{w:World}{t t2 e d2:TypeId}{ty:TypeId}{bb:Bool}{sz len cap n vU:Nat}{base ad:Option Addr}{inf:TypeInfo}{old new:Array Value}{uz:Value}(hu:P.underlying t=some (.slice e))(nj:fN P e=some (bb,sz))(qh:P.underlying t2=some (.slice d2))
    (kN:P.info? e=some inf)(hsmall:¬ (Builtin.nextslicecap (len+n) cap*inf.bytes>2^48))(nw:((len+n:Nat):Int)<=IntKind.i64.max)(hroom:¬ len+n<=cap)(hold:(Builtin.firstCells sz len (.slice base len cap)).run P w.drew= .ok old w.drew)
    (hnew:(Builtin.firstCells sz n (.slice ad n vU)).run P w.drew= .ok new w.drew)(hz:(zeroValue e).run P w.drew= .ok uz w.drew):
    (Builtin.append_ #[t,t2] ty #[.slice base len cap,.slice ad n vU]).run P w= .ok (.slice (some ⟨w.heap.size,0,none⟩) (len+n) ((Question.appendCap (len+n) cap e).cut (w.tape w.drawn (.appendCap (len+n) cap e))))
     (w.drew.alloc (.cells (old++new++Builtin.zeroCells uz.cells ((Question.appendCap (len+n) cap e).cut (w.tape w.drawn (.appendCap (len+n) cap e)) - (len+n))) e)):=by
 have Bx:∀ k w,(askRoom k).run P w= .ok () w:=fun k w=>by
  exact FG
 have Xk:(choose (.appendCap (len+n) cap e)).run P w= .ok ((Question.appendCap (len+n) cap e).cut (w.tape w.drawn (.appendCap (len+n) cap e))) w.drew:=by
  simp[choose,Sem.run,Question.forced]
 have h1:¬ (9223372036854775807<(len:Int)+(n:Int)):=by
  exact Yi
 have ze:¬ (281474976710656<Builtin.nextslicecap (len+n) cap*inf.bytes):=by
  exact LW
 have hf:(Question.appendCap (len+n) cap e).forced=false:=rfl
 simp[Builtin.append_,run_underlying hu,aS nj,run_underlying qh,Builtin.lenOf,hroom]
 simp only[run_typeInfo w kN,Result.andThen]
 simp[h1,ze,hf,run_typeInfo w kN,Xk,run_typeInfo w.drew kN,Bx,hold,hnew,hz,newRow,newObj,Sem.run]
 rfl
theorem aa.c6{x y:Operand}{t t2 e:TypeId}{z:List PV}{i len n iM:Nat}{cs ys:List V}{yv:V}(ho:o.op= .call {callee:= .builtin .append,args:= #[x,y],argTypes:= #[t,t2]})(hx:ev T x=some (.row i len))(hy:ev T y=some yv)(hs:nL P t=some (e,z))(nF:eB P t2=true)
    (hH:H[i]? =some (.row cs e))(hcs:cs.length=len*z.length)(hsrc:ql H z.length yv=some (ys,n))(hone:ys.all jT=true)(hby:tU P e=some iM)(hb0:0<iM)(hb:(2*(len+n)+192)*iM<=281474976710656):
    aa P N o T H (.row H.length (len+n)) (H.set i .dead++[.row (cs++ys) e]):=
 aa.dZ (by simp[ho]) fun w I ρ a hi hT=>by
  obtain⟨hu,⟨bb,nj⟩,wW,hz⟩:=fC hs
  obtain⟨b,e',cap,hρ,C6,hsh,hle⟩:=hT.ev hx
  obtain⟨us,⟨ad,vU,Au⟩,hfc,_,cT,hlen⟩:=lO hi (hT.ev hy) hsrc
  obtain⟨arr,hw,hal,har⟩:=hi.rel i b _ hρ hH
  have hce:P.cellsOf e=z.length:=by
   exact Eb
  have hsz:e'=e∧arr.size=cap*z.length:=by
   exact S3
  obtain⟨rfl,hsz⟩:=hsz
  have hinfo:∃ inf,P.info? e'=some inf∧inf.bytes=iM:=by
   exact Ry
  obtain⟨inf,kN,z6⟩:=hinfo
  have qh:∃ d2,P.underlying t2=some (.slice d2):=by
   exact Hr
  obtain⟨d2,qh⟩:=qh
  have hun:∀ u∈us,zk u=true:=zN cT hone
  have xm:=aj.length cT
  have e9:(ak.row cs e').live=true:=rfl
  have hcl:=aj.length har
  by_cases hroom:len+n<=cap
  ·-- there is room
   have hfit:len*z.length+0+us.length<=arr.size:=by
    rw[hlen,hsz,Il,<- CM]
    exact FP _ hroom
   obtain⟨w',dK,r1,r2,r3,r4,r5,r6,r7,r8,r9⟩:=fJ (P:=P) (w:=w) us arr w (len*z.length) 0 hw hfit hun
   have hE:Ext w I ρ w' I ρ:=Ext.write hi hρ hH e9 r5 r6 r7 r8 r9 (fun s h=>by
    simp only[World.shape?,hw] at h
    simp only[World.shape?,r2,r3]
    exact h)
   have vf:aj P w' I ρ (cs++ys) (dK.toList.take (cs++ys).length):=by
    exact Tu
   have pL:Ext w' I ρ w' I (ρ++[b]):=⟨⟨rfl,rfl,rfl,Zg _,fun _ _ _=>rfl,fun _ _ h=>h,fun _ h=>h,fun _ _=>rfl,fun _ h=> .inl h,fun _ h=>h,fun _ _ h=>h,fun k hk=>by
    rcases Zs.1 hk with h | h
    ·exact .inl h
    ·simp at h;subst h;exact .inl (Zi hρ)⟩,⟨_,rfl⟩⟩
   have hi1:Inv P w' I ρ (H.set i .dead):=Inv.write hi hρ hH e9 hE r8 r9 trivial
   have hilt:i<H.length:=(Za.1 hH).1
   have hi2:Inv P w' I (ρ++[b]) (H.set i .dead++[.row (cs++ys) e']):=by
    refine⟨by simp[hi.len],fun j k blk h1 h2 h3=> ?_,hi1.ib,fun j k blk h1 h2 h3 h4=> ?_,fun j j' k bx by2 h1 h2 h3 h4 h5 h6=> ?_,fun j k blk h1 h2=> ?_,hi1.gl⟩
    ·exact acZ
    ·exact S8
    ·exact TV
    ·rcases bO h1 with⟨h5,h6⟩ | ⟨h5,h6⟩
     ·exact R8
     ·subst h6
      have hj:j=(H.set i .dead).length:=by simp[<- hi.len];exact h5
      subst hj
      simp at h2
      subst h2
      refine⟨dK,r2,?_,aj.ext pL vf⟩
      exact abH
   refine⟨.slice (some ⟨b,0,none⟩) (len+n) cap,w',I,ρ++[b],.inl ?_,hE.trans pL,hi2,b,e',cap,by rw[<- hi.len];simp,rfl,?_,hroom⟩
   ·simp[execOp,ho,resolve,invoke,builtin,Builtin.append_,run_underlying hu,C6,aS nj,run_underlying qh,Au,Builtin.lenOf,hroom]
    rw[Au] at hfc
    simp only[hfc w (fun _ _=>rfl),Result.andThen,cN,tZ,r1]
   ·simp only[World.shape?,r2,r3,hsz,hce]
  ·-- a new array
   have Ah:∀ q,len+n<=(Question.appendCap (len+n) cap e').cut q:=fun q=>W7 _ _
   obtain⟨uz,hz1,DQ⟩:=hz w.drew
   have hzl:=aW.length (DQ I)
   have Hw:uz.cells.size=z.length:=by simpa using hzl
   have hnext:=kF (need:=len+n) (cap:=cap) (by omega)
   have hsmall:¬ (Builtin.nextslicecap (len+n) cap*iM>2^48):=by
    have h1:=FP iM hnext
    exact LW
   let newCap:=(Question.appendCap (len+n) cap e').cut (w.tape w.drawn (.appendCap (len+n) cap e'))
   have hnc:len+n<=newCap:=Ah _
   have hold:(Builtin.firstCells z.length len (.slice (some ⟨b,0,none⟩) len cap)).run P w.drew= .ok (arr.toList.take (len*z.length)).toArray w.drew:=by
    exact Ye
   have hnew:=hfc w.drew (fun _ _=>rfl)
   let fK:Array Value:=(arr.toList.take (len*z.length)).toArray++us.toArray++Builtin.zeroCells uz.cells (newCap - (len+n))
   have xq:Ext w I ρ w.drew I ρ:=Ext.drew
   have hi1:Inv P w.drew I ρ H:=hi.drew
   have pL:Ext w.drew I ρ (w.drew.alloc (.cells fK e')) I (ρ++[w.drew.heap.size]):=Ext.aI hi1 _
   have hi2:Inv P (w.drew.alloc (.cells fK e')) I (ρ++[w.drew.heap.size]) (H++[.row (cs++ys) e']):=by
    refine Inv.aI hi1 _ ⟨fK,heap_alloc_new _ _,?_,aj.ext pL (aj.ext xq ?_)⟩
    ·exact W3
    ·exact aaw
   have hilt:i<H.length:=(Za.1 hH).1
   have Aw:Inv P (w.drew.alloc (.cells fK e')) I (ρ++[w.drew.heap.size]) (H.set i .dead++[.row (cs++ys) e']):=by
    have o8:H.set i .dead++[ak.row (cs++ys) e']=(H++[ak.row (cs++ys) e']).set i .dead:=by rw[List.set_append_left _ _ hilt]
    rw[o8]
    have rT:(ρ++[w.drew.heap.size])[i]? =some b:=by
     rw[Zd (by rw[hi.len];exact hilt)]
     exact hρ
    have Yx:(H++[ak.row (cs++ys) e'])[i]? =some (ak.row cs e'):=by
     rw[Zd hilt];exact hH
    exact Inv.write hi2 rT Yx e9 (Ext.refl _ _ _) rfl (fun _ _=>rfl) trivial
   refine⟨.slice (some ⟨w.heap.size,0,none⟩) (len+n) newCap,w.drew.alloc (.cells fK e'),I,ρ++[w.drew.heap.size],.inl ?_,xq.trans pL,Aw,w.heap.size,e',newCap,by rw[<- hi.len];simp,rfl,?_,hnc⟩
   ·rw[Au] at hnew
    have nw:((len+n:Nat):Int)<=IntKind.i64.max:=by
     have h1:=Nat.le_mul_of_pos_right (2*(len+n)+192) hb0
     exact Rp
    have:=run_append_grow (P:=P) (w:=w) (t:=t) (t2:=t2) (ty:=o.type) hu nj qh kN (by rw[z6];exact hsmall) nw hroom hold hnew hz1
    simp only[execOp,ho,resolve,invoke,builtin,Sem.run_bind]
    exact Ri
   ·exact S7
end
mutual
def aZ(σ:Nat->Option Nat):V->V
 | .p x=> .p x
 | .ptr i off=>match σ i with
   | some j=> .ptr j off
   | none=> .top
 | .row i len=>match σ i with
   | some j=> .row j len
   | none=> .top
 | .sl i off len=>match σ i with
   | some j=> .sl j off len
   | none=> .top
 | .map i=>match σ i with
   | some j=> .map j
   | none=> .top
 | .func fn fi ca=> .func fn (bE σ fi) (bE σ ca)
 | .iface t v=> .iface t (aZ σ v)
 | .agg cs=> .agg (bE σ cs)
 | .tuple cs=> .tuple (bE σ cs)
 | .opt g v=> .opt g (aZ σ v)
 | .raw a n c=> .raw a n c
 | .z0=> .z0
 | .top=> .top
def bE(σ:Nat->Option Nat):List V->List V
 | []=>[]
 | v::vs=>aZ σ v::bE σ vs
end
def fG(σ:Nat->Option Nat):Tm->Tm
 | []=>[]
 | (s,v)::r=>(s,aZ σ v)::fG σ r
def aM(σ:Nat->Option Nat):ak->ak
 | .cells cs e=> .cells (bE σ cs) e
 | .row cs e=> .row (bE σ cs) e
 | .iU cs e=> .iU (bE σ cs) e
 | .map ks vs=> .map (bE σ ks) (bE σ vs)
 | .oR s p=> .oR s p
 | .mapIter ks vs last=> .mapIter ks vs last
 | .loop r st pe=> .loop {r with T:=fG σ r.T} st pe
 | .dead=> .dead
section
variable {P:Program} {w:World} {I:Nat->Prop} {ρ ρ2:List Nat} {σ:Nat->Option Nat}
mutual
theorem fU(hσ:∀ i j b:Nat,σ i=some j->ρ[i]? =some b->ρ2[j]? =some b):∀(v:V) (u:Value),aG P w I ρ v u->aG P w I ρ2 (aZ σ v) u
 | .p x,u,h=>h
 | .ptr i off,u,h=>by
  exact aag
 | .row i len,u,h=>by
  simp only[aZ]
  split
  ·rename_i j hj
   obtain⟨b,e,cap,h1,h2⟩:=h
   exact⟨b,e,cap,hσ i j b hj h1,h2⟩
  ·trivial
 | .sl i off len,u,h=>by
  simp only[aZ]
  split
  ·rename_i j hj
   obtain⟨b,cap,h1,h2⟩:=h
   exact⟨b,cap,hσ i j b hj h1,h2⟩
  ·trivial
 | .map i,u,h=>by
  exact aag
 | .func fn fi ca,u,h=>by
  obtain⟨us,vs,hu,h1,h2⟩:=h
  exact⟨us,vs,hu,fm hσ fi _ h1,fm hσ ca _ h2⟩
 | .iface t v,u,h=>by
  obtain⟨x,hu,h1⟩:=h
  exact⟨x,hu,fU hσ v x h1⟩
 | .agg cs,u,h=>by
  obtain⟨us,hu,h1⟩:=h
  exact⟨us,hu,fm hσ cs _ h1⟩
 | .tuple cs,u,h=>by
  obtain⟨us,hu,h1⟩:=h
  exact⟨us,hu,fm hσ cs _ h1⟩
 | .opt g v,u,h=>⟨fun hg=>fU hσ v u (h.1 hg),h.2⟩
 | .raw _ _ _,u,h=>h
 | .z0,u,h=>h
 | .top,u,h=>trivial
theorem fm(hσ:∀ i j b:Nat,σ i=some j->ρ[i]? =some b->ρ2[j]? =some b):∀(vs:List V) (us:List Value),aj P w I ρ vs us->aj P w I ρ2 (bE σ vs) us
 | [],us,h=>h
 | v::vs,us,h=>by
  obtain⟨u,us',hu,h1,h2⟩:=h
  exact⟨u,us',hu,fU hσ v u h1,fm hσ vs us' h2⟩
end
theorem dW(σ:Nat->Option Nat):∀ vs:List V,(bE σ vs).length=vs.length
 | []=>rfl
 | _::vs=>by simp[bE,dW σ vs]
theorem rm(σ:Nat->Option Nat):∀(T:Tm) (s:Nat),lk (fG σ T) s=(lk T s).map (aZ σ)
 | [],s=>rfl
 | (a,v)::r,s=>by
  simp only[fG,lk]
  cases Nat.beq a s with
  | true=>rfl
  | false=>exact rm σ r s
theorem kr(hσ:∀ i j b:Nat,σ i=some j->ρ[i]? =some b->ρ2[j]? =some b){x:ak}{b:Nat}(h:dz P w I ρ x b):dz P w I ρ2 (aM σ x) b:=by
 cases x with
 | cells cs e=>
  obtain⟨arr,h1,h2⟩:=h
  exact⟨arr,h1,fm hσ cs _ h2⟩
 | row cs e=>
  obtain⟨arr,h1,h2,h3⟩:=h
  exact⟨arr,h1,by rw[dW];exact h2,by rw[dW];exact fm hσ cs _ h3⟩
 | iU cs e=>
  obtain⟨arr,m,h1,h0,h2,h3⟩:=h
  exact⟨arr,m,h1,by rw[dW];exact h0,by rw[dW];exact h2,by rw[dW];exact fm hσ cs _ h3⟩
 | map ks vs=>
  obtain⟨es,clock,h1,h2,h3,h4⟩:=h
  exact⟨es,clock,h1,fm hσ ks _ h2,fm hσ vs _ h3,h4⟩
 | oR s pos=>exact h
 | mapIter ks vs last=>exact h
 | loop r st pe=>
  obtain⟨h0,h1,h3⟩:=h
  refine⟨h0,h1,fun s v hv=> ?_⟩
  rw[show({r with T:=fG σ r.T}:uf).T=fG σ r.T from rfl,rm,Zm] at hv
  obtain⟨v0,h4,rfl⟩:=hv
  exact fU hσ v0 _ (h3 s v0 h4)
 | dead=>trivial
theorem cC{x:ak}:(aM σ x).live=x.live:=by cases x <;> rfl
theorem bR.ren{N:Nat}{T:Tm}{tmps:Array Value}(hσ:∀ i j b:Nat,σ i=some j->ρ[i]? =some b->ρ2[j]? =some b)(h:bR P w I ρ N T tmps):bR P w I ρ2 N (fG σ T) tmps:=
 ⟨h.size,fun s v hv=>by
  rw[rm,Zm] at hv
  obtain⟨v0,h4,rfl⟩:=hv
  exact fU hσ v0 _ (h.at_ s v0 h4)⟩
end
def To(P:Program)(κ N:Nat)(T:Tm)(H:List ak)(T2:Tm)(H2:List ak):Prop:=
 ∀ w I ρ tmps,Inv P w I ρ H->bR P w I ρ N T tmps->∃ I' ρ',cR w I ρ w I' ρ'∧Inv P w I' ρ' H2∧bR P w I' ρ' N T2 tmps∧∀ L:List Nat,L<+:ρ->L.length<=κ->L<+:ρ'
section
variable {P:Program} {R:Option Nat} {N κ:Nat} {Q Q':Post} {T T' T2 T3:Tm} {H H' H2 H3:List ak} {o:Oper} {ops:Array Oper} {rest:List Oper}
theorem To.refl:To P κ N T H T H:=fun w I ρ tmps hi ht=>⟨I,ρ,cR.refl _ _ _,hi,ht,fun _ h _=>h⟩
theorem To.sub(hs:Sub T2 T):To P κ N T H T2 H:=fun w I ρ tmps hi ht=>⟨I,ρ,cR.refl _ _ _,hi,ht.sub hs,fun _ h _=>h⟩
theorem To.trans(h:To P κ N T H T2 H2)(k:To P κ N T2 H2 T3 H3):To P κ N T H T3 H3:=fun w I ρ tmps hi ht=>by
 obtain⟨I',ρ',h1,h2,h3,h4⟩:=h w I ρ tmps hi ht
 obtain⟨W5,Wx,k1,k2,k3,k4⟩:=k w I' ρ' tmps h2 h3
 exact⟨W5,Wx,h1.trans k1,k2,k3,fun L hL hl=>k4 L (h4 L hL hl) hl⟩
theorem To.freeze(i:Nat){xs:List PV}{vs:List V}(hc:b6 H[i]? =some vs)(hp:jS vs=some xs):To P κ N T H (xB i xs T) (H.set i .dead):=fun w I ρ tmps hi ht=>by
 rw[eK hp] at hc
 obtain⟨I',h1,h2,h3⟩:=oD hi hc ht
 exact⟨I',ρ,h1.w,h2,h3,fun _ h _=>h⟩
theorem Marks.to{B:pV}{w:World}{I I':Nat->Prop}{ρ ρ':List Nat}{ds:List Deferred}(h:cR w I ρ w I' ρ')(hp:∀ L:List Nat,L<+:ρ->L.length<=κ->L<+:ρ')(m:Marks κ B w I ρ ds):Marks κ B w I' ρ' ds:=by
 obtain⟨hB,hκ,hpre,rs,h1,h2,h3⟩:=m
 refine⟨hB,hκ,hp _ hpre hκ,rs,h1,h2,fun r hr=> ?_⟩
 obtain⟨h4,h5,h6⟩:=h3 r hr
 exact⟨h4,fun h7=>h5 (h.kX r h4 h7),h6⟩
theorem aC.to{c:Code}(hto:To P κ N T H T2 H2)(h:aC P R N κ c Q T2 H2):aC P R N κ c Q T H:=by
 intro B w I ρ a hi ht hm
 obtain⟨I',ρ',h1,h2,h3,h4⟩:=hto w I ρ a.tmps hi ht
 exact wpIn_mono (h B w I' ρ' a h2 h3 (hm.to h1 h4)) fun _ _ _ q=>QC.ext h1 q
theorem aq.to{l:List Oper}(hto:To P κ N T H T2 H2)(h:aq P R N κ ops l Q T2 H2):aq P R N κ ops l Q T H:=by
 intro QX B w I ρ a hi ht hm hq
 obtain⟨I',ρ',h1,h2,h3,h4⟩:=hto w I ρ a.tmps hi ht
 exact h QX B w I' ρ' a h2 h3 (hm.to h1 h4) fun e a2 w2 q=>hq e a2 w2 (QC.ext h1 q)
def pl(ks:List Nat)(i:Nat):Option Nat:=ks.idxOf? i
def kz(κ n:Nat)(ks:List Nat):Bool:=(ks.take κ==List.range κ)&&ks.all (fun i=>Nat.blt i n)&&decide ks.Nodup
theorem y6{ks:List Nat}{i j:Nat}(h:pl ks i=some j):ks[j]? =some i:=by
 unfold pl List.idxOf? at h
 rw[ZaV] at h
 obtain⟨hj,h1,_⟩:=h
 simp at h1
 simp[hj,h1]
theorem To.keep(ks:List Nat)(hk:kz κ H.length ks=true):To P κ N T H (fG (pl ks) T) (ks.map fun i=>aM (pl ks) (H.getD i .dead)):=by
 intro w I ρ tmps hi ht
 simp only[kz,Zo,beq_iff_eq,ZC,Zl] at hk
 obtain⟨⟨Wq,hk2⟩,hk3⟩:=hk
 have hlt:∀ i∈ks,i<H.length:=fun i h=>by have:=hk2 i h;simpa[Nat.blt,ZA] using this
 have rT:∀ j i:Nat,ks[j]? =some i->(ks.map fun i=>ρ.getD i 0)[j]? =ρ[i]? :=fun j i h=>by
  exact Sn
 have hσ:∀ i j b:Nat,pl ks i=some j->ρ[i]? =some b->(ks.map fun i=>ρ.getD i 0)[j]? =some b:=fun i j b h hb=>by rw[rT j i (y6 h)];exact hb
 have fD:∀(j b:Nat) (blk:ak),(ks.map fun i=>ρ.getD i 0)[j]? =some b->(ks.map fun i=>aM (pl ks) (H.getD i .dead))[j]? =some blk->∃ i x,ks[j]? =some i∧ρ[i]? =some b∧H[i]? =some x∧blk=aM (pl ks) x:=by
  exact Sl
 refine⟨I,ks.map fun i=>ρ.getD i 0,⟨rfl,rfl,rfl,Zg _,fun _ _ _=>rfl,fun _ _ h=>h,fun _ h=>h,fun _ _=>rfl,fun _ h=> .inl h,fun _ h=>h,fun _ _ h=>h,fun b hb=> ?_⟩,
  ⟨by simp,fun j b blk h1 h2 h3=> ?_,hi.ib,fun j b blk h1 h2 h3=> ?_,fun i j b x y h1 h2 h3 h4 h5 h6=> ?_,fun j b blk h1 h2=> ?_,hi.gl⟩,ht.ren hσ,fun L hL hl=> ?_⟩
 ·rw[xS] at hb
  obtain⟨i,h1,rfl⟩:=hb
  have h2:i<ρ.length:=by rw[hi.len];exact hlt i h1
  exact .inl (by simp[h2])
 ·exact ac0
 ·exact aa3
 ·exact Ul
 ·exact SD
 ·have e1:L=ρ.take L.length:=Zbm.1 hL
  have e2:(ks.map fun i=>ρ.getD i 0).take L.length=ρ.take L.length:=by
   have h1:ks.take L.length=List.range L.length:=by
    have:=congrArg (List.take L.length) Wq
    rw[List.take_take,Hl hl,List.take_range,Hl hl] at this
    exact this
   rw[<- List.map_take,h1]
   apply Dt
   intro i
   rw[Zt,ZU]
   by_cases h:i<L.length
   ·have h2:i<ρ.length:=ZQ h hL.length_le
    simp[h,h2]
   ·simp[h]
  rw[Zbm,e2]
  exact e1
theorem aC.FV{γ:Type}{c:Code}(S:γ->Tm)(Hs:γ->List ak)(inv:γ->Prop)(μ:γ->Nat)(g0:γ)(h0:inv g0)(hto:To P κ N T H (S g0) (Hs g0))
    (round:∀ g,inv g->aC P R N κ c (AX.then (fun T' H'=>∃ g',inv g'∧μ g'<μ g∧To P κ N T' H' (S g') (Hs g')) Q) (S g) (Hs g)):aC P R N κ (.loop c) Q T H:=by
 intro B w I ρ a hi ht hm
 obtain⟨I0,ρ0,k1,k2,k3,k4⟩:=hto w I ρ a.tmps hi ht
 refine Am (fun g a' w'=>inv g∧∃ I' ρ',cR w I ρ w' I' ρ'∧Inv P w' I' ρ' (Hs g)∧bR P w' I' ρ' N (S g) a'.tmps∧Marks κ B w' I' ρ' a'.defers) μ g0 ⟨h0,I0,ρ0,k1,k2,k3,hm.to k1 k4⟩ ?_
 rintro g a' w' ⟨hg,I',ρ',he,hi',ht',hm'⟩
 refine wpIn_mono (round g hg B w' I' ρ' a' hi' ht' hm') ?_
 rintro e a2 w2 ⟨z,J,σ,T1,H1,h1,h2,h3,h4,h5,h6⟩
 cases z <;> cases e <;> first | exact h1.elim | skip
 ·obtain⟨g',h7,h8,h9⟩:=h2
  obtain⟨I3,ρ3,m1,m2,m3,m4⟩:=h9 w2 J σ a2.tmps h4 h5
  exact⟨g',⟨h7,I3,ρ3,(he.trans h3).trans m1,m2,m3,h6.to m1 m4⟩,h8⟩
 all_goals exact⟨_,J,σ,T1,H1,h1,h2,he.trans h3,h4,h5,h6⟩
def jR(P:Program)(κ:Nat)(f:FuncId)(args:List V)(H:List ak)(Q:V->List ak->Prop):Prop:=
 ∀(B:List Nat) w I ρ us,Inv P w I ρ H->aj P w I ρ args us->B<+:ρ->B.length<=κ->
  CallsIn Fence.wide 0 P f us.toArray w fun e w'=>∃ u v I' ρ' H',e= .returned u∧Q v H'∧cR w I ρ w' I' ρ'∧Inv P w' I' ρ' H'∧aG P w' I' ρ' v u∧B<+:ρ'
theorem jR.iS{f:FuncId}{fn:Func}{c:Code}{args:List V}{Qr:V->List ak->Prop}(hf:P.funcs[f]? =some fn)(hb:fn.body=some c)(hN:fn.ntmps=N)(hn:args.length<=N)
    (h:aC P none N κ c (nk P N fn Qr) (dB 0 args) H):jR P κ f args H Qr:=by
 subst hN
 intro B w I ρ us hi ij hBp XI
 have hl:=aj.length ij
 refine callsIn_of_wp_marks hf hb trivial ?_ rfl
 have ht:bR P w I ρ fn.ntmps (dB 0 args) (us.toArray++Array.replicate (fn.ntmps - us.toArray.size) undef):=by
  exact Fz
 refine wpIn_mono (h ⟨w.heap.size,B,[]⟩ w I ρ {tmps:=us.toArray++Array.replicate (fn.ntmps - us.toArray.size) undef,defers:=[]} hi ht ⟨Zg _,XI,hBp,[],rfl,Qw,fun _ h=>by cases h⟩) ?_
 rintro e a' w' ⟨z,I',ρ',T',H',h1,⟨h2,v,hv,hq⟩,h3,h4,h5,hB,_,hpre,rs,h6,h7,h8⟩
 have fin:LeavesInM Fence.wide 0 P fn a'.tmps (fun e w'=>∃ u v I' ρ' H',e= .returned u∧Qr v H'∧cR w I ρ w' I' ρ'∧Inv P w' I' ρ' H'∧aG P w' I' ρ' v u∧B<+:ρ') a'.defers .returning w':=by
  rw[h6]
  show LeavesInM _ _ _ _ _ _ (_++[]) _ _
  rw[ZY]
  refine mE rs w' h7 (fun r hr=>(h8 r hr).1) ?_
  intro w2 k1 k2 k3 k4 k5
  have kI:∀ b,I' b->w2.heap[b]? =w'.heap[b]? :=fun b hb=>k1 b (fun hm=>(h8 b hm).2.1 hb)
  have kρ:∀ b:Nat,w'.heap[b]? ≠some (Obj.deferred (some []))->w2.heap[b]? =w'.heap[b]? :=fun b hb=>k1 b (fun hm=>hb (h8 b hm).1)
  have ks:∀ b s,w'.shape? b=some s->w2.shape? b=some s:=fun b s hs=>by
   exact Gk
  have hi2:Inv P w2 I' ρ' H':=h4.marks k5 kI kρ ks
  have nF:bR P w2 I' ρ' fn.ntmps T' a'.tmps:=⟨h5.size,fun s x hx=>aG.mono (fun _ h=>h) kI (ZG _) (fun b _ s h=>ks b s h) x _ (h5.at_ s x hx)⟩
  obtain⟨u,hu1,PZ⟩:=hv w2 I' ρ' a'.tmps hi2 nF
  refine⟨u,hu1,u,v,I',ρ',H',rfl,hq,?_,hi2,PZ,hpre⟩
  have hlow:∀ b,b<w.heap.size->w2.heap[b]? =w'.heap[b]? :=fun b hb=>k1 b (fun hm=>by have:=(h8 b hm).2.2;simp only at this;omega)
  exact Sg
 rcases h2 with rfl | rfl <;> cases e <;> first | exact h1.elim | exact fin
end
section
variable {P:Program} {R:Option Nat} {N κ:Nat} {Q Q':Post} {T T' T2 T3:Tm} {H H' H2 H3:List ak} {o:Oper} {ops:Array Oper} {rest:List Oper}
def lp(l:Nat):V:= .p (.func (.yield l) [] [])
def pU(P:Program)(l κ:Nat)(h:List ak)(args:List V)(Qb:Bool->List ak->Prop):Prop:=
 ∀(B:List Nat) w I ρ us,Inv P w I ρ h->aj P w I ρ args us->B<+:ρ->B.length<=κ->
  ∃ fn tmps gX body,(Instr.yield l us.toArray).run P w= .ok (.round l fn tmps gX body) w∧
   RoundIn Fence.wide 0 P l fn tmps gX body w fun e w'=>∃ b I' ρ' h',e= .returned (.bool b)∧Qb b h'∧cR w I ρ w' I' ρ'∧Inv P w' I' ρ' h'∧B<+:ρ'
def LA(P:Program)(f:FuncId)(mk:V->List V)(xs:List (List V)):Prop:=
 ∀(l κ n:Nat) (inv:Nat->List ak->Prop) (fin:List ak->Prop),κ<=n->(∀ k h,inv k h->h.length=n)->(∀ h,fin h->h.length=n)->
  (∀ k h x,inv k h->xs[k]? =some x->pU P l κ h x fun b h'=>if b=true then inv (k+1) h' else fin h')->
  ∀ h0,inv 0 h0->jR P κ f (mk (lp l)) h0 fun _ h'=>inv xs.length h'∨fin h'
def I7:V->V
 | .p x=> .p x
 | _=> .top
def nI:Tm->Tm
 | []=>[]
 | (s,v)::r=>(s,I7 v)::nI r
theorem BF:∀(T:Tm) (s:Nat),lk (nI T) s=(lk T s).map I7
 | [],s=>rfl
 | (a,v)::r,s=>by
  simp only[nI,lk]
  cases Nat.beq a s with
  | true=>rfl
  | false=>exact BF r s
theorem F5{w w':World}{I I':Nat->Prop}{ρ ρ':List Nat}(h:cR w I ρ w' I' ρ'){v:V}{u:Value}(hv:aG P w I ρ v u):aG P w' I' ρ' (I7 v) u:=by
 cases v <;> first | trivial | skip
 exact Rel.mono h.mB h.bu _ u hv
theorem bR.nI{w w':World}{I I':Nat->Prop}{ρ ρ':List Nat}{tmps:Array Value}(h:cR w I ρ w' I' ρ')(t:bR P w I ρ N T tmps):bR P w' I' ρ' N (AF.nI T) tmps:=
 ⟨t.size,fun s v hv=>by
  rw[BF,Zm] at hv
  obtain⟨v0,h1,rfl⟩:=hv
  exact F5 h (t.at_ s v0 h1)⟩
theorem Marks.Ks{B:pV}{w w':World}{I I':Nat->Prop}{ρ ρ':List Nat}{ds:List Deferred}(h:cR w I ρ w' I' ρ')(hp:B.pre<+:ρ')(m:Marks κ B w I ρ ds):Marks κ B w' I' ρ' ds:=by
 obtain⟨hB,hκ,_,rs,h1,h2,h3⟩:=m
 refine⟨Zz hB h.size,hκ,hp,rs,h1,h2,fun r hr=> ?_⟩
 obtain⟨h4,h5,h6⟩:=h3 r hr
 exact⟨h.cL r h4,fun h7=>h5 (h.kX r h4 h7),h6⟩
theorem ve{n l:Nat}{f:FuncId}{tmps:Array Value}{gX body:Code}{w:World}{Rr:Ending->World->Prop}(R:Option Nat)(h:RoundIn Fence.wide n P l f tmps gX body w Rr):RoundIn (Fr R) n P l f tmps gX body w Rr:=h
theorem aq.yield(d:Nat){l:Nat}{f:Operand}{xs:Array Operand}{ts:Array TypeId}{vs:List V}{Qb:Bool->List ak->Prop}(ho:o.op= .call {callee:= .value f,args:=xs,argTypes:=ts})(hd:o.dst=some d)(hN:bC N (some d)=true)(hg:o.guard=none)
    (hf:ev T f=some (lp l))(hxs:lG T xs.toList=some vs)(hb:pU P l κ H vs Qb)
    (next:∀ b h',Qb b h'->aq P R N κ ops rest Q ((d,.p (.bool b))::nI T) h'):aq P R N κ ops (o::rest) Q T H:=by
 intro QX B w I ρ a hi ht hm hq
 refine wpListIn_plain hg fun K hK=>⟨bQ,?_⟩
 rw[bT _ _ _ (by simp[ho])]
 have h1:=ht.ev hf
 have h2:=ht.lG hxs
 obtain⟨us,vs',hu,h3,h4⟩:=h1
 simp only[aW] at h3 h4
 have ij:us= #[]:=by simpa using h3
 have Wy:vs'= #[]:=by simpa using h4
 subst ij Wy
 obtain⟨fn,tmps,gX,body,hy,hr⟩:=hb B.pre w I ρ _ hi h2 hm.2.2.1 hm.2.1
 have e:(execOp a.eval o).run P w= .ok (.round l fn tmps gX body) w:=by
  exact RO
 rw[e]
 refine⟨(fun h=>by cases h),RoundIn.mono (ve _ hr) ?_⟩
 rintro e w' ⟨b,I',ρ',h',rfl,h5,h6,h7,h8⟩
 have hto:=ht.nI h6
 have hput:bR P w' I' ρ' N (gN (nI T) o.dst (.p (.bool b))) (a.put o.dst (.bool b)).tmps:=bR.put (by rw[hd];exact hN) hto (by simp[aG,Rel])
 rw[hd] at hput
 refine hK _ _ ?_
 rw[hd]
 exact next b h' h5 QX B w' I' ρ' _ h7 hput (hm.Ks h6 h8).put fun e a2 w2 q=>hq e a2 w2 (QC.ext h6 q)
def nt:Tm->List Tmp->List V->Tm
 | T,p::ps,x::xs=>nt ((p,x)::T) ps xs
 | T,_,_=>T
theorem yJ{w:World}{I:Nat->Prop}{ρ:List Nat}:∀(ps:List Tmp) (xs:List V) (us:List Value) (T:Tm) (tmps:Array Value),(∀ p∈ps,p<N)->aj P w I ρ xs us->bR P w I ρ N T tmps->
    bR P w I ρ N (nt T ps xs) ((ps.zip us).foldl (fun t (p,v)=>t.setIfInBounds p v) tmps)
 | [],xs,us,T,tmps,_,_,ht=>by cases xs <;> simpa[nt] using ht
 | p::ps,[],us,T,tmps,_,hx,ht=>by
  simp[aj] at hx
  subst hx
  simpa[nt] using ht
 | p::ps,x::xs,us,T,tmps,hp,hx,ht=>by
  obtain⟨u,us',rfl,h1,h2⟩:=hx
  simp only[nt,List.zip_cons_cons,UL]
  refine yJ ps xs us' _ _ (fun q hq=>hp q (by simp[hq])) h2 ?_
  have:=bR.put (a:={tmps:=tmps,defers:=[]}) (dst:=some p) (v:=x) (u:=u) (by simpa[bC,Nat.blt,ZA] using hp p (by simp)) ht h1
  simpa[gN,Act.put] using this
theorem Inv.kill{w:World}{I:Nat->Prop}{ρ:List Nat}(hi:Inv P w I ρ H)(i:Nat):Inv P w I ρ (H.set i .dead):=by
 have fD:∀(j:Nat) (x:ak),(H.set i .dead)[j]? =some x->x.live=true->H[j]? =some x:=fun j x h hl=>by
  rw[Zu] at h
  split at h
  ·split at h
   ·cases h;cases hl
   ·cases h
  ·exact h
 refine⟨by simp[hi.len],fun j b blk h1 h2 h3=>hi.iq j b blk h1 (fD j blk h2 h3) h3,hi.ib,fun j b blk h1 h2 h3=>hi.live j b blk h1 (fD j blk h2 h3) h3,fun j k b x y h1 h2 h3 h4 h5 h6=>hi.gJ j k b x y h1 h2 (fD j x h3 h5) (fD k y h4 h6) h5 h6,fun j b blk h1 h2=> ?_,hi.gl⟩
 cases hl:blk.live with
 | false=>exact dz.ie hl
 | true=>exact hi.rel j b blk h1 (fD j blk h2 hl)
theorem mS{w:World}{I:Nat->Prop}{ρ:List Nat}{n:Nat}{r:uf}{st:LoopState}{pe:Option Code}(hi:Inv P w I ρ H)(hH:H[n]? =some (.loop r st pe)):
    ρ[n]? =some r.l∧(∃ fn d,w.heap[r.l]? =some (.loop {state:=st,pending:=pe,fn,tmps:=r.tmps,params:=r.ps,assign:=r.gX,body:=r.body,defers:=d}))∧∀ s v,lk r.T s=some v->aG P w I ρ v (r.tmps.getD s undef):=by
 have hlt:n<ρ.length:=by rw[hi.len];exact(Za.1 hH).1
 have hρ:ρ[n]? =some ρ[n]:=Zb hlt
 obtain⟨h1,h2,h3⟩:=hi.rel n _ _ hρ hH
 rw[h1] at hρ h2
 exact⟨hρ,h2,h3⟩
theorem rX{w:World}{I:Nat->Prop}{ρ:List Nat}{n:Nat}{r:uf}{st st':LoopState}{pe Xp:Option Code}{fn:FuncId}{d:Nat}(hi:Inv P w I ρ H)(hH:H[n]? =some (.loop r st pe))
    (hw:w.heap[r.l]? =some (.loop {state:=st,pending:=pe,fn,tmps:=r.tmps,params:=r.ps,assign:=r.gX,body:=r.body,defers:=d})):
    ∀ w',w'=w.putObj r.l (.loop {state:=st',pending:=Xp,fn,tmps:=r.tmps,params:=r.ps,assign:=r.gX,body:=r.body,defers:=d})->
     Ext w I ρ w' I ρ∧Inv P w' I ρ (H.set n (.loop r st' Xp)):=by
 intro w' hw'
 obtain⟨hρ,_,hT⟩:=mS hi hH
 have hlt:r.l<w.heap.size:=(ZO.1 hw).1
 have hsame:w'.heap[r.l]? =some (.loop {state:=st',pending:=Xp,fn,tmps:=r.tmps,params:=r.ps,assign:=r.gX,body:=r.body,defers:=d}):=by rw[hw'];exact World.putObj_heap_same hlt
 have fL:∀ k,k≠r.l->w'.heap[k]? =w.heap[k]? :=fun k hk=>by rw[hw'];exact World.putObj_heap_other hk
 have hsh:∀ s,w.shape? r.l=some s->w'.shape? r.l=some s:=fun s hs=>by simp[World.shape?,hw] at hs
 have hE:Ext w I ρ w' I ρ:=Ext.write hi hρ hH rfl (by rw[hw'];rfl) (by rw[hw'];rfl) (by rw[hw'];rfl) (by rw[hw'];simp) fL hsh
 refine⟨hE,Inv.write hi hρ hH rfl hE (by rw[hw'];simp) fL ⟨rfl,⟨fn,d,hsame⟩,fun s v hv=>(hT s v hv).ext hE⟩⟩
theorem pJ{w:World}{I:Nat->Prop}{ρ:List Nat}{a:Act}{g:Operand}{l:Nat}{fv:V}{f:FuncId}{all:List V}(hT:bR P w I ρ N T a.tmps)(hg:ev T g=some fv)(hc:callee [lp l] fv=some (f,all))(hf:an P f=true):
    ∃ d us,aj P w I ρ all us∧(resolve a.eval (rangeCall g l) 0).run P w= .ok d w∧(invoke d.target d.args).run P w= .ok (.enter f us.toArray) w:=by
 have h1:=hT.ev hg
 have hy:aj P w I ρ [lp l] [Value.func (.yield l) #[] #[]]:=⟨_,[],rfl,⟨#[],#[],rfl,by simp[aW],by simp[aW]⟩,by simp[aj]⟩
 unfold callee at hc
 split at hc
 ·rename_i f' fi ca
  simp at hc
  obtain⟨rfl,rfl⟩:=hc
  obtain⟨us,vs',hu,h3,h4⟩:=h1
  refine⟨{target:= .fn (.func f') vs',args:=us++ #[.func (.yield l) #[] #[]]},us.toList++[Value.func (.yield l) #[] #[]]++vs'.toList,?_,?_,?_⟩
  ·have:=aj.append (aj.append (aj.pure (P:=P) (ρ:=ρ).2 h3) hy) (aj.pure (P:=P) (ρ:=ρ).2 h4)
   simpa using this
  ·exact SJ
  ·simp[invoke,gI hf]
 ·rename_i f' fi ca
  simp at hc
  obtain⟨rfl,rfl⟩:=hc
  obtain⟨us,vs',hu,h3,h4⟩:=h1
  refine⟨{target:= .fn (.func f') vs',args:=us++ #[.func (.yield l) #[] #[]]},us.toList++[Value.func (.yield l) #[] #[]]++vs'.toList,?_,?_,?_⟩
  ·have:=aj.append (aj.append h3 hy) h4
   simpa using this
  ·exact SJ
  ·simp[invoke,gI hf]
 ·cases hc
def RP(P:Program)(κ N:Nat)(r:uf)(k:Nat)(J:Nat->List ak->Prop)(Jx:Code->List ak->Prop):Post
 | .normal,T,H=>∃ h',J (k+1) h'∧To P κ N T H [] (h'++[.loop r .busy none])
 | .ret,T,H=>∃ h',Jx .ret h'∧To P κ N T H [] (h'++[.loop r .busy none])
 | .exit id,T,H=>∃ h',Jx (.exit id) h'∧To P κ N T H [] (h'++[.loop r .busy none])
 | .panic _,_,_=>False
def Round(P:Program)(N κ:Nat)(r:uf)(k n:Nat)(J:Nat->List ak->Prop)(Jx:Code->List ak->Prop)(T:Tm)(H:List ak):Prop:=
 aC P (some r.l) N κ r.gX (fun x T1 H1=>x= .normal∧H1[n]? =some (.loop r .ready none)∧aC P (some r.l) N κ r.body (RP P κ N r k J Jx) T1 (H1.set n (.loop r .busy none))) T H
theorem oB{α:Type}(l:List α)(x y:α):(l++[x]).set l.length y=l++[y]:=by simp
theorem Round.ok{r:uf}{k n:Nat}{J:Nat->List ak->Prop}{Jx:Code->List ak->Prop}{h:List ak}{xs:List V}(hn:h.length=n)(hJ:∀ h,J (k+1) h->h.length=n)(Ii:∀ c h,Jx c h->h.length=n)(hps:xs.length=r.ps.size)(hlt:∀ p∈r.ps.toList,p<N)(hN:r.tmps.size=N)
    (hr:Round P N κ r k n J Jx (nt r.T r.ps.toList xs) (h++[.loop r .ready none])):
    pU P r.l κ (h++[.loop r .ready none]) xs fun b h'=>if b=true then ∃ h0,J (k+1) h0∧h'=h0++[.loop r .ready none] else ∃ h0 c,Jx c h0∧h'=h0++[.loop r .done (some c)]:=by
 intro B w I ρ us hi ij hB XI
 have fD:(h++[ak.loop r .ready none])[n]? =some (.loop r .ready none):=by subst hn;simp
 obtain⟨hρ,⟨fn,d,hl⟩,hT⟩:=mS hi fD
 have hlen:=aj.length ij
 refine⟨fn,_,r.gX,r.body,run_yield hl (by simp[hlen,hps]),?_⟩
 refine roundIn_of_wpIn trivial ?_
 have ht0:bR P w I ρ N (nt r.T r.ps.toList xs) ((r.ps.zip us.toArray).foldl (fun t (p,v)=>t.setIfInBounds p v) r.tmps):=by
  have:=yJ r.ps.toList xs us r.T r.tmps hlt ij ⟨hN,hT⟩
  rw[<- Array.foldl_toList]
  simpa using this
 have hstart:=hr ⟨w.heap.size,B,[]⟩ w I ρ {tmps:=(r.ps.zip us.toArray).foldl (fun t (p,v)=>t.setIfInBounds p v) r.tmps,defers:=[]} hi ht0 ⟨Zg _,XI,hB,[],rfl,Qw,fun _ h=>by cases h⟩
 refine wpIn_mono hstart ?_
 rintro e a1 w1 ⟨z,I1,ρ1,T1,H1,h1,⟨rfl,h2,h3⟩,h4,h5,h6,h7⟩
 cases e <;> first | exact h1.elim | skip
 obtain⟨hρ1,⟨fn1,d1,hl1⟩,_⟩:=mS h5 h2
 refine⟨_,run_beginRound hl1 rfl,?_⟩
 obtain⟨xq,hi1⟩:=rX (st':= .busy) (Xp:=none) h5 h2 hl1 _ rfl
 refine wpIn_mono (h3 ⟨w.heap.size,B,[]⟩ _ I1 ρ1 a1 hi1 (h6.ext xq) (h7.ext xq)) ?_
 rintro e a2 w2 ⟨z,I2,ρ2,T2,H2,k1,k2,k3,k4,k5,k6⟩
 have key:∀ h',To P κ N T2 H2 [] (h'++[.loop r .busy none])->h'.length=n->∀ jump:Option Code,∃ w3,(Instr.endRound r.l jump).run P w2= .ok (.bool jump.isNone) w3∧
     ∃ I' ρ',cR w I ρ w3 I' ρ'∧Inv P w3 I' ρ' (h'++[.loop r (if jump.isNone then .ready else .done) jump])∧B<+:ρ':=by
  intro h' hto hh' jump
  obtain⟨I3,ρ3,m1,m2,m3,m4⟩:=hto w2 I2 ρ2 a2.tmps k4 k5
  have AG:(h'++[ak.loop r .busy none])[n]? =some (.loop r .busy none):=by subst hh';simp
  obtain⟨_,⟨fn3,d3,Wn⟩,_⟩:=mS m2 AG
  obtain⟨X8,Aw⟩:=rX (st':=if jump.isNone then .ready else .done) (Xp:=jump) m2 AG Wn _ rfl
  refine⟨_,run_endRound jump Wn,I3,ρ3,((h4.trans xq.w).trans k3).trans (m1.trans X8.w),?_,m4 B k6.2.2.1 XI⟩
  subst hh'
  rw[oB] at Aw
  exact Aw
 cases z <;> cases e <;> first | exact k1.elim | exact k2.elim | skip
 ·obtain⟨h',k7,k8⟩:=k2
  obtain⟨w3,e1,I',ρ',e2,e3,e4⟩:=key h' k8 (hJ _ k7) none
  exact⟨_,w3,e1,true,I',ρ',_,rfl,by show if true=true then _ else _;rw[if_pos rfl];exact⟨h',k7,rfl⟩,e2,e3,e4⟩
 ·obtain⟨h',k7,k8⟩:=k2
  obtain⟨w3,e1,I',ρ',e2,e3,e4⟩:=key h' k8 (Ii _ _ k7) (some .ret)
  exact⟨_,w3,e1,false,I',ρ',_,rfl,by show if false=true then _ else _;rw[if_neg (by simp)];exact⟨h',_,k7,rfl⟩,e2,e3,e4⟩
 ·rename_i i j
  obtain rfl:i=j:=k1
  obtain⟨h',k7,k8⟩:=k2
  obtain⟨w3,e1,I',ρ',e2,e3,e4⟩:=key h' k8 (Ii _ _ k7) (some (.exit i))
  exact⟨_,w3,e1,false,I',ρ',_,rfl,by show if false=true then _ else _;rw[if_neg (by simp)];exact⟨h',_,k7,rfl⟩,e2,e3,e4⟩
theorem sY{w:World}{l0:Nat}{r0:Loop}(h:w.heap[l0]? =some (.loop r0))(fn:FuncId)(tmps:Array Value)(ps:Array Tmp)(gX body:Code):
    (Instr.enterLoop fn tmps ps gX body (some l0)).run P w= .ok (w.heap.size,[]) (w.alloc (.loop {state:= .ready,pending:=none,fn,tmps,params:=ps,assign:=gX,body,defers:=r0.defers})):=by
 unfold Instr.enterLoop
 simp only[Sem.run_bind,run_getLoop h,run_newObj_alloc,Result.andThen,Sem.run_pure]
def abg(P:Program)(k0:Nat)(tr:Nat->List ak->List ak)(Pr:Nat->List ak->Prop)(f:FuncId)(mk:V->List V)(xs:List (List V)):Prop:=
 ∀(l κ n:Nat) (inv:Nat->List ak->Prop) (fin:List ak->Prop),k0<=κ->κ<=n->(∀ k h,inv k h->h.length=n∧Pr k h)->(∀ h,fin h->h.length=n)->
  (∀ k h x,inv k h->xs[k]? =some x->pU P l κ (tr k h) x fun b h'=>if b=true then inv (k+1) h' else fin h')->
  ∀ h0,inv 0 h0->jR P κ f (mk (lp l)) h0 fun _ h'=>inv xs.length h'∨fin h'
theorem aC.u5{g:Operand}{ps:Array Tmp}{gX body:Code}{fv:V}{f:FuncId}{mk:V->List V}{xs:List (List V)}(k0 κ2:Nat)(tr:Nat->List ak->List ak)(Pr:Nat->List ak->Prop)(hg:ev T g=some fv)(hc:∀ y,callee [y] fv=some (f,mk y))(hf:an P f=true)(zV:abg P k0 tr Pr f mk xs)
    (hk0:k0<=κ2)(hκ:κ<=κ2)(Ui:κ2<=H.length)(hR:∀ l0,R=some l0->∃(i0:Nat) (r0:uf) (st:LoopState) (pe:Option Code),r0.l=l0∧H[i0]? =some (.loop r0 st pe))(hps:∀ x∈xs,x.length=ps.size)(hlt:ps.toList.all (fun p=>Nat.blt p N)=true)
    (J:Nat->List ak->Prop)(Jx:Code->List ak->Prop)(hJ:∀ k h,J k h->h.length=H.length∧∀ e,Pr k (h++[e]))(Bb:∀ k h,J k h->(tr k h).length=H.length∧∀ e,tr k (h++[e])=tr k h++[e])(Ii:∀ c h,Jx c h->h.length=H.length)(h0:J 0 H)
    (round:∀ l tmps k h x,J k h->xs[k]? =some x->Round P N κ2 ⟨l,tmps,T,ps,gX,body⟩ k H.length J Jx (nt T ps.toList x) (tr k h++[.loop ⟨l,tmps,T,ps,gX,body⟩ .ready none]))
    (done:∀ h,J xs.length h->Q .normal T (h++[.dead]))(stop:∀ c h,Jx c h->aC P R N κ c Q T (h++[.dead])):aC P R N κ (.rangeFunc g ps gX body) Q T H:=by
 intro B w I ρ a hi ht hm
 refine wpIn_rangeFunc ?_
 intro fn _
 -- the record
 have entry:∃(l:Nat) (mark:List Deferred) (w1:World),(Instr.enterLoop fn a.tmps ps gX body R).run P w= .ok (l,mark) w1∧Ext w I ρ w1 I (ρ++[l])∧
     Inv P w1 I (ρ++[l]) (H++[.loop ⟨l,a.tmps,T,ps,gX,body⟩ .ready none])∧Marks κ B w1 I (ρ++[l]) (mark++a.defers):=by
  cases R with
  | none=>
   have hi1:=Inv.fY hi (.deferred (some []))
   have he1:=Ext.fY hi (.deferred (some []))
   let ob:Obj:= .loop {state:= .ready,pending:=none,fn,tmps:=a.tmps,params:=ps,assign:=gX,body,defers:=w.heap.size}
   have P2:Ext (w.alloc (.deferred (some []))) I ρ _ I _:=Ext.aI hi1 ob
   have hE:=he1.trans P2
   have hsz:(w.alloc (.deferred (some []))).heap.size=w.heap.size+1:=by simp
   rw[hsz] at hE
   refine⟨w.heap.size+1,_,_,run_enterLoop_outer fn a.tmps ps gX body,hE,?_,?_⟩
   ·have hx:dz P ((w.alloc (.deferred (some []))).alloc ob) I (ρ++[w.heap.size+1]) (.loop ⟨w.heap.size+1,a.tmps,T,ps,gX,body⟩ .ready none) (w.heap.size+1):=by
      exact TG
    have:=Inv.aI hi1 ob (blk:= .loop ⟨w.heap.size+1,a.tmps,T,ps,gX,body⟩ .ready none) (by rw[hsz];exact hx)
    rwa [hsz] at this
   ·exact Uo
  | some l0=>
   obtain⟨i0,r0,st,pe,hl0,hH0⟩:=hR l0 rfl
   obtain⟨_,⟨fn0,d0,hw0⟩,_⟩:=mS hi hH0
   rw[hl0] at hw0
   let ob:Obj:= .loop {state:= .ready,pending:=none,fn,tmps:=a.tmps,params:=ps,assign:=gX,body,defers:=d0}
   have hE:Ext w I ρ (w.alloc ob) I (ρ++[w.heap.size]):=Ext.aI hi ob
   refine⟨w.heap.size,[],_,sY hw0 fn a.tmps ps gX body,hE,Inv.aI hi ob ⟨rfl,⟨fn,d0,heap_alloc_new w ob⟩,fun s v hv=>(ht.at_ s v hv).ext hE⟩,hm.ext hE⟩
 obtain⟨l,mark,w1,hen,hE,hi1,Ln⟩:=entry
 obtain⟨d,us,ij,hres,hinv⟩:=pJ (ht.ext hE) hg (hc (lp l)) hf
 refine⟨l,mark,w1,d,w1,f,us.toArray,w1,hen,hres,(fun _ _=>trivial),hinv,(fun h=>by cases h),?_⟩
 have Ji:∀ k h,(∃ h0,J k h0∧h=h0++[ak.loop ⟨l,a.tmps,T,ps,gX,body⟩ .ready none])->h.length=H.length+1∧Pr k h:=by
  rintro k h ⟨h0,h1,rfl⟩
  exact⟨by simp[(hJ k h0 h1).1],(hJ k h0 h1).2 _⟩
 have LZ:=zV l κ2 (H.length+1) (fun k h=>∃ h0,J k h0∧h=h0++[ak.loop ⟨l,a.tmps,T,ps,gX,body⟩ .ready none]) (fun h=>∃ h0 c,Jx c h0∧h=h0++[ak.loop ⟨l,a.tmps,T,ps,gX,body⟩ .done (some c)])
  hk0 (by omega) Ji (by rintro h ⟨h0,c,h1,rfl⟩;simp[Ii c h0 h1]) (by
   rintro k h x ⟨h0,h1,rfl⟩ hx
   have:=Round.ok (r:=⟨l,a.tmps,T,ps,gX,body⟩) (h:=tr k h0) (Bb k h0 h1).1 (fun h e=>(hJ (k+1) h e).1) Ii (hps x (Zi hx)) (fun p hp=>by
    have:=(ZC.1 hlt) p hp
    simpa[Nat.blt,ZA] using this) ht.size (round l a.tmps k h0 x h1 hx)
   rw[(Bb k h0 h1).2]
   exact this) _ ⟨H,h0,rfl⟩ B.pre w1 I (ρ++[l]) us hi1 ij (Ln.2.2.1) (Zz Ln.2.1 hκ)
 refine CallsIn.mono (cK R LZ) ?_
 rintro e w3 ⟨u,v,I3,ρ3,H3,rfl,M7,h1,h2,h3,h4⟩
 have R5:∀(h':List ak) (st:LoopState) (pe:Option Code),h'.length=H.length->st≠ .busy->H3=h'++[.loop ⟨l,a.tmps,T,ps,gX,body⟩ st pe]->
     ∃ w4,(Instr.endLoop l).run P w3= .ok pe w4∧cR w I ρ w4 I3 ρ3∧Inv P w4 I3 ρ3 (h'++[.dead])∧bR P w4 I3 ρ3 N T a.tmps∧Marks κ B w4 I3 ρ3 (mark++a.defers):=by
  rintro h' st pe hl' hst rfl
  have fD:(h'++[ak.loop ⟨l,a.tmps,T,ps,gX,body⟩ st pe])[H.length]? =some (.loop ⟨l,a.tmps,T,ps,gX,body⟩ st pe):=by rw[<- hl'];simp
  obtain⟨_,⟨fn3,d3,Wn⟩,hT3⟩:=mS h2 fD
  obtain⟨X8,Aw⟩:=rX (st':= .exhausted) (Xp:=pe) h2 fD Wn _ rfl
  refine⟨_,run_endLoop Wn hst,(hE.w.trans h1).trans X8.w,?_,⟨ht.size,fun s v hv=>(hT3 s v hv).ext X8⟩,(Ln.Ks h1 h4).ext X8⟩
  have:=Aw.kill H.length
  rw[<- hl',oB,oB] at this
  exact this
 rcases M7 with⟨h',hj,rfl⟩ | ⟨h',c,hj,rfl⟩
 ·obtain⟨w4,e1,e2,e3,e4,e5⟩:=R5 h' .ready none (hJ _ _ hj).1 (by simp) rfl
  exact⟨none,w4,e1,.normal,I3,ρ3,T,_,trivial,done h' hj,e2,e3,e4,e5⟩
 ·obtain⟨w4,e1,e2,e3,e4,e5⟩:=R5 h' .done (some c) (Ii _ _ hj) (by simp) rfl
  exact⟨some c,w4,e1,wpIn_mono (stop c h' hj B w4 I3 ρ3 {a with defers:=mark++a.defers} e3 e4 e5) fun _ _ _ q=>QC.ext e2 q⟩
theorem aC.rangeFunc{g:Operand}{ps:Array Tmp}{gX body:Code}{fv:V}{f:FuncId}{mk:V->List V}{xs:List (List V)}(κ2:Nat)(hg:ev T g=some fv)(hc:∀ y,callee [y] fv=some (f,mk y))(hf:an P f=true)(zV:LA P f mk xs)
    (hκ:κ<=κ2)(Ui:κ2<=H.length)(hR:∀ l0,R=some l0->∃(i:Nat) (r0:uf) (st:LoopState) (pe:Option Code),r0.l=l0∧H[i]? =some (.loop r0 st pe))(hps:∀ x∈xs,x.length=ps.size)(hlt:ps.toList.all (fun p=>Nat.blt p N)=true)
    (J:Nat->List ak->Prop)(Jx:Code->List ak->Prop)(hJ:∀ k h,J k h->h.length=H.length)(Ii:∀ c h,Jx c h->h.length=H.length)(h0:J 0 H)
    (round:∀ l tmps k h x,J k h->xs[k]? =some x->Round P N κ2 ⟨l,tmps,T,ps,gX,body⟩ k H.length J Jx (nt T ps.toList x) (h++[.loop ⟨l,tmps,T,ps,gX,body⟩ .ready none]))
    (done:∀ h,J xs.length h->Q .normal T (h++[.dead]))(stop:∀ c h,Jx c h->aC P R N κ c Q T (h++[.dead])):aC P R N κ (.rangeFunc g ps gX body) Q T H:=
 aC.u5 0 κ2 (fun _ h=>h) (fun _ _=>True) hg hc hf (fun l κ n inv fin _ h1 h2 h3 h4=>zV l κ n inv fin h1 (fun k h hk=>(h2 k h hk).1) h3 h4) (Zn _) hκ Ui hR hps hlt J Jx (fun k h hk=>⟨hJ k h hk,fun _=>trivial⟩) (fun k h hk=>⟨hJ k h hk,fun _=>rfl⟩) Ii h0 round done stop
end
structure dV {K:Type} [DecidableEq K] (enc:K->PV) (d:TypeDesc) where
 val:K->Value
 rel:∀(w:World) (I:Nat->Prop) (a:K) (u:Value),Rel w I (enc a) u↔u=val a
 same:∀ a b,Instr.sameNow d (val a) (val b)=some (decide (a=b))
 check:∀(P:Program) (b:Bool) (n:Nat) (t:TypeId) (w:World) (a:K),P.underlying t=some d->(Instr.checkKey b (n+1) t (val a)).run P w= .ok () w
 bits:∀ n a,Instr.sameBits n (val a) (val a)=true
def dV.int(k:IntKind)(k':IntKind):dV (PV.int k) (.int k') where
 val:= .int k
 rel w I a u:=by simp[Rel]
 same a b:=by
  simp only[Instr.sameNow,if_true]
  congr 1
 check P b n t w a h:=by simp[Instr.checkKey,run_underlying h]
 bits n a:=by cases n <;> simp[Instr.sameBits]
theorem bytes_beq(a b:ByteArray):(a==b)=decide (a=b):=by
 rcases a with⟨a⟩
 rcases b with⟨b⟩
 show(a==b)=_
 by_cases h:a=b
 ·subst h;simp
 ·simp[h]
def dV.str:dV PV.str .string where
 val:= .string
 rel w I a u:=by simp[Rel]
 same a b:=by
  simp only[Instr.sameNow,bytes_beq]
 check P b n t w a h:=by simp[Instr.checkKey,run_underlying h]
 bits n a:=by cases n <;> simp[Instr.sameBits,bytes_beq]
section
variable {K α:Type} [DecidableEq K]
def cQ(n:K):List (K×α)->Option α
 | []=>none
 | m::r=>if n=m.1 then some m.2 else cQ n r
def bh(n:K)(a:α):List (K×α)->List (K×α)
 | []=>[(n,a)]
 | m::r=>if n=m.1 then(n,a)::r else m::bh n a r
def mix(n:K):List (K×α)->Nat->Option Nat
 | [],_=>none
 | m::r,i=>if n=m.1 then some i else mix n r (i+1)
end
def nJ{K α:Type}(enc:K->PV)(g:α->V)(ms:List (K×α)):ak:= .map (ms.map fun m=> .p (enc m.1)) (ms.map fun m=>g m.2)
def mF{K α:Type}(enc:K->PV)(g:α->PV)(ms:List (K×α)):PV:= .im (ms.map fun m=>enc m.1) (ms.map fun m=>g m.2)
section
variable {P:Program} {R:Option Nat} {N κ:Nat} {Q Q':Post} {T T' T2 T3:Tm} {H H' H2 H3:List ak} {o:Oper} {ops:Array Oper} {rest:List Oper}
variable {K α:Type} [DecidableEq K] {enc:K->PV} {g:α->V} {gp:α->PV} {d:TypeDesc}
theorem nW(hk:dV enc d){w:World}{I:Nat->Prop}{ρ:List Nat}(n:K):∀(ms:List (K×α)) (es:List MapEntry) (i:Nat),aj P w I ρ (ms.map fun m=> .p (enc m.1)) (es.map (·.key))->aj P w I ρ (ms.map fun m=>g m.2) (es.map (·.val))->
    (cQ n ms=none∧mix n ms i=none∧Instr.findNow d (hk.val n) es i=some none)∨
    ∃(a:α) (j:Nat) (e:MapEntry),cQ n ms=some a∧mix n ms i=some (i+j)∧es[j]? =some e∧ms[j]? =some (n,a)∧e.key=hk.val n∧aG P w I ρ (g a) e.val∧Instr.findNow d (hk.val n) es i=some (some (i+j,e.val))
 | [],es,i,h1,h2=>by
  have:es=[]:=by simpa[aj] using h1
  subst this
  exact .inl ⟨rfl,rfl,rfl⟩
 | m::ms,es,i,h1,h2=>by
  cases es with
  | nil=>obtain⟨u,us,h,_⟩:=h1;simp at h
  | cons e es=>
   obtain⟨u,us,h,h3,h4⟩:=h1
   simp at h
   obtain⟨rfl,rfl⟩:=h
   obtain⟨u,us,h,h5,h6⟩:=h2
   simp at h
   obtain⟨rfl,rfl⟩:=h
   have hkey:e.key=hk.val m.1:=(hk.rel w I m.1 e.key).1 h3
   simp only[cQ,mix,Instr.findNow,hkey,hk.same]
   by_cases hn:n=m.1
   ·subst hn
    refine .inr ⟨m.2,0,e,by simp,by simp,rfl,rfl,hkey,h5,by simp⟩
   ·simp only[if_neg hn,decide_eq_false hn]
    rcases nW hk n ms es (i+1) h4 h6 with⟨k1,k2,k3⟩ | ⟨a,j,e',k1,k2,k3,k4,k5,k6,k7⟩
    ·exact .inl ⟨k1,k2,k3⟩
    ·exact .inr ⟨a,j+1,e',k1,by rw[k2];congr 1;omega,by simpa using k3,by simpa using k4,k5,k6,by rw[k7];congr 3;omega⟩
def pg(P:Program)(t:TypeId):Option (TypeDesc×PV):=
 match P.underlying t with
 | some (.map k e)=>match P.underlying k,cO P e with
   | some d,some z=>some (d,z)
   | _,_=>none
 | _=>none
theorem sU{t:TypeId}{z:PV}(h:pg P t=some (d,z)):∃ k e,P.underlying t=some (.map k e)∧P.underlying k=some d∧cO P e=some z:=by
 unfold pg at h
 split at h
 ·rename_i k e hu
  split at h
  ·rename_i d' z' h1 h2
   simp at h
   obtain⟨rfl,rfl⟩:=h
   exact⟨k,e,hu,h1,h2⟩
  ·cases h
 ·cases h
def BA(z:PV)(ok:Bool)(v:Option V):V:=
 if ok then ki [v.getD (.p z),.p (.bool v.isSome)] else v.getD (.p z)
theorem aj.two{w:World}{I:Nat->Prop}{ρ:List Nat}{x y:V}{u v:Value}(h:aG P w I ρ x u)(k:aG P w I ρ y v):aj P w I ρ [x,y] (#[u,v]:Array Value).toList:=⟨u,[v],rfl,h,v,[],rfl,k,rfl⟩
theorem tQ(hk:dV enc d){w:World}{I:Nat->Prop}{ρ:List Nat}{t:TypeId}{z:PV}{ms:List (K×α)}{es:Array MapEntry}{x:Value}{n:K}{ok:Bool}(ht:pg P t=some (d,z))(h1:aj P w I ρ (ms.map fun m=> .p (enc m.1)) (es.toList.map (·.key)))(h2:aj P w I ρ (ms.map fun m=>g m.2) (es.toList.map (·.val)))
    (hx:(x= .map none∧es= #[])∨∃ r clock,x= .map (some r)∧w.heap[r]? =some (.map es clock)):∃ u,(Instr.lookup t x (hk.val n) ok).run P w= .ok u w∧aG P w I ρ (BA z ok ((cQ n ms).map g)) u:=by
 obtain⟨k,e,hu,hd,hz⟩:=sU ht
 obtain⟨zu,hz1,DQ⟩:=mq hz w
 have Bv:=hk.check P es.isEmpty 9999 k w n hd
 have hstart:(Instr.lookup t x (hk.val n) ok).run P w=(do
     let (v,ok') <- match <- Instr.findKey k (hk.val n) es.toList with
      | some (_,v)=>pure (v,true)
      | none=>pure (<- zeroValue e,false)
     pure (if ok then .tuple #[v,.bool ok'] else v):Sem Value).run P w:=by
  rcases hx with⟨rfl,rfl⟩ | ⟨r,clock,rfl,hr⟩
  ·simp[Instr.lookup,run_underlying hu] at Bv ⊢
   simp[Bv]
   rfl
  ·simp[Instr.lookup,run_underlying hu,getObj,Sem.run_bind,Sem.run,hr,Result.andThen] at Bv ⊢
   simp[Bv]
   rfl
 rw[hstart]
 rcases nW hk n ms es.toList 0 h1 h2 with⟨k1,k2,k3⟩ | ⟨a,j,e',k1,k2,k3,k4,k5,k6,k7⟩
 ·refine⟨if ok then .tuple #[zu,.bool false] else zu,?_,?_⟩
  ·simp[Instr.findKey,run_underlying hd,k3,hz1]
  ·rw[k1]
   cases ok with
   | false=>exact DQ I
   | true=>exact aG.ki (us:= #[zu,.bool false]) (aj.two (x:= .p z) (y:= .p (.bool false)) (DQ I) (by simp[aG,Rel]))
 ·refine⟨if ok then .tuple #[e'.val,.bool true] else e'.val,?_,?_⟩
  ·simp[Instr.findKey,run_underlying hd,k7]
  ·rw[k1]
   cases ok with
   | false=>exact k6
   | true=>exact aG.ki (us:= #[e'.val,.bool true]) (aj.two (y:= .p (.bool true)) k6 (by simp[aG,Rel]))
theorem CX(hk:dV enc d){w:World}{I:Nat->Prop}{ρ:List Nat}{a:Act}(ht:bR P w I ρ N T a.tmps){x:Operand}{n:K}(h:ev T x=some (.p (enc n))):a.eval x=hk.val n:=(hk.rel w I n _).1 (ht.ev h)
theorem aa.F7(hk:dV enc d){x y:Operand}{t:TypeId}{z:PV}{ms:List (K×α)}{i:Nat}{n:K}{ok:Bool}(ho:o.op= .lookup t x y ok)(hx:ev T x=some (.map i))(hH:H[i]? =some (nJ enc g ms))(hy:ev T y=some (.p (enc n)))(ht:pg P t=some (d,z)):aa P N o T H (BA z ok ((cQ n ms).map g)) H:=
 aa.aR (by simp[ho]) fun w I ρ a hi hT=>by
  obtain⟨b,hb,hu⟩:=hT.ev hx
  obtain⟨es,clock,h1,h2,h3,_⟩:=hi.rel i b _ hb hH
  obtain⟨u,h4,h5⟩:=tQ hk (n:=n) (ok:=ok) (x:= .map (some b)) ht h2 h3 (.inr ⟨b,clock,rfl,h1⟩)
  refine⟨u,?_,h5⟩
  simp[execOp,ho,CX hk hT hy,hu,h4]
theorem aa.B3(hk:dV enc d){x y:Operand}{t:TypeId}{z:PV}{ms:List (K×α)}{n:K}{ok:Bool}(ho:o.op= .lookup t x y ok)(hx:ev T x=some (.p (mF enc gp ms)))(hy:ev T y=some (.p (enc n)))(ht:pg P t=some (d,z)):aa P N o T H (BA z ok ((cQ n ms).map fun a=> .p (gp a))) H:=
 aa.aR (by simp[ho]) fun w I ρ a hi hT=>by
  obtain⟨b,es,clock,hb,hu,h1,h2,h3,_⟩:=hT.ev hx
  have Xg:aj P w I ρ (ms.map fun m=> .p (enc m.1)) (es.toList.map (·.key)):=by
   have:=aj.pure (P:=P) (ρ:=ρ).2 h2
   simpa[Function.comp_def] using this
  have h3':aj P w I ρ (ms.map fun m=>(fun a=>V.p (gp a)) m.2) (es.toList.map (·.val)):=by
   have:=aj.pure (P:=P) (ρ:=ρ).2 h3
   simpa[Function.comp_def] using this
  obtain⟨u,h4,h5⟩:=tQ hk (n:=n) (ok:=ok) (g:=fun a=>V.p (gp a)) (x:= .map (some b)) ht Xg h3' (.inr ⟨b,clock,rfl,h1⟩)
  refine⟨u,?_,h5⟩
  simp[execOp,ho,CX hk hT hy,hu,h4]
theorem aa.makeMap{t:TypeId}(ho:o.op= .makeMap t none):aa P N o T H (.map H.length) (H++[nJ enc g []]):=
 aa.dZ (by simp[ho]) fun w I ρ a hi hT=>by
  refine⟨.map (some w.heap.size),_,_,_,.inl ?_,Ext.aI hi (.map #[] 0),Inv.aI hi _ ⟨#[],0,heap_alloc_new w _,by simp[aj],by simp[aj],by simp[wU]⟩,?_⟩
  ·simp[execOp,ho,Instr.makeMap]
  ·exact L4
theorem vB(n:K)(a:α):∀ ms:List (K×α),cQ n ms=none->bh n a ms=ms++[(n,a)]
 | [],h=>rfl
 | m::r,h=>by
  simp only[cQ] at h
  simp only[bh]
  split
  ·rename_i e;rw[if_pos e] at h;cases h
  ·rename_i e;rw[if_neg e] at h;simp[vB n a r h]
theorem vM(n:K)(a:α):∀(ms:List (K×α)) (i j:Nat),mix n ms i=some (i+j)->bh n a ms=ms.set j (n,a)
 | [],i,j,h=>by simp[mix] at h
 | m::r,i,j,h=>by
  simp only[mix] at h
  simp only[bh]
  split at h
  ·rename_i e
   have:j=0:=by simpa using h
   subst this
   simp[e]
  ·rename_i e
   cases j with
   | zero=>
    have gen:∀(ms:List (K×α)) (i k:Nat),mix n ms i=some k->i<=k:=by
     intro ms
     induction ms with
     | nil=>intro i k h;simp[mix] at h
     | cons m ms ih=>
      intro i k h
      simp only[mix] at h
      split at h
      ·simp at h;omega
      ·have:=ih _ _ h;omega
    have:=gen r (i+1) (i+0) h
    omega
   | succ j=>
    rw[if_neg e,vM n a r (i+1) j (by rw[h];congr 1;omega)]
    rfl
theorem run_keyThatStays{w:World}{u:Value}(h:Instr.sameBits 10000 u u=true):(Instr.keyThatStays u u).run P w= .ok u w:=by
 simp[Instr.keyThatStays,h]
theorem Cl{w:World}{I:Nat->Prop}{ρ:List Nat}{i b:Nat}{ms ms':List (K×α)}{es es':Array MapEntry}{clock clock':Nat}(hi:Inv P w I ρ H)(hb:ρ[i]? =some b)(hH:H[i]? =some (nJ enc g ms))(hw:w.heap[b]? =some (.map es clock))
    (h1:aj P w I ρ (ms'.map fun m=> .p (enc m.1)) (es'.toList.map (·.key)))(h2:aj P w I ρ (ms'.map fun m=>g m.2) (es'.toList.map (·.val)))(h3:wU es' clock'):
    Ext w I ρ (w.putObj b (.map es' clock')) I ρ∧Inv P (w.putObj b (.map es' clock')) I ρ (H.set i (nJ enc g ms')):=by
 have hlt:b<w.heap.size:=(ZO.1 hw).1
 have fL:∀ k,k≠b->(w.putObj b (.map es' clock')).heap[k]? =w.heap[k]? :=fun k hk=>World.putObj_heap_other hk
 have hE:Ext w I ρ (w.putObj b (.map es' clock')) I ρ:=Ext.write hi hb hH rfl rfl rfl rfl (by simp) fL (fun s hs=>by simp[World.shape?,hw] at hs)
 exact⟨hE,Inv.write hi hb hH rfl hE (by simp) fL ⟨es',clock',World.putObj_heap_same hlt,aj.ext hE h1,aj.ext hE h2,h3⟩⟩
theorem wO(hk:dV enc d){w:World}{I:Nat->Prop}{ρ:List Nat}{t:TypeId}{z:PV}{ms:List (K×α)}{i b:Nat}{n:K}{x:α}{u:Value}(hi:Inv P w I ρ H)(hb:ρ[i]? =some b)(hH:H[i]? =some (nJ enc g ms))(ht:pg P t=some (d,z))(hu:aG P w I ρ (g x) u):
    ∃ w',(Instr.mapUpdate t (.map (some b)) (hk.val n) u).run P w= .ok () w'∧Ext w I ρ w' I ρ∧Inv P w' I ρ (H.set i (nJ enc g (bh n x ms))):=by
 obtain⟨k,e,hut,hd,_⟩:=sU ht
 obtain⟨es,clock,h1,h2,h3,h4⟩:=hi.rel i b _ hb hH
 have Bv:=hk.check P false 9999 k w n hd
 simp at Bv
 have o8:∀ ob:Obj,(setObj b ob).run P w= .ok () (w.putObj b ob):=fun ob=>by simp[setObj,Sem.run,h1,World.putObj]
 rcases nW hk n ms es.toList 0 h2 h3 with⟨k1,k2,k3⟩ | ⟨a,j,e',k1,k2,k3,k4,k5,k6,k7⟩
 ·have hT:=Cl (ms':=bh n x ms) (es':=es.push {key:=hk.val n,val:=u,born:=clock}) (clock':=clock+1) hi hb hH h1 (by
    rw[vB n x ms k1]
    simp only[Zy,ZE,zF,Array.toList_push]
    exact aj.append h2 ⟨_,_,rfl,(hk.rel w I n _).2 rfl,by simp[aj]⟩) (by
    rw[vB n x ms k1]
    simp only[Zy,ZE,zF,Array.toList_push]
    exact aj.append h3 ⟨_,_,rfl,hu,by simp[aj]⟩) (by
    obtain⟨h5,h6⟩:=h4
    refine⟨?_,fun e he=> ?_⟩
    ·simp only[Array.toList_push,Zy,ZE,zF]
     rw[xM]
     refine⟨h5,by simp,fun a ha b hb=> ?_⟩
     simp at hb
     subst hb
     rw[xS] at ha
     obtain⟨e,he,rfl⟩:=ha
     have:=h6 e he
     omega
    ·simp only[Array.toList_push,Zs,Zw] at he
     rcases he with he | rfl
     ·have:=h6 e he;omega
     ·simp)
  refine⟨_,?_,hT⟩
  simp[Instr.mapUpdate,run_underlying hut,getObj,Sem.run_bind,Sem.run,h1,Result.andThen,Bv,Instr.findKey,run_underlying hd,k3,o8]
 ·simp only[tZ] at k2 k7
  have hje:es[j]? =some e':=by simpa using k3
  have hjl:j<es.size:=(ZO.1 hje).1
  have aa1:=run_keyThatStays (P:=P) (w:=w) (hk.bits 10000 n)
  have hT:=Cl (ms':=bh n x ms) (es':=es.modify j fun e=>{e with key:=hk.val n,val:=u}) (clock':=clock) hi hb hH h1 (by
   rw[vM n x ms 0 j (by simpa using k2),List.map_set]
   have:(es.modify j fun e=>{e with key:=hk.val n,val:=u}).toList.map (·.key)=(es.toList.map (·.key)).set j (hk.val n):=by
    exact abh
   rw[this]
   exact aj.set (v:= .p (enc n)) ((hk.rel w I n _).2 rfl) j h2) (by
   rw[vM n x ms 0 j (by simpa using k2),List.map_set]
   have:(es.modify j fun e=>{e with key:=hk.val n,val:=u}).toList.map (·.val)=(es.toList.map (·.val)).set j u:=by
    exact abh
   rw[this]
   exact aj.set hu j h3) (by
   obtain⟨h5,h6⟩:=h4
   have:(es.modify j fun e=>{e with key:=hk.val n,val:=u}).toList.map (·.born)=es.toList.map (·.born):=by
    apply Dt
    intro i
    simp only[Array.toList_modify,Zt,List.getElem?_modify]
    by_cases hij:j=i
    ·subst hij
     simp[hjl]
    ·simp[hij]
   refine⟨by rw[this];exact h5,fun e he=> ?_⟩
   have hm:e.born∈es.toList.map (·.born):=by rw[<- this];exact List.mem_map_of_mem he
   rw[xS] at hm
   obtain⟨e2,P2,h7⟩:=hm
   rw[<- h7]
   exact h6 e2 P2)
  refine⟨_,?_,hT⟩
  have hkey:((es[j]?).map (·.key)).getD (hk.val n)=hk.val n:=by rw[hje];simp[k5]
  simp[Instr.mapUpdate,run_underlying hut,getObj,Sem.run_bind,Sem.run,h1,Result.andThen,Bv,Instr.findKey,run_underlying hd,k7,hkey,aa1,o8]
theorem aa.mapUpdate(hk:dV enc d){x y v:Operand}{t:TypeId}{z:PV}{ms:List (K×α)}{i:Nat}{n:K}{c:α}(ho:o.op= .mapUpdate t x y v∨o.op= .insert t x y v)(hx:ev T x=some (.map i))(hH:H[i]? =some (nJ enc g ms))(hy:ev T y=some (.p (enc n)))(hv:ev T v=some (g c))(ht:pg P t=some (d,z)):
    aa P N o T H .top (H.set i (nJ enc g (bh n c ms))):=
 aa.dZ (by rcases ho with ho | ho <;> simp[ho]) fun w I ρ a hi hT=>by
  obtain⟨b,hb,hu⟩:=hT.ev hx
  obtain⟨w',h1,h2,h3⟩:=wO hk (n:=n) hi hb hH ht (hT.ev hv)
  refine⟨undef,w',I,ρ,.inr ⟨?_,rfl⟩,h2,h3,trivial⟩
  rcases ho with ho | ho <;> simp[execOp,ho,CX hk hT hy,hu,h1]
def yB{K α:Type}(enc:K->PV)(gp:α->PV)(ms:List (K×α))(last:Option (K×α)):ak:= .mapIter (ms.map fun m=>enc m.1) (ms.map fun m=>gp m.2) (last.map fun m=>(enc m.1,gp m.2))
theorem aa.rangeMap{x:Operand}{t:TypeId}{z:PV}{ms:List (K×α)}(ho:o.op= .range t x)(hx:ev T x=some (.p (mF enc gp ms)))(ht:pg P t=some (d,z)):aa P N o T H (.ptr H.length 0) (H++[yB enc gp ms none]):=
 aa.dZ (by simp[ho]) fun w I ρ a hi hT=>by
  obtain⟨k,e,hu,_,_⟩:=sU ht
  obtain⟨b,es,clock,hb,hx',h1,h2,h3,h4⟩:=hT.ev hx
  have hE:=Ext.aI hi (.mapIter (some b) clock #[] clock)
  refine⟨.pointer (some ⟨w.heap.size,0,none⟩),_,_,_,.inl ?_,hE,Inv.aI hi _ ?_,⟨w.heap.size,by rw[<- hi.len];simp,rfl⟩⟩
  ·simp[execOp,ho,Instr.range,run_underlying hu,hx',getObj,Sem.run_bind,Sem.run,h1,Result.andThen,newObj]
  ·refine .inr ⟨b,es,clock,#[],heap_alloc_new w _,hb,?_,h4,?_,?_,by simp⟩
   ·exact(heap_alloc_old w _ (hi.ib b hb)).trans h1
   ·rw[show es.toList.filter (fun e=> !(#[]:Array Nat).contains e.born)=es.toList by rw[List.filter_eq_self];simp]
    exact aW.mono (fun _ h=>hE.w.mB _ h) hE.w.bu _ _ h2
   ·rw[show es.toList.filter (fun e=> !(#[]:Array Nat).contains e.born)=es.toList by rw[List.filter_eq_self];simp]
    exact aW.mono (fun _ h=>hE.w.mB _ h) hE.w.bu _ _ h3
theorem map_eraseIdx{α β:Type}(f:α->β):∀(l:List α) (i:Nat),(l.eraseIdx i).map f=(l.map f).eraseIdx i
 | [],i=>by simp
 | x::l,0=>by simp
 | x::l,i+1=>by simp[map_eraseIdx f l i]
theorem aW.erase{w:World}{I:Nat->Prop}:∀{xs:List PV} {us:List Value} (i:Nat),aW w I xs us->aW w I (xs.eraseIdx i) (us.eraseIdx i)
 | [],us,i,h=>by simp[aW] at h;subst h;simp[aW]
 | x::xs,us,i,h=>by
  obtain⟨u,us',rfl,h1,h2⟩:=h
  cases i with
  | zero=>exact h2
  | succ i=>exact⟨u,us'.eraseIdx i,by simp,h1,aW.erase i h2⟩
theorem aW.get{w:World}{I:Nat->Prop}:∀{xs:List PV} {us:List Value} {i:Nat} {u:Value},aW w I xs us->us[i]? =some u->∃ x,xs[i]? =some x∧Rel w I x u
 | [],us,i,u,h,hu=>by simp[aW] at h;subst h;simp at hu
 | x::xs,us,i,u,h,hu=>by
  obtain⟨u',us',rfl,h1,h2⟩:=h
  cases i with
  | zero=>simp at hu;subst hu;exact⟨x,rfl,h1⟩
  | succ i=>
   obtain⟨y,k1,k2⟩:=aW.get (i:=i) h2 (by simpa using hu)
   exact⟨y,by simpa using k1,k2⟩
theorem filter_push(es:List MapEntry)(seen:Array Nat)(e:MapEntry)(hn:(es.map (·.born)).Nodup):∀ i:Nat,(es.filter fun x=> !seen.contains x.born)[i]? =some e->
    es.filter (fun x=> !(seen.push e.born).contains x.born)=(es.filter fun x=> !seen.contains x.born).eraseIdx i:=by
 induction es with
 | nil=>intro i h;simp at h
 | cons x es ih=>
  intro i h
  simp only[ZE,ZF] at hn
  by_cases hs:seen.contains x.born=true
  ·have h1:(x::es).filter (fun x=> !seen.contains x.born)=es.filter fun x=> !seen.contains x.born:=by rw[ZbS,hs];rfl
   rw[h1] at h ⊢
   rw[<- ih hn.2 i h]
   have h2:(seen.push e.born).contains x.born=true:=by
    simp only[ZbM,Array.mem_push,Zl] at hs ⊢
    exact .inl hs
   simp only[ZbS,h2,Bool.not_true,Ib,if_false]
  ·have hs':seen.contains x.born=false:=by simpa using hs
   have h1:(x::es).filter (fun x=> !seen.contains x.born)=x::es.filter fun x=> !seen.contains x.born:=by rw[ZbS,hs'];rfl
   rw[h1] at h ⊢
   cases i with
   | zero=>
    simp at h
    subst h
    have h2:(seen.push x.born).contains x.born=true:=by simp[ZbM]
    simp only[ZbS,h2,Bool.not_true,Ib,if_false,List.eraseIdx_zero,List.tail_cons]
    apply List.filter_congr
    intro y hy
    have:y.born≠x.born:=fun h=>hn.1 (by rw[<- h];exact List.mem_map_of_mem hy)
    congr 1
    simp only[ZbM,Array.mem_push,this,or_false]
   | succ i=>
    have h':(es.filter fun x=> !seen.contains x.born)[i]? =some e:=by simpa using h
    have hne:x.born≠e.born:=fun hh=>by
     have:e∈es:=(List.mem_filter.1 (Zi h')).1
     exact hn.1 (by rw[hh];exact List.mem_map_of_mem this)
    have h2:(seen.push e.born).contains x.born=false:=by
     simp only[ZbM,Array.mem_push,ZP,hne,or_false] at hs' ⊢
     simpa using hs'
    simp only[ZbS,h2,Bool.not_false,if_true,List.eraseIdx_cons_succ,ih hn.2 i h']
theorem aq.Qs(dd:Nat){it:Operand}{i:Nat}{ms:List (K×α)}{last:Option (K×α)}(ho:o.op= .next it false)(hd:o.dst=some dd)(hN:bC N (some dd)=true)(hg:o.guard=none)(hx:ev T it=some (.ptr i 0))(hH:H[i]? =some (yB enc gp ms last))
    (over:ms=[]->aq P R N κ ops rest Q ((dd,.p (.tuple [.bool false]))::T) H)
    (next:∀(j:Nat) (m:K×α),ms[j]? =some m->aq P R N κ ops rest Q ((dd,.p (.tuple [.bool true,enc m.1,gp m.2]))::T) (H.set i (yB enc gp (ms.eraseIdx j) (some m)))):aq P R N κ ops (o::rest) Q T H:=by
 intro QX B w I ρ a hi ht hm hq
 refine wpListIn_plain hg fun Kx hK=>⟨bQ,?_⟩
 rw[bT _ _ _ (by simp[ho])]
 obtain⟨b,hb,hu⟩:=ht.ev hx
 have cT:=hi.rel i b _ hb hH
 have quiet:∀ u,aG P w I ρ (.p (.tuple [.bool false])) u->ms=[]->Kx (a.put o.dst u) w:=fun u hv h0=>by
  refine hK _ _ ?_
  have:=ht.put (a:=a) (dst:=o.dst) (by rw[hd];exact hN) hv
  rw[hd] at this ⊢
  exact over h0 QX B w I ρ _ hi this hm.put hq
 have TH:aG P w I ρ (.p (.tuple [.bool false])) (.tuple #[.bool false]):=⟨#[.bool false],rfl,.bool false,[],rfl,rfl,rfl⟩
 rcases cT with⟨h1,h2,h3,h4⟩ | ⟨r,es,clock,seen,h1,h2,h3,h4,h5,h6,h7⟩
 ·have e:(execOp a.eval o).run P w= .ok (.value (.tuple #[.bool false])) w:=by
    simp[execOp,ho,hu,Instr.next,getObj,Sem.run_bind,Sem.run,h4,Result.andThen]
  rw[e]
  exact quiet _ TH (by simpa using h1)
 ·rcases run_next_at (P:=P) w o.type b r clock clock seen es clock h1 h3 (fun x hx=>h4.2 x hx) (Zg _) with⟨h8,h9⟩ | ⟨e,he,w1,hw1,h9⟩
  ·have e:(execOp a.eval o).run P w= .ok (.value (.tuple #[.bool false])) w:=by
     simp[execOp,ho,hu,h9]
   rw[e]
   refine quiet _ TH ?_
   have h0:es.toList.filter (fun e=> !seen.contains e.born)=[]:=by
    have h10:(es.filter fun e=> !seen.contains e.born).toList.length=0:=by simpa[leftOf] using h8
    rw[Array.toList_filter] at h10
    exact ZD h10
   rw[h0] at h5
   have:=aW.length h5
   simp at this
   exact ZD this.symm
  ·have e0:(execOp a.eval o).run P w= .ok (.value (.tuple #[.bool true,e.key,e.val])) (ChangeMaps.setBlock w1 b (.mapIter (some r) clock (seen.push e.born) clock)):=by
     simp[execOp,ho,hu,h9]
   rw[e0]
   have hel:e∈es.toList.filter fun x=> !seen.contains x.born:=by
    have:=he
    simp only[leftOf,Array.toList_filter] at this
    exact this
   obtain⟨j,hj⟩:=List.getElem?_of_mem hel
   have hes:e∈es.toList:=(List.mem_filter.1 hel).1
   have hk5:∃ x,(ms.map fun m=>enc m.1)[j]? =some x∧Rel w I x e.key:=aW.get h5 (by rw[Zt,hj];rfl)
   have hv6:∃ x,(ms.map fun m=>gp m.2)[j]? =some x∧Rel w I x e.val:=aW.get h6 (by rw[Zt,hj];rfl)
   obtain⟨m,Ln,hmk,hmv⟩:∃ m,ms[j]? =some m∧Rel w I (enc m.1) e.key∧Rel w I (gp m.2) e.val:=by
    obtain⟨x,k1,k2⟩:=hk5
    obtain⟨y,k3,k4⟩:=hv6
    rw[Zt,Zm] at k1 k3
    obtain⟨m,k5,rfl⟩:=k1
    obtain⟨m',k6,rfl⟩:=k3
    rw[k5] at k6;cases k6
    exact⟨m,k5,k2,k4⟩
   have xq:Ext w I ρ w1 I ρ:=by
    rcases hw1 with rfl | rfl
    ·exact Ext.refl _ _ _
    ·exact Ext.drew
   have hi1:Inv P w1 I ρ H:=by
    rcases hw1 with rfl | rfl
    ·exact hi
    ·exact hi.drew
   have hh1:w1.heap=w.heap:=by rcases hw1 with rfl | rfl <;> rfl
   have hlt:b<w1.heap.size:=by rw[hh1];exact(ZO.1 h1).1
   have hsame:(ChangeMaps.setBlock w1 b (.mapIter (some r) clock (seen.push e.born) clock)).heap[b]? =some (.mapIter (some r) clock (seen.push e.born) clock):=by simp[ChangeMaps.setBlock,hlt]
   have fL:∀ k,k≠b->(ChangeMaps.setBlock w1 b (.mapIter (some r) clock (seen.push e.born) clock)).heap[k]? =w1.heap[k]? :=fun k hk=>by
    simp[ChangeMaps.setBlock,Array.getElem?_setIfInBounds_ne (Ne.symm hk)]
   have pL:Ext w1 I ρ (ChangeMaps.setBlock w1 b (.mapIter (some r) clock (seen.push e.born) clock)) I ρ:=
    Ext.write hi1 hb hH rfl rfl rfl rfl (by simp[ChangeMaps.setBlock]) fL (fun s hs=>by simp[World.shape?,hh1,h1] at hs)
   have hrb:r≠b:=fun h=>by subst h;rw[h3] at h1;cases h1
   have hE:=xq.trans pL
   have hi2:Inv P (ChangeMaps.setBlock w1 b (.mapIter (some r) clock (seen.push e.born) clock)) I ρ (H.set i (yB enc gp (ms.eraseIdx j) (some m))):=by
    refine Inv.write hi1 hb hH rfl pL (by simp[ChangeMaps.setBlock]) fL (.inr ⟨r,es,clock,seen.push e.born,hsame,h2,(fL r hrb).trans (by rw[hh1];exact h3),h4,?_,?_,?_⟩)
    ·rw[filter_push _ _ _ h4.1 j hj,map_eraseIdx,map_eraseIdx]
     exact aW.mono (fun _ h=>h) hE.w.bu _ _ (aW.erase j h5)
    ·rw[filter_push _ _ _ h4.1 j hj,map_eraseIdx,map_eraseIdx]
     exact aW.mono (fun _ h=>h) hE.w.bu _ _ (aW.erase j h6)
    ·intro k v hkv
     simp at hkv
     obtain⟨rfl,rfl⟩:=hkv
     exact⟨e,seen,hes,rfl,Rel.ext hE hmk,Rel.ext hE hmv⟩
   have hv:aG P (ChangeMaps.setBlock w1 b (.mapIter (some r) clock (seen.push e.born) clock)) I ρ (.p (.tuple [.bool true,enc m.1,gp m.2])) (.tuple #[.bool true,e.key,e.val]):=
    ⟨_,rfl,.bool true,_,rfl,rfl,e.key,_,rfl,Rel.ext hE hmk,e.val,_,rfl,Rel.ext hE hmv,rfl⟩
   refine hK _ _ ?_
   have hput:=(ht.ext hE).put (a:=a) (dst:=o.dst) (by rw[hd];exact hN) hv
   rw[hd] at hput ⊢
   exact next j m Ln QX B _ I ρ _ hi2 hput (hm.ext hE).put fun e' a2 w2 q=>hq e' a2 w2 (QC.ext hE.w q)
theorem aa.entry{it:Operand}{i:Nat}{ms:List (K×α)}{m:K×α}(ho:o.op= .entry it)(hx:ev T it=some (.ptr i 0))(hH:H[i]? =some (yB enc gp ms (some m))):aa P N o T H (.p (.tuple [enc m.1,gp m.2])) H:=
 aa.aR (by simp[ho]) fun w I ρ a hi hT=>by
  obtain⟨b,hb,hu⟩:=hT.ev hx
  rcases hi.rel i b _ hb hH with⟨h1,h2,h3,h4⟩ | ⟨r,es,clock,seen,h1,h2,h3,h4,h5,h6,h7⟩
  ·cases h3
  ·obtain⟨e,pre,k1,rfl,k3,k4⟩:=h7 _ _ rfl
   have:=run_entry_at (P:=P) w b r clock pre es clock e h1 h3 k1 h4.1
   refine⟨.tuple #[e.key,e.val],by simp[execOp,ho,hu,this],⟨_,rfl,e.key,_,rfl,k3,e.val,_,rfl,k4,rfl⟩⟩
mutual
def Jd(i:Nat)(x:PV):V->V
 | .map j=>if j=i then .p x else .map j
 | .agg cs=>gL (P6 i x cs)
 | .tuple cs=>ki (P6 i x cs)
 | v=>v
def P6(i:Nat)(x:PV):List V->List V
 | []=>[]
 | v::vs=>Jd i x v::P6 i x vs
end
def PS(i:Nat)(x:PV):Tm->Tm
 | []=>[]
 | (s,v)::r=>(s,Jd i x v)::PS i x r
theorem FU{i:Nat}{x:PV}:∀(T:Tm) (s:Nat),lk (PS i x T) s=(lk T s).map (Jd i x)
 | [],s=>rfl
 | (a,v)::r,s=>by
  simp only[PS,lk]
  cases Nat.beq a s with
  | true=>rfl
  | false=>exact FU r s
mutual
theorem A4{w:World}{I:Nat->Prop}{ρ:List Nat}{i b:Nat}{x:PV}(hρ:ρ[i]? =some b)(hx:Rel w I x (.map (some b))):∀(v:V) (u:Value),aG P w I ρ v u->aG P w I ρ (Jd i x v) u
 | .map j,u,h=>by
  simp only[Jd]
  split
  ·rename_i e;subst e
   obtain⟨b',hb,hu⟩:=h
   rw[hρ] at hb;cases hb
   rw[hu];exact hx
  ·exact h
 | .agg cs,u,h=>by
  obtain⟨us,rfl,h1⟩:=h
  exact aG.gL (vE hρ hx cs _ h1)
 | .tuple cs,u,h=>by
  obtain⟨us,rfl,h1⟩:=h
  exact aG.ki (vE hρ hx cs _ h1)
 | .p _,u,h=>h
 | .ptr _ _,u,h=>h
 | .row _ _,u,h=>h
 | .sl _ _ _,u,h=>h
 | .func _ _ _,u,h=>h
 | .iface _ _,u,h=>h
 | .opt _ _,u,h=>h
 | .raw _ _ _,u,h=>h
 | .z0,u,h=>h
 | .top,u,h=>h
theorem vE{w:World}{I:Nat->Prop}{ρ:List Nat}{i b:Nat}{x:PV}(hρ:ρ[i]? =some b)(hx:Rel w I x (.map (some b))):∀(vs:List V) (us:List Value),aj P w I ρ vs us->aj P w I ρ (P6 i x vs) us
 | [],us,h=>h
 | v::vs,us,h=>by
  obtain⟨u,us',hu,h1,h2⟩:=h
  exact⟨u,us',hu,A4 hρ hx v u h1,vE hρ hx vs us' h2⟩
end
theorem To.su(i:Nat){ms:List (K×α)}(hH:H[i]? =some (nJ enc (fun a=> .p (gp a)) ms)):To P κ N T H (PS i (mF enc gp ms) T) (H.set i .dead):=fun w I ρ tmps hi ht=>by
 have hlt:i<ρ.length:=by rw[hi.len];exact(Za.1 hH).1
 have hρ:ρ[i]? =some ρ[i]:=Zb hlt
 obtain⟨es,clock,h1,h2,h3,h4⟩:=hi.rel i _ _ hρ hH
 have hE:=Ext.freeze hi hρ hH rfl
 refine⟨_,ρ,hE.w,Inv.freeze hi hρ hH rfl,⟨ht.size,fun s v hv=> ?_⟩,fun _ h _=>h⟩
 rw[FU,Zm] at hv
 obtain⟨v0,h5,rfl⟩:=hv
 refine A4 hρ ?_ v0 _ ((ht.at_ s v0 h5).ext hE)
 have Xg:aj P w I ρ ((ms.map fun m=>enc m.1).map .p) (es.toList.map (·.key)):=by simpa[Function.comp_def] using h2
 have h3':aj P w I ρ ((ms.map fun m=>gp m.2).map .p) (es.toList.map (·.val)):=by simpa[Function.comp_def] using h3
 exact⟨ρ[i],es,clock,.inr rfl,rfl,h1,aW.mono (fun _ h=>hE.w.mB _ h) hE.w.bu _ _ (aj.pure.1 Xg),aW.mono (fun _ h=>hE.w.mB _ h) hE.w.bu _ _ (aj.pure.1 h3'),h4⟩
end
section
variable {P:Program} {R:Option Nat} {N κ:Nat} {Q Q':Post} {T T' T2 T3:Tm} {H H' H2 H3:List ak} {o:Oper} {ops:Array Oper} {rest:List Oper}
theorem aa.FY{x y:Operand}{t t2 e:TypeId}{z:List PV}{n iM:Nat}{ys:List V}{yv:V}(ho:o.op= .call {callee:= .builtin .append,args:= #[x,y],argTypes:= #[t,t2]})(hx:ev T x=some (.p .nilSlice))(hy:ev T y=some yv)(hs:nL P t=some (e,z))(nF:eB P t2=true)
    (hsrc:ql H z.length yv=some (ys,n))(hn:0<n)(hone:ys.all jT=true)(hby:tU P e=some iM)(hb0:0<iM)(hb:(2*n+192)*iM<=281474976710656):
    aa P N o T H (.row H.length n) (H++[.row ys e]):=
 aa.dZ (by simp[ho]) fun w I ρ a hi hT=>by
  obtain⟨hu,⟨bb,nj⟩,wW,hz⟩:=fC hs
  have C6:a.eval x= .slice none 0 0:=hT.ev hx
  obtain⟨us,⟨ad,vU,Au⟩,hfc,_,cT,hlen⟩:=lO hi (hT.ev hy) hsrc
  have hce:P.cellsOf e=z.length:=by
   exact Eb
  have hinfo:∃ inf,P.info? e=some inf∧inf.bytes=iM:=by
   exact PX
  obtain⟨inf,kN,z6⟩:=hinfo
  have qh:∃ d2,P.underlying t2=some (.slice d2):=by
   exact Hr
  obtain⟨d2,qh⟩:=qh
  have xm:=aj.length cT
  have Ah:∀ q,0+n<=(Question.appendCap (0+n) 0 e).cut q:=fun q=>W7 _ _
  obtain⟨uz,hz1,DQ⟩:=hz w.drew
  have hzl:=aW.length (DQ I)
  have Hw:uz.cells.size=z.length:=by simpa using hzl
  have hnext:=kF (need:=0+n) (cap:=0) (by omega)
  have hsmall:¬ (Builtin.nextslicecap (0+n) 0*iM>2^48):=by
   exact Q5
  let newCap:=(Question.appendCap (0+n) 0 e).cut (w.tape w.drawn (.appendCap (0+n) 0 e))
  have hnc:0+n<=newCap:=Ah _
  have hnew:=hfc w.drew (fun _ _=>rfl)
  let fK:Array Value:= #[]++us.toArray++Builtin.zeroCells uz.cells (newCap - (0+n))
  have xq:Ext w I ρ w.drew I ρ:=Ext.drew
  have hi1:Inv P w.drew I ρ H:=hi.drew
  have pL:Ext w.drew I ρ (w.drew.alloc (.cells fK e)) I (ρ++[w.drew.heap.size]):=Ext.aI hi1 _
  have hi2:Inv P (w.drew.alloc (.cells fK e)) I (ρ++[w.drew.heap.size]) (H++[.row ys e]):=by
   exact abG
  refine⟨.slice (some ⟨w.heap.size,0,none⟩) (0+n) newCap,w.drew.alloc (.cells fK e),I,ρ++[w.drew.heap.size],.inl ?_,xq.trans pL,hi2,w.heap.size,e,newCap,by rw[<- hi.len];simp,by rw[tZ],?_,by omega⟩
  ·rw[Au] at hnew
   have nw:((0+n:Nat):Int)<=IntKind.i64.max:=by
    exact Np
   have hold:(Builtin.firstCells z.length 0 (.slice none 0 0)).run P w.drew= .ok #[] w.drew:=by simp[Builtin.firstCells]
   have:=run_append_grow (P:=P) (w:=w) (t:=t) (t2:=t2) (ty:=o.type) hu nj qh kN (by rw[z6];exact hsmall) nw (by omega) hold hnew hz1
   simp only[execOp,ho,resolve,invoke,builtin,Sem.run_bind]
   exact Ri
  ·exact Q4
def gP(i:Nat):Nat->V
 | 0=> .p .nilSlice
 | n+1=> .row i (n+1)
def dG(cs:List V)(e:TypeId):Nat->ak
 | 0=> .dead
 | n+1=> .row cs e
theorem Kk{i n:Nat}(h:0<n):gP i n= .row i n:=by
 cases n with
 | zero=>omega
 | succ n=>rfl
theorem AW{cs:List V}{e:TypeId}{n:Nat}(h:0<n):dG cs e n= .row cs e:=by
 cases n with
 | zero=>omega
 | succ n=>rfl
theorem aa.fV{x y:Operand}{t t2 e:TypeId}{z:List PV}{i len n iM:Nat}{cs ys:List V}{yv:V}(ho:o.op= .call {callee:= .builtin .append,args:= #[x,y],argTypes:= #[t,t2]})(hx:ev T x=some (gP i len))(hy:ev T y=some yv)(hs:nL P t=some (e,z))(nF:eB P t2=true)
    (hH:H[i]? =some (dG cs e len))(hcs:cs.length=len*z.length)(hsrc:ql H z.length yv=some (ys,n))(hn:0<n)(hone:ys.all jT=true)(hby:tU P e=some iM)(hb0:0<iM)(hb:(2*(len+n)+192)*iM<=281474976710656):
    aa P N o T H (.row H.length (len+n)) (H.set i .dead++[.row (cs++ys) e]):=by
 cases len with
 | zero=>
  have h0:cs=[]:=ZD (by simpa using hcs)
  subst h0
  have h1:H.set i .dead=H:=by
   exact Nr
  rw[h1,FF]
  have:=aa.FY (N:=N) ho hx hy hs nF hsrc hn hone hby hb0 (by simpa using hb)
  simpa using this
 | succ len=>exact aa.c6 ho hx hy hs nF hH hcs hsrc hone hby hb0 hb
theorem To.acc(s i n:Nat){xs:List PV}{e:TypeId}(hs:lk T s=some (gP i n))(hH:H[i]? =some (dG (xs.map .p) e n))(h0:n=0->xs=[]):To P κ N T H ((s,.p (.is xs n))::nI T) (H.set i .dead):=by
 cases n with
 | zero=>
  have h:=h0 rfl
  subst h
  have h1:H.set i .dead=H:=by
   exact Nr
  rw[h1]
  intro w I ρ tmps hi ht
  refine⟨I,ρ,cR.refl _ _ _,hi,⟨ht.size,fun s' v hv=> ?_⟩,fun _ h _=>h⟩
  simp only[lk] at hv
  cases hb:Nat.beq s s' with
  | false=>rw[hb] at hv;exact(ht.nI (cR.refl _ _ _)).at_ s' v hv
  | true=>
   exact aaU
 | succ n=>
  intro w I ρ tmps hi ht
  obtain⟨I',h1,h2,h3⟩:=oD (i:=i) (xs:=xs) hi (by rw[show H[i]? =some (.row (xs.map .p) e) from hH];rfl) ht
  refine⟨I',ρ,h1.w,h2,⟨ht.size,fun s' v hv=> ?_⟩,fun _ h _=>h⟩
  simp only[lk] at hv
  cases hb:Nat.beq s s' with
  | false=>rw[hb] at hv;exact(ht.nI h1.w).at_ s' v hv
  | true=>
   rw[hb] at hv
   have:=ZL hb
   subst this
   simp at hv
   subst hv
   have:=h3.at_ s (jq i xs (.row i (n+1))) (by rw[oF,hs];rfl)
   simpa[jq] using this
def Gw:TypeDesc->Value->Value->Option Bool
 | .int _,.int k a,.int k' b=>if k=k' then some (a==b) else none
 | .bool,.bool a,.bool b=>some (a==b)
 | .string,.string a,.string b=>some (a==b)
 | _,_,_=>none
def jH:List TypeDesc->List Value->List Value->Option Bool
 | [],[],[]=>some true
 | t::ts,u::us,v::vs=>match Gw t u v,jH ts us vs with
   | some a,some b=>some (a&&b)
   | _,_=>none
 | _,_,_=>none
def peq:TypeDesc->PV->PV->Option Bool
 | .int _,.int k a,.int k' b=>if k=k' then some (a==b) else none
 | .bool,.bool a,.bool b=>some (a==b)
 | .string,.str a,.str b=>some (a==b)
 | _,_,_=>none
def Be:List TypeDesc->List PV->List PV->Option Bool
 | [],[],[]=>some true
 | t::ts,u::us,v::vs=>match peq t u v,Be ts us vs with
   | some a,some b=>some (a&&b)
   | _,_=>none
 | _,_,_=>none
theorem OH{w:World}{I:Nat->Prop}{t:TypeDesc}{x y:PV}{u v:Value}{r:Bool}(h:peq t x y=some r)(hx:Rel w I x u)(hy:Rel w I y v):Gw t u v=some r:=by
 unfold peq at h
 split at h
 ·simp only[Rel] at hx hy;subst hx hy;exact h
 ·simp only[Rel] at hx hy;subst hx hy;exact h
 ·simp only[Rel] at hx hy;subst hx hy;exact h
 ·cases h
theorem Bj{w:World}{I:Nat->Prop}:∀{ts:List TypeDesc} {xs ys:List PV} {us vs:List Value} {r:Bool},Be ts xs ys=some r->aW w I xs us->aW w I ys vs->jH ts us vs=some r
 | [],[],[],us,vs,r,h,hx,hy=>by
  simp[aW] at hx hy
  subst hx hy
  exact h
 | t::ts,x::xs,y::ys,us,vs,r,h,hx,hy=>by
  obtain⟨u,us',rfl,h1,h2⟩:=hx
  obtain⟨v,vs',rfl,h3,h4⟩:=hy
  simp only[Be] at h
  split at h
  ·rename_i a b h5 h6
   simp only[jH,OH h5 h1 h3,Bj h6 h2 h4]
   exact h
  ·cases h
 | [],_::_,_,_,_,_,h,_,_=>by simp[Be] at h
 | [],[],_::_,_,_,_,h,_,_=>by simp[Be] at h
 | _::_,[],_,_,_,_,h,_,_=>by simp[Be] at h
 | _::_,_::_,[],_,_,_,h,_,_=>by simp[Be] at h
def Ke(g:TypeId->Option (List TypeDesc))(P:Program):List Field->Nat->Option (List TypeDesc)
 | [],_=>some []
 | f::fs,off=>match g f.type,fN P f.type with
   | some l,some (b,n)=>if f.offset=off∧f.name≠ "_" ∧n=l.length∧(b=false->n=1) then(Ke g P fs (off+n)).map (l++ ·) else none
   | _,_=>none
def eqTy(P:Program):Nat->TypeId->Option (List TypeDesc)
 | 0,_=>none
 | d+1,t=>match P.underlying t with
   | some (.int k)=>some [.int k]
   | some .bool=>some [.bool]
   | some .string=>some [.string]
   | some (.struct fs)=>if P.stoodInHeld t=true then none else Ke (eqTy P d) P fs.toList 0
   | some (.array n e)=>match eqTy P d e,fN P e with
     | some l,some (b,m)=>if m=l.length∧(b=false->m=1) then some (List.replicate n l).flatten else none
     | _,_=>none
   | _=>none
def valOf(b:Bool)(us:List Value):Value:=if b then .agg us.toArray else us.headD undef
theorem oH{w:World}{t:TypeId}{b:Bool}{n off:Nat}{us:List Value}(ht:fN P t=some (b,n))(hb:b=false->n=1)(hl:off+n<=us.length):(part t us.toArray off).run P w= .ok (valOf b ((us.drop off).take n)) w:=by
 cases b with
 | true=>
  have:(us.toArray.extract off (off+n))=((us.drop off).take n).toArray:=by
   apply Array.toList_inj.1
   rw[mU]
  simp[part,gE ht,aS ht,valOf,this]
 | false=>
  have hn:=hb rfl
  subst hn
  have h1:us[off]? =some (us[off]'(by omega)):=Zb _
  have h2:((us.drop off).take 1).headD undef=us[off]'(by omega):=by
   rw[VI (by omega)]
   rfl
  simp only[valOf,Ib,if_false]
  rw[h2]
  simp[part,gE ht,h1]
theorem lY:∀{ts:List TypeDesc} {us vs:List Value} {r:Bool},jH ts us vs=some r->us.length=ts.length∧vs.length=ts.length
 | [],[],[],_,_=>⟨rfl,rfl⟩
 | t::ts,u::us,v::vs,r,h=>by
  simp only[jH] at h
  split at h
  ·rename_i a b h5 h6
   obtain⟨h1,h2⟩:=lY h6
   simp[h1,h2]
  ·cases h
 | [],_::_,_,_,h=>by simp[jH] at h
 | [],[],_::_,_,h=>by simp[jH] at h
 | _::_,[],_,_,h=>by simp[jH] at h
 | _::_,_::_,[],_,h=>by simp[jH] at h
theorem vH:∀{l1 l2:List TypeDesc} {us vs:List Value} {r:Bool},jH (l1++l2) us vs=some r->∃ r1 r2,jH l1 (us.take l1.length) (vs.take l1.length)=some r1∧jH l2 (us.drop l1.length) (vs.drop l1.length)=some r2∧r=(r1&&r2)
 | [],l2,us,vs,r,h=>⟨true,r,by simp[jH],by simpa using h,by simp⟩
 | t::l1,l2,us,vs,r,h=>by
  cases us with
  | nil=>simp[jH] at h
  | cons u us=>
   cases vs with
   | nil=>simp[jH] at h
   | cons v vs=>
    simp only[NS,jH] at h
    split at h
    ·rename_i a b h5 h6
     obtain⟨r1,r2,k1,k2,rfl⟩:=vH h6
     simp at h
     refine⟨a&&r1,r2,?_,by simpa using k2,by rw[<- h,Bool.and_assoc]⟩
     simp[jH,h5,k1]
    ·cases h
theorem CH{g:TypeId->Option (List TypeDesc)}{d:Nat}{w:World}(hg:∀(t:TypeId) (l:List TypeDesc) (b:Bool) (n:Nat),g t=some l->fN P t=some (b,n)->n=l.length->(b=false->n=1)->∀ us vs r,jH l us vs=some r->(Op.equalIn d t (valOf b us) (valOf b vs)).run P w= .ok r w):
    ∀(fs:List Field) (off:Nat) (l:List TypeDesc) (us vs:List Value) (r:Bool),Ke g P fs off=some l->off<=us.length->off<=vs.length->jH l (us.drop off) (vs.drop off)=some r->(Op.eqFields d us.toArray vs.toArray fs).run P w= .ok r w
 | [],off,l,us,vs,r,h,hu,hv,hr=>by
  simp[Ke] at h
  subst h
  have h1:=lY hr
  have h2:us.drop off=[]:=ZD h1.1
  have h3:vs.drop off=[]:=ZD h1.2
  rw[h2,h3] at hr
  simp[jH] at hr
  simp[Op.eqFields,hr]
 | f::fs,off,l,us,vs,r,h,hu,hv,hr=>by
  simp only[Ke] at h
  split at h
  ·rename_i l1 b n h1 h2
   split at h
   ·rename_i hc
    obtain⟨rfl,hname,hn,hb⟩:=hc
    simp only[Zm] at h
    obtain⟨l2,h3,rfl⟩:=h
    obtain⟨r1,r2,k1,k2,rfl⟩:=vH hr
    have hlen:=lY hr
    simp only[OS,Zc] at hlen
    rw[<- hn] at k1 k2 hlen
    rw[RR,RR] at k2
    have p1:=oH (P:=P) (w:=w) (off:=f.offset) (us:=us) h2 hb (by omega)
    have p2:=oH (P:=P) (w:=w) (off:=f.offset) (us:=vs) h2 hb (by omega)
    have p3:=hg f.type l1 b n h1 h2 hn hb _ _ _ k1
    have ih:=CH hg fs (f.offset+n) l2 us vs r2 h3 (by omega) (by omega) k2
    simp only[Op.eqFields,hname,ne_eq,not_false_eq_true,if_true,Sem.run_bind,p1,p2,p3,Result.andThen_ok]
    cases r1
    ·simp
    ·simpa using ih
   ·cases h
  ·cases h
theorem ry{d m:Nat}{e:TypeId}{l:List TypeDesc}{b:Bool}{w:World}(ht:fN P e=some (b,m))(hm:m=l.length)(hb:b=false->m=1)(hg:∀ us vs r,jH l us vs=some r->(Op.equalIn d e (valOf b us) (valOf b vs)).run P w= .ok r w):
    ∀(n k:Nat) (us vs:List Value) (r:Bool),k*m<=us.length->k*m<=vs.length->jH (List.replicate n l).flatten (us.drop (k*m)) (vs.drop (k*m))=some r->(Op.eqItems d e m us.toArray vs.toArray (List.range' k n)).run P w= .ok r w
 | 0,k,us,vs,r,hu,hv,hr=>by
  have h1:=lY hr
  have h2:us.drop (k*m)=[]:=ZD h1.1
  have h3:vs.drop (k*m)=[]:=ZD h1.2
  rw[h2,h3] at hr
  simp[jH] at hr
  simp[Op.eqItems,hr]
 | n+1,k,us,vs,r,hu,hv,hr=>by
  rw[Xu,Q8] at hr
  have hlen:=lY hr
  simp only[OS,Zc] at hlen
  obtain⟨r1,r2,k1,k2,rfl⟩:=vH hr
  rw[<- hm] at k1 k2 hlen
  rw[RR,RR] at k2
  have e1:k*m+m=(k+1)*m:=by rw[CM,ZN]
  rw[e1] at k2
  have p1:=oH (P:=P) (w:=w) (off:=k*m) (us:=us) ht hb (by omega)
  have p2:=oH (P:=P) (w:=w) (off:=k*m) (us:=vs) ht hb (by omega)
  have p3:=hg _ _ _ k1
  have ih:=ry ht hm hb hg n (k+1) us vs r2 (by omega) (by omega) k2
  simp only[List.range'_succ,Op.eqItems,Sem.run_bind,p1,p2,p3,Result.andThen_ok]
  cases r1
  ·simp
  ·simpa using ih
theorem uY{w:World}:∀(d:Nat) (t:TypeId) (l:List TypeDesc) (b:Bool) (n:Nat),eqTy P d t=some l->fN P t=some (b,n)->n=l.length->(b=false->n=1)->∀(k:Nat) (us vs:List Value) (r:Bool),jH l us vs=some r->(Op.equalIn (d+k) t (valOf b us) (valOf b vs)).run P w= .ok r w
 | 0,_,_,_,_,h,_,_,_,_,_,_,_,_=>by simp[eqTy] at h
 | d+1,t,l,b,n,h,ht,hn,hb,k,us,vs,r,hr=>by
  obtain⟨dd,inf,hu,hi,Hp,hsz⟩:=jz ht
  have hlen:=lY hr
  unfold eqTy at h
  rw[show d+1+k=d+k+1 by omega]
  rw[hu] at h
  have scalar:∀ td:TypeDesc,l=[td]->vw dd=false->∃ u v,us=[u]∧vs=[v]∧Gw td u v=some r∧b=false:=by
   rintro td rfl hd
   simp at hlen
   obtain⟨u,rfl⟩:=List.length_eq_one_iff.1 hlen.1
   obtain⟨v,rfl⟩:=List.length_eq_one_iff.1 hlen.2
   refine⟨u,v,rfl,rfl,?_,by rw[<- Hp,hd]⟩
   simp only[jH] at hr
   split at hr
   ·rename_i a c h5 h6
    simp at h6 hr
    subst h6
    simpa[h5] using hr
   ·cases hr
  cases dd <;> simp only[Yr] at h <;> try (cases h;done)
  case bool=>
   obtain⟨u,v,rfl,rfl,h1,rfl⟩:=scalar _ h.symm rfl
   unfold Gw at h1
   split at h1 <;> simp at h1 <;> try contradiction
   subst h1
   simp[valOf,Op.equalIn,run_underlying hu]
  case int ik=>
   obtain⟨u,v,rfl,rfl,h1,rfl⟩:=scalar _ h.symm rfl
   unfold Gw at h1
   split at h1 <;> simp at h1 <;> try contradiction
   obtain⟨rfl,rfl⟩:=h1
   simp[valOf,Op.equalIn,run_underlying hu]
  case string=>
   obtain⟨u,v,rfl,rfl,h1,rfl⟩:=scalar _ h.symm rfl
   unfold Gw at h1
   split at h1 <;> simp at h1 <;> try contradiction
   subst h1
   simp[valOf,Op.equalIn,run_underlying hu]
  case struct fs=>
   split at h
   ·cases h
   ·rename_i hst
    have Bd:b=true:=by rw[<- Hp];rfl
    subst Bd
    have hfo:P.fieldsOf t=fs:=by simp[Program.fieldsOf,hu]
    simp only[valOf,if_true]
    rw[run_equalIn_struct w (d+k) t _ _ (by rw[hfo];exact hu) (by simpa using hst),hfo]
    exact CH (fun t l b n h1 h2 h3 h4 us vs r h5=>uY d t l b n h1 h2 h3 h4 k us vs r h5) fs.toList 0 l us vs r h (Zn _) (Zn _) (by simpa using hr)
  case array m e=>
   split at h
   ·rename_i l1 b1 m1 h1 h2
    split at h
    ·rename_i hc
     simp at h
     subst h
     have Bd:b=true:=by rw[<- Hp];rfl
     subst Bd
     obtain⟨_,acW,_,hi2,_,hs2⟩:=jz h2
     simp only[valOf,if_true]
     have hce:P.cellsOf e=m1:=by simp[Program.cellsOf,hi2,hs2]
     rw[run_equalIn_array w (d+k) _ _ hu hi2,hce,List.range_eq_range']
     exact ry h2 hc.1 hc.2 (fun us vs r h5=>uY d e l1 b1 m1 h1 h2 hc.1 hc.2 k us vs r h5) m 0 us vs r (by omega) (by omega) (by simpa using hr)
    ·cases h
   ·cases h
theorem aa.Mf{x y:Operand}{t t':TypeId}{op:BinOp}{d n:Nat}{l:List TypeDesc}{cs ds:List PV}{r:Bool}(ho:o.op= .binOp op t x y t')(hop:op= .eql∨op= .neq)(hx:ev T x=some (.p (.agg cs)))(hy:ev T y=some (.p (.agg ds)))(hd:d<=10000)(he:eqTy P d t=some l)(ht:fN P t=some (true,n))(hn:n=l.length)
    (hg:P.eqGuardType P.depth t=false)(hq:Be l cs ds=some r):aa P N o T H (.p (.bool (if op= .eql then r else !r))) H:=
 aa.aR (by simp[ho]) fun w I ρ a hi hT=>by
  obtain⟨us,hu,h1⟩:=hT.ev hx
  obtain⟨vs,hv,h2⟩:=hT.ev hy
  have h3:=Bj hq h1 h2
  have h4:=uY (P:=P) (w:=w) d t l true n he ht hn (by simp) (10000 - d) us.toList vs.toList r h3
  rw[show d+(10000 - d)=10000 by omega] at h4
  simp only[valOf,if_true,Array.toArray_toList] at h4
  have hgd:=run_eqGuard_agg (P:=P) w op t x y us vs hg
  rcases hop with rfl | rfl
  ·refine⟨.bool r,?_,by simp[aG,Rel]⟩
   simp[execOp,ho,hu,hv,hgd,run_eql_struct,h4]
  ·refine⟨.bool (!r),?_,by simp[aG,Rel]⟩
   simp[execOp,ho,hu,hv,hgd,run_neq_struct,h4]
theorem aa.Fg{x y:Operand}{t t':TypeId}{a b:Bool}(ho:o.op= .binOp .neq t x y t')(hx:ev T x=some (.p (.bool a)))(hy:ev T y=some (.p (.bool b)))(ht:P.underlying t=some .bool):aa P N o T H (.p (.bool (!(a==b)))) H:=
 aa.aR (by simp[ho]) fun w I ρ ac hi hT=>by
  have hb:(binOp .neq t (.bool a) (.bool b)).run P w= .ok (.bool (!(a==b))) w:=by
   simp only[binOp]
   simp[run_equal_bool (P:=P) w t a b ht]
  refine⟨.bool (!(a==b)),?_,by simp[aG,Rel]⟩
  simp[execOp,ho,qY hT hx,qY hT hy,zO,hb]
end
end Go.AF
end
end
