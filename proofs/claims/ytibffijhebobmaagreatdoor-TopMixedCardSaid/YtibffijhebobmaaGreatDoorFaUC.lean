/-
 The bridge from a statement; short forms; own rows; bits. No condition; generic over any program.
-/
import Derived.Test.YtibffijhebobmaaGreatDoorFaUB
import Derived.Deep.Slices
import Derived.OpenShut
import Derived.ProofKit
import Derived.Below
theorem EJ{A:Prop}(h:A:=by
 cases i with
 | zero=>simp at hx;subst hx;exact⟨hd,.inr ⟨rfl,hg,hop⟩,h0⟩
 | succ i=>
  exact Bz):A:=h
theorem CE{A:Prop}(h:A:=by
 intro A B
 induction A with
 | nil=>intro h;exact .inr h
 | cons x A ih=>
  obtain⟨a,y⟩:=x
  exact C7):A:=h
theorem vU{A:Prop}(h:A:=by
 unfold wpOpIn
 simp only[ho']
 exact kB):A:=h
theorem wU{A:Prop}(h:A:=by
 have:=HK c (show k+1<=xs.length from U6)
 rw[EV] at this
 omega):A:=h
theorem BJ{A:Prop}(h:A:=by
 refine⟨[],?_,.nil⟩
 simp only[aR]
 exact YH (by simp at hl;omega)):A:=h
set_option linter.unnecessarySimpa false
set_option linter.unusedSectionVars false
set_option linter.unusedSimpArgs false
set_option linter.unusedVariables false
section
section
namespace Go.AF
open Go.Deep Go.RowKit
inductive Sh where
 | leaf (d:TypeDesc)
 | sl (l:List Sh)
mutual
inductive Ty:Sh->PV->Prop
 | int (k:IntKind) (n:Int):(Lit.int k n).wf=true->Ty (.leaf (.int k)) (.int k n)
 | bool (b:Bool):Ty (.leaf .bool) (.bool b)
 | str (s:ByteArray):s.size<=maxLen->Ty (.leaf .string) (.str s)
 | sl (l:List Sh) (els:List (List PV)):els.length<=maxLen->(∀(i:Nat) (el:List PV),els[i]? =some el->oH l el)->Ty (.sl l) (.is els.flatten els.length)
inductive oH:List Sh->List PV->Prop
 | nil:oH [] []
 | cons (s:Sh) (ss:List Sh) (x:PV) (xs:List PV):Ty s x->oH ss xs->oH (s::ss) (x::xs)
end
theorem oH.length{l:List Sh}{xs:List PV}(h:oH l xs):xs.length=l.length:=by
 induction l generalizing xs with
 | nil=>cases h;rfl
 | cons s ss ih=>cases h with | cons _ _ x xs h1 h2=>simp[ih h2]
theorem oH.append{l1 l2:List Sh}{xs ys:List PV}(h:oH l1 xs)(k:oH l2 ys):oH (l1++l2) (xs++ys):=by
 induction l1 generalizing xs with
 | nil=>cases h;exact k
 | cons s ss ih=>cases h with | cons _ _ x xs h1 h2=>exact .cons _ _ _ _ h1 (ih h2)
def N4(g:TypeId->Option (List Sh))(P:Program):List Field->Nat->Option (List Sh)
 | [],_=>some []
 | f::fs,off=>match g f.type with
   | some l=>if f.offset=off∧P.cellsOf f.type=l.length then(N4 g P fs (off+l.length)).map (l++ ·) else none
   | none=>none
def SN(P:Program):Nat->TypeId->Option (List Sh)
 | 0,_=>none
 | d+1,t=>match P.underlying t with
   | some (.int k)=>some [.leaf (.int k)]
   | some .bool=>some [.leaf .bool]
   | some .string=>some [.leaf .string]
   | some (.struct fs)=>match N4 (SN P d) P fs.toList 0 with
     | some l=>if P.cellsOf t=l.length then some l else none
     | none=>none
   | some (.array n e)=>match SN P d e with
     | some l=>if P.cellsOf e=l.length∧P.cellsOf t=n*l.length then some (List.replicate n l).flatten else none
     | none=>none
   | some (.slice e)=>match SN P d e with
     | some l=>if P.cellsOf e=l.length∧0<l.length then some [.sl l] else none
     | none=>none
   | _=>none
section
variable {P:Program} {H:Type} {enc:TypeId×Value->H} {w:World} {base:Nat} {spare:Nat->Bool} {held:Bool}
theorem aT.append{I:Nat->Prop}:∀{xs ys:List PV} {b o:Nat},aT w I xs b o->aT w I ys b (o+xs.length)->aT w I (xs++ys) b o
 | [],ys,b,o,_,h=>by simpa using h
 | x::xs,ys,b,o,h,k=>by
  obtain⟨h1,h2⟩:=h
  refine⟨h1,aT.append h2 ?_⟩
  rw[show o+1+xs.length=o+(x::xs).length by simp;omega]
  exact k
theorem xQ{g:TypeId->Option (List Sh)}{fuel:Nat}{I:Nat->Prop}(hg:∀(t:TypeId) (l:List Sh),g t=some l->∀ cs x,DataW.trod enc P w base spare held fuel t cs=some x->∃ xs,aR w I xs cs∧oH l xs)(cs:List Value):
    ∀(fs:List Field) (off:Nat) (l:List Sh),N4 g P fs off=some l->off+l.length=cs.length->(∀ f∈fs,∃ x,DataW.trod enc P w base spare held fuel f.type ((cs.drop f.offset).take (P.cellsOf f.type))=some x)->∃ xs,aR w I xs (cs.drop off)∧oH l xs
 | [],off,l,h,hl,_=>by
  simp[N4] at h
  subst h
  exact BJ
 | f::fs,off,l,h,hl,hx=>by
  simp only[N4] at h
  split at h
  ·rename_i l1 h1
   split at h
   ·rename_i hc
    obtain⟨rfl,hcell⟩:=hc
    simp only[Zl] at h
    obtain⟨l2,h2,rfl⟩:=h
    simp only[Zd] at hl
    obtain⟨x,hx1⟩:=hx f (by simp)
    obtain⟨xs,k1,k2⟩:=hg f.type l1 h1 _ _ hx1
    obtain⟨ys,k3,k4⟩:=xQ hg cs fs (f.offset+l1.length) l2 h2 (by omega) (fun f' hf'=>hx f' (by simp[hf']))
    refine⟨xs++ys,?_,k2.append k4⟩
    have:cs.drop f.offset=(cs.drop f.offset).take (P.cellsOf f.type)++cs.drop (f.offset+l1.length):=by
     rw[hcell,<- OI,Xy]
    rw[this]
    exact aR.append k1 k3
   ·cases h
  ·cases h
theorem vY{fuel:Nat}{I:Nat->Prop}{e:TypeId}{l:List Sh}(hg:∀ cs x,DataW.trod enc P w base spare held fuel e cs=some x->∃ xs,aR w I xs cs∧oH l xs)(hc:P.cellsOf e=l.length)(cs:List Value):
    ∀(n k:Nat),(k+n)*l.length=cs.length->(∀ i,k<=i->i<k+n->∃ x,DataW.trod enc P w base spare held fuel e ((cs.drop (i*P.cellsOf e)).take (P.cellsOf e))=some x)->∃ xs,aR w I xs (cs.drop (k*l.length))∧oH (List.replicate n l).flatten xs
 | 0,k,hl,_=>by
  exact BJ
 | n+1,k,hl,hx=>by
  obtain⟨x,hx1⟩:=hx k (Ze _) (by omega)
  obtain⟨xs,k1,k2⟩:=hg _ _ hx1
  obtain⟨ys,k3,k4⟩:=vY hg hc cs n (k+1) (by rw[<- hl];congr 1;omega) (fun i h1 h2=>hx i (by omega) (by omega))
  refine⟨xs++ys,?_,?_⟩
  ·have:cs.drop (k*l.length)=(cs.drop (k*P.cellsOf e)).take (P.cellsOf e)++cs.drop ((k+1)*l.length):=by
     rw[hc,EV,ZM,<- OI,Xy]
   rw[this]
   exact aR.append k1 k3
  ·rw[Vl,R1]
   exact k2.append k4
theorem yH{I:Nat->Prop}{l:List Sh}{b o:Nat}:∀(n:Nat) (at_:∀ i,i<n->∃ cs' xs,aR w I xs cs'∧oH l xs∧cs'.length=l.length∧∀ j v,cs'[j]? =some v->w.cell? ⟨b,o+i*l.length+j,none⟩=some v),
    ∃ els:List (List PV),els.length=n∧(∀(i:Nat) (el:List PV),els[i]? =some el->oH l el)∧aT w I els.flatten b o∧els.flatten.length=n*l.length
 | 0,_=>⟨[],rfl,by simp,by simp[aT],by simp⟩
 | n+1,eK=>by
  obtain⟨els,h1,h2,h3,h4⟩:=yH n (fun i hi=>eK i (by omega))
  obtain⟨cs',xs,k1,k2,k3,k4⟩:=eK n (by omega)
  refine⟨els++[xs],by simp[h1],fun i el hel=> ?_,?_,?_⟩
  ·rw[List.getElem?_append] at hel
   split at hel
   ·exact h2 i el hel
   ·rename_i hi
    have:i - els.length=0:=by
     rcases TC (i - els.length) with h | h
     ·exact h
     ·rw[ZE (by simp;omega)] at hel;cases hel
    rw[this] at hel
    simp at hel
    subst hel
    exact k2
  ·rw[Ww,R1,List.flatten_nil,ZU]
   refine aT.append h3 ?_
   rw[h4]
   exact aT.nO xs cs' (o+n*l.length) k1 k4
  ·rw[Ww,Zd,h4]
   simp[k2.length,EV]
theorem tW(hb:base=0):∀(d:Nat) (t:TypeId) (l:List Sh),SN P d t=some l->∀(fuel:Nat) (cs:List Value) (x:DataW H×List MemPlace),DataW.trod enc P w base (fun _=>true) held fuel t cs=some x->
    ∃ xs,aR w (fun b=>b<w.heap.size) xs cs∧oH l xs
 | 0,_,_,h,_,_,_,_=>by simp[SN] at h
 | d+1,t,l,h,fuel,cs,x,hx=>by
  unfold SN at h
  split at h
  ·rename_i k hu
   simp at h;subst h
   obtain⟨n,rfl,rfl,hw⟩:=DataW.trod_int hu hx
   exact⟨[.int k n],⟨_,_,rfl,rfl,rfl⟩,.cons _ _ _ _ (.int k n hw) .nil⟩
  ·rename_i hu
   simp at h;subst h
   obtain⟨b,rfl,rfl⟩:=DataW.trod_bool hu hx
   exact⟨[.bool b],⟨_,_,rfl,rfl,rfl⟩,.cons _ _ _ _ (.bool b) .nil⟩
  ·rename_i hu
   simp at h;subst h
   obtain⟨s,rfl,rfl,hsz⟩:=DataW.trod_string hu hx
   exact⟨[.str s],⟨_,_,rfl,rfl,rfl⟩,.cons _ _ _ _ (.str s hsz) .nil⟩
  ·rename_i fs hu
   split at h
   ·rename_i l' hl'
    split at h
    ·rename_i hc
     simp at h;subst h
     obtain⟨ys,n,rfl,hy,hlen,uC,hf⟩:=DataW.trod_struct hu hx
     have:=xQ (fuel:=n) (I:=fun b=>b<w.heap.size) (fun t' l'' ht' cs' x' hx'=>tW hb d t' l'' ht' n cs' x' hx') cs fs.toList 0 l' hl' (by rw[hlen,hc];simp) (fun f hf'=>by
      obtain⟨i,hi⟩:=List.getElem?_of_mem hf'
      have hi':fs[i]? =some f:=by simpa using hi
      have h1:=hf i f hi'
      have hil:i<ys.length:=by rw[uC];exact(ZN.1 hi').1
      rw[Zb hil] at h1
      exact⟨_,h1⟩)
     simpa using this
    ·cases h
   ·cases h
  ·rename_i n e hu
   split at h
   ·rename_i l' hl'
    split at h
    ·rename_i hc
     simp at h;subst h
     obtain⟨ys,m,rfl,hy,hlen,uC,hf⟩:=DataW.trod_array hu hx
     have:=vY (fuel:=m) (I:=fun b=>b<w.heap.size) (fun cs' x' hx'=>tW hb d e l' hl' m cs' x' hx') hc.1 cs n 0 (by rw[hlen,hc.2];simp) (fun i _ hi=>by
      have h1:=hf i (by omega)
      have hil:i<ys.length:=by rw[uC];omega
      rw[Zb hil] at h1
      exact⟨_,h1⟩)
     simpa using this
    ·cases h
   ·cases h
  ·rename_i e hu
   split at h
   ·rename_i l' hl'
    split at h
    ·rename_i hc
     simp at h;subst h
     rcases open_slice hu hx with⟨rfl,rfl⟩ | ⟨a,len,cap,m,n,D,Pl,rfl,hba,hle,hm,QU,hxe,hi⟩
     ·refine⟨[.is ([]:List (List PV)).flatten 0],⟨_,_,rfl,.inl ⟨⟨none,0,rfl⟩,rfl⟩,rfl⟩,.cons _ _ _ _ (.sl l' [] (by simp) (by simp)) .nil⟩
     ·simp only[if_true] at QU
      subst QU
      by_cases hl0:len*l'.length=0
      ·-- nothing to read
       rcases Nat.mul_eq_zero.1 hl0 with h0 | h0
       ·subst h0
        exact⟨[.is ([]:List (List PV)).flatten 0],⟨_,_,rfl,.inl ⟨⟨_,_,rfl⟩,rfl⟩,rfl⟩,.cons _ _ _ _ (.sl l' [] (by simp) (by simp)) .nil⟩
       ·omega
      ·have VK:a.spot=none∧a.block<w.heap.size:=by
         obtain⟨cs',hc',_⟩:=hi 0 (by
          have:0<len:=by
           rcases TC len with h | h
           ·subst h;simp at hl0
           ·exact h
          omega)
         obtain⟨_,hcl,eK⟩:=World.cells?_some hc'
         have hpos:0<P.cellsOf e:=by
          rcases TC l'.length with h | h
          ·rw[h] at hl0;simp at hl0
          ·omega
         have h1:=eK 0 hpos
         rw[Zb (by omega)] at h1
         simp[Addr.add] at h1
         exact⟨World.cell?_spot h1,World.block_lt_of_cell? _ _ h1⟩
       obtain⟨b,o,spot⟩:=a
       obtain⟨hsp,hlt⟩:=VK
       simp only at hsp hlt
       subst hsp
       obtain⟨els,k1,k2,k3,k4⟩:=yH (w:=w) (I:=fun b=>b<w.heap.size) (l:=l') (b:=b) (o:=o) len (fun i hil=>by
        obtain⟨cs',hc',ht'⟩:=hi i (by omega)
        obtain⟨_,hcl,eK⟩:=World.cells?_some hc'
        obtain⟨xs,k1,k2⟩:=tW hb d e l' hl' n cs' _ ht'
        refine⟨cs',xs,k1,k2,by omega,fun j v hj=> ?_⟩
        have hjl:j<P.cellsOf e:=by rw[<- hcl];exact(Za.1 hj).1
        have h1:=eK j hjl
        rw[hj,cF,cF,hc.1] at h1
        exact h1)
       refine⟨[.is els.flatten els.length],⟨_,_,rfl,.inr ⟨b,o,m,fun _=>hlt,by omega,by rw[k1],k3⟩,rfl⟩,.cons _ _ _ _ (.sl l' els (by omega) k2) .nil⟩
    ·cases h
   ·cases h
  ·cases h
def tr(P:Program)(d:Nat)(t:TypeId):Option (Bool×List Sh):=
 match fm P t,SN P d t with
 | some (b,n),some l=>if n=l.length∧(b=false->n=1) then some (b,l) else none
 | _,_=>none
def Fi(b:Bool)(xs:List PV):PV:=if b then .agg xs else xs.headD .nilPtr
theorem ki{d:Nat}{t:TypeId}{b:Bool}{l:List Sh}{v:Value}{D:DataW H}{ps:List MemPlace}{base':Nat}(ht:tr P d t=some (b,l))(hok:Value.okWide P w .any base' t v)(h:DataW.Trod enc P w 0 (fun _=>true) true t v D ps):
    ∃ xs,oH l xs∧Rel w (fun b=>b<w.heap.size) (Fi b xs) v:=by
 obtain⟨fuel,h⟩:=h
 unfold tr at ht
 split at ht
 ·rename_i b' n l' h1 h2
  split at ht
  ·rename_i hc
   simp at ht
   obtain⟨rfl,rfl⟩:=ht
   obtain⟨xs,k1,k2⟩:=tW rfl d t l' h2 fuel _ _ h
   refine⟨xs,k2,?_⟩
   obtain⟨dd,inf,hu,hi,I7,hsz⟩:=iC h1
   cases b' with
   | true=>
    have:∃ cs,v= .agg cs:=by
     unfold Value.okWide at hok
     rw[hu] at hok
     cases dd <;> simp[ve] at I7 <;> (obtain⟨cs,h3,_⟩:=hok;exact⟨cs,h3⟩)
    obtain⟨cs,rfl⟩:=this
    exact⟨cs,rfl,by simpa[Value.cells] using k1⟩
   | false=>
    have hn:=hc.2 rfl
    have hl:xs.length=1:=by rw[k2.length];omega
    obtain⟨x,rfl⟩:=List.length_eq_one_iff.1 hl
    obtain⟨u,us,h3,h4,h5⟩:=k1
    simp only[aR] at h5
    subst h5
    have hv:v.cells.toList=[v]:=by
     unfold Value.okWide at hok
     rw[hu] at hok
     cases dd <;> simp[ve] at I7 <;> (cases v <;> first | rfl | (exfalso;simp[Cell.okWide,Cell.ok,hu] at hok))
    rw[hv] at h3
    simp at h3
    subst h3
    exact h4
  ·cases ht
 ·cases ht
theorem Inv.start{w:World}(hg:Je P w fun b=>b<w.heap.size):Inv P w (fun b=>b<w.heap.size) [] []:=
 ⟨rfl,fun i b blk h=>by simp at h,fun b h=>h,fun i b blk h=>by simp at h,fun i j b x y h=>by simp at h,fun i b blk h=>by simp at h,hg⟩
theorem cy.below{w w':World}{I I':Nat->Prop}{ρ':List Nat}(h:cy w I [] w' I' ρ'):Below w.heap.size w w':=
 ⟨h.os,h.tape,h.output,h.size,fun k hk=>h.keep k hk (by simp)⟩
theorem Pure.Us{f:FuncId}{args:List PV}{us:List Value}{r:PV}{w:World}(hp:Pure P f args r)(hg:Je P w fun b=>b<w.heap.size)(fT:aR w (fun b=>b<w.heap.size) args us):Calls P f us.toArray w fun e w'=>∃ u,e= .returned u∧Rel w' (fun b=>b<w'.heap.size) r u∧Below w.heap.size w w':=by
 rw[<- callsIn_wide (n:=0)]
 refine CallsIn.mono (hp w _ [] us (Inv.start hg) (ag.pure.2 fT)) ?_
 rintro e w' ⟨u,v,J,σ,H',rfl,⟨rfl,rfl⟩,h3,h4,h5⟩
 exact⟨u,rfl,Rel.mono (fun b hb=>h4.ib b hb) (fun _ _=>rfl) _ _ h5,h3.w.below⟩
end
end Go.AF
end
section
namespace Go.AF
section
variable {P:Program} {R:Option Nat} {N κ:Nat} {Q Q':Post} {T T' T2 T3:Tm} {H H' H2 H3:List ai} {o:Oper} {ops:Array Oper} {rest:List Oper}
theorem aa.e8{g:FuncId}{args:List PV}{r:PV}(hp:Pure P g args r){f:Operand}{xs:Array Operand}{ts:Array TypeId}{fv:V}{vs:List V}(ho:o.op= .call {callee:= .value f,args:=xs,argTypes:=ts})(hf:ev T f=some fv)
    (hxs:kR T xs.toList=some vs)(hc:callee vs fv=some (g,args.map .p))(hg:ak P g=true):aa P N o T H (.p r) H:=
 aa.B1 ho hf hxs hc hg hp
theorem aa.mY{α:Type}{x y:Operand}{t:TypeId}{kd:IntKind}{sz len:Nat}{n:Int}{xs:List α}{f:α->List PV}(ho:o.op= .indexAddr t x y)(hx:ev T x=some (.p (.is (xs.flatMap f) len)))(hy:ev T y=some (.p (.int kd n)))(ht:dY P t=true)
    (he:ou P t=some sz)(hl:len=xs.length)(hf:∀ x,(f x).length=sz)(h0:0<sz)(hn:0<=n)(hk:n.toNat<xs.length):aa P N o T H (.p (.ip (f xs[n.toNat]) 0)) H:=
 aa.gQ (k:=n.toNat) ho hx (by rw[hy];congr 3;omega) ht he hl hf h0 hk
def iQ(ds:List Nat):Tm->Tm
 | []=>[]
 | (s,v)::r=>bif ds.any (Nat.beq s) then iQ ds r else(s,v)::iQ ds r
theorem jw(ds:List Nat):∀(T:Tm) (s:Nat) (v:V),lk (iQ ds T) s=some v->lk T s=some v
 | [],s,v,h=>h
 | (a,x)::r,s,v,h=>by
  simp only[iQ] at h
  cases hd:ds.any (Nat.beq a) with
  | true=>
   rw[hd] at h
   simp only[cond_true] at h
   have ih:=jw ds r s v h
   simp only[lk]
   cases hb:Nat.beq a s with
   | false=>exact ih
   | true=>
    exfalso
    have:=ZO hb
    subst this
    have gen:∀ T:Tm,lk (iQ ds T) a=none:=by
     intro T
     induction T with
     | nil=>rfl
     | cons y T ih2=>
      obtain⟨b,z⟩:=y
      simp only[iQ]
      cases o4:ds.any (Nat.beq b) with
      | true=>simpa using ih2
      | false=>
       simp only[cond_false,lk]
       cases gZ:Nat.beq b a with
       | false=>exact ih2
       | true=>
        have:=ZO gZ
        subst this
        rw[hd] at o4;cases o4
    rw[gen r] at h;cases h
  | false=>
   rw[hd] at h
   simp only[cond_false,lk] at h ⊢
   cases hb:Nat.beq a s with
   | true=>rw[hb] at h;exact h
   | false=>rw[hb] at h;exact jw ds r s v h
theorem To.done(ks:List Nat){S:Tm}(hk:jf κ H.length ks=true)(hS:Sub S (eV (pl ks) T))(hH:(ks.map fun i=>aD (pl ks) (H.getD i .dead))=H2):To P κ N T H S H2:=by
 subst hH
 exact(To.keep ks hk).trans (To.sub hS)
theorem Sub.nil{T:Tm}:Sub [] T:=fun s v h=>by cases h
theorem Sub.cons{s:Nat}{v:V}{S T:Tm}(h:lk T s=some v)(k:Sub S T):Sub ((s,v)::S) T:=fun s' v' h'=>by
 simp only[lk] at h'
 cases hb:Nat.beq s s' with
 | false=>rw[hb] at h';exact k s' v' h'
 | true=>
  rw[hb] at h'
  have:=ZO hb
  subst this
  simp at h'
  subst h'
  exact h
theorem aI.vP{γ:Type}{c:Code}(ds:List Nat)(ch:γ->Tm)(inv:γ->Prop)(μ:γ->Nat)(g0:γ)(h0:inv g0)(hS:Sub (ch g0) T)
    (round:∀ g,inv g->aI P R N κ c (AX.then (fun T' H'=>∃ g',inv g'∧μ g'<μ g∧To P κ N T' H' (ch g'++iQ ds T) H) Q) (ch g++iQ ds T) H):aI P R N κ (.loop c) Q T H:=by
 refine aI.HQ (fun g=>ch g++iQ ds T) (fun _=>H) inv μ g0 h0 (To.sub ?_) round
 intro s v h
 have app:∀(A B:Tm),lk (A++B) s=some v->lk A s=some v∨lk B s=some v:=by
  exact CE
 rcases app _ _ h with h | h
 ·exact hS s v h
 ·exact jw ds T s v h
theorem aI.sX{γ:Type}{c:Code}(ds:List Nat)(ch:γ->Tm)(Hs:γ->List ai)(inv:γ->Prop)(μ:γ->Nat)(g0:γ)(h0:inv g0)(hto:To P κ N T H (ch g0++iQ ds T) (Hs g0))
    (round:∀ g,inv g->aI P R N κ c (AX.then (fun T' H'=>∃ g',inv g'∧μ g'<μ g∧To P κ N T' H' (ch g'++iQ ds T) (Hs g')) Q) (ch g++iQ ds T) (Hs g)):aI P R N κ (.loop c) Q T H:=
 aI.HQ (fun g=>ch g++iQ ds T) Hs inv μ g0 h0 hto round
theorem aX(σ:Nat->Option Nat):∀ xs:List PV,bq σ (xs.map .p)=xs.map .p
 | []=>rfl
 | x::xs=>by simp[bq,aW,aX σ xs]
theorem wE{α:Type}(σ:Nat->Option Nat)(f:α->PV):∀ xs:List α,bq σ (xs.map fun x=> .p (f x))=xs.map fun x=> .p (f x)
 | []=>rfl
 | x::xs=>by simp[bq,aW,wE σ f xs]
theorem yh{K α:Type}(σ:Nat->Option Nat)(enc:K->PV)(gp:α->PV)(ms:List (K×α)):aD σ (nt enc (fun a=> .p (gp a)) ms)=nt enc (fun a=> .p (gp a)) ms:=by
 simp only[nt,aD]
 rw[wE σ (fun m:K×α=>enc m.1),wE σ (fun m:K×α=>gp m.2)]
theorem Fin.gW{fn:Func}{q:ResultVar}{r r':PV}(h:fn.results= #[q])(hr:oZ P T H q (.p r'))(e:r'=r):Fin P N fn r .ret T H:=e▸Fin.one h hr
theorem Fin.dD{fn:Func}{r1 r2:ResultVar}{rs:List ResultVar}{vs:List V}{xs ys:List PV}(h:fn.results=(r1::r2::rs).toArray)(hr:zX P T H (r1::r2::rs) vs)(hv:vs=xs.map .p)(e:xs=ys):Fin P N fn (.tuple ys) .ret T H:=e▸Fin.many h hr hv
def gK(P:Program)(f:PV)(args:List PV)(r:PV):Prop:=∃ g all,callee (args.map .p) (.p f)=some (g,all.map .p)∧ak P g=true∧Pure P g all r
theorem aa.vZ{f:PV}{args:List PV}{r:PV}(hF:gK P f args r){fo:Operand}{xs:Array Operand}{ts:Array TypeId}(ho:o.op= .call {callee:= .value fo,args:=xs,argTypes:=ts})(hf:ev T fo=some (.p f))(hxs:kR T xs.toList=some (args.map .p)):aa P N o T H (.p r) H:=by
 obtain⟨g,all,h1,h2,h3⟩:=hF
 exact aa.B1 ho hf hxs h1 h2 h3
theorem bA(σ:Nat->Option Nat):∀ xs ys:List V,bq σ (xs++ys)=bq σ xs++bq σ ys
 | [],ys=>rfl
 | x::xs,ys=>by simp[bq,bA σ xs ys]
theorem To.pad:To P κ N T H T (H++[.dead]):=fun w I ρ tmps hi ht=>by
 have hE:Ext w I ρ w I (ρ++[w.heap.size]):=⟨⟨rfl,rfl,rfl,Ze _,fun _ _ _=>rfl,fun _ _ h=>h,fun _ h=>h,fun _ _=>rfl,fun _ h=> .inl h,fun _ h=>h,fun _ _ h=>h,fun k hk=>by
  rcases Zp.1 hk with h | h
  ·exact .inl h
  ·simp at h;subst h;exact .inr (Ze _)⟩,⟨_,rfl⟩⟩
 have old:∀(j k:Nat) (blk:ai),(ρ++[w.heap.size])[j]? =some k->(H++[ai.dead])[j]? =some blk->blk.live=true->ρ[j]? =some k∧H[j]? =some blk:=fun j k blk h1 h2 h3=>by
  exact Dk
 refine⟨I,ρ++[w.heap.size],hE.w,⟨by simp[hi.len],fun j k blk h1 h2 h3=> ?_,hi.ib,fun j k blk h1 h2 h3=> ?_,fun j j' k x y h1 h2 h3 h4 h5 h6=> ?_,fun j k blk h1 h2=> ?_,hi.gl⟩,ht.ext hE,fun L hL _=>hL.trans ⟨_,rfl⟩⟩
 ·obtain⟨h4,h5⟩:=old j k blk h1 h2 h3
  exact hi.gf j k blk h4 h5 h3
 ·obtain⟨h4,h5⟩:=old j k blk h1 h2 h3
  exact hi.live j k blk h4 h5 h3
 ·exact AK
 ·exact D4
theorem Sub.RA{C T:Tm}{ds:List Nat}(h:Sub C T):Sub (C++iQ ds T) T:=by
 intro s v hv
 have app:∀(A B:Tm),lk (A++B) s=some v->lk A s=some v∨lk B s=some v:=by
  exact CE
 rcases app _ _ hv with hv | hv
 ·exact h s v hv
 ·exact jw ds T s v hv
theorem aa.rJ{x y:Operand}{t:TypeId}{kd k:IntKind}{n a b:Int}(ho:o.op= .index t x y)(hx:ev T x=some (.p (.agg [.int k a,.int k b])))(hy:ev T y=some (.p (.int kd n)))(ht:OL P t=some (2,false,1))(h0:0<=n)(hl:n<2):
    aa P N o T H (.p (.int k (if n=0 then a else b))) H:=by
 refine aa.Ub ho hx hy ht h0 hl ?_
 by_cases h:n=0
 ·subst h;rfl
 ·have:n=1:=by omega
  subst this;rfl
theorem aa.wP{K α:Type}[DecidableEq K]{enc:K->PV}{gp:α->PV}{d:TypeDesc}(hk:cV enc d){x y:Operand}{t:TypeId}{z:PV}{ms:List (K×α)}{i:Nat}{n:K}(a0:α)(ho:o.op= .lookup t x y false)(hx:ev T x=some (.map i))(hH:H[i]? =some (nt enc (fun a=> .p (gp a)) ms))(hy:ev T y=some (.p (enc n)))
    (ht:oy P t=some (d,z))(hz:z=gp a0):aa P N o T H (.p (gp ((cB n ms).getD a0))) H:=by
 have h:=aa.Js (N:=N) hk (g:=fun a=>V.p (gp a)) ho hx hH hy ht
 have e:AH z false ((cB n ms).map fun a=>V.p (gp a))= .p (gp ((cB n ms).getD a0)):=by
  unfold AH
  cases cB n ms with
  | none=>simp[hz]
  | some a=>rfl
 rw[e] at h
 exact h
theorem kD{K α:Type}[DecidableEq K](k n:K)(a:α):∀ ms:List (K×α),cB k (aS n a ms)=if k=n then some a else cB k ms
 | []=>by simp[aS,cB]
 | m::r=>by
  simp only[aS]
  by_cases h:n=m.1
  ·rw[if_pos h]
   simp only[cB,h]
   split <;> rfl
  ·rw[if_neg h]
   simp only[cB,kD k n a r]
   by_cases h2:k=m.1
   ·rw[if_pos h2,if_pos h2,if_neg (fun e=>h (by rw[<- e,h2]))]
   ·rw[if_neg h2,if_neg h2]
end
section
variable {P:Program} {R:Option Nat} {N κ:Nat} {Q Q':Post} {T T' T2 T3:Tm} {H H' H2 H3:List ai} {o:Oper} {ops:Array Oper} {rest:List Oper}
theorem aI.GQ{c:Operand}{x y:Code}(hc:ev T c=some (.p (.bool true)))(ht:aI P R N κ x Q T H):aI P R N κ (.cond c x y) Q T H:=
 aI.cond true hc (fun _=>ht) (fun h=>by cases h)
theorem aI.yl{c:Operand}{x y:Code}(hc:ev T c=some (.p (.bool false)))(hf:aI P R N κ y Q T H):aI P R N κ (.cond c x y) Q T H:=
 aI.cond false hc (fun h=>by cases h) (fun _=>hf)
theorem aI.norm(ks:List Nat)(T2:Tm)(H2:List ai){c:Code}(hk:jf κ H.length ks=true)(hS:Sub T2 (eV (pl ks) T))(hH:(ks.map fun i=>aD (pl ks) (H.getD i .dead))=H2)(h:aI P R N κ c Q T2 H2):aI P R N κ c Q T H:=
 aI.to (To.done ks hk hS hH) h
theorem mS{n:Int}(h:0<=n∧n<=18446744073709551615):IntKind.u64.wrap n=n:=by
 have e:IntKind.u64.wrap n=n%18446744073709551616:=by simp[IntKind.wrap,IntKind.bits,IntKind.signed]
 rw[e];omega
theorem aaa{n:Int}:n.fdiv 2=n / 2:=Int.fdiv_eq_ediv_of_nonneg _ (by decide)
end
def ay(P:Program)(N:Nat)(ops:Array Oper)(H H2:List ai)(K:Tm->Prop):Bool->List Oper->Tm->Prop
 | b,[],T=>b=true∧K T
 | b,o::rest,T=>∃ v,aZ N o.dst=true∧((YJ P N ops o T H v∧YJ P N ops o T H2 v∧ay P N ops H H2 K b rest (fF T o.dst v))∨(b=false∧o.guard=none∧aa P N o (bE ops o T) H v H2∧ay P N ops H H2 K true rest (fF T o.dst v)))
section
variable {P:Program} {R:Option Nat} {N κ:Nat} {Q:Post} {T:Tm} {H H2:List ai} {o:Oper} {ops:Array Oper} {K:Tm->Prop} {rest:List Oper} {b:Bool}
theorem ay.nil(h:K T):ay P N ops H H2 K true [] T:=⟨rfl,h⟩
theorem ay.cons(d:Nat){v:V}(hd:o.dst=some d)(hdN:aZ N (some d)=true)(hg:o.guard=none)(hop:aa P N o (bE ops o T) H v H)(SB:aa P N o (bE ops o T) H2 v H2)(next:ay P N ops H H2 K b rest ((d,v)::T)):ay P N ops H H2 K b (o::rest) T:=
 ⟨v,by rw[hd];exact hdN,.inl ⟨.inl ⟨hg,hop⟩,.inl ⟨hg,SB⟩,by rw[hd];exact next⟩⟩
theorem ay.lay(d:Nat){v:V}(hd:o.dst=some d)(hdN:aZ N (some d)=true)(hg:o.guard=none)(hop:aa P N o (bE ops o T) H v H2)(next:ay P N ops H H2 K true rest ((d,v)::T)):ay P N ops H H2 K false (o::rest) T:=
 ⟨v,by rw[hd];exact hdN,.inr ⟨rfl,hg,hop,by rw[hd];exact next⟩⟩
section
variable {m:Nat} {l:List Oper} {vs:Nat->V}
theorem ay.vals{ops:Array Oper}:∀{b:Bool} {l':List Oper} {T:Tm},ay P N ops H H2 K b l' T->∃(vs:Nat->V) (Tx:Nat->Tm) (q:Nat),Tx 0=T∧(b=false->q<l'.length)∧(b=true->q=l'.length)∧(∀ i o,l'[i]? =some o->aZ N o.dst=true∧((i≠q∧YJ P N ops o (Tx i) H (vs i)∧YJ P N ops o (Tx i) H2 (vs i))∨(i=q∧o.guard=none∧aa P N o (bE ops o (Tx i)) H (vs i) H2))∧Tx (i+1)=fF (Tx i) o.dst (vs i))∧K (Tx l'.length)
 | b,[],T,h=>⟨fun _=> .top,fun _=>T,0,rfl,(fun hb=>by have:=h.1;rw[hb] at this;cases this),fun _=>rfl,fun i o ho=>by simp at ho,h.2⟩
 | b,o::l',T,h=>by
  obtain⟨v,hd,h⟩:=h
  rcases h with⟨hy,Vx,hn⟩ | ⟨hb,hg,hop,hn⟩
  ·obtain⟨vs,Tx,q,h0,FF,OG,h1,h2⟩:=ay.vals hn
   refine⟨fun i=>match i with | 0=>v | i+1=>vs i,fun i=>match i with | 0=>T | i+1=>Tx i,q+1,rfl,fun hb=>by have:=FF hb;simp;omega,fun hb=>by have:=OG hb;simp;omega,fun i x hx=> ?_,h2⟩
   cases i with
   | zero=>simp at hx;subst hx;exact⟨hd,.inl ⟨by omega,hy,Vx⟩,h0⟩
   | succ i=>
    exact uG
  ·obtain⟨vs,Tx,q,h0,FF,OG,h1,h2⟩:=ay.vals hn
   refine⟨fun i=>match i with | 0=>v | i+1=>vs i,fun i=>match i with | 0=>T | i+1=>Tx i,0,rfl,fun _=>by simp,(fun hb'=>by rw[hb] at hb';cases hb'),fun i x hx=> ?_,h2⟩
   exact EJ
def SIA(κ:Nat)(P:Program)(N:Nat)(H H2:List ai)(q:Nat)(l:List Oper)(T:Tm)(vs:Nat->V)(B:mo)(w0:World)(I0:Nat->Prop)(ρ0:List Nat)(f:Nat->Bool)(a:Act)(w:World):Prop:=
 ∃ I ρ,cy w0 I0 ρ0 w I ρ∧Inv P w I ρ (bif f q then H2 else H)∧a.tmps.size=N∧(∀ s v,tl l T vs f s=some v->az P w I ρ v (a.tmps.getD s undef))∧Marks κ B w I ρ a.defers
theorem E9(hk:ff m l)(hm:m<=l.length){q:Nat}(hq:q<m){B:mo}{w0:World}{I0:Nat->Prop}{ρ0:List Nat}{QX:Exit->Act->World->Prop}{Tx:Nat->Tm}(h0:Tx 0=T)
    (h1:∀ i o,i<m->l[i]? =some o->aZ N o.dst=true∧((i≠q∧YJ P N l.toArray o (Tx i) H (vs i)∧YJ P N l.toArray o (Tx i) H2 (vs i))∨(i=q∧o.guard=none∧aa P N o (bE l.toArray o (Tx i)) H (vs i) H2))∧Tx (i+1)=fF (Tx i) o.dst (vs i))
    (hK:∀ a w I ρ,cy w0 I0 ρ0 w I ρ->Inv P w I ρ H2->bn P w I ρ N (Tx m) a.tmps->Marks κ B w I ρ a.defers->wpListIn (Fr R) 0 P l.toArray QX (l.drop m) a w):
    ∀(fuel:Nat) (listed:Array Bool) (a:Act) (w:World),listed.toList.count false=fuel->listed.size=l.length->(∀ i o,l[i]? =some o->fl listed i=true->∀ e∈o.after,Region.binds .any e=true->fl listed e.on=true)->(∀ i,m<=i->fl listed i=false)->
    SIA κ P N H H2 q l T vs B w0 I0 ρ0 (fl listed) a w->wpAnyIn (Fr R) 0 P .any l.toArray QX fuel listed a w:=by
 intro fuel
 have hlk:=ux (vs:=vs) hk hm h0 (fun i o hi ho=>(h1 i o hi ho).2.2)
 have done:∀(fuel:Nat) (listed:Array Bool) (a:Act) (w:World),listed.toList.count false=fuel->listed.size=l.length->(∀ i,m<=i->fl listed i=false)->(∀ i,i<m->fl listed i=true)->SIA κ P N H H2 q l T vs B w0 I0 ρ0 (fl listed) a w->wpAnyIn (Fr R) 0 P .any l.toArray QX fuel listed a w:=by
  intro fuel listed a w mE hsz xD hall hsi
  obtain⟨I,ρ,he,hi,hs,cu,hmk⟩:=hsi
  rw[hall q hq] at hi
  have hi:Inv P w I ρ H2:=hi
  exact qC
 induction fuel with
 | zero=>
  exact ng
 | succ fuel ih=>
  intro listed a w mE hsz hcl xD hsi
  by_cases hall:∀ i,i<m->fl listed i=true
  ·exact mJ
  ·obtain⟨i0,vB,hmin⟩:∃ i0,(i0<m∧fl listed i0=false)∧∀ j,j<i0->fl listed j=true:=by
     exact mW
   have Ks:l[i0]? =some (l[i0]'(by omega)):=Zb _
   have zy:i0∈Region.ready .any l.toArray listed:=by
    exact nE
   refine⟨(fun h=>by rw[h] at zy;cases zy),fun i hi=> ?_⟩
   obtain⟨h3,o,ho',UW⟩:=mem_ready.1 hi
   have ho:l[i]? =some o:=by simpa using ho'
   have hilt:=bW ho
   have vf:∀ j oj,l[j]? =some oj->(decide (j=i)||fl listed j)=true->∀ e∈oj.after,Region.binds .any e=true->(decide (e.on=i)||fl listed e.on)=true:=fun j oj hj tU e he hb=>by
    exact kV
   have pH:i<m:=by
    exact nk
   have tB:fl listed i=false:=by
    exact kj
   obtain⟨sO,hy,_⟩:=h1 i o pH ho
   obtain⟨I,ρ,he,hinv,hs,cu,hmk⟩:=hsi
   have l9:∀ s v,lk (bE l.toArray o (Tx i)) s=some v->az P w I ρ v (a.tmps.getD s undef):=by
    exact mK
   have Av:bn P w I ρ N (bE l.toArray o (Tx i)) a.tmps:=⟨hs,l9⟩
   have next:∀ u w' I' ρ',Ext w I ρ w' I' ρ'->Inv P w' I' ρ' (bif fl (listed.setIfInBounds i true) q then H2 else H)->az P w' I' ρ' (vs i) u->wpAnyIn (Fr R) 0 P .any l.toArray QX fuel (listed.setIfInBounds i true) (a.put o.dst u) w':=by
    exact mR
   have step:∀(H0:List ai),Inv P w I ρ H0->(∀ u w' I' ρ',Ext w I ρ w' I' ρ'->Inv P w' I' ρ' H0->az P w' I' ρ' (vs i) u->wpAnyIn (Fr R) 0 P .any l.toArray QX fuel (listed.setIfInBounds i true) (a.put o.dst u) w')->YJ P N l.toArray o (Tx i) H0 (vs i)->
       wpOpIn (Fr R) 0 P l.toArray QX i (wpAnyIn (Fr R) 0 P .any l.toArray QX fuel (listed.setIfInBounds i true)) a w:=by
    intro H0 hinv next hy
    unfold wpOpIn
    simp only[ho']
    rcases hy with⟨hg,hop⟩ | ⟨j,want,s,c,x,v',hg,pE,Et,hb,hc,hv,hop⟩
    ·exact kB
    ·exact nF
   rcases hy with⟨F5,y1,y2⟩ | ⟨F5,hg,hop⟩
   ·have e:fl (listed.setIfInBounds i true) q=fl listed q:=by
      rw[gO (by omega)]
      simp[Ne.symm F5]
    rw[e] at next
    cases hfq:fl listed q with
    | true=>
     rw[hfq] at next hinv
     exact step H2 hinv next y2
    | false=>
     rw[hfq] at next hinv
     exact step H hinv next y1
   ·subst F5
    rw[tB] at hinv
    rw[show fl (listed.setIfInBounds i true) i=true by rw[gO (by omega)];simp] at next
    exact vU
theorem aI.D1{id:Nat}(m:Nat)(blk:ai)(EX:P.follows .mixedOrders=true)(hk:jh m l=true)(hm:m<=l.length)(h:ay P N l.toArray H (H++[blk]) (fun T'=>aj P R N κ l.toArray (l.drop m) Q T' (H++[blk])) false (l.take m) T):aI P R N κ (.region id l.toArray true) Q T H:=by
 exact Bi
end
end
def dZ(P:Program)(N:Nat)(ops:Array Oper)(H H1 H2:List ai)(K:Tm->Prop):Option Nat->Bool->List Oper->Tm->Prop
 | _,b,[],T=>b=true∧K T
 | p,b,o::rest,T=>∃ v,aZ N o.dst=true∧
     ((YJ P N ops o T H v∧YJ P N ops o T H1 v∧YJ P N ops o T H2 v∧dZ P N ops H H1 H2 K p b rest (fF T o.dst v))∨
      (b=false∧o.guard=none∧((∃ d,p=none∧o.dst=some d∧aa P N o (bE ops o T) H v H1∧dZ P N ops H H1 H2 K (some d) false rest (fF T o.dst v))∨
       (∃ d,p=some d∧d∈o.looksAt ops∧aa P N o (bE ops o T) H1 v H2∧dZ P N ops H H1 H2 K p true rest (fF T o.dst v)))))
section
variable {P:Program} {R:Option Nat} {N κ:Nat} {Q:Post} {T:Tm} {H H1 H2:List ai} {o:Oper} {ops:Array Oper} {K:Tm->Prop} {rest:List Oper} {b:Bool} {p:Option Nat}
section
variable {m:Nat} {l:List Oper} {vs:Nat->V}
def R2(P:Program)(N:Nat)(ops:Array Oper)(H H1 H2:List ai)(q1 q2:Nat)(i:Nat)(o:Oper)(T:Tm)(v:V):Prop:=
 (i≠q1∧i≠q2∧YJ P N ops o T H v∧YJ P N ops o T H1 v∧YJ P N ops o T H2 v)∨(i=q1∧i≠q2∧o.guard=none∧aa P N o (bE ops o T) H v H1)∨(i=q2∧i≠q1∧o.guard=none∧aa P N o (bE ops o T) H1 v H2)
theorem dZ.Lt{ops:Array Oper}{d:Nat}:∀{b:Bool} {l':List Oper} {T:Tm},dZ P N ops H H1 H2 K (some d) b l' T->∃(vs:Nat->V) (Tx:Nat->Tm) (q:Nat),Tx 0=T∧(b=false->q<l'.length∧∀ o,l'[q]? =some o->d∈o.looksAt ops)∧(b=true->q=l'.length)∧
    (∀ i o,l'[i]? =some o->aZ N o.dst=true∧((i≠q∧YJ P N ops o (Tx i) H (vs i)∧YJ P N ops o (Tx i) H1 (vs i)∧YJ P N ops o (Tx i) H2 (vs i))∨(i=q∧o.guard=none∧aa P N o (bE ops o (Tx i)) H1 (vs i) H2))∧Tx (i+1)=fF (Tx i) o.dst (vs i))∧K (Tx l'.length)
 | b,[],T,h=>⟨fun _=> .top,fun _=>T,0,rfl,(fun hb=>by have:=h.1;rw[hb] at this;cases this),fun _=>rfl,fun i o ho=>by simp at ho,h.2⟩
 | b,o::l',T,h=>by
  obtain⟨v,hd,h⟩:=h
  rcases h with⟨hy,hy1,Vx,hn⟩ | ⟨hb,hg,⟨d',hp,_⟩ | ⟨d',hp,hlk,hop,hn⟩⟩
  ·obtain⟨vs,Tx,q,h0,FF,OG,h1,h2⟩:=dZ.Lt hn
   refine⟨fun i=>match i with | 0=>v | i+1=>vs i,fun i=>match i with | 0=>T | i+1=>Tx i,q+1,rfl,fun hb=>⟨by have:=(FF hb).1;simp;omega,fun o' ho'=>(FF hb).2 o' (by simpa using ho')⟩,fun hb=>by have:=OG hb;simp;omega,fun i x hx=> ?_,h2⟩
   cases i with
   | zero=>simp at hx;subst hx;exact⟨hd,.inl ⟨by omega,hy,hy1,Vx⟩,h0⟩
   | succ i=>
    exact uG
  ·cases hp
  ·cases hp
   obtain⟨vs,Tx,q,h0,FF,OG,h1,h2⟩:=dZ.Lt hn
   refine⟨fun i=>match i with | 0=>v | i+1=>vs i,fun i=>match i with | 0=>T | i+1=>Tx i,0,rfl,fun _=>⟨by simp,fun o' ho'=>by simp at ho';subst ho';exact hlk⟩,(fun hb'=>by rw[hb] at hb';cases hb'),fun i x hx=> ?_,h2⟩
   exact EJ
theorem dZ.vals{ops:Array Oper}:∀{l':List Oper} {T:Tm},dZ P N ops H H1 H2 K none false l' T->∃(vs:Nat->V) (Tx:Nat->Tm) (q1 q2 d:Nat),Tx 0=T∧q1<q2∧q2<l'.length∧(∀ o,l'[q1]? =some o->o.dst=some d)∧(∀ o,l'[q2]? =some o->d∈o.looksAt ops)∧
    (∀ i o,l'[i]? =some o->aZ N o.dst=true∧R2 P N ops H H1 H2 q1 q2 i o (Tx i) (vs i)∧Tx (i+1)=fF (Tx i) o.dst (vs i))∧K (Tx l'.length)
 | [],T,h=>by have:=h.1;cases this
 | o::l',T,h=>by
  obtain⟨v,hd,h⟩:=h
  rcases h with⟨hy,hy1,Vx,hn⟩ | ⟨hb,hg,⟨d,hp,sO,hop,hn⟩ | ⟨d',hp,_⟩⟩
  ·obtain⟨vs,Tx,q1,q2,d,h0,hlt,Cz,Tg,ur,h1,h2⟩:=dZ.vals hn
   refine⟨fun i=>match i with | 0=>v | i+1=>vs i,fun i=>match i with | 0=>T | i+1=>Tx i,q1+1,q2+1,d,rfl,by omega,by simp;omega,fun o' ho'=>Tg o' (by simpa using ho'),fun o' ho'=>ur o' (by simpa using ho'),fun i x hx=> ?_,h2⟩
   cases i with
   | zero=>simp at hx;subst hx;exact⟨hd,.inl ⟨by omega,by omega,hy,hy1,Vx⟩,h0⟩
   | succ i=>
    simp at hx
    obtain⟨k1,k2,k3⟩:=h1 i x hx
    refine⟨k1,?_,k3⟩
    rcases k2 with⟨k4,k5,k6⟩ | ⟨k4,k5,k6⟩ | ⟨k4,k5,k6⟩
    ·exact .inl ⟨by omega,by omega,k6⟩
    ·exact .inr (.inl ⟨by omega,by omega,k6⟩)
    ·exact .inr (.inr ⟨by omega,by omega,k6⟩)
  ·obtain⟨vs,Tx,q,h0,FF,OG,h1,h2⟩:=dZ.Lt hn
   have hq:=FF rfl
   refine⟨fun i=>match i with | 0=>v | i+1=>vs i,fun i=>match i with | 0=>T | i+1=>Tx i,0,q+1,d,rfl,by omega,by have:=hq.1;simp;omega,fun o' ho'=>by simp at ho';subst ho';exact sO,fun o' ho'=>hq.2 o' (by simpa using ho'),fun i x hx=> ?_,h2⟩
   cases i with
   | zero=>simp at hx;subst hx;exact⟨hd,.inr (.inl ⟨rfl,by omega,hg,hop⟩),h0⟩
   | succ i=>
    simp at hx
    obtain⟨k1,k2,k3⟩:=h1 i x hx
    refine⟨k1,?_,k3⟩
    rcases k2 with⟨k4,k5⟩ | ⟨k4,k5⟩
    ·exact .inl ⟨by omega,by omega,k5⟩
    ·exact .inr (.inr ⟨by omega,by omega,k5⟩)
  ·cases hp
def TL(H H1 H2:List ai)(q1 q2:Nat)(f:Nat->Bool):List ai:=bif f q2 then H2 else bif f q1 then H1 else H
def SIB(κ:Nat)(P:Program)(N:Nat)(H H1 H2:List ai)(q1 q2:Nat)(l:List Oper)(T:Tm)(vs:Nat->V)(B:mo)(w0:World)(I0:Nat->Prop)(ρ0:List Nat)(f:Nat->Bool)(a:Act)(w:World):Prop:=
 ∃ I ρ,cy w0 I0 ρ0 w I ρ∧Inv P w I ρ (TL H H1 H2 q1 q2 f)∧a.tmps.size=N∧(∀ s v,tl l T vs f s=some v->az P w I ρ v (a.tmps.getD s undef))∧Marks κ B w I ρ a.defers
theorem FL(hk:ff m l)(hm:m<=l.length){q1 q2 d:Nat}(hlt:q1<q2)(hq:q2<m)(Tg:∀ o,l[q1]? =some o->o.dst=some d)(ur:∀ o,l[q2]? =some o->d∈o.looksAt l.toArray){B:mo}{w0:World}{I0:Nat->Prop}{ρ0:List Nat}{QX:Exit->Act->World->Prop}{Tx:Nat->Tm}(h0:Tx 0=T)
    (h1:∀ i o,i<m->l[i]? =some o->aZ N o.dst=true∧R2 P N l.toArray H H1 H2 q1 q2 i o (Tx i) (vs i)∧Tx (i+1)=fF (Tx i) o.dst (vs i))
    (hK:∀ a w I ρ,cy w0 I0 ρ0 w I ρ->Inv P w I ρ H2->bn P w I ρ N (Tx m) a.tmps->Marks κ B w I ρ a.defers->wpListIn (Fr R) 0 P l.toArray QX (l.drop m) a w):
    ∀(fuel:Nat) (listed:Array Bool) (a:Act) (w:World),listed.toList.count false=fuel->listed.size=l.length->(∀ i o,l[i]? =some o->fl listed i=true->∀ e∈o.after,Region.binds .any e=true->fl listed e.on=true)->(∀ i,m<=i->fl listed i=false)->
    SIB κ P N H H1 H2 q1 q2 l T vs B w0 I0 ρ0 (fl listed) a w->wpAnyIn (Fr R) 0 P .any l.toArray QX fuel listed a w:=by
 intro fuel
 have hlk:=ux (vs:=vs) hk hm h0 (fun i o hi ho=>(h1 i o hi ho).2.2)
 have done:∀(fuel:Nat) (listed:Array Bool) (a:Act) (w:World),listed.toList.count false=fuel->listed.size=l.length->(∀ i,m<=i->fl listed i=false)->(∀ i,i<m->fl listed i=true)->SIB κ P N H H1 H2 q1 q2 l T vs B w0 I0 ρ0 (fl listed) a w->wpAnyIn (Fr R) 0 P .any l.toArray QX fuel listed a w:=by
  intro fuel listed a w mE hsz xD hall hsi
  obtain⟨I,ρ,he,hi,hs,cu,hmk⟩:=hsi
  have hi:Inv P w I ρ H2:=by unfold TL at hi;rw[hall q2 hq] at hi;exact hi
  exact qC
 induction fuel with
 | zero=>
  exact ng
 | succ fuel ih=>
  intro listed a w mE hsz hcl xD hsi
  by_cases hall:∀ i,i<m->fl listed i=true
  ·exact mJ
  ·obtain⟨i0,vB,hmin⟩:∃ i0,(i0<m∧fl listed i0=false)∧∀ j,j<i0->fl listed j=true:=by
     exact mW
   have Ks:l[i0]? =some (l[i0]'(by omega)):=Zb _
   have zy:i0∈Region.ready .any l.toArray listed:=by
    exact nE
   refine⟨(fun h=>by rw[h] at zy;cases zy),fun i hi=> ?_⟩
   obtain⟨h3,o,ho',UW⟩:=mem_ready.1 hi
   have ho:l[i]? =some o:=by simpa using ho'
   have hilt:=bW ho
   have vf:∀ j oj,l[j]? =some oj->(decide (j=i)||fl listed j)=true->∀ e∈oj.after,Region.binds .any e=true->(decide (e.on=i)||fl listed e.on)=true:=fun j oj hj tU e he hb=>by
    exact kV
   have pH:i<m:=by
    exact nk
   have tB:fl listed i=false:=by
    exact kj
   obtain⟨sO,hy,_⟩:=h1 i o pH ho
   obtain⟨I,ρ,he,hinv,hs,cu,hmk⟩:=hsi
   have l9:∀ s v,lk (bE l.toArray o (Tx i)) s=some v->az P w I ρ v (a.tmps.getD s undef):=by
    exact mK
   have Av:bn P w I ρ N (bE l.toArray o (Tx i)) a.tmps:=⟨hs,l9⟩
   have next:∀ u w' I' ρ',Ext w I ρ w' I' ρ'->Inv P w' I' ρ' (TL H H1 H2 q1 q2 (fl (listed.setIfInBounds i true)))->az P w' I' ρ' (vs i) u->wpAnyIn (Fr R) 0 P .any l.toArray QX fuel (listed.setIfInBounds i true) (a.put o.dst u) w':=by
    exact mR
   have step:∀(H0:List ai),Inv P w I ρ H0->(∀ u w' I' ρ',Ext w I ρ w' I' ρ'->Inv P w' I' ρ' H0->az P w' I' ρ' (vs i) u->wpAnyIn (Fr R) 0 P .any l.toArray QX fuel (listed.setIfInBounds i true) (a.put o.dst u) w')->YJ P N l.toArray o (Tx i) H0 (vs i)->
       wpOpIn (Fr R) 0 P l.toArray QX i (wpAnyIn (Fr R) 0 P .any l.toArray QX fuel (listed.setIfInBounds i true)) a w:=by
    intro H0 hinv next hy
    unfold wpOpIn
    simp only[ho']
    rcases hy with⟨hg,hop⟩ | ⟨j,want,s,c,x,v',hg,pE,Et,hb,hc,hv,hop⟩
    ·exact kB
    ·exact nF
   have oG:∀ j,fl (listed.setIfInBounds i true) j=(decide (j=i)||fl listed j):=fun j=>gO (by omega) j
   have o1:l[q1]? =some (l[q1]'(by omega)):=Zb _
   have o2:l[q2]? =some (l[q2]'(by omega)):=Zb _
   have force:∀(f:Nat->Bool),(∀(i:Nat) (o:Oper),l[i]? =some o->f i=true->∀ e∈o.after,Region.binds .any e=true->f e.on=true)->f q2=true->f q1=true:=fun f hf h2=>
    (hk.look f hf q2 q1 _ _ d o2 o1 (ur _ o2) (Tg _ o1) (by omega)).1 hlt h2
   rcases hy with⟨n1,n2,y0,y1,y2⟩ | ⟨F5,n2,hg,hop⟩ | ⟨F5,n1,hg,hop⟩
   ·have e1:fl (listed.setIfInBounds i true) q1=fl listed q1:=by rw[oG];simp[Ne.symm n1]
    have e2:fl (listed.setIfInBounds i true) q2=fl listed q2:=by rw[oG];simp[Ne.symm n2]
    unfold TL at next hinv
    rw[e1,e2] at next
    cases SE:fl listed q2 with
    | true=>rw[SE] at next hinv;exact step H2 hinv next y2
    | false=>
     rw[SE] at next hinv
     cases YU:fl listed q1 with
     | true=>rw[YU] at next hinv;exact step H1 hinv next y1
     | false=>rw[YU] at next hinv;exact step H hinv next y0
   ·subst F5
    have SE:fl listed q2=false:=by
     cases h:fl listed q2 with
     | false=>rfl
     | true=>have:=force (fl listed) hcl h;rw[tB] at this;cases this
    unfold TL at next hinv
    rw[tB,SE] at hinv
    rw[show fl (listed.setIfInBounds i true) i=true by rw[oG];simp,show fl (listed.setIfInBounds i true) q2=false by rw[oG,SE];simp;omega] at next
    exact vU
   ·subst F5
    have YU:fl listed q1=true:=by
     have:=force (fun j=>decide (j=i)||fl listed j) vf (by simp)
     have hne:¬ q1=i:=by omega
     simpa[hne] using this
    unfold TL at next hinv
    rw[tB,YU] at hinv
    rw[show fl (listed.setIfInBounds i true) i=true by rw[oG];simp] at next
    exact vU
theorem aI.Dw{id:Nat}(m:Nat)(blk:ai)(jY:ai)(EX:P.follows .mixedOrders=true)(hk:jh m l=true)(hm:m<=l.length)(h:dZ P N l.toArray H (H++[blk]) (H++[jY]) (fun T'=>aj P R N κ l.toArray (l.drop m) Q T' (H++[jY])) none false (l.take m) T):aI P R N κ (.region id l.toArray true) Q T H:=by
 intro B w I ρ a hi ht hmk
 obtain⟨vs,Tx,q1,q2,d,h0,hlt,Cz,Tg,ur,h1,h2⟩:=dZ.vals h
 have hq:q2<m:=by simp at Cz;omega
 have hlen:(l.take m).length=m:=by simp;omega
 rw[hlen] at h2
 refine wpIn_region_any EX ?_
 have hi':Inv P w.drew I ρ H:=hi.drew
 refine FL (κ:=κ) (ff.of hk) hm hlt hq (fun o ho=>Tg o (by rw[ZQ,if_pos (by omega)];exact ho)) (fun o ho=>ur o (by rw[ZQ,if_pos hq];exact ho)) (B:=B) (w0:=w) (I0:=I) (ρ0:=ρ) h0 (fun i o pH ho=>h1 i o (by rw[ZQ,if_pos pH];exact ho)) ?_ _ _ a w.drew (by simp) (by simp) ?_ ?_ ?_
 ·exact wD
 ·exact mX
 ·exact mP
 ·have e0:∀ q,fl (Array.replicate l.length false) q=false:=fun q=>by
    exact uJ
  refine⟨I,ρ,Ext.drew.w,by simpa[TL,e0] using hi',ht.size,fun s v hv=> ?_,hmk.ext Ext.drew⟩
  exact vX
end
end
inductive PhC where
 | none
 | laid (d:Nat) (blk:ai)
 | put (blk:ai)
def bp(P:Program)(N:Nat)(ops:Array Oper)(H:List ai)(K:ai->Tm->Prop):PhC->List Oper->Tm->Prop
 | ph,[],T=>∃ blk,ph= .put blk∧K blk T
 | ph,o::rest,T=>∃ v,aZ N o.dst=true∧
     ((YJ P N ops o T H v∧(∀ x,YJ P N ops o T (H++[x]) v)∧bp P N ops H K ph rest (fF T o.dst v))∨
      (∃ d blk,ph= .none∧o.guard=Option.none∧o.dst=some d∧aa P N o (bE ops o T) H v (H++[blk])∧bp P N ops H K (.laid d blk) rest (fF T o.dst v))∨
      (∃ d blk jY,ph= .laid d blk∧o.guard=Option.none∧d∈o.looksAt ops∧aa P N o (bE ops o T) (H++[blk]) v (H++[jY])∧bp P N ops H K (.put jY) rest (fF T o.dst v)))
section
variable {P:Program} {R:Option Nat} {N κ:Nat} {Q:Post} {T:Tm} {H:List ai} {o:Oper} {ops:Array Oper} {K:ai->Tm->Prop} {rest:List Oper} {ph:PhC} {l:List Oper}
theorem bp.nil{blk:ai}(h:K blk T):bp P N ops H K (.put blk) [] T:=⟨blk,rfl,h⟩
theorem bp.cons(d:Nat){v:V}(hd:o.dst=some d)(hdN:aZ N (some d)=true)(hg:o.guard=none)(hop:aa P N o (bE ops o T) H v H)(SB:∀ x,aa P N o (bE ops o T) (H++[x]) v (H++[x]))(next:bp P N ops H K ph rest ((d,v)::T)):bp P N ops H K ph (o::rest) T:=
 ⟨v,by rw[hd];exact hdN,.inl ⟨.inl ⟨hg,hop⟩,fun x=> .inl ⟨hg,SB x⟩,by rw[hd];exact next⟩⟩
theorem bp.lay(d:Nat){v:V}{blk:ai}(hd:o.dst=some d)(hdN:aZ N (some d)=true)(hg:o.guard=none)(hop:aa P N o (bE ops o T) H v (H++[blk]))(next:bp P N ops H K (.laid d blk) rest ((d,v)::T)):bp P N ops H K .none (o::rest) T:=
 ⟨v,by rw[hd];exact hdN,.inr (.inl ⟨d,blk,rfl,hg,hd,hop,by rw[hd];exact next⟩)⟩
theorem bp.put{d:Nat}{v:V}{blk jY:ai}{H2:List ai}(hd:o.dst=none)(hg:o.guard=none)(hl:d∈o.looksAt ops)(hop:aa P N o (bE ops o T) (H++[blk]) v H2)(hH:H2=H++[jY])(next:bp P N ops H K (.put jY) rest T):bp P N ops H K (.laid d blk) (o::rest) T:=
 ⟨v,by rw[hd];rfl,.inr (.inr ⟨d,blk,jY,rfl,hg,hl,hH▸hop,by rw[hd];exact next⟩)⟩
theorem bp.Wo{blk jY:ai}{d:Nat}:∀{l:List Oper} {T:Tm},bp P N ops H K (.put jY) l T->dZ P N ops H (H++[blk]) (H++[jY]) (K jY) (some d) true l T
 | [],T,⟨b,hb,h⟩=>by cases hb;exact⟨rfl,h⟩
 | o::l,T,⟨v,hd,h⟩=>by
  rcases h with⟨h1,h2,h3⟩ | ⟨d,b,hp,_⟩ | ⟨d,b,b2,hp,_⟩
  ·exact⟨v,hd,.inl ⟨h1,h2 _,h2 _,bp.Wo h3⟩⟩
  ·cases hp
  ·cases hp
theorem bp.Xt{blk:ai}{d:Nat}:∀{l:List Oper} {T:Tm},bp P N ops H K (.laid d blk) l T->∃ jY,dZ P N ops H (H++[blk]) (H++[jY]) (K jY) (some d) false l T
 | [],T,⟨b,hb,h⟩=>by cases hb
 | o::l,T,⟨v,hd,h⟩=>by
  rcases h with⟨h1,h2,h3⟩ | ⟨d,b,hp,_⟩ | ⟨d,b,b2,hp,hg,hl,h1,h3⟩
  ·obtain⟨b2,k⟩:=bp.Xt h3
   exact⟨b2,v,hd,.inl ⟨h1,h2 _,h2 _,k⟩⟩
  ·cases hp
  ·cases hp
   exact⟨b2,v,hd,.inr ⟨rfl,hg,.inr ⟨d,rfl,hl,h1,bp.Wo h3⟩⟩⟩
theorem bp.toB:∀{l:List Oper} {T:Tm},bp P N ops H K .none l T->∃ blk jY,dZ P N ops H (H++[blk]) (H++[jY]) (K jY) none false l T
 | [],T,⟨b,hb,h⟩=>by cases hb
 | o::l,T,⟨v,hd,h⟩=>by
  rcases h with⟨h1,h2,h3⟩ | ⟨d,b,hp,hg,sO,h1,h3⟩ | ⟨d,b,b2,hp,_⟩
  ·obtain⟨b,b2,k⟩:=bp.toB h3
   exact⟨b,b2,v,hd,.inl ⟨h1,h2 _,h2 _,k⟩⟩
  ·obtain⟨b2,k⟩:=bp.Xt h3
   exact⟨b,b2,v,hd,.inr ⟨rfl,hg,.inl ⟨d,rfl,sO,h1,k⟩⟩⟩
  ·cases hp
theorem aI.C2{id:Nat}(m:Nat)(EX:P.follows .mixedOrders=true)(hk:jh m l=true)(hm:m<=l.length)(h:bp P N l.toArray H (fun blk T'=>aj P R N κ l.toArray (l.drop m) Q T' (H++[blk])) .none (l.take m) T):aI P R N κ (.region id l.toArray true) Q T H:=by
 obtain⟨b,b2,k⟩:=h.toB
 exact aI.Dw m b b2 EX hk hm k
end
section
variable {P:Program} {R:Option Nat} {N κ:Nat} {Q Q':Post} {T T' T2 T3:Tm} {H H' H2 H3:List ai}
end
theorem cx{α:Type}{f:α->List PV}{c:Nat}(h:∀ x,(f x).length=c):∀ xs:List α,(xs.flatMap f).length=xs.length*c
 | []=>by simp
 | x::xs=>by rw[ZL,Zd,cx h xs,h,Zn,EV];omega
section
variable {P:Program} {R:Option Nat} {N κ:Nat} {Q Q':Post} {T T' T2 T3:Tm} {H H' H2 H3:List ai} {o:Oper} {ops:Array Oper} {rest:List Oper}
theorem To.WM(s i n:Nat){xs:List PV}{e:TypeId}(hs:lk T s=some (kL i n))(hH:H[i]? =some (dL (xs.map .p) e n))(h0:n=0->xs=[]):To P κ N T H ((s,.p (.is xs n))::iQ [s] T) (H.set i .dead):=by
 intro w I ρ tmps hi ht
 obtain⟨I1,ρ1,h1,h2,h3,h4⟩:=To.acc (P:=P) (κ:=κ) (N:=N) s i n hs hH h0 w I ρ tmps hi ht
 cases n with
 | zero=>
  have h:=h0 rfl
  subst h
  have e1:H.set i .dead=H:=by
   exact vm
  rw[e1]
  refine⟨I,ρ,cy.refl _ _ _,hi,⟨ht.size,fun s' v hv=> ?_⟩,fun _ h _=>h⟩
  simp only[lk] at hv
  cases hb:Nat.beq s s' with
  | false=>rw[hb] at hv;exact ht.at_ s' v (jw [s] T s' v hv)
  | true=>
   exact AN
 | succ n=>
  obtain⟨I',k1,k2,k3⟩:=nv (i:=i) (xs:=xs) hi (by rw[show H[i]? =some (.row (xs.map .p) e) from hH];rfl) ht
  refine⟨I',ρ,k1.w,k2,⟨ht.size,fun s' v hv=> ?_⟩,fun _ h _=>h⟩
  simp only[lk] at hv
  cases hb:Nat.beq s s' with
  | false=>rw[hb] at hv;exact(ht.at_ s' v (jw [s] T s' v hv)).ext k1
  | true=>
   rw[hb] at hv
   have:=ZO hb
   subst this
   simp at hv
   subst hv
   have hm:∀ T:Tm,lk T s=some (V.row i (n+1))->lk (xF i xs T) s=some (iw i xs (V.row i (n+1))):=fun T hT=>by
    rw[n8,hT];rfl
   have:=k3.at_ s _ (hm T hs)
   simpa[iw] using this
theorem aa.CV{x y:Operand}{t:TypeId}{kd:IntKind}{sz i len k:Nat}(ho:o.op= .indexAddr t x y)(hx:ev T x=some (.row i len))(hy:ev T y=some (.p (.int kd (k:Int))))(ht:dY P t=true)(he:ou P t=some sz)(hk:k<len):aa P N o T H (.ptr i (k*sz)) H:=
 aa.Fx ho hx hy ht he (fun _ _ h=>by cases h) (by omega) (by simp[Fl,hk])
theorem aa.yw{x y:Operand}{t:TypeId}{kd:IntKind}{sz len i off k:Nat}(ho:o.op= .indexAddr t x y)(hx:ev T x=some (.ptr i off))(hy:ev T y=some (.p (.int kd (k:Int))))(ht:zA P t=some len)(he:ou P t=some sz)(hk:k<len):aa P N o T H (.ptr i (off+k*sz)) H:=
 aa.nw ho hx hy ht he (by omega) (by omega) (by simp[shift])
theorem yS:∀(vs cs:List V) (k:Nat),k+vs.length<=cs.length->setAt cs k vs=cs.take k++vs++cs.drop (k+vs.length)
 | [],cs,k,h=>by simp[setAt]
 | v::vs,cs,k,h=>by
  simp only[Zn] at h
  simp only[setAt]
  rw[yS vs (cs.set k v) (k+1) (by simp;omega)]
  have hk:k<cs.length:=by omega
  rw[<- Y1 (l:=cs.set k v) (i:=k) (by simpa using hk)]
  simp only[List.getElem_set_self,Zn]
  rw[List.take_set_of_le (Ze _),List.drop_set_of_lt (by omega),show k+1+vs.length=k+(vs.length+1) by omega]
  simp
theorem AP{α:Type}{f:α->List PV}{c:Nat}(hf:∀ x,(f x).length=c):∀(xs:List α) (k:Nat) (z:α),k<xs.length->(xs.set k z).flatMap f=(xs.flatMap f).take (k*c)++f z++(xs.flatMap f).drop (k*c+c)
 | x::xs,0,z,_=>by
  simp only[List.set_cons_zero,ZL,Nat.zero_mul,Ml,IS,yy]
  rw[List.drop_append_of_le_length (by rw[hf];exact Ze _),YH (by rw[hf];exact Ze _)]
  rfl
 | x::xs,k+1,z,h=>by
  simp only[List.set_cons_succ,ZL]
  rw[AP hf xs k z (by simpa using h)]
  have e:(k+1)*c=(f x).length+k*c:=by rw[hf,EV];omega
  rw[e,List.take_length_add_append,Nt,List.drop_length_add_append]
  simp only[ZH]
theorem uA{α:Type}{f:α->List PV}{c:Nat}(hf:∀ x,(f x).length=c)(xs:List α)(k j:Nat)(z:α)(ws:List PV)(hk:k<xs.length)(hj:j+ws.length<=c)(hz:f z=(f xs[k]).take j++ws++(f xs[k]).drop (j+ws.length)):
    setAt ((xs.flatMap f).map .p) (k*c+j) (ws.map .p)=((xs.set k z).flatMap f).map .p:=by
 have hl:(xs.flatMap f).length=xs.length*c:=cx hf xs
 have hb:k*c+c<=xs.length*c:=by
  have:=HK c (show k+1<=xs.length from hk)
  rw[EV] at this
  omega
 have hw:=mM hf xs k hk
 rw[yS _ _ _ (by simp only[Zo,hl];omega),AP hf xs k z hk,hz]
 simp only[Zo,<- List.map_take,<- List.map_drop,<- ZG]
 congr 1
 have e1:(xs.flatMap f).take (k*c+j)=(xs.flatMap f).take (k*c)++(f xs[k]).take j:=by
  rw[<- hw,List.take_add,List.take_take]
  rw[show min j c=j by omega]
 have e2:(xs.flatMap f).drop (k*c+j+ws.length)=(f xs[k]).drop (j+ws.length)++(xs.flatMap f).drop (k*c+c):=by
  rw[<- hw]
  have:(xs.flatMap f).drop (k*c)=((xs.flatMap f).drop (k*c)).take c++(xs.flatMap f).drop (k*c+c):=by
   rw[<- OI,Xy]
  rw[Nt,<- OI,this,List.drop_append_of_le_length (by rw[x7,R0,hl];omega)]
  rw[<- this]
 rw[e1,e2]
 simp only[ZH]
theorem aa.NB{α:Type}{f:α->List PV}{c k j n i off:Nat}{b:Bool}{xs:List α}{z:α}{ws:List PV}{e:TypeId}{x y:Operand}{t:TypeId}{v:V}(ho:o.op= .store t x y)(hx:ev T x=some (.ptr i off))(hy:ev T y=some v)(hk:iu v=true)(h1:(dO v).all jB=true)
    (ht:fm P t=some (b,n))(hn:(dO v).length=n)(hv:dO v=ws.map .p)(hH:H[i]? =some (.row ((xs.flatMap f).map .p) e))(hoff:off=k*c+j)(hf:∀ x,(f x).length=c)(U6:k<xs.length)(hj:j+ws.length<=c)
    (hz:f z=(f xs[k]).take j++ws++(f xs[k]).drop (j+ws.length)):aa P N o T H .top (H.set i (.row (((xs.set k z).flatMap f).map .p) e)):=by
 refine aa.store ho hx hy hk h1 ht hn ?_
 have hl:(xs.flatMap f).length=xs.length*c:=cx hf xs
 have hb:k*c+c<=xs.length*c:=by
  exact wU
 subst hoff
 simp only[gu,hH,hv]
 rw[if_pos (by simp only[Zo,hl];omega),uA hf xs k j z ws U6 hj hz]
theorem aa.storeCells{α:Type}{f:α->List PV}{c k j n i off:Nat}{b:Bool}{xs:List α}{z:α}{ws:List PV}{e:TypeId}{x y:Operand}{t:TypeId}{v:V}(ho:o.op= .store t x y)(hx:ev T x=some (.ptr i off))(hy:ev T y=some v)(hk:iu v=true)(h1:(dO v).all jB=true)
    (ht:fm P t=some (b,n))(hn:(dO v).length=n)(hv:dO v=ws.map .p)(hH:H[i]? =some (.cells ((xs.flatMap f).map .p) e))(hoff:off=k*c+j)(hf:∀ x,(f x).length=c)(U6:k<xs.length)(hj:j+ws.length<=c)
    (hz:f z=(f xs[k]).take j++ws++(f xs[k]).drop (j+ws.length)):aa P N o T H .top (H.set i (.cells (((xs.set k z).flatMap f).map .p) e)):=by
 refine aa.store ho hx hy hk h1 ht hn ?_
 have hl:(xs.flatMap f).length=xs.length*c:=cx hf xs
 have hb:k*c+c<=xs.length*c:=by
  exact wU
 subst hoff
 simp only[gu,hH,hv]
 rw[if_pos (by simp only[Zo,hl];omega),uA hf xs k j z ws U6 hj hz]
theorem aa.kF{α:Type}{f:α->List PV}{c k j n i off:Nat}{b:Bool}{xs:List α}{blk:ai}{x:Operand}{t:TypeId}{v:PV}(ho:o.op= .load t x)(hx:ev T x=some (.ptr i off))(ht:fm P t=some (b,n))(hH:H[i]? =some blk)(hc:bR (some blk)=some ((xs.flatMap f).map .p))(hoff:off=k*c+j)
    (hf:∀ x,(f x).length=c)(U6:k<xs.length)(hj:j+(if b then n else 1)<=c)(hv:(if b then PV.agg (((f xs[k]).drop j).take n) else((f xs[k])[j]?).getD .nilPtr)=v):aa P N o T H (.p v) H:=by
 have hl:(xs.flatMap f).length=xs.length*c:=cx hf xs
 have hb:k*c+c<=xs.length*c:=by
  exact wU
 have hw:=mM hf xs k U6
 subst hoff
 refine aa.load ho hx ht ?_
 cases b with
 | false=>
  simp only[Kw,if_false] at hj hv
  simp only[c7,hH,hc,Kw,if_false]
  have hlt:k*c+j<(xs.flatMap f).length:=by rw[hl];omega
  rw[Zt,Zb hlt]
  have:(f xs[k])[j]? =some (xs.flatMap f)[k*c+j]:=by
   rw[<- hw,ZQ,if_pos (by omega),R8,Zb hlt]
  rw[this] at hv
  simp at hv
  simp[hv]
 | true=>
  simp only[if_true] at hj hv
  simp only[c7,hH,hc,if_true]
  rw[if_pos (by simp only[Zo,hl];omega)]
  have:(((xs.flatMap f).map V.p).drop (k*c+j)).take n=(((f xs[k]).drop j).take n).map .p:=by
   rw[<- List.map_drop,<- List.map_take,<- hw,List.drop_take,List.take_take,OI,show min n (c - j)=n by omega]
  rw[this]
  simp only[gD,ko,hv]
theorem pT{xs:List PV}{n sz:Nat}(h:xs.length=n*sz):oV H sz (.p (.is xs n))=some (xs.map .p,n):=by simp[oV,h]
theorem Bk{i n sz:Nat}{cs:List V}(h:bR H[i]? =some cs)(hl:cs.length=n*sz):oV H sz (.row i n)=some (cs,n):=by
 simp[oV,h,hl]
 rw[<- hl,ZS]
end
theorem jb(w a:Nat):BitVec.ofInt w (a:Int)=BitVec.ofNat w a:=by
 apply BitVec.eq_of_toNat_eq
 simp[BitVec.toNat_ofInt]
theorem Ak{k:IntKind}{n:Nat}(h:(n:Int)<=k.max)(h0:k.min<=0):k.wrap (n:Int)=n:=by
 cases k <;> simp[IntKind.wrap,IntKind.bits,IntKind.signed,IntKind.max] at h ⊢ <;> omega
section
variable {P:Program} {R:Option Nat} {N κ:Nat} {Q Q':Post} {T T' T2 T3:Tm} {H H' H2 H3:List ai} {o:Oper} {ops:Array Oper} {rest:List Oper}
theorem max_lt(k:IntKind):k.max<2^k.bits:=by cases k <;> decide
theorem aa.o8{x y:Operand}{t t':TypeId}{k:IntKind}(a b:Nat)(ho:o.op= .binOp .and t x y t')(hx:ev T x=some (.p (.int k (a:Int))))(hy:ev T y=some (.p (.int k (b:Int))))(ha:(a:Int)<=k.max)(hb:(b:Int)<=k.max):aa P N o T H (.p (.int k ((a&&& b:Nat):Int))) H:=
 aa.bits ho (.inl rfl) hx hy fun w=>by
  have hk:=max_lt k
  have RZ:a<2^k.bits:=by have:(a:Int)<((2^k.bits:Nat):Int):=by simpa using(by omega:(a:Int)<2^k.bits)
                         omega
  have hb':b<2^k.bits:=by have:(b:Int)<((2^k.bits:Nat):Int):=by simpa using(by omega:(b:Int)<2^k.bits)
                          omega
  have h1:(BitVec.ofInt k.bits (a:Int)&&& BitVec.ofInt k.bits (b:Int)).toNat=a&&& b:=by
   rw[jb,jb,BitVec.toNat_and,BitVec.toNat_ofNat,BitVec.toNat_ofNat,TM RZ,TM hb']
  have h2:((a&&& b:Nat):Int)<=k.max:=by have:= @Nat.and_le_left a b;omega
  exact Ec
theorem aa.Ve{x y:Operand}{t t':TypeId}{k:IntKind}(a b:Nat)(ho:o.op= .binOp .or t x y t')(hx:ev T x=some (.p (.int k (a:Int))))(hy:ev T y=some (.p (.int k (b:Int))))(ha:(a:Int)<=k.max)(hb:(b:Int)<=k.max)(hc:((a||| b:Nat):Int)<=k.max):aa P N o T H (.p (.int k ((a||| b:Nat):Int))) H:=
 aa.bits ho (.inr (.inl rfl)) hx hy fun w=>by
  have hk:=max_lt k
  have RZ:a<2^k.bits:=by have:(a:Int)<((2^k.bits:Nat):Int):=by simpa using(by omega:(a:Int)<2^k.bits)
                         omega
  have hb':b<2^k.bits:=by have:(b:Int)<((2^k.bits:Nat):Int):=by simpa using(by omega:(b:Int)<2^k.bits)
                          omega
  have h1:(BitVec.ofInt k.bits (a:Int)||| BitVec.ofInt k.bits (b:Int)).toNat=a||| b:=by
   rw[jb,jb,BitVec.toNat_or,BitVec.toNat_ofNat,BitVec.toNat_ofNat,TM RZ,TM hb']
  have h3:k.min<=0:=by cases k <;> decide
  simp only[Op.intBits,h1,Ak hc h3]
  rfl
theorem aa.xG{x y:Operand}{t t':TypeId}{k k':IntKind}(a n:Nat)(ho:o.op= .binOp .shr t x y t')(hx:ev T x=some (.p (.int k (a:Int))))(hy:ev T y=some (.p (.int k' (n:Int))))(ha:(a:Int)<=k.max):aa P N o T H (.p (.int k ((a / 2^n:Nat):Int))) H:=by
 refine aa.shr ho hx hy (by omega) ?_
 have e:∀ m:Nat,(2:Int)^m=((2^m:Nat):Int):=fun m=>by simp
 rw[He,e,Int.fdiv_eq_ediv_of_nonneg _ (Int.natCast_nonneg _)]
 have hk:=max_lt k
 have RZ:a<2^k.bits:=by have:(a:Int)<((2^k.bits:Nat):Int):=by simpa using(by omega:(a:Int)<2^k.bits)
                        omega
 rw[<- Int.natCast_ediv]
 congr 1
 by_cases h:n<=k.bits
 ·rw[Kv h]
 ·rw[Nat.min_eq_right (by omega)]
  rw[Nat.div_eq_of_lt RZ,Nat.div_eq_of_lt]
  exact ZR RZ (Zy (by omega) (by omega))
theorem aa.qH{x y:Operand}{t t':TypeId}{k k':IntKind}(a n:Nat)(ho:o.op= .binOp .shl t x y t')(hx:ev T x=some (.p (.int k (a:Int))))(hy:ev T y=some (.p (.int k' (n:Int))))(hn:n<=k.bits)(hc:((a*2^n:Nat):Int)<=k.max):aa P N o T H (.p (.int k ((a*2^n:Nat):Int))) H:=by
 refine aa.shl ho hx hy (by omega) ?_
 rw[He,Kv hn]
 have e:(a:Int)*2^n=((a*2^n:Nat):Int):=by simp
 rw[e]
 exact Ak hc (by cases k <;> decide)
end
end Go.AF
end
end
