/-
 Calls that read own blocks, as content. No condition; generic over any program.
 Regions that draw their order, in which own blocks are laid and written. No condition; generic over any program.
 New rows of zeros; checks for nil; bits that are taken away. No condition; generic over any program.
 Rows put together. No condition; generic over any program.
 Calls that look at own blocks, whose result is partly forgotten. No condition; generic over any program.
 Interface values and their methods. No condition; generic over any program.
 Elements by a total function of their place; calls that leave one of many states behind. No condition; generic over any program.
 Empty slices inside of values, by what is in them. No condition; generic over any program.
 Cells of own rows at places not known; an own row that is frozen where another own row refers to it. No condition; generic over any program.
 An own slice that grew in a cell of another own block becomes immutable there. No condition; generic over any program.
 A slice that is built of whole elements. No condition; generic over any program.
 An element of an own slice at an integer place. No condition; generic over any program.
 A call whose result is a tuple with a new own slice; own slices that may be empty are copied and written. No condition; generic over any program.
 A cell of a package variable that the program lays. No condition; generic over any program.
 What a row says of a listed package variable, an array of integers, as the walks want it. No condition; generic over any program.
 A call that works on some of the own blocks; all others stay as they are. No condition; generic over any program.
 Functions that yield in a range over another function. No condition; generic over any program.
 Storing one cell at a place of an own block. No condition; generic over any program.
 New slices that become content at once; a map that is frozen where a cell refers to it. No condition; generic over any program.
 Ranges over functions that look at own blocks of their caller. No condition; generic over any program.
 Functions that yield and look at own blocks of their caller: what they lay themselves becomes content; places below k are kept over a yield. No condition; generic over any program.
 Copying into an own row; slices that are nil, or not. No condition; generic over any program.
 A slice that grows, read as content by a call: nil, or a list. No condition; generic over any program.
-/
import Derived.Test.YtibffijhebobmaaGreatDoorFaUC
import Derived.MakeChecks
import Derived.LaidMore
import Derived.OpenShut
import Derived.FnData
theorem Dy{A:Prop}(h:A:=by
 simp only[dy,Zl] at h
 obtain⟨xs,h1,rfl⟩:=h
 obtain⟨us,hu,k1⟩:=hr
 exact⟨us,hu,fC ih cs xs _ h1 k1⟩):A:=h
theorem wM{A:Prop}(h:A:=by
 exact az.mono he'.w.lu he'.w.bf h5 (fun b _ s hs=>he'.w.shape b s hs) v _ h4):A:=h
theorem DL{A:Prop}(h:A:=by
 obtain⟨us,hu,h1⟩:=h
 exact⟨us,hu,aR.sc cs _ (by simpa[JJ] using hs) h1⟩):A:=h
set_option linter.unnecessarySimpa false
set_option linter.unusedSectionVars false
set_option linter.unusedSimpArgs false
set_option linter.unusedVariables false
section
namespace Go.AF
def fN(f:V->Option PV):List V->Option (List PV)
 | []=>some []
 | v::vs=>match f v,fN f vs with
   | some x,some xs=>some (x::xs)
   | _,_=>none
def dy(H:List ai):Nat->V->Option PV
 | _,.p x=>some x
 | 0,_=>none
 | n+1,.ptr i off=>match bR H[i]? with
   | some cs=>(fN (dy H n) cs).map (PV.ip · off)
   | none=>none
 | n+1,.row i len=>match bR H[i]? with
   | some cs=>(fN (dy H n) cs).map (PV.is · len)
   | none=>none
 | n+1,.sl i off len=>match bR H[i]? with
   | some cs=>(fN (dy H n) cs).map fun xs=>PV.is (xs.drop off) len
   | none=>none
 | n+1,.map i=>match H[i]? with
   | some (.map ks vs)=>match fN (dy H n) ks,fN (dy H n) vs with
     | some xs,some ys=>some (.im xs ys)
     | _,_=>none
   | _=>none
 | n+1,.func fn fi ca=>match fN (dy H n) fi,fN (dy H n) ca with
   | some xs,some ys=>some (.func fn xs ys)
   | _,_=>none
 | n+1,.iface t v=>(dy H n v).map (PV.iface t)
 | n+1,.agg cs=>(fN (dy H n) cs).map PV.agg
 | n+1,.tuple cs=>(fN (dy H n) cs).map PV.tuple
 | _+1,.opt _ _=>none
 | _+1,.raw _ _ _=>none
 | _+1,.z0=>some (.is [] 0)
 | _+1,.top=>none
theorem zj(H:List ai)(n:Nat):∀ xs:List PV,fN (dy H n) (xs.map .p)=some xs
 | []=>rfl
 | x::xs=>by
  have e:dy H n (.p x)=some x:=by cases n <;> rfl
  simp only[Zx,fN,e,zj H n xs]
section
variable {P:Program} {R:Option Nat} {N κ:Nat} {Q Q':Post} {T T' T2 T3:Tm} {H H' H2 H3:List ai} {o:Oper} {ops:Array Oper} {rest:List Oper}
theorem fC{w:World}{I:Nat->Prop}{ρ:List Nat}{f:V->Option PV}(hf:∀ v x u,f v=some x->az P w I ρ v u->Rel w (fun b=>b<w.heap.size) x u):∀(vs:List V) (xs:List PV) (us:List Value),fN f vs=some xs->ag P w I ρ vs us->aR w (fun b=>b<w.heap.size) xs us
 | [],xs,us,h,hr=>by simp[fN] at h;subst h;exact hr
 | v::vs,xs,us,h,hr=>by
  obtain⟨u,us',rfl,h1,h2⟩:=hr
  simp only[fN] at h
  split at h
  ·rename_i x ys e1 e2
   simp at h
   subst h
   exact⟨u,us',rfl,hf v x u e1 h1,fC hf vs ys us' e2 h2⟩
  ·cases h
theorem Hz{w:World}{b:Nat}{ob:Obj}(h:w.heap[b]? =some ob):b<w.heap.size:=by
 rcases ZD b w.heap.size with h1 | h1
 ·exact h1
 ·rw[Array.getElem?_eq_none h1] at h;cases h
theorem uS{w:World}{I:Nat->Prop}{ρ:List Nat}{i:Nat}{cs:List V}{xs:List PV}{f:V->Option PV}(hi:Inv P w I ρ H)(hf:∀ v x u,f v=some x->az P w I ρ v u->Rel w (fun b=>b<w.heap.size) x u)
    (hc:bR H[i]? =some cs)(hx:fN f cs=some xs):∃ b,ρ[i]? =some b∧b<w.heap.size∧aT w (fun b=>b<w.heap.size) xs b 0:=by
 obtain⟨b,arr,e,hρ,hw,hl,hr⟩:=ia hi hc
 refine⟨b,hρ,Hz hw,?_⟩
 refine aT.nO xs (arr.toList.take cs.length) 0 (fC hf cs xs _ hx hr) fun j v hj=> ?_
 rw[ZQ] at hj
 split at hj
 ·exact pJ
 ·cases hj
theorem qd{w:World}{I:Nat->Prop}{ρ:List Nat}(hi:Inv P w I ρ H):∀(n:Nat) (v:V) (x:PV) (u:Value),dy H n v=some x->az P w I ρ v u->Rel w (fun b=>b<w.heap.size) x u:=by
 have Rp:∀(x:PV) (u:Value),az P w I ρ (.p x) u->Rel w (fun b=>b<w.heap.size) x u:=fun x u h=>Rel.mono (fun b hb=>hi.ib b hb) (fun _ _=>rfl) x u h
 intro n
 induction n with
 | zero=>
  intro v x u h hr
  cases v <;> simp[dy] at h
  subst h
  exact Rp _ _ hr
 | succ n ih=>
  intro v x u h hr
  cases v with
  | p y=>simp[dy] at h;subst h;exact Rp _ _ hr
  | ptr i off=>
   simp only[dy] at h
   split at h
   ·rename_i cs hc
    simp only[Zl] at h
    obtain⟨xs,h1,rfl⟩:=h
    obtain⟨b,hρ,hb,eK⟩:=uS hi ih hc h1
    obtain⟨b',xg,hu⟩:=hr
    rw[hρ] at xg
    cases xg
    exact⟨b,0,hb,by simpa using hu,eK⟩
   ·cases h
  | row i len=>
   simp only[dy] at h
   split at h
   ·rename_i cs hc
    simp only[Zl] at h
    obtain⟨xs,h1,rfl⟩:=h
    obtain⟨b,hρ,hb,eK⟩:=uS hi ih hc h1
    obtain⟨b',e,cap,xg,hu,_,hl⟩:=hr
    rw[hρ] at xg
    cases xg
    exact .inr ⟨b,0,cap,fun _=>hb,hl,hu,eK⟩
   ·cases h
  | sl i off len=>
   simp only[dy] at h
   split at h
   ·rename_i cs hc
    simp only[Zl] at h
    obtain⟨xs,h1,rfl⟩:=h
    obtain⟨b,hρ,hb,eK⟩:=uS hi ih hc h1
    obtain⟨b',cap,xg,hu,hl⟩:=hr
    rw[hρ] at xg
    cases xg
    refine .inr ⟨b,off,cap,fun _=>hb,hl,hu,?_⟩
    have:=eK.drop off
    simpa using this
   ·cases h
  | map i=>
   simp only[dy] at h
   split at h
   ·rename_i ks vs hH
    split at h
    ·rename_i xs ys h1 h2
     simp at h
     subst h
     obtain⟨b,hρ,hu⟩:=hr
     obtain⟨es,clock,k1,k2,k3,k4⟩:=hi.rel i b _ hρ hH
     exact⟨b,es,clock,Hz k1,hu,k1,fC ih ks xs _ h1 k2,fC ih vs ys _ h2 k3,k4⟩
    ·cases h
   ·cases h
  | func fn fi ca=>
   simp only[dy] at h
   split at h
   ·rename_i xs ys h1 h2
    simp at h
    subst h
    obtain⟨us,vs,hu,k1,k2⟩:=hr
    exact⟨us,vs,hu,fC ih fi xs _ h1 k1,fC ih ca ys _ h2 k2⟩
   ·cases h
  | iface t v=>
   simp only[dy,Zl] at h
   obtain⟨y,h1,rfl⟩:=h
   obtain⟨z,hu,k1⟩:=hr
   exact⟨z,hu,ih v y z h1 k1⟩
  | agg cs=>
   exact Dy
  | tuple cs=>
   exact Dy
  | opt g v=>simp[dy] at h
  | raw a n c=>simp[dy] at h
  | z0=>
   simp[dy] at h
   subst h
   obtain⟨a,hr⟩:=hr
   exact .inl ⟨⟨a,0,hr⟩,rfl⟩
  | top=>simp[dy] at h
mutual
def JJ:PV->Bool
 | .bool _ | .int _ _ | .str _ | .nilPtr | .nilSlice | .nilMap | .nilFunc | .nilIface=>true
 | .agg cs=>O0 cs
 | .tuple cs=>O0 cs
 | .iface _ v=>JJ v
 | .ip _ _ | .is _ _ | .im _ _ | .func _ _ _=>false
def O0:List PV->Bool
 | []=>true
 | x::xs=>JJ x&&O0 xs
end
mutual
theorem Rel.sc{w w':World}{I I':Nat->Prop}:∀(x:PV) (u:Value),JJ x=true->Rel w I x u->Rel w' I' x u
 | .bool _,_,_,h=>h
 | .int _ _,_,_,h=>h
 | .str _,_,_,h=>h
 | .nilPtr,_,_,h=>h
 | .nilSlice,_,_,h=>h
 | .nilMap,_,_,h=>h
 | .nilFunc,_,_,h=>h
 | .nilIface,_,_,h=>h
 | .agg cs,u,hs,h=>by
  exact DL
 | .tuple cs,u,hs,h=>by
  exact DL
 | .iface t v,u,hs,h=>by
  obtain⟨z,hu,h1⟩:=h
  exact⟨z,hu,Rel.sc v z (by simpa[JJ] using hs) h1⟩
 | .ip _ _,_,hs,_=>by simp[JJ] at hs
 | .is _ _,_,hs,_=>by simp[JJ] at hs
 | .im _ _,_,hs,_=>by simp[JJ] at hs
 | .func _ _ _,_,hs,_=>by simp[JJ] at hs
theorem aR.sc{w w':World}{I I':Nat->Prop}:∀(xs:List PV) (us:List Value),O0 xs=true->aR w I xs us->aR w' I' xs us
 | [],us,_,h=>h
 | x::xs,us,hs,h=>by
  simp only[O0,Zk] at hs
  obtain⟨u,us',hu,h1,h2⟩:=h
  exact⟨u,us',hu,Rel.sc x u hs.1 h1,aR.sc xs us' hs.2 h2⟩
end
theorem qM{w w':World}{I J:Nat->Prop}{ρ:List Nat}(hi:Inv P w I ρ H){σ:List Nat}(h3:Ext w (fun b=>b<w.heap.size) [] w' J σ):Ext w I [] w' I []:=
 ⟨⟨h3.w.os,h3.w.tape,h3.w.output,h3.w.size,h3.w.keep,h3.w.shape,fun _ h=>h,fun b h=>h3.w.keep b (hi.ib b h) (by simp),fun _ h=> .inl h,h3.w.cL,fun _ _ h=>h,fun b h=>by cases h⟩,ZI _⟩
theorem aa.yP(n:Nat){g:FuncId}{args:List PV}{r:PV}(hp:Pure P g args r)(hr:JJ r=true){f:Operand}{xs:Array Operand}{ts:Array TypeId}{fv:V}{vs all:List V}(ho:o.op= .call {callee:= .value f,args:=xs,argTypes:=ts})(hf:ev T f=some fv)
    (hxs:kR T xs.toList=some vs)(hc:callee vs fv=some (g,all))(hb:fN (dy H n) all=some args)(hg:ak P g=true):aa P N o T H (.p r) H:=by
 intro R w I ρ a hi hT K QX hK
 refine⟨bB,?_⟩
 rw[bD _ _ _ (by simp[ho])]
 obtain⟨us,h1,h2⟩:=dP ho hT hf hxs hc hg
 rw[h2]
 have h1':ag P w (fun b=>b<w.heap.size) [] (args.map .p) us:=ag.pure.2 (fC (qd hi n) all args us hb h1)
 have hi2:Inv P w (fun b=>b<w.heap.size) [] []:=⟨rfl,(fun _ _ _ h=>by simp at h),fun _ h=>h,(fun _ _ _ h=>by simp at h),(fun _ _ _ _ _ h=>by simp at h),(fun _ _ _ h=>by simp at h),hi.gl.mono hi.ib (fun _ _=>rfl)⟩
 refine⟨(fun h=>by cases h),?_⟩
 refine CallsIn.mono (cE R (hp w _ [] us hi2 h1')) ?_
 rintro e w' ⟨u,v,J,σ,H',rfl,⟨rfl,rfl⟩,h3,h4,h5⟩
 have he:=qM hi h3
 have Aw:Inv P w' I [] []:=⟨rfl,(fun _ _ _ h=>by simp at h),fun b h=>ZR (hi.ib b h) h3.w.size,(fun _ _ _ h=>by simp at h),(fun _ _ _ _ _ h=>by simp at h),(fun _ _ _ h=>by simp at h),hi.gl.mono (fun _ h=>h) he.w.bf⟩
 obtain⟨h6,h7⟩:=Inv.frame hi he Aw
 exact hK u w' I ρ h6 h7 (Rel.sc r u hr h5)
theorem aa.Pj(n:Nat){g:FuncId}{args cs:List PV}{len:Nat}{e:TypeId}(hp:ax P g (args.map .p) [] fun v H'=>v= .row 0 len∧H'=[.row (cs.map .p) e])(hr:O0 cs=true){f:Operand}{xs:Array Operand}{ts:Array TypeId}{fv:V}{vs all:List V}(ho:o.op= .call {callee:= .value f,args:=xs,argTypes:=ts})(hf:ev T f=some fv)
    (hxs:kR T xs.toList=some vs)(hc:callee vs fv=some (g,all))(hb:fN (dy H n) all=some args)(hg:ak P g=true):aa P N o T H (.row H.length len) (H++[.row (cs.map .p) e]):=by
 intro R w I ρ a hi hT K QX hK
 refine⟨bB,?_⟩
 rw[bD _ _ _ (by simp[ho])]
 obtain⟨us,h1,h2⟩:=dP ho hT hf hxs hc hg
 rw[h2]
 have h1':ag P w (fun b=>b<w.heap.size) [] (args.map .p) us:=ag.pure.2 (fC (qd hi n) all args us hb h1)
 have hi2:Inv P w (fun b=>b<w.heap.size) [] []:=⟨rfl,(fun _ _ _ h=>by simp at h),fun _ h=>h,(fun _ _ _ h=>by simp at h),(fun _ _ _ _ _ h=>by simp at h),(fun _ _ _ h=>by simp at h),hi.gl.mono hi.ib (fun _ _=>rfl)⟩
 refine⟨(fun h=>by cases h),?_⟩
 refine CallsIn.mono (cE R (hp w _ [] us hi2 h1')) ?_
 rintro e' w' ⟨u,v,J,σ,H',rfl,⟨rfl,rfl⟩,h3,h4,h5⟩
 obtain⟨b,e2,cap,hσ,hu,hsh,hl⟩:=h5
 have hσ1:σ=[b]:=by
  have:=h4.len
  match σ,this,hσ with
  | [x],_,h=>simp at h;rw[h]
 subst hσ1
 -- the new block is new
 have hnew:w.heap.size<=b:=by
  rcases h3.w.new b (by simp) with h | h
  ·cases h
  ·exact h
 have he:=qM hi h3
 have Aw:Inv P w' I [] []:=⟨rfl,(fun _ _ _ h=>by simp at h),fun b h=>ZR (hi.ib b h) h3.w.size,(fun _ _ _ h=>by simp at h),(fun _ _ _ _ _ h=>by simp at h),(fun _ _ _ h=>by simp at h),hi.gl.mono (fun _ h=>h) he.w.bf⟩
 obtain⟨h6,h7⟩:=Inv.frame hi he Aw
 have gZ:b<w'.heap.size:=h4.gf 0 b _ rfl rfl rfl
 have hE:Ext w I ρ w' I (ρ++[b]):=⟨⟨h6.w.os,h6.w.tape,h6.w.output,h6.w.size,h6.w.keep,h6.w.shape,h6.w.lu,h6.w.bf,h6.w.ew,h6.w.cL,h6.w.j9,fun x hx=>by
  rcases Zp.1 hx with h | h
  ·exact .inl h
  ·simp at h;subst h;exact .inr hnew⟩,⟨_,rfl⟩⟩
 have rb:cN P w' I (ρ++[b]) (.row (cs.map .p) e) b:=by
  obtain⟨arr,k1,k2,k3⟩:=h4.rel 0 b _ rfl rfl
  exact⟨arr,k1,k2,ag.pure.2 (aR.sc cs _ hr (ag.pure.1 k3))⟩
 have old:∀(j k:Nat) (blk:ai),(ρ++[b])[j]? =some k->(H++[ai.row (cs.map .p) e])[j]? =some blk->(j<H.length∧ρ[j]? =some k∧H[j]? =some blk)∨(j=H.length∧k=b∧blk= .row (cs.map .p) e):=fun j k blk h1 h2=>by
  rcases br h2 with⟨g1,g2⟩ | ⟨g1,g2⟩
  ·rw[Zc (by rw[hi.len];exact g1)] at h1
   exact .inl ⟨g1,h1,g2⟩
  ·rw[Zi (by rw[hi.len];omega)] at h1
   rw[hi.len,g1] at h1
   simp at h1
   exact .inr ⟨g1,h1.symm,g2⟩
 have UM:Inv P w' I (ρ++[b]) (H++[.row (cs.map .p) e]):=by
  refine⟨by simp[hi.len],fun j k blk g1 g2 g3=> ?_,h7.ib,fun j k blk g1 g2 g3=> ?_,fun j j' k x y g1 g2 g3 g4 g5 g6=> ?_,fun j k blk g1 g2=> ?_,h7.gl⟩
  ·rcases old j k blk g1 g2 with⟨_,a1,a2⟩ | ⟨_,rfl,_⟩
   ·exact h7.gf j k blk a1 a2 g3
   ·exact gZ
  ·rcases old j k blk g1 g2 with⟨_,a1,a2⟩ | ⟨_,rfl,_⟩
   ·exact h7.live j k blk a1 a2 g3
   ·intro h;have:=hi.ib _ h;omega
  ·rcases old j k x g1 g3 with⟨_,a1,a2⟩ | ⟨a0,rfl,_⟩ <;> rcases old j' k y g2 g4 with⟨_,b1,b2⟩ | ⟨b0,b1,_⟩
   ·exact h7.fK j j' k x y a1 b1 a2 b2 g5 g6
   ·subst b1;have:=hi.gf j _ x a1 a2 g5;omega
   ·have:=hi.gf j' _ y b1 b2 g6;omega
   ·omega
  ·rcases old j k blk g1 g2 with⟨_,a1,a2⟩ | ⟨_,rfl,rfl⟩
   ·cases hlv:blk.live with
    | false=>exact cN.gh hlv
    | true=>exact cN.mono h6.w.lu h6.w.bf (U3 ρ [b]) (fun b _ s hs=>h6.w.shape b s hs) (he.w.keep k (hi.gf j k blk a1 a2 hlv) (by simp)) (hi.rel j k blk a1 a2)
   ·exact rb
 exact hK u w' I (ρ++[b]) hE UM ⟨b,e2,cap,by rw[Zi (by rw[hi.len];exact Ze _)];simp[hi.len],hu,hsh,hl⟩
end
section
variable {P:Program} {R:Option Nat} {N κ:Nat} {Q:Post} {T:Tm} {H:List ai}
theorem gz{b:Frame}{a:Act}{k:List Item}{cs:List Frame}{w:World}{c:Code}:step P (lone (b.atR a (.code (.scope c)::k)) cs w)= .next (lone (b.atR a (.code c:: .inScope c::k)) cs w):=
 step_lone_go (by simp[stepG,stepG.exec,Frame.atR])
theorem xz{b:Frame}{a:Act}{k:List Item}{cs:List Frame}{w:World}{c:Code}:step P (lone (b.atR a (.inScope c::k)) cs w)= .next (lone (b.atR a k) cs w):=
 step_lone_go (by simp[stepG,stepG.exec,Frame.atR])
theorem aI.label{l:Nat}(h:Q .normal T H):aI P R N κ (.label l) Q T H:=
 fun B w I ρ a hi ht hm=>wpIn_label ⟨.normal,I,ρ,T,H,trivial,h,cy.refl _ _ _,hi,ht,hm⟩
theorem aI.scope{c:Code}(h:aI P R N κ c Q T H):aI P R N κ (.scope c) Q T H:=by
 intro B w I ρ a hi ht hm b k cs hro hb hr
 have h0:(lone (b.atR a (.code (.scope c)::k)) cs w).fenced P (Fr R):=fenced_calm hb hr rfl
 obtain⟨e,a₁,w₁,hq,xx⟩:=h B w I ρ a hi ht hm b (.inScope c::k) cs hro hb hr
 cases e with
 | normal=>exact⟨.normal,a₁,w₁,hq,.head h0 gz (StepsIn.trans xx (.one (fenced_calm hb hr rfl) xz))⟩
 | exit id=>exact⟨.exit id,a₁,w₁,hq,fun k' hk=> .head h0 gz (xx.1 k' (by simp[exitTo,hk])),fun hr' hk=>let ⟨k₁,h1,h2⟩:=xx.2 hr' (by simp[exitTo,hk]);⟨k₁,h1,.head h0 gz h2⟩⟩
 | goto l=>
  obtain⟨x,_,_,_,_,h1,_⟩:=hq
  cases x <;> exact h1.elim
 | ret=>exact⟨_,a₁,w₁,hq,.of_steps (.one h0 gz) xx⟩
 | panic ch=>exact⟨_,a₁,w₁,hq,.of_steps (.one h0 gz) xx⟩
 | outgrown=>exact⟨_,a₁,w₁,hq,.of_steps (.one h0 gz) xx⟩
end
def sg(n0:Nat)(ms:List Nat)(i:Nat):Option Nat:=bif Nat.blt i n0||ms.elem i then some i else none
def sw(k n:Nat)(i:Nat):Option Nat:=bif Nat.beq i n then some k else bif Nat.beq i k then none else some i
def mask(g:Nat->ai)(S:List Nat):Nat->List ai->List ai
 | _,[]=>[]
 | i,x::H=>(bif S.elem i then g i else x)::mask g S (i+1) H
def lN(S us:List Nat):List Nat:=S.filter fun i=> !us.elem i
def uy(us L:List Nat):List Nat:=us.filter fun i=>L.elem i
def dF:Nat->List ai
 | 0=>[]
 | r+1=> .dead::dF r
def app:List (Nat×ai)->List ai->List ai
 | [],H=>H
 | (k,b)::w,H=>app w (H.set k b)
theorem qi(g:Nat->ai)(S:List Nat):∀(H:List ai) (i k:Nat),(mask g S i H)[k]? =if S.elem (i+k) then(H[k]?).map (fun _=>g (i+k)) else H[k]?
 | [],i,k=>by simp[mask]
 | x::H,i,0=>by
  simp only[mask,List.getElem?_cons_zero,Kk,Q4]
  cases S.elem i <;> rfl
 | x::H,i,k+1=>by
  simp only[mask,List.getElem?_cons_succ]
  rw[qi g S H (i+1) k,show i+1+k=i+(k+1) by omega]
theorem De(g:Nat->ai)(S:List Nat):∀(H:List ai) (i:Nat),(mask g S i H).length=H.length
 | [],i=>rfl
 | x::H,i=>by simp[mask,De g S H (i+1)]
theorem zo:∀(w:List (Nat×ai)) (H:List ai),(app w H).length=H.length
 | [],H=>rfl
 | (k,b)::w,H=>by simp[app,zo w]
theorem zE{k:Nat}:∀{w:List (Nat×ai)} {H:List ai},(∀ b,(k,b)∉w)->(app w H)[k]? =H[k]?
 | [],H,h=>rfl
 | (j,b)::w,H,h=>by
  have:j≠k:=fun e=>h b (by rw[e];simp)
  simp only[app]
  rw[zE (fun c hc=>h c (by simp[hc])),Zu,if_neg this]
theorem yX{k:Nat}:∀{w:List (Nat×ai)} {H H':List ai},H.length=H'.length->H[k]? =H'[k]? ->(app w H)[k]? =(app w H')[k]?
 | [],H,H',hl,h=>h
 | (j,b)::w,H,H',hl,h=>by
  simp only[app]
  exact yX (by simp[hl]) (by simp only[Zu,hl,h])
theorem GF{j:Nat}{b:ai}:∀{w:List (Nat×ai)} {H:List ai},(∀ c,(j,c)∉w)->app w (H.set j b)=(app w H).set j b
 | [],H,h=>rfl
 | (k,c)::w,H,h=>by
  have hne:j≠k:=fun e=>h c (by rw[e];simp)
  simp only[app]
  rw[<- GF (fun d hd=>h d (by simp[hd])),List.set_comm _ _ hne]
theorem DK:∀{w1 w2:List (Nat×ai)} {H:List ai},(∀ k b1 b2,(k,b1)∈w1->(k,b2)∉w2)->app w1 (app w2 H)=app w2 (app w1 H)
 | [],w2,H,h=>rfl
 | (j,b)::w1,w2,H,h=>by
  simp only[app]
  rw[<- GF (fun c hc=>h j b c (by simp) hc)]
  exact DK fun k b1 b2 h1 h2=>h k b1 b2 (by simp[h1]) h2
theorem Im:∀(w1 w2:List (Nat×ai)) (H:List ai),app (w1++w2) H=app w2 (app w1 H)
 | [],w2,H=>rfl
 | (j,b)::w1,w2,H=>by simp only[NF,app];exact Im w1 w2 _
theorem zS:∀{w:List (Nat×ai)} {H:List ai} {x:ai},x∈app w H->x∈H∨∃ k,(k,x)∈w
 | [],H,x,h=> .inl h
 | (j,b)::w,H,x,h=>by
  rcases zS (w:=w) h with h1 | ⟨k,h1⟩
  ·rcases List.mem_or_eq_of_mem_set h1 with h2 | rfl
   ·exact .inl h2
   ·exact .inr ⟨j,by simp⟩
  ·exact .inr ⟨k,by simp[h1]⟩
def HH(fU:Nat->List (Nat×ai))(f:Nat->Bool)(H0:List ai):Nat->List ai
 | 0=>H0
 | j+1=>bif f j then app (fU j) (HH fU f H0 j) else HH fU f H0 j
section
variable {fU:Nat->List (Nat×ai)} {f g:Nat->Bool} {H0:List ai}
theorem vG:∀ m,(HH fU f H0 m).length=H0.length
 | 0=>rfl
 | m+1=>by
  simp only[HH]
  cases f m
  ·exact vG m
  ·exact(zo _ _).trans (vG m)
theorem Ms{k i m:Nat}(h1:∀ j,j<m->j<i->(∃ b,(k,b)∈fU j)->f j=true)(h2:∀ j,j<m->i<=j->(∃ b,(k,b)∈fU j)->f j=false):
    ∀ n,n<=m->(HH fU f H0 n)[k]? =(HH fU (fun _=>true) H0 (min n i))[k]?
 | 0,_=>by simp[HH]
 | n+1,hn=>by
  have ih:=Ms (i:=i) h1 h2 n (by omega)
  by_cases hw:∃ b,(k,b)∈fU n
  ·by_cases hi:n<i
   ·rw[show min (n+1) i=n+1 by omega]
    rw[show min n i=n by omega] at ih
    simp only[HH,h1 n (by omega) hi hw,cond_true]
    exact yX (by rw[vG,vG]) ih
   ·rw[show min (n+1) i=min n i by omega]
    simp only[HH,h2 n (by omega) (by omega) hw,cond_false]
    exact ih
  ·have hne:∀ b,(k,b)∉fU n:=fun b e=>hw ⟨b,e⟩
   have e1:(HH fU f H0 (n+1))[k]? =(HH fU f H0 n)[k]? :=by
    simp only[HH]
    cases f n
    ·rfl
    ·exact zE hne
   rw[e1,ih]
   by_cases hi:n<i
   ·rw[show min (n+1) i=n+1 by omega,show min n i=n by omega]
    simp only[HH,cond_true]
    exact(zE hne).symm
   ·rw[show min (n+1) i=min n i by omega]
theorem GS{m:Nat}(h:∀ j,j<m->f j=g j):∀ n,n<=m->HH fU f H0 n=HH fU g H0 n
 | 0,_=>rfl
 | n+1,hn=>by
  simp only[HH,h n (by omega),GS h n (by omega)]
theorem Nw{i m:Nat}(hi:i<m)(hf:f i=false)(hg:∀ j,g j=(decide (j=i)||f j))(hc:∀ j,i<j->j<m->f j=true->∀ k b1 b2,(k,b1)∈fU j->(k,b2)∉fU i):
    ∀ n,n<=m->HH fU g H0 n=if i<n then app (fU i) (HH fU f H0 n) else HH fU f H0 n
 | 0,_=>by simp[HH]
 | n+1,hn=>by
  have ih:=Nw hi hf hg hc n (by omega)
  by_cases h:n=i
  ·subst h
   rw[if_neg (by omega)] at ih
   rw[if_pos (by omega)]
   simp only[HH,hg n,hf,decide_true,Bool.true_or,cond_true,cond_false,ih]
  ·by_cases hlt:i<n
   ·rw[if_pos hlt] at ih
    rw[if_pos (by omega)]
    have e:g n=f n:=by rw[hg];simp[h]
    simp only[HH,e,ih]
    cases hfn:f n with
    | false=>rfl
    | true=>
     simp only[cond_true]
     exact DK (hc n hlt (by omega) hfn)
   ·rw[if_neg hlt] at ih
    rw[if_neg (by omega)]
    have e:g n=f n:=by rw[hg];simp[h]
    simp only[HH,e,ih]
end
def Yu(P:Program)(N:Nat)(ops:Array Oper)(S:List Nat)(n0:Nat)(o:Oper)(us:List Nat)(wr:Bool)(L L':List Nat)(T:Tm)(H:List ai)(v:V)(w:List (Nat×ai)):Prop:=
 (wr=false∧w=[]∧L'=L∧aW (sg n0 (uy us L)) v=v∧∀ g,YJ P N ops o T (mask g (lN S us) 0 H) v)∨
 (wr=true∧o.guard=none∧L'=L∧aW (sg n0 (uy us L)) v=v∧∃ k blk,w=[(k,blk)]∧k∈us∧k∈S∧aD (sg n0 (uy us L)) blk=blk∧∀ g,aa P N o (bE ops o T) (mask g (lN S us) 0 H) v (mask g (lN S us) 0 (H.set k blk)))∨
 (wr=true∧o.guard=none∧∃ k blk v0 w1,w=w1++[(k,blk)]∧(∀ p∈w1,p.1∈us∧p.1∈S∧aD (sg n0 []) p.2=p.2)∧L'=k::L∧k∈us∧k∈S∧n0<=k∧k∉L∧aD (sg n0 []) blk=blk∧v=aW (sw k H.length) v0∧aW (sg n0 [k]) v=v∧k<H.length∧
  ∀ g,aa P N o (bE ops o T) (mask g (lN S us) 0 H) v0 (mask g (lN S us) 0 (app w1 H)++[blk]))
def bu(P:Program)(N:Nat)(ops:Array Oper)(S:List Nat)(n0:Nat)(K:Tm->List ai->Prop):List Nat->List (List Nat×Bool)->List Oper->Tm->List ai->Prop
 | _,_,[],T,H=>K T H
 | L,D,o::rest,T,H=>∃ v w L',aZ N o.dst=true∧Yu P N ops S n0 o (D.headD ([],false)).1 (D.headD ([],false)).2 L L' T H v w∧bu P N ops S n0 K L' (D.drop 1) rest (fF T o.dst v) (app w H)
section
variable {P:Program} {R:Option Nat} {N κ:Nat} {Q:Post} {T:Tm} {H:List ai} {o:Oper} {ops:Array Oper} {K:Tm->List ai->Prop} {rest:List Oper} {S L us:List Nat} {n0:Nat} {D:List (List Nat×Bool)}
theorem bu.nil(h:K T H):bu P N ops S n0 K L D [] T H:=h
theorem bu.cons(d:Nat){v:V}(hd:o.dst=some d)(hdN:aZ N (some d)=true)(hg:o.guard=none)(hop:∀ g,aa P N o (bE ops o T) (mask g (lN S us) 0 H) v (mask g (lN S us) 0 H))(hv:aW (sg n0 (uy us L)) v=v)
    (next:bu P N ops S n0 K L D rest ((d,v)::T) H):bu P N ops S n0 K L ((us,false)::D) (o::rest) T H:=
 ⟨v,[],L,by rw[hd];exact hdN,.inl ⟨rfl,rfl,rfl,hv,fun g=> .inl ⟨hg,hop g⟩⟩,by rw[hd];exact next⟩
theorem bu.put(k:Nat){blk:ai}{v:V}(hd:o.dst=none)(hg:o.guard=none)(hk:us.elem k=true)(hS:S.elem k=true)(hop:∀ g,aa P N o (bE ops o T) (mask g (lN S us) 0 H) v (mask g (lN S us) 0 (H.set k blk)))(hv:aW (sg n0 (uy us L)) v=v)(hb:aD (sg n0 (uy us L)) blk=blk)
    (next:bu P N ops S n0 K L D rest T (H.set k blk)):bu P N ops S n0 K L ((us,true)::D) (o::rest) T H:=
 ⟨v,[(k,blk)],L,by rw[hd];rfl,.inr (.inl ⟨rfl,hg,rfl,hv,k,blk,rfl,by simpa using hk,by simpa using hS,hb,hop⟩),by rw[hd];exact next⟩
theorem bu.lay(d k:Nat){blk:ai}{v v0:V}(hd:o.dst=some d)(hdN:aZ N (some d)=true)(hg:o.guard=none)(hS:S.elem k=true)(hk:Nat.ble n0 k=true)(hL:L.elem k=false)(tL:Nat.blt k H.length=true)(VF:us.elem k=true)(hop:∀ g,aa P N o (bE ops o T) (mask g (lN S us) 0 H) v0 (mask g (lN S us) 0 H++[blk]))
    (It:aW (sw k H.length) v0=v)(hv:aW (sg n0 [k]) v=v)(hb:aD (sg n0 []) blk=blk)
    (next:bu P N ops S n0 K (k::L) D rest ((d,v)::T) (H.set k blk)):bu P N ops S n0 K L ((us,true)::D) (o::rest) T H:=
 ⟨v,[(k,blk)],k::L,by rw[hd];exact hdN,.inr (.inr ⟨rfl,hg,k,blk,v0,[],rfl,(fun _ h=>by cases h),rfl,by simpa using VF,by simpa using hS,by simpa using hk,(fun h=>by rw[show L.elem k=true by simpa using h] at hL;cases hL),hb,It.symm,hv,by simpa[Nat.blt,Zw] using tL,hop⟩),by rw[hd];exact next⟩
theorem bu.Nf(d k k1:Nat){blk:ai}{v v0:V}(hd:o.dst=some d)(hdN:aZ N (some d)=true)(hg:o.guard=none)(hS:S.elem k=true)(YD:S.elem k1=true)(hk:Nat.ble n0 k=true)(hL:L.elem k=false)(tL:Nat.blt k H.length=true)(VF:us.elem k=true)(aao:us.elem k1=true)(hop:∀ g,aa P N o (bE ops o T) (mask g (lN S us) 0 H) v0 (mask g (lN S us) 0 (H.set k1 .dead)++[blk]))
    (It:aW (sw k H.length) v0=v)(hv:aW (sg n0 [k]) v=v)(hb:aD (sg n0 []) blk=blk)
    (next:bu P N ops S n0 K (k::L) D rest ((d,v)::T) ((H.set k1 .dead).set k blk)):bu P N ops S n0 K L ((us,true)::D) (o::rest) T H:=
 ⟨v,[(k1,.dead),(k,blk)],k::L,by rw[hd];exact hdN,.inr (.inr ⟨rfl,hg,k,blk,v0,[(k1,.dead)],rfl,(fun p hp=>by simp at hp;subst hp;exact⟨by simpa using aao,by simpa using YD,rfl⟩),rfl,by simpa using VF,by simpa using hS,by simpa using hk,(fun h=>by rw[show L.elem k=true by simpa using h] at hL;cases hL),hb,It.symm,hv,by simpa[Nat.blt,Zw] using tL,hop⟩),by rw[hd];exact next⟩
section
variable {m:Nat} {l:List Oper} {vs:Nat->V}
theorem bu.vals{ops:Array Oper}:∀{l':List Oper} {L:List Nat} {D:List (List Nat×Bool)} {T:Tm} {H:List ai},bu P N ops S n0 K L D l' T H->∃(vs:Nat->V) (Tx:Nat->Tm) (Hx:Nat->List ai) (fU:Nat->List (Nat×ai)) (Ls:Nat->List Nat),Tx 0=T∧Hx 0=H∧Ls 0=L∧
    (∀ i o,l'[i]? =some o->aZ N o.dst=true∧Yu P N ops S n0 o (D.getD i ([],false)).1 (D.getD i ([],false)).2 (Ls i) (Ls (i+1)) (Tx i) (Hx i) (vs i) (fU i)∧Tx (i+1)=fF (Tx i) o.dst (vs i)∧Hx (i+1)=app (fU i) (Hx i))∧K (Tx l'.length) (Hx l'.length)
 | [],L,D,T,H,h=>⟨fun _=> .top,fun _=>T,fun _=>H,fun _=>[],fun _=>L,rfl,rfl,rfl,fun i o ho=>by simp at ho,by unfold bu at h;exact h⟩
 | o::l',L,D,T,H,h=>by
  obtain⟨v,w,L',hd,hst,hn⟩:=h
  obtain⟨vs,Tx,Hx,fU,Ls,h0,h0',Mm,h1,h2⟩:=bu.vals hn
  refine⟨fun i=>match i with | 0=>v | i+1=>vs i,fun i=>match i with | 0=>T | i+1=>Tx i,fun i=>match i with | 0=>H | i+1=>Hx i,fun i=>match i with | 0=>w | i+1=>fU i,fun i=>match i with | 0=>L | i+1=>Ls i,rfl,rfl,rfl,fun i x hx=> ?_,h2⟩
  cases i with
  | zero=>
   simp at hx;subst hx
   refine⟨hd,?_,h0,h0'⟩
   have e:D.getD 0 ([],false)=D.headD ([],false):=by cases D <;> rfl
   rw[e]
   show Yu P N ops S n0 o _ _ L (Ls 0) T H v w
   rw[Mm];exact hst
  | succ i=>
   simp at hx
   obtain⟨k1,k2,k3⟩:=h1 i x hx
   refine⟨k1,?_,k3⟩
   have e:D.getD (i+1) ([],false)=(D.drop 1).getD i ([],false):=by
    simp[Zf,Nat.add_comm]
   rw[e];exact k2
def GI(m:Nat)(l:List Oper)(D:List (List Nat×Bool)):Bool:=
 let t:=vL [] l
 (List.range m).all fun j=>(List.range j).all fun i=> !(((D.getD i ([],false)).2||(D.getD j ([],false)).2)&&(D.getD i ([],false)).1.any fun k=>(D.getD j ([],false)).1.elem k)||(t.getD j 0).testBit i
theorem vV{D:List (List Nat×Bool)}(h:GI m l D=true)(f:Nat->Bool)(hc:∀ i o,l[i]? =some o->f i=true->∀ e∈o.after,Region.binds .any e=true->f e.on=true){i j k:Nat}(hij:i<j)(hj:j<m)
    (hw:(D.getD i ([],false)).2=true∨(D.getD j ([],false)).2=true)(hi:k∈(D.getD i ([],false)).1)(hk:k∈(D.getD j ([],false)).1)(hf:f j=true):f i=true:=by
 simp only[GI] at h
 have:=Zz.1 (Zz.1 h j (xe.2 hj)) i (xe.2 hij)
 have h1:((D.getD i ([],false)).2||(D.getD j ([],false)).2)=true:=by simpa using hw
 have h2:((D.getD i ([],false)).1.any fun k=>(D.getD j ([],false)).1.elem k)=true:=List.any_eq_true.2 ⟨k,hi,by simpa using hk⟩
 rw[h1,h2] at this
 exact mG f l [] [] rfl (by simpa using hc) (fun i x h=>by simp at h) j i (by simpa using this) hf
theorem Bq{g:Nat->ai}{S:List Nat}{H:List ai}{k:Nat}{b:ai}(h:k∉S):mask g S 0 (H.set k b)=(mask g S 0 H).set k b:=by
 apply Gg
 intro j
 rw[Zu (l:=mask g S 0 H),qi,qi,Zu,De,yy]
 by_cases hj:k=j
 ·subst hj
  simp[h]
 ·simp[hj]
theorem wX{S us:List Nat}{k:Nat}:k∈lN S us↔k∈S∧k∉us:=by simp[lN]
theorem WQ{n0:Nat}{ms:List Nat}{i j:Nat}(h:sg n0 ms i=some j):j=i∧(i<n0∨i∈ms):=by
 unfold sg at h
 cases hb:(Nat.blt i n0||ms.elem i) with
 | false=>rw[hb] at h;cases h
 | true=>
  rw[hb] at h
  cases h
  refine⟨rfl,?_⟩
  simp only[NC] at hb
  rcases hb with hb | hb
  ·exact .inl (by simpa[Nat.blt,Zw] using hb)
  ·exact .inr (by simpa using hb)
def SIG(κ:Nat)(P:Program)(N:Nat)(H:List ai)(n0:Nat)(fU:Nat->List (Nat×ai))(m:Nat)(l:List Oper)(T:Tm)(vs:Nat->V)(B:mo)(w0:World)(I0:Nat->Prop)(ρ0:List Nat)(f:Nat->Bool)(a:Act)(w:World):Prop:=
 ∃ I ρ,cy w0 I0 ρ0 w I ρ∧Inv P w I ρ (HH fU f H m)∧a.tmps.size=N∧(∀ s v,tl l T vs f s=some v->az P w I ρ v (a.tmps.getD s undef))∧
  (∀ s v,lk T s=some v->(∀ j o,l[j]? =some o->f j=true->o.dst≠some s)->az P w I (ρ.take n0) v (a.tmps.getD s undef))∧Marks κ B w I ρ a.defers
theorem E0(hk:ff m l)(hm:m<=l.length){D:List (List Nat×Bool)}(hD:GI m l D=true){B:mo}{w0:World}{I0:Nat->Prop}{ρ0:List Nat}{QX:Exit->Act->World->Prop}{Tx:Nat->Tm}{Hx:Nat->List ai}{fU:Nat->List (Nat×ai)}{Ls:Nat->List Nat}
    (h0:Tx 0=T)(h0':Hx 0=H)(Mm:Ls 0=[])(hn0:n0<=H.length)(hH:∀ x∈H,aD (sg n0 []) x=x)(hB:B.pre.length<=n0)
    (h1:∀ i o,i<m->l[i]? =some o->aZ N o.dst=true∧Yu P N l.toArray S n0 o (D.getD i ([],false)).1 (D.getD i ([],false)).2 (Ls i) (Ls (i+1)) (Tx i) (Hx i) (vs i) (fU i)∧Tx (i+1)=fF (Tx i) o.dst (vs i)∧Hx (i+1)=app (fU i) (Hx i))
    (hK:∀ a w I ρ,cy w0 I0 ρ0 w I ρ->Inv P w I ρ (Hx m)->bn P w I ρ N (Tx m) a.tmps->Marks κ B w I ρ a.defers->wpListIn (Fr R) 0 P l.toArray QX (l.drop m) a w):
    ∀(fuel:Nat) (listed:Array Bool) (a:Act) (w:World),listed.toList.count false=fuel->listed.size=l.length->(∀ i o,l[i]? =some o->fl listed i=true->∀ e∈o.after,Region.binds .any e=true->fl listed e.on=true)->(∀ i,m<=i->fl listed i=false)->
    SIG κ P N H n0 fU m l T vs B w0 I0 ρ0 (fl listed) a w->wpAnyIn (Fr R) 0 P .any l.toArray QX fuel listed a w:=by
 intro fuel
 have hlk:=ux (vs:=vs) hk hm h0 (fun i o hi ho=>(h1 i o hi ho).2.2.1)
 have oC:∀ i,i<m->∃ o,l[i]? =some o:=fun i hi=>⟨l[i]'(by omega),Zb _⟩
 have Wx:∀ i,i<=m->Hx i=HH fU (fun _=>true) H i:=by
  intro i
  induction i with
  | zero=>intro _;exact h0'
  | succ i ih=>
   intro hi
   obtain⟨o,ho⟩:=oC i (by omega)
   rw[(h1 i o (by omega) ho).2.2.2,ih (by omega)]
   rfl
 have Oi:∀ i k b,i<m->(k,b)∈fU i->k∈(D.getD i ([],false)).1∧(D.getD i ([],false)).2=true∧k∈S∧∃ ms:List Nat,aD (sg n0 ms) b=b∧∀ x∈ms,x∈(D.getD i ([],false)).1∧x∈Ls i:=by
  intro i k b hi hw
  obtain⟨o,ho⟩:=oC i hi
  obtain⟨_,hst,_⟩:=h1 i o hi ho
  rcases hst with⟨_,h2,_⟩ | ⟨h2,_,_,_,k',blk,h3,h4,h5,h6,_⟩ | ⟨h2,_,k',blk,v0,w1,h3,hw1,_,h4,h5,_,_,h6,_⟩
  ·rw[h2] at hw;cases hw
  ·rw[h3] at hw;simp at hw;obtain⟨rfl,rfl⟩:=hw;exact⟨h4,h2,h5,_,h6,fun x hx=>by simpa[uy] using hx⟩
  ·rw[h3] at hw
   rcases Zp.1 hw with h7 | h7
   ·obtain⟨h8,h9,h10⟩:=hw1 _ h7;exact⟨h8,h2,h9,[],h10,fun x hx=>by cases hx⟩
   ·simp at h7;obtain⟨rfl,rfl⟩:=h7;exact⟨h4,h2,h5,[],h6,fun x hx=>by cases hx⟩
 have LO:∀ i,i<m->Ls (i+1)=Ls i∨∃ k,Ls (i+1)=k::Ls i∧k∉Ls i∧k∈(D.getD i ([],false)).1∧(D.getD i ([],false)).2=true:=by
  intro i hi
  obtain⟨o,ho⟩:=oC i hi
  obtain⟨_,hst,_⟩:=h1 i o hi ho
  rcases hst with⟨_,_,h2,_⟩ | ⟨_,_,h2,_⟩ | ⟨h2,_,k,blk,v0,_,_,_,h3,h4,_,_,h5,_⟩
  ·exact .inl h2
  ·exact .inl h2
  ·exact .inr ⟨k,h3,h5,h4,h2⟩
 have NH:∀ i j k,i<=j->j<=m->k∈Ls i->k∈Ls j:=by
  intro i j k hij
  induction j with
  | zero=>intro _ hki;obtain rfl:i=0:=by omega
          exact hki
  | succ j ih=>
   intro hj hki
   by_cases e:i=j+1
   ·subst e;exact hki
   ·have:=ih (by omega) (by omega) hki
    rcases LO j (by omega) with h | ⟨k',h,_⟩
    ·rw[h];exact this
    ·rw[h];exact Zg _ this
 have Vr:∀ j k,j<=m->k∈Ls j->∃ i,i<j∧k∈(D.getD i ([],false)).1∧(D.getD i ([],false)).2=true∧k∉Ls i∧k∈Ls (i+1):=by
  intro j
  induction j with
  | zero=>intro k _ h;rw[Mm] at h;cases h
  | succ j ih=>
   intro k hj h
   rcases LO j (by omega) with h2 | ⟨k',h2,h3,h4,h5⟩
   ·rw[h2] at h
    obtain⟨i,hi,h6⟩:=ih k (by omega) h
    exact⟨i,by omega,h6⟩
   ·rw[h2] at h
    rcases Zr.1 h with rfl | h
    ·exact⟨j,by omega,h4,h5,h3,by rw[h2];simp⟩
    ·obtain⟨i,hi,h6⟩:=ih k (by omega) h
     exact⟨i,by omega,h6⟩
 have hlen:∀ f n,(HH fU f H n).length=H.length:=fun f n=>vG n
 have aad:∀ f n,n<=m->∀ x∈HH fU f H n,∃ ms:List Nat,aD (sg n0 ms) x=x∧∀ y∈ms,∃ j,j<m∧f j=true∧y∈(D.getD j ([],false)).1∧y∈Ls j:=by
  intro f n
  induction n with
  | zero=>intro _ x hx;exact⟨[],hH x hx,fun y hy=>by cases hy⟩
  | succ n ih=>
   intro hn x hx
   simp only[HH] at hx
   cases hf:f n with
   | false=>rw[hf] at hx;exact ih (by omega) x hx
   | true=>
    rw[hf] at hx
    simp only[cond_true] at hx
    rcases zS hx with h | ⟨k,h⟩
    ·exact ih (by omega) x h
    ·obtain⟨_,_,_,ms,h2,h3⟩:=Oi n k x (by omega) h
     exact⟨ms,h2,fun y hy=>⟨n,by omega,hf,h3 y hy⟩⟩
 have done:∀(fuel:Nat) (listed:Array Bool) (a:Act) (w:World),listed.toList.count false=fuel->listed.size=l.length->(∀ i,m<=i->fl listed i=false)->(∀ i,i<m->fl listed i=true)->SIG κ P N H n0 fU m l T vs B w0 I0 ρ0 (fl listed) a w->wpAnyIn (Fr R) 0 P .any l.toArray QX fuel listed a w:=by
  intro fuel listed a w mE hsz xD hall hsi
  obtain⟨I,ρ,he,hi,hs,cu,_,hmk⟩:=hsi
  rw[GS (g:=fun _=>true) (fun j hj=>hall j hj) m (Ze _),<- Wx m (Ze _)] at hi
  exact qC
 induction fuel with
 | zero=>
  exact ng
 | succ fuel ih=>
  intro listed a w mE hsz hcl xD hsi
  by_cases hall:∀ i,i<m->fl listed i=true
  ·exact mJ
  ·obtain⟨i0,vB,hmin⟩:∃ i0,(i0<m∧fl listed i0=false)∧∀ j,j<i0->fl listed j=true:=by
     exact mW
   have Ks:l[i0]? =some (l[i0]'(by omega)):=Zb _
   have zy:i0∈Region.ready .any l.toArray listed:=by
    exact nE
   refine⟨(fun h=>by rw[h] at zy;cases zy),fun i hi=> ?_⟩
   obtain⟨h3,o,ho',UW⟩:=mem_ready.1 hi
   have ho:l[i]? =some o:=by simpa using ho'
   have hilt:=bW ho
   have vf:∀ j oj,l[j]? =some oj->(decide (j=i)||fl listed j)=true->∀ e∈oj.after,Region.binds .any e=true->(decide (e.on=i)||fl listed e.on)=true:=fun j oj hj tU e he hb=>by
    exact kV
   have pH:i<m:=by
    exact nk
   have tB:fl listed i=false:=by
    exact kj
   obtain⟨sO,hy,_,_⟩:=h1 i o pH ho
   obtain⟨I,ρ,he,hinv,hs,cu,Ns,hmk⟩:=hsi
   -- two operations that use the same own block
   have Qy:∀ j k,j<i->((D.getD j ([],false)).2=true∨(D.getD i ([],false)).2=true)->k∈(D.getD j ([],false)).1->k∈(D.getD i ([],false)).1->fl listed j=true:=by
    intro j k hji hw hkj hki
    have:=vV hD (fun j=>decide (j=i)||fl listed j) vf hji pH hw hkj hki (by simp)
    have hne:¬ j=i:=by omega
    simpa[hne] using this
   have Fg:∀ j k,i<j->j<m->((D.getD i ([],false)).2=true∨(D.getD j ([],false)).2=true)->k∈(D.getD i ([],false)).1->k∈(D.getD j ([],false)).1->fl listed j=false:=by
    intro j k hij hj hw hki hkj
    cases hf:fl listed j with
    | false=>rfl
    | true=>
     have:=vV hD (fl listed) hcl hij hj hw hki hkj hf
     rw[tB] at this;cases this
   have hF:mask (fun k=>(HH fU (fl listed) H m).getD k .dead) (lN S (D.getD i ([],false)).1) 0 (Hx i)=HH fU (fl listed) H m:=by
    apply Gg
    intro k
    rw[qi,yy]
    have hlx:(Hx i).length=H.length:=by rw[Wx i (by omega)];exact hlen _ _
    by_cases hin:k∈lN S (D.getD i ([],false)).1
    ·rw[if_pos (by simpa using hin)]
     by_cases tL:k<H.length
     ·have e1:k<(Hx i).length:=by omega
      have e2:k<(HH fU (fl listed) H m).length:=by rw[hlen];exact tL
      rw[Zb e1,Zb e2]
      simp[Zf,e2]
     ·have e1:(Hx i).length<=k:=by omega
      have e2:(HH fU (fl listed) H m).length<=k:=by rw[hlen];omega
      rw[ZE e1,ZE e2];rfl
    ·rw[if_neg (by simpa using hin),Wx i (by omega)]
     have hor:k∉S∨k∈(D.getD i ([],false)).1:=by
      rw[wX] at hin
      by_cases h:k∈S
      ·exact .inr (Classical.byContradiction fun h2=>hin ⟨h,h2⟩)
      ·exact .inl h
     have:=Ms (fU:=fU) (f:=fl listed) (H0:=H) (k:=k) (i:=i) (m:=m)
      (fun j hj hji hw=>by
       obtain⟨b,hw⟩:=hw
       obtain⟨h4,h5,h6,_⟩:=Oi j k b hj hw
       rcases hor with h | h
       ·exact absurd h6 h
       ·exact Qy j k hji (.inl h5) h4 h)
      (fun j hj hij hw=>by
       obtain⟨b,hw⟩:=hw
       obtain⟨h4,h5,h6,_⟩:=Oi j k b hj hw
       rcases hor with h | h
       ·exact absurd h6 h
       ·by_cases e:j=i
        ·subst e;exact tB
        ·exact Fg j k (by omega) hj (.inr h5) h h4) m (Ze _)
     rw[this,Nat.min_eq_right (by omega)]
   have hU:HH fU (fl (listed.setIfInBounds i true)) H m=app (fU i) (HH fU (fl listed) H m):=by
    have:=Nw (fU:=fU) (f:=fl listed) (g:=fl (listed.setIfInBounds i true)) (H0:=H) pH tB (fun j=>by rw[gO (by omega)]) (fun j hij hj hf k b1 b2 hw1 hw2=>by
     obtain⟨h4,h5,_⟩:=Oi j k b1 hj hw1
     obtain⟨h6,h7,_⟩:=Oi i k b2 pH hw2
     have:=Fg j k hij hj (.inl h7) h6 h4
     rw[hf] at this;cases this) m (Ze _)
    rw[this,if_pos pH]
   have l9:∀ s v,lk (bE l.toArray o (Tx i)) s=some v->az P w I ρ v (a.tmps.getD s undef):=by
    exact mK
   have Av:bn P w I ρ N (bE l.toArray o (Tx i)) a.tmps:=⟨hs,l9⟩
   have next:∀ u w' I' ρ',cy w I ρ w' I' ρ'->Inv P w' I' ρ' (app (fU i) (HH fU (fl listed) H m))->az P w' I' ρ' (vs i) u->(∀ s v,tl l T vs (fl listed) s=some v->az P w' I' ρ' v (a.tmps.getD s undef))->
       (∀ s v,lk T s=some v->(∀ j o,l[j]? =some o->fl listed j=true->o.dst≠some s)->az P w' I' (ρ'.take n0) v (a.tmps.getD s undef))->Marks κ B w' I' ρ' a.defers->
       wpAnyIn (Fr R) 0 P .any l.toArray QX fuel (listed.setIfInBounds i true) (a.put o.dst u) w':=by
    intro u w' I' ρ' he' hinv' hu hold WE Z9
    refine ih (listed.setIfInBounds i true) (a.put o.dst u) w' ?_ (by simp[hsz]) ?_ ?_ ?_
    ·exact Bh
    ·exact EL
    ·exact Ch
    ·refine⟨I',ρ',he.trans he',by rw[hU];exact hinv',by cases o.dst <;> simp[Act.put,hs],fun s v hv=> ?_,fun s v hv hno=> ?_,Z9.put⟩
     ·cases hd:o.dst with
      | none=>
       have e1:tl l T vs (fl (listed.setIfInBounds i true)) s=tl l T vs (fl listed) s:=gS hk fun j oj hj Pm=>by
        exact EK
       rw[e1] at hv
       exact hold s v hv
      | some d=>
       have hlt:d<N:=by
        rw[hd] at sO
        simpa[aZ,Nat.blt,Zw] using sO
       by_cases SU:d=s
       ·exact CK
       ·have e1:tl l T vs (fl (listed.setIfInBounds i true)) s=tl l T vs (fl listed) s:=gS hk fun j oj hj Pm=>by
          exact DV
        rw[e1] at hv
        have:=hold s v hv
        simpa[Act.put,SU] using this
     ·have aag:∀ j o,l[j]? =some o->fl listed j=true->o.dst≠some s:=fun j oj hj hf=>hno j oj hj (by rw[gO (by omega),hf];simp)
      have:=WE s v hv aag
      cases hd:o.dst with
      | none=>exact this
      | some d=>
       have SU:d≠s:=fun e=>hno i o ho (by rw[gO (by omega)];simp) (by rw[hd,e])
       simpa[Act.put,SU] using this
   have sR:∀ u w' I' ρ',Ext w I ρ w' I' ρ'->Inv P w' I' ρ' (app (fU i) (HH fU (fl listed) H m))->az P w' I' ρ' (vs i) u->wpAnyIn (Fr R) 0 P .any l.toArray QX fuel (listed.setIfInBounds i true) (a.put o.dst u) w':=by
    intro u w' I' ρ' he' hinv' hu
    refine next u w' I' ρ' he'.w hinv' hu (fun s v hv=>(cu s v hv).ext he') (fun s v hv hno=> ?_) (hmk.ext he')
    have h4:=Ns s v hv hno
    have h5:ρ.take n0<+:ρ'.take n0:=by
     obtain⟨t,ht⟩:=he'.pre
     rw[<- ht,List.take_append]
     exact⟨_,rfl⟩
    exact wM
   rcases hy with⟨_,hw,_,_,hy⟩ | ⟨_,hg,_,_,k,blk,hw,VF,hkS,_,hop⟩ | ⟨hwr,hg,k,blk,v0,w1,hw,hw1,_,fT,hkS,hk0,hkL,JW,It,hvi,tL,hop⟩
   ·have hy:=hy (fun k=>(HH fU (fl listed) H m).getD k .dead)
    rw[hF] at hy
    have sR:∀ u w' I' ρ',Ext w I ρ w' I' ρ'->Inv P w' I' ρ' (HH fU (fl listed) H m)->az P w' I' ρ' (vs i) u->wpAnyIn (Fr R) 0 P .any l.toArray QX fuel (listed.setIfInBounds i true) (a.put o.dst u) w':=by
     rw[hw] at sR;exact sR
    unfold wpOpIn
    simp only[ho']
    rcases hy with⟨hg,hop⟩ | ⟨j,want,s,c,x,v',hg,pE,Et,hb,hc,hv,hop⟩
    ·simp only[Region.wanted,hg,if_true]
     exact hop R w I ρ a hinv Av _ _ sR
    ·have uC:=l7 pE Av Et hb hc
     simp only[Region.wanted,hg,uC]
     cases c with
     | true=>
      simp only[if_true]
      obtain⟨T2,hsub,hop⟩:=hop rfl
      exact hop R w I ρ a hinv (Av.rF hsub) _ _ fun u w' I' ρ' he' hi' hu=>sR u w' I' ρ' he' hi' (by rw[hv];exact⟨fun _=>hu,(fun h=>by cases h)⟩)
     | false=>
      simp only[Kw,if_false]
      exact⟨bB,sR undef w I ρ (Ext.refl _ _ _) hinv (by rw[hv];exact⟨(fun h=>by cases h),fun _=>rfl⟩)⟩
   ·have hop:=hop (fun k=>(HH fU (fl listed) H m).getD k .dead)
    rw[Bq (fun h=>(wX.1 h).2 VF),hF] at hop
    unfold wpOpIn
    simp only[ho']
    simp only[Region.wanted,hg,if_true]
    exact hop R w I ρ a hinv Av _ _ (by rw[hw] at sR;exact sR)
   ·have hop:=hop (fun k=>(HH fU (fl listed) H m).getD k .dead)
    have hF1:∀(w1:List (Nat×ai)) (X:List ai),(∀ p∈w1,p.1∈(D.getD i ([],false)).1)->mask (fun k=>(HH fU (fl listed) H m).getD k .dead) (lN S (D.getD i ([],false)).1) 0 (app w1 X)=app w1 (mask (fun k=>(HH fU (fl listed) H m).getD k .dead) (lN S (D.getD i ([],false)).1) 0 X):=by
     intro w1
     induction w1 with
     | nil=>intro X _;rfl
     | cons p w1 ih2=>
      intro X hp
      obtain⟨k1,b1⟩:=p
      simp only[app]
      rw[ih2 _ (fun q hq=>hp q (by simp[hq])),Bq (fun h=>(wX.1 h).2 (hp (k1,b1) (by simp)))]
    rw[hF1 w1 _ (fun p hp=>(hw1 p hp).1),hF] at hop
    unfold wpOpIn
    simp only[ho']
    simp only[Region.wanted,hg,if_true]
    refine hop R w I ρ a hinv Av _ _ fun u w' I' ρ' he' hi' hu=> ?_
    have Xq:(HH fU (fl listed) H m).length=H.length:=hlen _ _
    have hlF:(app w1 (HH fU (fl listed) H m)).length=H.length:=(zo _ _).trans Xq
    have hlx:(Hx i).length=H.length:=by rw[Wx i (by omega)];exact hlen _ _
    have Xj:ρ.length=H.length:=hinv.len.trans Xq
    have abe:ρ'.length=H.length+1:=by rw[hi'.len];simp[hlF]
    have abf:k<H.length:=by omega
    obtain⟨b,xg⟩:∃ b,ρ'=ρ++[b]:=by
     obtain⟨t,ht⟩:=he'.pre
     have:t.length=1:=by
      have:=congrArg List.length ht
      simp at this
      omega
     match t,this with
     | [b],_=>exact⟨b,ht.symm⟩
    subst xg
    have mV:∀ j,j≠k->j<H.length->(ρ.set k b)[j]? =(ρ++[b])[j]? :=fun j hj hjl=>by
     rw[Zu,if_neg (Ne.symm hj),Zc (by omega)]
    have hτ:∀ ms:List Nat,(∀ i∈ms,i<H.length∧i≠k)->∀ i j c:Nat,sg n0 ms i=some j->(ρ++[b])[i]? =some c->(ρ.set k b)[j]? =some c:=fun ms hms x y c hxy hc=>by
     obtain⟨rfl,hx⟩:=WQ hxy
     rcases hx with hx | hx
     ·rw[mV y (by omega) (by omega)];exact hc
     ·rw[mV y (hms y hx).2 (hms y hx).1];exact hc
    have hσ:∀ i j c:Nat,sw k H.length i=some j->(ρ++[b])[i]? =some c->(ρ.set k b)[j]? =some c:=fun x y c hxy hc=>by
     unfold sw at hxy
     by_cases e1:x=H.length
     ·have Va:Nat.beq x H.length=true:=by subst e1;exact Nat.beq_refl _
      rw[Va] at hxy
      cases hxy
      subst e1
      rw[<- Xj,Zi (Ze _)] at hc
      simp at hc
      subst hc
      rw[List.getElem?_set_self (by omega)]
     ·have Va:Nat.beq x H.length=false:=by
        cases h:Nat.beq x H.length with
        | false=>rfl
        | true=>exact absurd (ZO h) e1
      rw[Va] at hxy
      by_cases e2:x=k
      ·have gZ:Nat.beq x k=true:=by subst e2;exact Nat.beq_refl _
       rw[gZ] at hxy
       cases hxy
      ·have gZ:Nat.beq x k=false:=by
         cases h:Nat.beq x k with
         | false=>rfl
         | true=>exact absurd (ZO h) e2
       rw[gZ] at hxy
       cases hxy
       have hxl:x<H.length:=by
        have:=(Za.1 hc).1
        simp at this
        omega
       rw[mV x e2 hxl];exact hc
    have eK:∀(j c:Nat) (x:ai),(ρ.set k b)[j]? =some c->((app w1 (HH fU (fl listed) H m)).set k blk)[j]? =some x->∃ j',(ρ++[b])[j']? =some c∧(app w1 (HH fU (fl listed) H m)++[blk])[j']? =some x∧j'=(if j=k then H.length else j):=by
     intro j c x h4 h5
     by_cases e:j=k
     ·subst e
      rw[List.getElem?_set_self (by omega)] at h4 h5
      cases h4;cases h5
      refine⟨H.length,?_,?_,by simp⟩
      ·rw[<- Xj,Zi (Ze _)];simp
      ·rw[<- hlF,Zi (Ze _)];simp
     ·rw[Zu,if_neg (Ne.symm e)] at h4 h5
      refine⟨j,?_,?_,by rw[if_neg e]⟩
      ·rw[Zc (Za.1 h4).1];exact h4
      ·rw[Zc (Za.1 h5).1];exact h5
    have hkey:∀ j,j<m->fl listed j=true->∀ x,x∈(D.getD j ([],false)).1->x∈Ls (j+1)->x≠k∧x<H.length:=by
     intro j Y6 h5 x hx1 hx2
     have hji:j≠i:=fun e=>by rw[e,tB] at h5;cases h5
     constructor
     ·rintro rfl
      have c8:(D.getD i ([],false)).2=true:=hwr
      have hki:x∈(D.getD i ([],false)).1:=fT
      rcases Nat.lt_or_gt_of_ne hji with h | h
      ·exact hkL (NH (j+1) i x (by omega) (by omega) hx2)
      ·have:=Fg j x h Y6 (.inl c8) hki hx1
       rw[h5] at this;cases this
     ·obtain⟨i2,h7,h8,h9,h10,h11⟩:=Vr (j+1) x (by omega) hx2
      obtain⟨o2,Vk⟩:=oC i2 (by omega)
      obtain⟨_,hst,_⟩:=h1 i2 o2 (by omega) Vk
      rcases hst with⟨h12,_⟩ | ⟨_,_,h12,_⟩ | ⟨_,_,k2,jY,v2,_,_,_,Y4,h14,_,_,_,_,_,_,h15,_⟩
      ·rw[h9] at h12;cases h12
      ·rw[h12] at h11;exact absurd h11 h10
      ·rw[Y4] at h11
       rcases Zr.1 h11 with h16 | h16
       ·rw[Wx i2 (by omega),hlen] at h15
        rw[h16];exact h15
       ·exact absurd h16 h10
    have aaW:∀ x∈(app w1 (HH fU (fl listed) H m)++[blk]),∃ ms:List Nat,aD (sg n0 ms) x=x∧∀ y∈ms,y<H.length∧y≠k:=fun x hx=>by
     rcases Zp.1 hx with h | h
     ·rcases zS h with h | ⟨q,h⟩
      ·obtain⟨ms,h2,h3⟩:=aad _ m (Ze _) x h
       refine⟨ms,h2,fun y hy=> ?_⟩
       obtain⟨j,h4,h5,h6,h7⟩:=h3 y hy
       have:=hkey j h4 h5 y h6 (NH j (j+1) y (by omega) (by omega) h7)
       exact⟨this.2,this.1⟩
      ·exact⟨[],(hw1 _ h).2.2,fun y hy=>by cases hy⟩
     ·simp at h;subst h;exact⟨[],JW,fun y hy=>by cases hy⟩
    have oO:cy w I ρ w' I' (ρ.set k b):=by
     have Kr:=he'.w
     exact⟨Kr.os,Kr.tape,Kr.output,Kr.size,Kr.keep,Kr.shape,Kr.lu,Kr.bf,Kr.ew,Kr.cL,Kr.j9,fun c hc=>by
      rcases List.mem_or_eq_of_mem_set hc with h | rfl
      ·exact .inl h
      ·exact Kr.new c (by simp)⟩
    have Z4:Inv P w' I' (ρ.set k b) ((app w1 (HH fU (fl listed) H m)).set k blk):=by
     refine⟨by simp[Xj,hlF],fun j c x h4 h5 h6=> ?_,hi'.ib,fun j c x h4 h5 h6=> ?_,fun j j' c x y h4 h5 h6 h7 h8 h9=> ?_,fun j c x h4 h5=> ?_,hi'.gl⟩
     ·obtain⟨j',k1,k2,_⟩:=eK j c x h4 h5
      exact hi'.gf j' c x k1 k2 h6
     ·obtain⟨j',k1,k2,_⟩:=eK j c x h4 h5
      exact hi'.live j' c x k1 k2 h6
     ·obtain⟨i1,k1,k2,k3⟩:=eK j c x h4 h6
      obtain⟨i2,k4,k5,k6⟩:=eK j' c y h5 h7
      have:=hi'.fK i1 i2 c x y k1 k4 k2 k5 h8 h9
      subst this
      have hj1:j<H.length:=by have:=(Za.1 h4).1;simp at this;omega
      have hj2:j'<H.length:=by have:=(Za.1 h5).1;simp at this;omega
      rw[k3] at k6
      by_cases e1:j=k <;> by_cases e2:j'=k
      ·omega
      ·rw[if_pos e1,if_neg e2] at k6;omega
      ·rw[if_neg e1,if_pos e2] at k6;omega
      ·rw[if_neg e1,if_neg e2] at k6;exact k6
     ·obtain⟨j',k1,k2,_⟩:=eK j c x h4 h5
      obtain⟨ms,m1,m2⟩:=aaW x (Zh k2)
      have:=jC (hτ ms m2) (hi'.rel j' c x k1 k2)
      rwa [m1] at this
    refine next u w' I' (ρ.set k b) oO (by rw[hw,Im];exact Z4) ?_ (fun s v hv=> ?_) (fun s v hv hno=> ?_) ?_
    ·rw[It,hlx]
     exact eY hσ v0 u hu
    ·by_cases hex:∃ j oj,l[j]? =some oj∧fl listed j=true∧oj.dst=some s
     ·obtain⟨j,oj,h4,h5,h6⟩:=hex
      have Ox:=hv
      rw[qV hk h4 h5 h6] at hv
      cases hv
      have Y6:j<m:=by
       rcases ZD j m with h | h
       ·exact h
       ·rw[xD j h] at h5;cases h5
      have hji:j≠i:=fun e=>by rw[e,tB] at h5;cases h5
      have VA:=(cu s _ Ox).ext he'
      have hkey:=hkey j Y6 h5
      obtain⟨_,aa3,_⟩:=h1 j oj Y6 h4
      have aas:∃ ms:List Nat,aW (sg n0 ms) (vs j)=vs j∧∀ x∈ms,x∈(D.getD j ([],false)).1∧x∈Ls (j+1):=by
       rcases aa3 with⟨_,_,h7,h8,_⟩ | ⟨_,_,h7,h8,_⟩ | ⟨_,_,k2,jY,v2,_,_,_,h7,h8,_,_,_,_,_,h9,_⟩
       ·exact⟨_,h8,fun x hx=>by rw[h7];simpa[uy] using hx⟩
       ·exact⟨_,h8,fun x hx=>by rw[h7];simpa[uy] using hx⟩
       ·exact⟨_,h9,fun x hx=>by simp at hx;subst hx;exact⟨h8,by rw[h7];simp⟩⟩
      obtain⟨ms,aaq,Q9⟩:=aas
      have:=eY (hτ ms (fun x hx=>⟨(hkey x (Q9 x hx).1 (Q9 x hx).2).2,(hkey x (Q9 x hx).1 (Q9 x hx).2).1⟩)) (vs j) _ VA
      rwa [aaq] at this
     ·have hno:∀ j o,l[j]? =some o->fl listed j=true->o.dst≠some s:=fun j oj h4 h5 h6=>hex ⟨j,oj,h4,h5,h6⟩
      rw[jQ hno] at hv
      have h4:=Ns s v hv hno
      have h5:ρ.take n0<+:ρ.set k b:=by
       rw[WB,List.take_set_of_le (by simp;omega),x7,Kv (by omega)]
      exact wM
    ·have h4:=Ns s v hv hno
     have h5:ρ.take n0<+:(ρ.set k b).take n0:=by
      rw[List.take_set_of_le (by omega)]
      exact ZI _
     exact wM
    ·have hm2:=hmk.ext he'
     obtain⟨q1,q2,q3,q4⟩:=hm2
     refine⟨q1,q2,?_,q4⟩
     obtain⟨_,_,q5,_⟩:=hmk
     rw[WB] at q5 ⊢
     rw[List.take_set_of_le (by omega)]
     exact q5
theorem To.Qk{κ:Nat}:∀(r:Nat) {H:List ai},To P κ N T H T (H++dF r)
 | 0,H=>by simpa[dF] using To.refl
 | r+1,H=>by
  have:=(To.pad (P:=P) (κ:=κ) (N:=N) (T:=T) (H:=H)).trans (To.Qk r (H:=H++[.dead]))
  simpa[dF] using this
theorem aI.bN{id:Nat}(m r:Nat)(S:List Nat)(D:List (List Nat×Bool))(EX:P.follows .mixedOrders=true)(hk:jh m l=true)(hm:m<=l.length)(hD:GI m l D=true)(hκ:Nat.ble κ H.length=true)(hH:H.map (aD (sg H.length []))=H)
    (h:bu P N l.toArray S H.length (fun T' H'=>aj P R N κ l.toArray (l.drop m) Q T' H') [] D (l.take m) T (H++dF r)):aI P R N κ (.region id l.toArray true) Q T H:=by
 intro B w I ρ a hi ht hmk
 have hκ:κ<=H.length:=by simpa using hκ
 obtain⟨vs,Tx,Hx,fU,Ls,h0,h0',Mm,h1,h2⟩:=bu.vals h
 have hlen:(l.take m).length=m:=by simp;omega
 rw[hlen] at h2
 refine wpIn_region_any EX ?_
 have hi':Inv P w.drew I ρ H:=hi.drew
 obtain⟨I2,ρ2,hE,hi2,_,hp⟩:=To.Qk (P:=P) (κ:=ρ.length) (N:=N) (T:=T) r w.drew I ρ a.tmps hi' (ht.ext Ext.drew)
 have hpre:ρ<+:ρ2:=hp ρ (ZI _) (Ze _)
 have Xj:ρ.length=H.length:=hi.len
 have lH:ρ2.take H.length=ρ:=by
  rw[<- Xj];exact(WB.1 hpre).symm
 have hE0:cy w I ρ w.drew I2 ρ2:=(Ext.drew (w:=w) (I:=I) (ρ:=ρ)).w.trans hE
 have Ym:∀ s v,lk T s=some v->az P w.drew I2 ρ v (a.tmps.getD s undef):=fun s v hv=>
  az.mono hE.lu (fun _ _=>rfl) (ZI ρ) (fun _ _ _ hs=>hs) v _ ((ht.at_ s v hv).ext (Ext.drew (w:=w) (I:=I) (ρ:=ρ)))
 have hH':∀ x∈H,aD (sg H.length []) x=x:=fun x hx=>by
  obtain⟨i,hil,rfl⟩:=Pz hx
  have:(H.map (aD (sg H.length [])))[i]? =H[i]? :=by rw[hH]
  rw[Zt,Zb hil] at this
  exact dx
 refine E0 (κ:=κ) (ff.of hk) hm hD (B:=B) (w0:=w) (I0:=I) (ρ0:=ρ) h0 h0' Mm (by simp) (fun x hx=> ?_) (ZT hmk.2.1 hκ) (fun i o pH ho=>h1 i o (by rw[ZQ,if_pos pH];exact ho)) ?_ _ _ a w.drew (by simp) (by simp) ?_ ?_ ?_
 ·rcases Zp.1 hx with h | h
  ·exact hH' x h
  ·have:∀ r,x∈dF r->x= .dead:=by
     intro r
     induction r with
     | zero=>intro h;cases h
     | succ r ih=>intro h;rcases Zr.1 h with h | h
                  ·exact h
                  ·exact ih h
   rw[this r h];rfl
 ·exact wD
 ·exact mX
 ·exact mP
 ·have hnone:∀ f:Nat,HH fU (fl (Array.replicate l.length false)) (H++dF r) f=H++dF r:=by
    intro f
    induction f with
    | zero=>rfl
    | succ f ih=>
     have e0:fl (Array.replicate l.length false) f=false:=by
      unfold fl
      by_cases hlt:f<l.length <;> simp[hlt]
     simp only[HH,e0,cond_false,ih]
  refine⟨I2,ρ2,hE0,by simpa only[List.size_toArray,hnone] using hi2,ht.size,fun s v hv=> ?_,fun s v hv _=> ?_,hmk.IA hE0 (hmk.2.2.1.trans hpre)⟩
  ·rw[jQ (fun j o hj hf=>by
     unfold fl at hf
     by_cases hlt:j<l.length <;> simp[hlt] at hf)] at hv
   exact az.mono (fun _ h=>h) (fun _ _=>rfl) hpre (fun _ _ _ hs=>hs) v _ (Ym s v hv)
  ·rw[lH];exact Ym s v hv
end
end
section
variable {P:Program} {R:Option Nat} {N κ:Nat} {Q Q':Post} {T T' T2 T3:Tm} {H H' H2 H3:List ai} {o:Oper} {ops:Array Oper} {rest:List Oper}
theorem yc{α:Type}[Inhabited α](z:List α)(hz:0<z.length):∀ n:Nat,(List.range (n*z.length)).map (fun i=>z[i%z.length]!)=(List.replicate n z).flatten
 | 0=>by simp
 | n+1=>by
  rw[List.replicate_succ',Ww,<- yc z hz n,Nat.succ_mul,List.range_add,ZG]
  congr 1
  simp only[R1,List.flatten_nil,ZU,OE]
  apply Gg
  intro i
  rw[Zt]
  by_cases h:i<z.length
  ·simp[XM h,TM h,h]
  ·rw[ZE (by simpa using h),ZE (by omega)];rfl
theorem aa.makeSlice{x y:Operand}{t e:TypeId}{z:List PV}{n c gI:Nat}(ho:o.op= .makeSlice t x y)(hx:ev T x=some (.p (.int .i64 (n:Int))))(hy:ev T y=some (.p (.int .i64 (c:Int))))(hs:oz P t=some (e,z))(hby:wG P e=some gI)(hb0:0<gI)
    (hnc:n<=c)(hb:gI*c<=281474976710656):aa P N o T H (.row H.length n) (H++[.row ((List.replicate n z).flatten.map .p) e]):=
 aa.dz (by simp[ho]) fun w I ρ a hi hT=>by
  obtain⟨hu,⟨b,ht⟩,uL,hz⟩:=eg hs
  obtain⟨uz,h1,h2⟩:=hz w
  have h3:=h2 I
  have h4:=aR.length h3
  simp only[Gj] at h4
  obtain⟨inf,jI,rfl⟩:∃ inf,P.info? e=some inf∧inf.bytes=gI:=by
   exact CP
  have hc:c<=281474976710656:=ZT (Nat.le_mul_of_pos_left c hb0) hb
  have Dn:∀ k w,(askRoom k).run P w= .ok () w:=fun k w=>by
   exact pK
  have wn:IntKind.i64.wrap (n:Int)=n:=aG (by omega)
  have wc:IntKind.i64.wrap (c:Int)=c:=aG (by omega)
  have hEl:∀(cs:Array Value),cs.toList=(List.replicate c uz.cells.toList).flatten->∃ I' ρ',Ext w I ρ (w.alloc (.cells cs e)) I' ρ'∧Inv P (w.alloc (.cells cs e)) I' ρ' (H++[.row ((List.replicate n z).flatten.map .p) e])∧az P (w.alloc (.cells cs e)) I' ρ' (.row H.length n) (.slice (some ⟨w.heap.size,0,none⟩) n c):=by
   intro cs hcs
   have hE:Ext w I ρ (w.alloc (.cells cs e)) I (ρ++[w.heap.size]):=Ext.aO hi _
   have lH:cs.toList.take ((List.replicate n z).flatten.map V.p).length=(List.replicate n uz.cells.toList).flatten:=by
    have e1:((List.replicate n z).flatten.map V.p).length=n*z.length:=by simp
    rw[e1,hcs,show c=n+(c - n) by omega,<- List.replicate_append_replicate,Ww,VZ (by simp[h4]),OB (by simp[h4])]
   refine⟨_,_,hE,Inv.aO hi _ ⟨cs,heap_alloc_new w _,?_,?_⟩,?_⟩
   ·rw[<- Gj,hcs]
    simp only[Zo,List.length_flatten,List.map_replicate,List.sum_replicate_nat]
    have e3:uz.cells.toList.length=z.length:=h4
    rw[e3]
    exact HK _ hnc
   ·rw[lH]
    exact ag.ext hE (ag.pure.2 (aR.SG h3 n))
   ·refine⟨w.heap.size,e,c,by rw[<- hi.len];simp,rfl,?_,hnc⟩
    obtain⟨d,i,_,h5,_,h6⟩:=iC ht
    have hsz:cs.size=c*z.length:=by
     rw[<- Gj,hcs];simp[h4]
    simp only[World.shape?,heap_alloc_new,hsz,Program.cellsOf,h5,Q4,LR,h6]
  have hsz:uz.cells.size=z.length:=h4
  obtain⟨I',ρ',e2⟩:=hEl ((Array.range (c*z.length)).map (uz.cells[· %uz.cells.size]!)) (by
   rw[Array.toList_map,Array.toList_range]
   have:=yc uz.cells.toList (by rw[Gj,hsz];exact uL) c
   rw[Gj,hsz] at this
   rw[<- this,hsz]
   apply U4
   intro i _
   simp[getElem!_def])
  have g1:¬ ((c:Int)<0):=by omega
  have g2:¬ ((n:Int)<0):=by omega
  have g3:¬ ((c:Int)<(n:Int)):=by omega
  have g4:¬ ((281474976710656:Int)<(inf.bytes:Int)*(c:Int)):=by
   have:((inf.bytes*c:Nat):Int)<=281474976710656:=by omega
   rw[Int.natCast_mul] at this
   omega
  refine⟨_,_,I',ρ',.inl ?_,e2⟩
  by_cases hc0:c=0
  ·subst hc0
   obtain rfl:n=0:=by omega
   have w0:IntKind.i64.wrap 0=0:=by decide
   simp[execOp,ho,cS hT hx,cS hT hy,Instr.makeSlice,run_underlying hu,asInt,dN,run_typeInfo w jI,w0,Dn,aK ht,newRow,newObj,Sem.run]
   have e0:Array.range 0= #[]:=by decide
   rw[e0,Array.map_empty,Array.map_empty]
  ·simp[execOp,ho,cS hT hx,cS hT hy,Instr.makeSlice,run_underlying hu,asInt,dN,run_typeInfo w jI,wn,wc,Dn,aK ht,newRow,newObj,Sem.run,hc0,h1,g1,g2,g3,g4]
   intro h
   exact absurd h (by have:=Nat.mul_pos (by omega:0<c) uL;omega)
theorem aa.nilCheck{x:Operand}{i off:Nat}(ho:o.op= .nilCheck x)(hx:ev T x=some (.ptr i off)):aa P N o T H (.ptr i off) H:=
 aa.aN (by simp[ho]) fun w I ρ a hi hT=>by
  have h:=hT.ev hx
  obtain⟨b,hb,hu⟩:=h
  exact⟨_,by simp[execOp,ho,hu],hT.ev hx⟩
theorem aa.Qz{x y:Operand}{t t':TypeId}{k:IntKind}(a b:Nat)(ho:o.op= .binOp .andNot t x y t')(hx:ev T x=some (.p (.int k (a:Int))))(hy:ev T y=some (.p (.int k (b:Int))))(ha:(a:Int)<=k.max):aa P N o T H (.p (.int k ((a^^^(a&&& b):Nat):Int))) H:=
 aa.bits ho (.inr (.inr (.inr rfl))) hx hy fun w=>by
  have hk:=max_lt k
  have RZ:a<2^k.bits:=by have:(a:Int)<((2^k.bits:Nat):Int):=by simpa using(by omega:(a:Int)<2^k.bits)
                         omega
  have hle:a^^^(a&&& b)<=a:=by
   have:a^^^(a&&& b)=a&&& (a^^^(a&&& b)):=by
    apply Ky
    intro i
    simp only[Nat.testBit_xor,N8]
    cases a.testBit i <;> cases b.testBit i <;> rfl
   rw[this];exact Nat.and_le_left
  have h1:(BitVec.ofInt k.bits (a:Int)&&& ~~~ BitVec.ofInt k.bits (b:Int)).toNat=a^^^(a&&& b):=by
   have e:BitVec.ofInt k.bits (a:Int)&&& ~~~ BitVec.ofInt k.bits (b:Int)=BitVec.ofNat k.bits (a^^^(a&&& b)):=by
    rw[jb,jb]
    apply BitVec.eq_of_getLsbD_eq
    intro i hi
    simp only[BitVec.getLsbD_and,BitVec.getLsbD_not,BitVec.getLsbD_ofNat,Nat.testBit_xor,N8,hi,decide_true,Bool.true_and]
    cases a.testBit i <;> cases b.testBit i <;> rfl
   rw[e,BitVec.toNat_ofNat,TM (Yg hle RZ)]
  have h2:((a^^^(a&&& b):Nat):Int)<=k.max:=by omega
  exact Ec
theorem WJ{n:Nat}{x:PV}:dy H n (.p x)=some x:=by cases n <;> rfl
theorem Sy{n i len:Nat}{xs:List PV}(h:bR H[i]? =some (xs.map .p)):dy H (n+1) (.row i len)=some (.is xs len):=by
 simp only[dy,h,zj,Q4]
def jM(ks:List Nat):Tm->Tm
 | []=>[]
 | (s,v)::T=>bif ks.any (Nat.beq s) then(s,v)::jM ks T else jM ks T
theorem wN(ks:List Nat):∀(T:Tm) (s:Nat) (v:V),lk (jM ks T) s=some v->lk T s=some v
 | [],s,v,h=>by cases h
 | (a,u)::T,s,v,h=>by
  simp only[jM] at h
  cases hk:ks.any (Nat.beq a) with
  | true=>
   rw[hk] at h
   simp only[cond_true,lk] at h ⊢
   cases hb:Nat.beq a s with
   | true=>rw[hb] at h;exact h
   | false=>rw[hb] at h;exact wN ks T s v h
  | false=>
   rw[hk] at h
   simp only[cond_false] at h
   have h2:=wN ks T s v h
   simp only[lk]
   cases hb:Nat.beq a s with
   | false=>exact h2
   | true=>
    exfalso
    have e:=ZO hb
    subst e
    have gen:∀ T:Tm,lk (jM ks T) a=none:=by
     intro T
     induction T with
     | nil=>rfl
     | cons p T ih=>
      obtain⟨c,u⟩:=p
      simp only[jM]
      cases hc:ks.any (Nat.beq c) with
      | false=>exact ih
      | true=>
       simp only[cond_true,lk]
       cases gZ:Nat.beq c a with
       | false=>exact ih
       | true=>
        have e2:=ZO gZ
        subst e2
        rw[hk] at hc;cases hc
    rw[gen T] at h;cases h
theorem Sub.Mc{C T:Tm}{ks:List Nat}(h:Sub C T):Sub (C++jM ks T) T:=by
 intro s v hv
 have app:∀(A B:Tm),lk (A++B) s=some v->lk A s=some v∨lk B s=some v:=by
  intro A B
  induction A with
  | nil=>intro h;exact .inr h
  | cons p A ih=>
   obtain⟨a,u⟩:=p
   exact C7
 rcases app _ _ hv with h1 | h1
 ·exact h s v h1
 ·exact wN ks T s v h1
theorem aI.SK{γ:Type}{c:Code}(ks:List Nat)(ch:γ->Tm)(inv:γ->Prop)(μ:γ->Nat)(g0:γ)(h0:inv g0)(hS:Sub (ch g0) T)
    (round:∀ g,inv g->aI P R N κ c (AX.then (fun T' H'=>∃ g',inv g'∧μ g'<μ g∧To P κ N T' H' (ch g'++jM ks T) H) Q) (ch g++jM ks T) H):aI P R N κ (.loop c) Q T H:=
 aI.HQ (fun g=>ch g++jM ks T) (fun _=>H) inv μ g0 h0 (To.sub (Sub.Mc hS)) round
theorem aI.iK{γ:Type}{c:Code}(ks:List Nat)(ch:γ->Tm)(Hs:γ->List ai)(inv:γ->Prop)(μ:γ->Nat)(g0:γ)(h0:inv g0)(hto:To P κ N T H (ch g0++jM ks T) (Hs g0))
    (round:∀ g,inv g->aI P R N κ c (AX.then (fun T' H'=>∃ g',inv g'∧μ g'<μ g∧To P κ N T' H' (ch g'++jM ks T) (Hs g')) Q) (ch g++jM ks T) (Hs g)):aI P R N κ (.loop c) Q T H:=
 aI.HQ (fun g=>ch g++jM ks T) Hs inv μ g0 h0 hto round
end
section
variable {P:Program} {R:Option Nat} {N κ:Nat} {Q:Post} {T:Tm} {H H':List ai} {o:Oper} {ops:Array Oper} {K:Tm->List ai->Prop} {rest:List Oper} {S L us:List Nat} {n0:Nat} {D:List (List Nat×Bool)}
end
section
variable {P:Program} {R:Option Nat} {N κ:Nat} {Q:Post} {T:Tm} {H H':List ai} {o:Oper}
def Yv(x:PV):V:=bif JJ x then .p x else .top
theorem OM{w w':World}{I I':Nat->Prop}{ρ:List Nat}{x:PV}{u:Value}(h:Rel w I x u):az P w' I' ρ (Yv x) u:=by
 unfold Yv
 cases hs:JJ x with
 | true=>exact Rel.sc x u hs h
 | false=>trivial
theorem Cs{w w':World}{I I':Nat->Prop}{ρ:List Nat}:∀(xs:List PV) (us:List Value),aR w I xs us->ag P w' I' ρ (xs.map Yv) us
 | [],us,h=>h
 | x::xs,us,h=>by
  obtain⟨u,us',hu,h1,h2⟩:=h
  exact⟨u,us',hu,OM h1,Cs xs us' h2⟩
theorem aa.Tn(n:Nat){g:FuncId}{args rs:List PV}(hp:Pure P g args (.tuple rs)){f:Operand}{xs:Array Operand}{ts:Array TypeId}{fv:V}{vs all:List V}(ho:o.op= .call {callee:= .value f,args:=xs,argTypes:=ts})(hf:ev T f=some fv)
    (hxs:kR T xs.toList=some vs)(hc:callee vs fv=some (g,all))(hb:fN (dy H n) all=some args)(hg:ak P g=true):aa P N o T H (.tuple (rs.map Yv)) H:=by
 intro R w I ρ a hi hT K QX hK
 refine⟨bB,?_⟩
 rw[bD _ _ _ (by simp[ho])]
 obtain⟨us,h1,h2⟩:=dP ho hT hf hxs hc hg
 rw[h2]
 have h1':ag P w (fun b=>b<w.heap.size) [] (args.map .p) us:=ag.pure.2 (fC (qd hi n) all args us hb h1)
 have hi2:Inv P w (fun b=>b<w.heap.size) [] []:=⟨rfl,(fun _ _ _ h=>by simp at h),fun _ h=>h,(fun _ _ _ h=>by simp at h),(fun _ _ _ _ _ h=>by simp at h),(fun _ _ _ h=>by simp at h),hi.gl.mono hi.ib (fun _ _=>rfl)⟩
 refine⟨(fun h=>by cases h),?_⟩
 refine CallsIn.mono (cE R (hp w _ [] us hi2 h1')) ?_
 rintro e w' ⟨u,v,J,σ,H',rfl,⟨rfl,rfl⟩,h3,h4,h5⟩
 have he:=qM hi h3
 have Aw:Inv P w' I [] []:=⟨rfl,(fun _ _ _ h=>by simp at h),fun b h=>ZR (hi.ib b h) h3.w.size,(fun _ _ _ h=>by simp at h),(fun _ _ _ _ _ h=>by simp at h),(fun _ _ _ h=>by simp at h),hi.gl.mono (fun _ h=>h) he.w.bf⟩
 obtain⟨h6,h7⟩:=Inv.frame hi he Aw
 obtain⟨us',hu,hr⟩:=h5
 exact hK u w' I ρ h6 h7 ⟨us',hu,Cs rs _ hr⟩
end
section
variable {P:Program} {R:Option Nat} {N κ:Nat} {Q:Post} {T:Tm} {H H':List ai} {o:Oper}
def rG(P:Program)(t:TypeId):Bool:=
 match P.underlying t with
 | some (.interface _)=>false
 | some _=>true
 | none=>false
theorem aa.aA{t:TypeId}{x:Operand}{y:PV}(ho:o.op= .makeInterface t x)(hx:ev T x=some (.p y))(ht:rG P t=true):aa P N o T H (.p (.iface t y)) H:=
 aa.aN (by simp[ho]) fun w I ρ a hi hT=>by
  have h:=hT.ev hx
  unfold rG at ht
  cases hu:P.underlying t with
  | none=>simp[hu] at ht
  | some d=>
   refine⟨.iface t (a.eval x),?_,a.eval x,rfl,h⟩
   cases d <;> simp[hu] at ht <;> simp[execOp,ho,Instr.makeInterface,run_underlying hu]
def Th(P:Program)(t:TypeId)(name:String):Option FuncId:=
 match P.info? t with
 | some i=>match i.methods.find? (·.name==name) with
   | some m=>if m.path.isEmpty then(match m.func,P.underlying t with
     | some (_,false),some (.pointer _)=>none
     | some (f,false),some _=>some f
     | _,_=>none) else none
   | none=>none
 | none=>none
theorem Ff{t:TypeId}{name:String}{f:FuncId}(h:Th P t name=some f)(n:Nat)(v:Value)(w:World):(method (n+1) t v name).run P w= .ok (f,v) w:=by
 unfold Th at h
 cases hi:P.info? t with
 | none=>simp[hi] at h
 | some i=>
  simp only[hi] at h
  cases hm:i.methods.find? (·.name==name) with
  | none=>simp[hm] at h
  | some m=>
   simp only[hm] at h
   split at h
   ·rename_i hp
    have hp':m.path= #[]:=by simpa using hp
    cases hf:m.func with
    | none=>simp[hf] at h
    | some q=>
     obtain⟨g,b⟩:=q
     cases b with
     | true=>simp[hf] at h
     | false=>
      cases hu:P.underlying t with
      | none=>simp[hf,hu] at h
      | some d=>
       cases d <;> simp[hf,hu] at h <;> subst h <;> simp[method,run_typeInfo w hi,hm,hp',follow,hf,receiverAt,run_underlying hu,Place.get]
   ·cases h
def MV(P:Program)(name:String)(x:PV)(args:List PV)(r:PV):Prop:=∃ t y g,x= .iface t y∧Th P t name=some g∧ak P g=true∧Pure P g (y::args) r
theorem aa.invoke{name:String}{x r:PV}{args:List PV}(hF:MV P name x args r){rc:Operand}{xs:Array Operand}{ts:Array TypeId}(ho:o.op= .call {callee:= .invoke rc name,args:=xs,argTypes:=ts})(hx:ev T rc=some (.p x))(hxs:kR T xs.toList=some (args.map .p)):aa P N o T H (.p r) H:=by
 obtain⟨t,y,g,rfl,hm,hg,hp⟩:=hF
 intro R w I ρ a hi hT K QX hK
 refine⟨bB,?_⟩
 rw[bD _ _ _ (by simp[ho])]
 obtain⟨z,hz,hr⟩:=hT.ev hx
 have h2:=ag.pure.1 (hT.kR hxs)
 have hrun:(execOp a.eval o).run P w= .ok (.enter g (z::xs.toList.map a.eval).toArray) w:=by
  have e0:∀ us:Array Value,(#[Value.iface t z]++us)[0]? =some (.iface t z):=fun us=>by
   rw[Array.getElem?_append_left (by simp)];rfl
  obtain⟨n,hn⟩:∃ n,P.types.size+Made.depth=n+1:=⟨P.types.size+(Made.depth - 1),by have:0<Made.depth:=by decide
                                                                                  omega⟩
  simp[execOp,ho,resolve,Go.invoke,callMethod,hz,e0,hn,Ff hm,fL hg]
  exact OB (by simp)
 rw[hrun]
 have h1':ag P w I [] ((y::args).map .p) (z::xs.toList.map a.eval):=ag.pure.2 ⟨z,_,rfl,hr,h2⟩
 refine⟨(fun h=>by cases h),?_⟩
 refine CallsIn.mono (cE R (hp w I [] _ hi.nothing h1')) ?_
 rintro e w' ⟨u,v,J,σ,H',rfl,⟨rfl,rfl⟩,h3,h4,h5⟩
 have hσ:σ=[]:=ZA h4.len
 subst hσ
 obtain⟨h6,h7⟩:=Inv.frame hi h3 h4
 exact hK u w' J ρ h6 h7 h5
end
section
variable {P:Program} {R:Option Nat} {N κ:Nat} {Q:Post} {T:Tm} {H H':List ai} {o:Oper}
theorem aa.bg{α:Type}{g:Nat->α}{x y:Operand}{t:TypeId}{kd:IntKind}{sz len k:Nat}{xs:List α}{f:α->List PV}(hg:∀ k (h:k<xs.length),xs[k]=g k)(ho:o.op= .indexAddr t x y)(hx:ev T x=some (.p (.is (xs.flatMap f) len)))(hy:ev T y=some (.p (.int kd (k:Int))))(ht:dY P t=true)
    (he:ou P t=some sz)(hl:len=xs.length)(hf:∀ x,(f x).length=sz)(h0:0<sz)(hk:k<xs.length):aa P N o T H (.p (.ip (f (g k)) 0)) H:=by
 have h:=aa.gQ (P:=P) (N:=N) (H:=H) ho hx hy ht he hl hf h0 hk
 rwa [hg k hk] at h
theorem aa.Ft{t:TypeId}{parts:Array (Nat×Operand)}{z:List PV}{ps:List (Nat×Nat)}{vs:List (Nat×V)}{r:List V}{v:V}(ho:o.op= .build t parts)(hb:lT P t=some (z,ps))(hv:iq T parts.toList=some vs)(hr:iM ps (z.map .p) vs=some r)(hw:gD r=v):aa P N o T H v H:=by
 subst hw;exact aa.build ho hb hv hr
theorem aa.isR{xs ys:List PV}{n:Nat}(h:aa P N o T H (.p (.is ys n)) H')(e:ys=xs):aa P N o T H (.p (.is xs n)) H':=e▸h
theorem aj.BQ(d:Nat){ops:Array Oper}{rest:List Oper}{f:Operand}{xs:Array Operand}{ts:Array TypeId}{fv:V}{vs all:List V}{g:FuncId}{Qr:V->List ai->Prop}(hp:ax P g all H Qr)(ho:o.op= .call {callee:= .value f,args:=xs,argTypes:=ts})(hd:o.dst=some d)(hN:aZ N (some d)=true)(hgd:o.guard=none)(hf:ev T f=some fv)
    (hxs:kR T xs.toList=some vs)(hc:callee vs fv=some (g,all))(hg:ak P g=true)(next:∀ v H',Qr v H'->aj P R N κ ops rest Q ((d,v)::T) H'):aj P R N κ ops (o::rest) Q T H:=by
 intro QX B w I ρ a hi ht hm hq
 refine wpListIn_plain hgd fun K hK=> ?_
 refine⟨bB,?_⟩
 rw[bD _ _ _ (by simp[ho])]
 obtain⟨us,h1,h2⟩:=dP ho ht hf hxs hc hg
 rw[h2]
 refine⟨(fun h=>by cases h),?_⟩
 refine CallsIn.mono (cE R (hp w I ρ us hi h1)) ?_
 rintro e w' ⟨u,v',J,σ,H2,rfl,hQ,h3,h4,h5⟩
 refine hK _ _ ?_
 refine next v' H2 hQ QX B w' J σ (a.put o.dst u) h4 (by rw[hd];exact(ht.ext h3).put hN h5) ((hm.ext h3).put) fun e a2 w2 q=>hq e a2 w2 (QC.ext h3.w q)
theorem lK.many{fn:Func}{r1 r2:ResultVar}{rs:List ResultVar}{vs:List V}{xs:List PV}{Qr:V->List ai->Prop}(h:fn.results=(r1::r2::rs).toArray)(hr:zX P T H (r1::r2::rs) vs)(hv:vs=xs.map .p)(hq:Qr (.p (.tuple xs)) H):lK P N fn Qr .ret T H:=by
 refine⟨.inr rfl,.p (.tuple xs),?_,hq⟩
 have:=eT.many (N:=N) h hr
 have e:jv vs= .p (.tuple xs):=by
  subst hv
  simp[jv,ko]
 rwa [e] at this
theorem lK.one{fn:Func}{r:ResultVar}{v:V}{Qr:V->List ai->Prop}(h:fn.results= #[r])(hr:oZ P T H r v)(hq:Qr v H):lK P N fn Qr .ret T H:=
 ⟨.inr rfl,v,eT.one h hr,hq⟩
end
mutual
def wkP:PV->PV
 | .nilSlice=> .is [] 0
 | .agg cs=> .agg (vk cs)
 | .tuple cs=> .tuple (vk cs)
 | .is cs n=> .is (vk cs) n
 | .ip cs off=> .ip (vk cs) off
 | x=>x
def vk:List PV->List PV
 | []=>[]
 | x::xs=>wkP x::vk xs
end
mutual
theorem Rel.wk{w:World}{I:Nat->Prop}:∀(x:PV) (u:Value),Rel w I x u->Rel w I (wkP x) u
 | .nilSlice,u,h=> .inl ⟨⟨none,0,h⟩,rfl⟩
 | .agg cs,u,h=>by
  obtain⟨us,hu,h1⟩:=h
  exact⟨us,hu,aR.wk cs _ h1⟩
 | .tuple cs,u,h=>by
  obtain⟨us,hu,h1⟩:=h
  exact⟨us,hu,aR.wk cs _ h1⟩
 | .is cs n,u,h=>by
  rcases h with h | ⟨b,o,cap,hb,hl,hu,hc⟩
  ·exact .inl h
  ·exact .inr ⟨b,o,cap,fun hn=>hb (fun e=>hn (by subst e;rfl)),hl,hu,aT.wk cs b o hc⟩
 | .ip cs off,u,h=>by
  obtain⟨b,o,hb,hu,hc⟩:=h
  exact⟨b,o,hb,hu,aT.wk cs b o hc⟩
 | .bool _,_,h=>h
 | .int _ _,_,h=>h
 | .str _,_,h=>h
 | .nilPtr,_,h=>h
 | .nilMap,_,h=>h
 | .nilFunc,_,h=>h
 | .nilIface,_,h=>h
 | .im _ _,_,h=>h
 | .func _ _ _,_,h=>h
 | .iface _ _,_,h=>h
theorem aR.wk{w:World}{I:Nat->Prop}:∀(xs:List PV) (us:List Value),aR w I xs us->aR w I (vk xs) us
 | [],us,h=>h
 | c::cs,us,h=>by
  obtain⟨u,us',hu,h1,h2⟩:=h
  exact⟨u,us',hu,Rel.wk c u h1,aR.wk cs us' h2⟩
theorem aT.wk{w:World}{I:Nat->Prop}:∀(xs:List PV) (b o:Nat),aT w I xs b o->aT w I (vk xs) b o
 | [],_,_,h=>h
 | c::cs,b,o,h=>by
  obtain⟨⟨u,hu,h1⟩,h2⟩:=h
  exact⟨⟨u,hu,Rel.wk c u h1⟩,aT.wk cs b (o+1) h2⟩
end
def Wg:V->V
 | .p x=> .p (wkP x)
 | v=>v
theorem az.wk{P:Program}{w:World}{I:Nat->Prop}{ρ:List Nat}(v:V)(u:Value)(h:az P w I ρ v u):az P w I ρ (Wg v) u:=by
 cases v <;> first | exact Rel.wk _ _ h | exact h
theorem ag.wk{P:Program}{w:World}{I:Nat->Prop}{ρ:List Nat}:∀(vs:List V) (us:List Value),ag P w I ρ vs us->ag P w I ρ (vs.map Wg) us
 | [],us,h=>h
 | c::cs,us,h=>by
  obtain⟨u,us',hu,h1,h2⟩:=h
  exact⟨u,us',hu,az.wk c u h1,ag.wk cs us' h2⟩
section
variable {P:Program} {N κ:Nat} {T:Tm} {H:List ai}
theorem To.wkB(i:Nat){cs:List V}{e:TypeId}(hH:H[i]? =some (.cells cs e)):To P κ N T H T (H.set i (.cells (cs.map Wg) e)):=fun w I ρ tmps hi ht=>by
 obtain⟨b,hb⟩:∃ b,ρ[i]? =some b:=by
  have h1:i<H.length:=(Za.1 hH).1
  rw[<- hi.len] at h1
  exact⟨ρ[i],Zb h1⟩
 refine⟨I,ρ,cy.refl _ _ _,?_,ht,fun L hL _=>hL⟩
 refine hi.write hb hH rfl (Ext.refl _ _ _) rfl (fun _ _=>rfl) ?_
 obtain⟨arr,h1,h2⟩:=hi.rel i b _ hb hH
 exact⟨arr,h1,ag.wk cs _ h2⟩
end
section
variable {P:Program} {R:Option Nat} {N κ:Nat} {Q:Post} {T:Tm} {H H':List ai} {o:Oper}
theorem sL{i:Nat}{xs:List PV}:∀ l:List PV,kW i xs (l.map .p)=l.map .p
 | []=>rfl
 | x::l=>by simp[kW,iw,sL l]
end
theorem Cu(i:Nat)(xs:List PV):∀ a b:List V,kW i xs (a++b)=kW i xs a++kW i xs b
 | [],b=>rfl
 | x::a,b=>by simp only[NF,kW,Cu i xs a b]
section
variable {P:Program} {N κ:Nat} {T:Tm} {H:List ai}
theorem To.aaX(i j:Nat){xs:List PV}{vs cs:List V}{e:TypeId}(hij:i≠j)(hc:bR H[i]? =some vs)(hp:jF vs=some xs)(hH:H[j]? =some (.cells cs e)):To P κ N T H (xF i xs T) ((H.set i .dead).set j (.cells (kW i xs cs) e)):=by
 intro w I ρ tmps hi ht
 rw[dH hp] at hc
 obtain⟨b,arr,e',hρ,hw,hl,hr⟩:=ia hi hc
 obtain⟨bj,hbj⟩:∃ b,ρ[j]? =some b:=by
  have h1:j<H.length:=(Za.1 hH).1
  rw[<- hi.len] at h1
  exact⟨ρ[j],Zb h1⟩
 have X9:∃ blk,H[i]? =some blk∧blk.live=true:=by
  exact BV
 obtain⟨blk,hHi,dV⟩:=X9
 have hE:=Ext.freeze hi hρ hHi dV
 have hF:=Inv.freeze hi hρ hHi dV
 have hx:aT w (fun k=>I k∨k=b) xs b 0:=by
  exact AJ
 have hHj:(H.set i ai.dead)[j]? =some (.cells cs e):=by rw[GU hij];exact hH
 refine⟨_,ρ,hE.w,?_,⟨ht.size,fun s v hv=> ?_⟩,fun L hL _=>hL⟩
 ·refine hF.write hbj hHj rfl (Ext.refl _ _ _) rfl (fun _ _=>rfl) ?_
  obtain⟨eM,h1,h3⟩:=hF.rel j bj _ hbj hHj
  exact⟨eM,h1,nD hρ (.inr rfl) hx cs _ h3⟩
 ·rw[n8,Zl] at hv
  obtain⟨v0,h1,rfl⟩:=hv
  exact mT hρ (.inr rfl) hx v0 _ ((ht.at_ s v0 h1).ext hE)
theorem Aa:∀ l:List PV,(l.map V.p).map Wg=(vk l).map V.p
 | []=>rfl
 | x::l=>by simp only[Zx,vk,Aa l];rfl
theorem To.abb(i j:Nat){xs:List PV}{n:Nat}{a b:List PV}{e eb:TypeId}(T2:Tm)(hij:i≠j)(hi:H[i]? =some (dL (xs.map .p) e n))(hj:H[j]? =some (.cells (a.map .p++kL i n::b.map .p) eb))(h0:n=0->xs=[])(ha:vk a=a)(hb:vk b=b)
    (h1:Sub T2 (xF i xs T))(h2:Sub T2 T):To P κ N T H T2 ((H.set i .dead).set j (.cells (a.map .p++ .p (.is xs n)::b.map .p) eb)):=by
 cases n with
 | zero=>
  have hx:=h0 rfl
  subst hx
  have e1:H.set i .dead=H:=by
   apply Gg
   intro k
   rw[Zu]
   split
   ·rename_i hik
    subst hik
    split
    ·exact hi.symm
    ·rename_i h;rw[ZE (by omega)]
   ·rfl
  rw[e1]
  have h3:=To.wkB (P:=P) (N:=N) (κ:=κ) (T:=T) j hj
  have e2:(a.map V.p++kL i 0::b.map V.p).map Wg=a.map .p++ .p (.is [] 0)::b.map .p:=by
   rw[ZG,Zx,Aa,Aa,ha,hb]
   rfl
  rw[e2] at h3
  exact h3.trans (To.sub h2)
 | succ n=>
  have h3:=To.aaX (P:=P) (N:=N) (κ:=κ) (T:=T) i j hij (xs:=xs) (vs:=xs.map .p) (by rw[hi];rfl) (ko xs) hj
  have e2:kW i xs (a.map V.p++kL i (n+1)::b.map V.p)=a.map .p++ .p (.is xs (n+1))::b.map .p:=by
   rw[Cu,sL]
   simp only[kW,sL,kL,iw,if_true]
  rw[e2] at h3
  exact h3.trans (To.sub h1)
end
theorem tG(z:List PV):∀ n:Nat,((List.replicate n z).flatten).length=n*z.length
 | 0=>by simp
 | n+1=>by rw[Vl,R1,Zd,tG z n,Nat.succ_mul];omega
section
variable {P:Program} {N:Nat} {T:Tm} {H:List ai} {o:Oper}
end
theorem To.xj{P:Program}{N κ:Nat}{T T2:Tm}{H H2 H3:List ai}(h:To P κ N T H T2 H2)(e:H2=H3):To P κ N T H T2 H3:=e▸h
section
variable {P:Program} {N:Nat} {T:Tm} {H:List ai} {o:Oper}
theorem aa.kA{x y:Operand}{t:TypeId}{kd:IntKind}{sz i len:Nat}{n:Int}(ho:o.op= .indexAddr t x y)(hx:ev T x=some (.row i len))(hy:ev T y=some (.p (.int kd n)))(ht:dY P t=true)(he:ou P t=some sz)(hn:0<=n)(hk:n.toNat<len):aa P N o T H (.ptr i (n.toNat*sz)) H:=
 aa.CV (k:=n.toNat) ho hx (by rw[hy,U9 hn]) ht he hk
end
section
variable {P:Program} {N κ:Nat} {T:Tm} {H:List ai} {o:Oper}
end
section
variable {P:Program} {N:Nat} {T:Tm} {H:List ai} {o:Oper}
theorem aa.yB{g:Nat}{Sc:List PV}{y:Operand}{t:TypeId}{kd:IntKind}{sz len:Nat}{n:Int}(hg:(g,Sc)∈oQ P)(ho:o.op= .indexAddr t (.global g) y)(hy:ev T y=some (.p (.int kd n)))(ht:zA P t=some len)(he:ou P t=some sz)
    (h0:0<=n)(hl:n<len):aa P N o T H (.p (.ip Sc (n.toNat*sz))) H:=
 aa.aN (by simp[ho]) fun w I ρ a hi hT=>by
  have hn:=cS hT hy
  obtain⟨k1,k2,_⟩:=hi.gl.1 _ hg
  have zy:az P w I ρ (.p (.ip Sc 0)) (a.eval (.global g)):=⟨g,0,k1,rfl,k2⟩
  obtain⟨ad,hu,hr⟩:=rM (v:= .p (.ip Sc (n.toNat*sz))) (n:=n.toNat*sz) zy (show shift (n.toNat*sz) (.p (.ip Sc 0))=some (.p (.ip Sc (n.toNat*sz))) by simp[shift])
  exact EB
theorem aa.JR{K α:Type}[DecidableEq K]{enc:K->PV}{gp:α->PV}{d:TypeDesc}(hk:cV enc d){x y:Operand}{t:TypeId}{z:PV}{ms:List (K×α)}{n:K}(a0:α)(ho:o.op= .lookup t x y false)(hx:ev T x=some (.p (jZ enc gp ms)))(hy:ev T y=some (.p (enc n)))
    (ht:oy P t=some (d,z))(hz:z=gp a0):aa P N o T H (.p (gp ((cB n ms).getD a0))) H:=by
 have h:=aa.CM (P:=P) (N:=N) (H:=H) hk (gp:=gp) ho hx hy ht
 have e:AH z false ((cB n ms).map fun a=>V.p (gp a))= .p (gp ((cB n ms).getD a0)):=by
  unfold AH
  cases cB n ms with
  | none=>simp[hz]
  | some a=>rfl
 rw[e] at h
 exact h
end
open Go
theorem uq{w:World}{I:Nat->Prop}(k:IntKind)(b:Nat):∀(ns:List Int) (o:Nat),(∀ i n,ns[i]? =some n->w.cell? ⟨b,o+i,none⟩=some (.int k n))->aT w I (ns.map (PV.int k)) b o
 | [],o,_=>trivial
 | n::ns,o,h=>⟨⟨.int k n,h 0 n rfl,rfl⟩,uq k b ns (o+1) fun i m hm=>by
  have:=h (i+1) m (by simpa using hm)
  rwa [show o+1+i=o+(i+1) by omega]⟩
theorem qp{P:Program}{W:World}{nm:String}{g t e n:Nat}{k:IntKind}{ns:List Int}{d:DataW Unit}{rest:List (String×DataW Unit)}{ps:List MemPlace}(hd:d= .agg (ns.map fun n=> .lit (.int k n)))(hg:P.globalNamed nm=some g)(ht:(P.globals[g]?).map (·.type)=some t)
    (hu:P.underlying t=some (.array n e))(Yo:P.underlying e=some (.int k))(hc:P.cellsOf e=1)(hct:P.cellsOf t=n)(hn:ns.length=n)(h0:0<n)(h:DataW.LaidVars P W ((nm,d)::rest) ps):
    (g<W.heap.size∧aT W (fun b=>b<W.heap.size) (ns.map (PV.int k)) g 0∧∃ arr e fr,W.heap[g]? =some (.cells arr e fr)∧arr.size=(ns.map (PV.int k)).length)∧∃ q,DataW.LaidVars P W rest q:=by
 obtain⟨g0,t0,cs0,f0,p0,q0,Sm,ht0,It,hd0,hr,_⟩:=h
 obtain rfl:=ZB (hg.symm.trans Sm)
 obtain rfl:=ZB (ht.symm.trans ht0)
 obtain⟨xs,m1,rfl,hx1,hlen,hxn,hel⟩:=DataW.trod_array hu hd0
 simp only[Prod.mk.injEq] at hx1
 have hx2:=hx1.1
 rw[hd] at hx2
 have hx3:(ns.map fun n=>DataW.lit (.int k n))=xs.map (·.1):=by injection hx2
 have key:∀ i m,ns[i]? =some m->W.cell? ⟨g,0+i,none⟩=some (.int k m):=fun i m hm=>by
  have hi:i<n:=by rw[<- hn];exact(Za.1 hm).1
  have h1:=hel i hi
  obtain⟨y,hy⟩:∃ y,xs[i]? =some y:=⟨xs[i]'(by rw[hxn];exact hi),Zb _⟩
  rw[hy,hc,Ku] at h1
  obtain⟨r,e1,e2,_⟩:=DataW.trod_int Yo h1
  have e3:(xs.map (·.1))[i]? =some y.1:=by rw[Zt,hy];rfl
  rw[<- hx3,Zt,hm] at e3
  simp only[Q4,VN] at e3
  rw[e2] at e3
  have e4:m=r:=by simpa using e3
  subst e4
  rw[yy,World.var?_cell hg It i]
  have e5:(cs0.toList.drop i)[0]? =some (.int k m):=by
   have:((cs0.toList.drop i).take 1)[0]? =some (.int k m):=by rw[e1];rfl
   rwa [RU (by omega)] at this
  rw[R8,Kk] at e5
  simpa using e5
 have hcell:∃ e fr,W.heap[g]? =some (.cells cs0 e fr):=by
  unfold World.var? at It
  rw[hg] at It
  simp only[Option.bind_some] at It
  split at It
  ·rename_i cs e fr hh
   cases It
   exact⟨e,fr,hh⟩
  ·cases It
 obtain⟨e1,fr,hh⟩:=hcell
 refine⟨⟨(ZN.1 hh).1,uq k g ns 0 key,cs0,e1,fr,hh,?_⟩,q0,hr⟩
 rw[Zo,hn,<- hct,<- hlen,Gj]
def ke:List ai->List Nat->List ai->List ai
 | H,k::ks,x::xs=>ke (H.set k x) ks xs
 | H,_,_=>H
theorem cI:∀(ks:List Nat) (xs:List ai) (H:List ai),(ke H ks xs).length=H.length
 | [],xs,H=>by cases xs <;> rfl
 | k::ks,[],H=>rfl
 | k::ks,x::xs,H=>by rw[ke,cI ks xs,yd]
theorem kO:∀(ks:List Nat) (xs:List ai) (H:List ai) (i:Nat) (blk:ai),ks.Nodup->xs.length=ks.length->(ke H ks xs)[i]? =some blk->(∃ j:Nat,ks[j]? =some i∧xs[j]? =some blk)∨(i∉ks∧H[i]? =some blk)
 | [],xs,H,i,blk,_,_,h=>by
  have:ke H [] xs=H:=by cases xs <;> rfl
  rw[this] at h
  exact .inr ⟨by simp,h⟩
 | k::ks,[],H,i,blk,_,hl,h=>by simp at hl
 | k::ks,x::xs,H,i,blk,hn,hl,h=>by
  rw[ZC] at hn
  rw[ke] at h
  rcases kO ks xs _ i blk hn.2 (by simpa using hl) h with⟨j,h1,h2⟩ | ⟨h1,h2⟩
  ·exact .inl ⟨j+1,by simpa using h1,by simpa using h2⟩
  ·by_cases e:k=i
   ·subst e
    rw[Zu] at h2
    simp only[if_true] at h2
    split at h2
    ·exact .inl ⟨0,rfl,h2⟩
    ·cases h2
   ·rw[GU e] at h2
    exact .inr ⟨by simp[h1,Ne.symm e],h2⟩
section
variable {P:Program} {R:Option Nat} {N κ:Nat} {Q:Post} {T:Tm} {H:List ai} {o:Oper}
theorem Inv.some{w:World}{I:Nat->Prop}{ρ:List Nat}(hi:Inv P w I ρ H)(ks:List Nat)(hlt:∀ i∈ks,i<H.length)(hk3:ks.Nodup):
    (∀ j i:Nat,ks[j]? =Option.some i->(ks.map fun i=>ρ.getD i 0)[j]? =ρ[i]?)∧Inv P w I (ks.map fun i=>ρ.getD i 0) (ks.map fun i=>aD (pl ks) (H.getD i .dead)):=by
 have qZ:∀ j i:Nat,ks[j]? =Option.some i->(ks.map fun i=>ρ.getD i 0)[j]? =ρ[i]? :=fun j i h=>by
  exact Ct
 have hσ:∀ i j b:Nat,pl ks i=Option.some j->ρ[i]? =Option.some b->(ks.map fun i=>ρ.getD i 0)[j]? =Option.some b:=fun i j b h hb=>by rw[qZ j i (zD h)];exact hb
 have eK:∀(j b:Nat) (blk:ai),(ks.map fun i=>ρ.getD i 0)[j]? =Option.some b->(ks.map fun i=>aD (pl ks) (H.getD i .dead))[j]? =Option.some blk->∃ i x,ks[j]? =Option.some i∧ρ[i]? =Option.some b∧H[i]? =Option.some x∧blk=aD (pl ks) x:=by
  exact Dl
 refine⟨qZ,⟨by simp,fun j b blk h1 h2 h3=> ?_,hi.ib,fun j b blk h1 h2 h3=> ?_,fun i j b x y h1 h2 h3 h4 h5 h6=> ?_,fun j b blk h1 h2=> ?_,hi.gl⟩⟩
 ·exact Ew
 ·exact Ea
 ·exact Du
 ·exact AD
theorem aj.Uk(d:Nat)(ks:List Nat){ops:Array Oper}{rest:List Oper}{f:Operand}{xs:Array Operand}{ts:Array TypeId}{fv:V}{vs all:List V}{g:FuncId}{Qr:V->List ai->Prop}(hp:ax P g (bq (pl ks) all) (ks.map fun i=>aD (pl ks) (H.getD i .dead)) Qr)(hlen:∀ v H',Qr v H'->H'.length=ks.length)
    (hks:(ks.all (fun i=>Nat.blt i H.length)&&decide ks.Nodup)=true)(dV:(ks.all fun i=>(H.getD i .dead).live)=true)(ho:o.op= .call {callee:= .value f,args:=xs,argTypes:=ts})(hd:o.dst=some d)(hN:aZ N (some d)=true)(hgd:o.guard=none)(hf:ev T f=some fv)
    (hxs:kR T xs.toList=some vs)(hc:callee vs fv=some (g,all))(hg:ak P g=true)(next:∀ v H',Qr v H'->aj P R N κ ops rest Q ((d,aW (fun j=>ks[j]?) v)::T) (ke H ks (H'.map (aD fun j=>ks[j]?)))):aj P R N κ ops (o::rest) Q T H:=by
 intro QX B w I ρ a hi ht hm hq
 refine wpListIn_plain hgd fun K hK=> ?_
 refine⟨bB,?_⟩
 rw[bD _ _ _ (by simp[ho])]
 obtain⟨us,h1,h2⟩:=dP ho ht hf hxs hc hg
 rw[h2]
 refine⟨(fun h=>by cases h),?_⟩
 simp only[Zk,Zz,Zj] at hks dV
 have hlt:∀ i∈ks,i<H.length:=fun i h=>by have:=hks.1 i h;simpa[Nat.blt,Zw] using this
 obtain⟨qZ,vB⟩:=hi.some ks hlt hks.2
 have hσ:∀ i j b:Nat,pl ks i=some j->ρ[i]? =some b->(ks.map fun i=>ρ.getD i 0)[j]? =some b:=fun i j b h hb=>by rw[qZ j i (zD h)];exact hb
 refine CallsIn.mono (cE R (hp w I _ us vB (ep hσ all us h1))) ?_
 rintro e w' ⟨u,v',J,σ,H2,rfl,hQ,h3,h4,h5⟩
 have ur:=hlen _ _ hQ
 obtain rfl:(ks.map fun i=>ρ.getD i 0)=σ:=h3.pre.eq_of_length (by rw[Zo,h4.len,ur])
 have hσ':∀ i j b:Nat,(fun j=>ks[j]?) i=some j->(ks.map fun i=>ρ.getD i 0)[i]? =some b->ρ[j]? =some b:=fun i j b h hb=>by rw[<- qZ i j h];exact hb
 have hin:∀ b,b∈(ks.map fun i=>ρ.getD i 0)->∃ j i:Nat,ks[j]? =some i∧ρ[i]? =some b:=fun b hb=>by
  obtain⟨j,hj,e⟩:=Pz hb
  have HI:j<ks.length:=by simpa using hj
  refine⟨j,ks[j],Zb HI,?_⟩
  rw[<- qZ j ks[j] (Zb HI),<- e]
  exact Zb hj
 have hmem:∀ b,b∈(ks.map fun i=>ρ.getD i 0)->b∈ρ:=fun b hb=>by
  obtain⟨j,i,_,h⟩:=hin b hb
  exact Zh h
 have Ta:∀ j i:Nat,ks[j]? =some i->∃ x,H[i]? =some x∧x.live=true:=fun j i h=>by
  have hi2:=hlt i (Zh h)
  refine⟨H[i],Zb hi2,?_⟩
  have:=dV i (Zh h)
  rwa [Zf,Zb hi2] at this
 -- what an own block that is at none of the places has, stays
 have hout:∀(i b:Nat) (x:ai),ρ[i]? =some b->H[i]? =some x->x.live=true->i∉ks->b∉(ks.map fun i=>ρ.getD i 0):=fun i b x g1 g2 g3 g4 hb=>by
  obtain⟨j,i2,k1,k2⟩:=hin b hb
  obtain⟨y,k3,k4⟩:=Ta j i2 k1
  have:=hi.fK i i2 b x y g1 k2 g2 k3 g3 k4
  subst this
  exact g4 (Zh k1)
 have hE:Ext w I ρ w' J ρ:=⟨⟨h3.w.os,h3.w.tape,h3.w.output,h3.w.size,fun b g1 g2=>h3.w.keep b g1 fun h=>g2 (hmem b h),h3.w.shape,h3.w.lu,h3.w.bf,fun b h=>by
  rcases h3.w.ew b h with h | h | h
  ·exact .inl h
  ·exact .inr (.inl (hmem b h))
  ·exact .inr (.inr h),h3.w.cL,h3.w.j9,fun b h=> .inl h⟩,ZI _⟩
 have eK:∀(i:Nat) (blk:ai),(ke H ks (H2.map (aD fun j=>ks[j]?)))[i]? =some blk->(∃(j:Nat) (x:ai),ks[j]? =some i∧H2[j]? =some x∧blk=aD (fun j=>ks[j]?) x)∨(i∉ks∧H[i]? =some blk):=fun i blk h=>by
  rcases kO ks _ H i blk hks.2 (by rw[Zo,ur]) h with⟨j,g1,g2⟩ | g
  ·rw[Zt,Zl] at g2
   obtain⟨x,g3,rfl⟩:=g2
   exact .inl ⟨j,x,g1,g3,rfl⟩
  ·exact .inr g
 have hI:Inv P w' J ρ (ke H ks (H2.map (aD fun j=>ks[j]?))):=by
  refine⟨by rw[cI,hi.len],fun i b blk g1 g2 g3=> ?_,h4.ib,fun i b blk g1 g2 g3=> ?_,fun i i' b x y g1 g2 g3 g4 g5 g6=> ?_,fun i b blk g1 g2=> ?_,h4.gl⟩
  ·rcases eK i blk g2 with⟨j,x,k1,k2,rfl⟩ | ⟨k1,k2⟩
   ·exact h4.gf j b x (by rw[qZ j i k1];exact g1) k2 (by rwa [bY] at g3)
   ·exact uF
  ·rcases eK i blk g2 with⟨j,x,k1,k2,rfl⟩ | ⟨k1,k2⟩
   ·exact h4.live j b x (by rw[qZ j i k1];exact g1) k2 (by rwa [bY] at g3)
   ·intro hJ
    rcases h3.w.ew b hJ with h | h | h
    ·exact hi.live i b blk g1 k2 g3 h
    ·exact hout i b blk g1 k2 g3 k1 h
    ·have:=hi.gf i b blk g1 k2 g3;omega
  ·rcases eK i x g3 with⟨j,x',k1,k2,rfl⟩ | ⟨k1,k2⟩ <;> rcases eK i' y g4 with⟨j',y',m1,m2,rfl⟩ | ⟨m1,m2⟩
   ·rw[bY] at g5 g6
    have:=h4.fK j j' b x' y' (by rw[qZ j i k1];exact g1) (by rw[qZ j' i' m1];exact g2) k2 m2 g5 g6
    subst this
    rw[k1] at m1
    exact ZB m1
   ·exact absurd (Zh (by rw[qZ j i k1];exact g1)) (hout i' b y g2 m2 g6 m1)
   ·exact absurd (Zh (by rw[qZ j' i' m1];exact g2)) (hout i b x g1 k2 g5 k1)
   ·exact hi.fK i i' b x y g1 g2 k2 m2 g5 g6
  ·rcases eK i blk g2 with⟨j,x,k1,k2,rfl⟩ | ⟨k1,k2⟩
   ·exact jC hσ' (h4.rel j b x (by rw[qZ j i k1];exact g1) k2)
   ·cases hlv:blk.live with
    | false=>exact cN.gh hlv
    | true=>exact cN.mono h3.w.lu h3.w.bf (ZI _) (fun b _ s hs=>h3.w.shape b s hs) (h3.w.keep b (hi.gf i b blk g1 k2 hlv) (hout i b blk g1 k2 hlv k1)) (hi.rel i b blk g1 k2)
 refine hK _ _ ?_
 refine next v' H2 hQ QX B w' J ρ (a.put o.dst u) hI (by rw[hd];exact(ht.ext hE).put hN (eY hσ' v' u h5)) ((hm.ext hE).put) fun e a2 w2 q=>hq e a2 w2 (QC.ext hE.w q)
theorem aI.toEnd{c:Code}(h:aI P R N κ c (AX.then (fun T' H'=>∃ T2 H2,To P κ N T' H' T2 H2∧Q .normal T2 H2) Q) T H):aI P R N κ c Q T H:=by
 intro B w I ρ a hi ht hm
 refine wpIn_mono (h B w I ρ a hi ht hm) ?_
 rintro e a' w' ⟨z,J,σ,T1,H1,h1,h2,h3,h4,h5,h6⟩
 cases z <;> cases e <;> first | exact h1.elim | skip
 ·obtain⟨T2,H2,k1,k2⟩:=h2
  obtain⟨I',ρ',g1,g2,g3,g4⟩:=k1 w' J σ a'.tmps h4 h5
  exact⟨.normal,I',ρ',T2,H2,trivial,k2,h3.trans g1,g2,g3,h6.to g1 g4⟩
 all_goals exact⟨_,J,σ,T1,H1,h1,h2,h3,h4,h5,h6⟩
theorem aI.E3{g:Operand}{ps:Array Tmp}{fj body:Code}{fv:V}{f:FuncId}{mk:V->List V}{xs:List (List V)}(κ2:Nat)(hg:ev T g=some fv)(hc:∀ y,callee [y] fv=some (f,mk y))(hf:ak P f=true)(E6:K3 P f mk xs)
    (hκ:κ<=κ2)(YO:κ2<=H.length)(hR:∀ l0,R=some l0->∃(i:Nat) (r0:uH) (st:LoopState) (pe:Option Code),r0.l=l0∧H[i]? =some (.loop r0 st pe))(hps:∀ x∈xs,x.length=ps.size)(hlt:ps.toList.all (fun p=>Nat.blt p N)=true)
    (J:List ai->Nat->List ai->Prop)(Jx:List ai->Code->List ai->Prop)(hJ:∀ k h,J H k h->h.length=H.length)(MP:∀ c h,Jx H c h->h.length=H.length)(h0:J H 0 H)
    (round:∀ l tmps k h x,J H k h->xs[k]? =some x->Round P N κ2 ⟨l,tmps,T,ps,fj,body⟩ k H.length (J H) (Jx H) (mF T ps.toList x) (h++[.loop ⟨l,tmps,T,ps,fj,body⟩ .ready none]))
    (done:∀ h,J H xs.length h->Q .normal T (h++[.dead]))(stop:∀ c h,Jx H c h->aI P R N κ c Q T (h++[.dead])):aI P R N κ (.rangeFunc g ps fj body) Q T H:=
 aI.rangeFunc κ2 hg hc hf E6 hκ YO hR hps hlt (J H) (Jx H) hJ MP h0 round done stop
end
def below(n i:Nat):Option Nat:=if Nat.blt i n then some i else none
def TE(P:Program)(h:List ai):Prop:=∀ blk∈h,∀(w:World) (I:Nat->Prop) (ρ:List Nat) (b:Nat),cN P w I ρ blk b->cN P w I (ρ.take h.length) blk b
section
variable {P:Program} {w w2:World} {I I2:Nat->Prop} {ρ ρ2:List Nat}
theorem w7{l:List Nat}{n i b:Nat}(hi:i<n)(h:l[i]? =some b):(l.take n)[i]? =some b:=by rw[RU hi];exact h
end
section
variable {P:Program} {R:Option Nat} {N:Nat} {Q Q':Post} {T T' T2 T3:Tm} {H H' H2 H3:List ai} {o:Oper} {ops:Array Oper} {rest:List Oper}
end
section
variable {P:Program} {R:Option Nat} {N κ:Nat} {Q:Post} {T:Tm} {H H2:List ai} {o:Oper}
end
section
variable {P:Program} {R:Option Nat} {N κ:Nat} {Q:Post} {T:Tm} {H H2:List ai} {o:Oper}
section
variable {K α:Type} {enc:K->PV} {gp:α->PV}
end
end
section
variable {P:Program} {R:Option Nat} {N κ:Nat} {Q Q':Post} {T T' T2 T3:Tm} {H H' H2 H3:List ai} {o:Oper} {ops:Array Oper} {rest:List Oper}
end
theorem LJ:∀{T:Tm} {s:Nat} {v:V},lk T s=some v->(s,v)∈T
 | [],s,v,h=>by cases h
 | (a,u)::T,s,v,h=>by
  simp only[lk] at h
  cases hb:Nat.beq a s with
  | true=>
   rw[hb] at h
   cases h
   obtain rfl:=ZO hb
   exact Zq
  | false=>
   rw[hb] at h
   exact Zg _ (LJ h)
def sU(n:Nat):V->Prop
 | .p _=>True
 | .ptr j _=>j<n
 | _=>False
theorem sU.Y0{n:Nat}:∀{v:V},sU n v->aW (below n) v=v
 | .p _,_=>rfl
 | .ptr j _,h=>by
  have e:below n j=some j:=by unfold below;rw[if_pos (by simpa[Nat.blt,Zw,sU] using h)]
  simp only[aW,e]
 | .row _ _,h=>h.elim
 | .sl _ _ _,h=>h.elim
 | .map _,h=>h.elim
 | .func _ _ _,h=>h.elim
 | .iface _ _,h=>h.elim
 | .agg _,h=>h.elim
 | .tuple _,h=>h.elim
 | .opt _ _,h=>h.elim
 | .raw _ _ _,h=>h.elim
 | .z0,h=>h.elim
 | .top,h=>h.elim
theorem sU.frz{n:Nat}{xs:List PV}:∀{v:V},sU n v->iw n xs v=v
 | .p _,_=>rfl
 | .ptr j _,h=>by
  have h':j<n:=h
  simp only[iw]
  rw[if_neg (by omega)]
 | .row _ _,h=>h.elim
 | .sl _ _ _,h=>h.elim
 | .map _,h=>h.elim
 | .func _ _ _,h=>h.elim
 | .iface _ _,h=>h.elim
 | .agg _,h=>h.elim
 | .tuple _,h=>h.elim
 | .opt _ _,h=>h.elim
 | .raw _ _ _,h=>h.elim
 | .z0,h=>h.elim
 | .top,h=>h.elim
def mq(n:Nat)(T:Tm):Tm->Prop
 | []=>True
 | (s,v)::r=>lk T s=some v∧sU n v∧mq n T r
theorem mq.mem{n:Nat}{T:Tm}:∀{T2:Tm},mq n T T2->∀ s v,(s,v)∈T2->lk T s=some v∧sU n v
 | [],_,s,v,h=>by cases h
 | (a,u)::r,h,s,v,hm=>by
  obtain⟨h1,h2,h3⟩:=h
  rcases Zr.1 hm with e | hm
  ·cases e;exact⟨h1,h2⟩
  ·exact mq.mem h3 s v hm
section
variable {P:Program} {R:Option Nat} {N κ:Nat} {Q Q':Post} {T T' T2 T3:Tm} {H H' H2 H3:List ai} {o:Oper} {ops:Array Oper} {rest:List Oper}
theorem To.Y9{ext:List ai}(hw:TE P H)(hκ:κ<=H.length)(hT:∀ s v,lk T2 s=some v->lk T s=some v∧sU H.length v):To P κ N T (H++ext) T2 H:=by
 intro w I ρ tmps hi ht
 have hρ:ρ.length=H.length+ext.length:=by rw[hi.len,Zd]
 have t1:∀(i b:Nat),(ρ.take H.length)[i]? =some b->i<H.length∧ρ[i]? =some b:=fun i b e=>by
  exact A6
 have t2:∀(i:Nat) (blk:ai),H[i]? =some blk->(H++ext)[i]? =some blk:=fun i blk e=>by
  rw[Zc (Za.1 e).1]
  exact e
 refine⟨I,ρ.take H.length,?_,?_,⟨ht.size,fun s v hv=> ?_⟩,fun B hB hκ2=> ?_⟩
 ·exact D6
 ·exact EC
 ·obtain⟨h1,h2⟩:=hT s v hv
  have h3:=ht.at_ s v h1
  have h4:=eY (σ:=below H.length) (ρ2:=ρ.take H.length) (fun i j b g1 g2=>by
   unfold below at g1
   split at g1
   ·rename_i g3
    cases g1
    exact w7 (by simpa[Nat.blt,Zw] using g3) g2
   ·cases g1) v _ h3
  rwa [h2.Y0] at h4
 ·exact BN
theorem To.Mi{h:List ai}{xs:List PV}{vs:List V}{e:TypeId}{s:Nat}(hw:TE P h)(hκ:κ<=h.length)(hs:lk T s=some (.ptr h.length 0))(hv:jF vs=some xs)(hT:mq h.length T T2):To P κ N T (h++[.cells vs e]) ((s,.p (.ip xs 0))::T2) h:=by
 have eK:bR (h++[ai.cells vs e])[h.length]? =some vs:=by simp[bR]
 have h1:=To.freeze (P:=P) (κ:=κ) (N:=N) (T:=T) (H:=h++[.cells vs e]) h.length eK hv
 rw[jm] at h1
 refine h1.trans (To.Y9 hw hκ fun s' v Ox=> ?_)
 simp only[lk] at Ox
 rw[n8]
 cases hb:Nat.beq s s' with
 | true=>
  rw[hb] at Ox
  obtain rfl:=ZO hb
  cases Ox
  rw[hs]
  refine⟨?_,trivial⟩
  simp[iw]
 | false=>
  rw[hb] at Ox
  obtain⟨h2,h3⟩:=hT.mem s' v (LJ Ox)
  rw[h2]
  exact⟨congrArg some h3.frz,h3⟩
theorem ya:∀(vs zs pre:List V),zs.length=vs.length->setAt (pre++zs) pre.length vs=pre++vs
 | [],zs,pre,h=>by
  obtain rfl:zs=[]:=ZA (by simpa using h)
  rfl
 | v::vs,[],pre,h=>by simp at h
 | v::vs,z::zs,pre,h=>by
  have ih:=ya vs zs (pre++[v]) (by simpa using h)
  simp only[setAt]
  have e:(pre++z::zs).set pre.length v=(pre++[v])++zs:=by simp
  rw[e]
  have e2:pre.length+1=(pre++[v]).length:=by simp
  rw[e2,ih]
  simp
def Lj(k:Nat):V->V
 | .p x=> .p x
 | .ptr j off=>bif Nat.blt j k then .ptr j off else .top
 | _=> .top
def CY(k:Nat):Tm->Tm
 | []=>[]
 | (s,v)::r=>(s,Lj k v)::CY k r
theorem GK(k:Nat):∀(T:Tm) (s:Nat),lk (CY k T) s=(lk T s).map (Lj k)
 | [],s=>rfl
 | (a,v)::r,s=>by
  simp only[CY,lk]
  cases Nat.beq a s with
  | true=>rfl
  | false=>exact GK k r s
theorem KV{w w':World}{I I':Nat->Prop}{ρ ρ':List Nat}{k:Nat}(h:cy w I ρ w' I' ρ')(hp:ρ.take k<+:ρ'){v:V}{u:Value}(hv:az P w I ρ v u):az P w' I' ρ' (Lj k v) u:=by
 cases v <;> first | trivial | skip
 ·exact Rel.mono h.lu h.bf _ u hv
 ·rename_i j off
  simp only[Lj]
  cases hb:Nat.blt j k with
  | false=>trivial
  | true=>
   obtain⟨b,h1,h2⟩:=hv
   have hlt:j<k:=by simpa[Nat.blt,Zw] using hb
   obtain⟨t,ht⟩:=hp
   refine⟨b,?_,h2⟩
   have h3:(ρ.take k)[j]? =some b:=by rw[RU hlt];exact h1
   rw[<- ht,Zc (Za.1 h3).1]
   exact h3
theorem bn.CY{w w':World}{I I':Nat->Prop}{ρ ρ':List Nat}{tmps:Array Value}{k:Nat}(h:cy w I ρ w' I' ρ')(hp:ρ.take k<+:ρ')(t:bn P w I ρ N T tmps):bn P w' I' ρ' N (AF.CY k T) tmps:=
 ⟨t.size,fun s v hv=>by
  rw[GK,Zl] at hv
  obtain⟨v0,h1,rfl⟩:=hv
  exact KV h hp (t.at_ s v0 h1)⟩
end
section
variable {P:Program} {R:Option Nat} {N κ:Nat} {Q Q':Post} {T T' T2 T3:Tm} {H H' H2 H3:List ai} {o:Oper} {ops:Array Oper} {rest:List Oper}
theorem aa.QH{x y:Operand}{t t2 e:TypeId}{z:List PV}{i len n:Nat}{cs ys:List V}{yv:V}(ho:o.op= .call {callee:= .builtin .copy,args:= #[x,y],argTypes:= #[t,t2]})(hx:ev T x=some (.row i len))(hy:ev T y=some yv)(hs:oz P t=some (e,z))
    (hH:H[i]? =some (.row cs e))(hsrc:oV H z.length yv=some (ys,n))(hn:n<=len)(hcl:ys.length<=cs.length)(hone:ys.all jB=true):aa P N o T H (.p (.int .i64 (n:Int))) (H.set i (.row (setAt cs 0 ys) e)):=
 aa.dz (by simp[ho]) fun w I ρ a hi hT=>by
  obtain⟨hu,⟨bb,lH⟩,uL,hz⟩:=eg hs
  obtain⟨b,e',cap,hρ,FU,hsh,hle⟩:=hT.ev hx
  obtain⟨us,⟨ad,wY,Au⟩,_,hfc,cu,hlen⟩:=kN hi (hT.ev hy) hsrc
  obtain⟨arr,hw,hal,har⟩:=hi.rel i b _ hρ hH
  have hun:∀ u∈us,zB u=true:=zk cu hone
  have uC:=ag.length cu
  have aaz:=ag.length har
  have dV:(ai.row cs e).live=true:=rfl
  have hf:=hfc n (Ze _)
  rw[<- hlen,ZS] at hf
  have hsz:us.length<=arr.size:=by
   have:cs.length<=arr.size:=by
    rw[<- aaz,x7,Gj]
    exact Nat.min_le_right _ _
   omega
  obtain⟨w',c5,r1,r2,r3,r4,r5,r6,r7,r8,r9⟩:=eU (P:=P) (w:=w) us arr w 0 0 hw (by omega) hun
  have hE:Ext w I ρ w' I ρ:=Ext.write hi hρ hH dV r5 r6 r7 r8 r9 (fun s h=>by
   simp only[World.shape?,hw] at h
   simp only[World.shape?,r2,r3]
   exact h)
  have xd:ag P w' I ρ (setAt cs 0 ys) (c5.toList.take cs.length):=by
   rw[r4]
   exact jN ys us cs arr.toList (0+0) (ag.ext hE cu) (by omega) (ag.ext hE har)
  refine⟨.int .i64 n,w',I,ρ,.inl ?_,hE,Inv.write hi hρ hH dV hE r8 r9 ?_,by simp[az,Rel]⟩
  ·have hmin:Nat.min n len=n:=Kv hn
   have hlo:(Builtin.lenOf (.slice ad n wY)).run P w= .ok n w:=by simp[Builtin.lenOf]
   rw[Au] at hf
   simp[execOp,ho,resolve,Go.invoke,Go.builtin,Builtin.copy_,run_underlying hu,FU,aK lH,Au,hlo,hmin,hf,r1,goInt]
  ·refine⟨c5,r2,?_,?_⟩
   ·rw[fI,r3]
    exact hal
   ·rw[fI]
    exact xd
end
section
variable {P:Program} {w:World} {I:Nat->Prop} {ρ:List Nat}
end
end Go.AF
end
