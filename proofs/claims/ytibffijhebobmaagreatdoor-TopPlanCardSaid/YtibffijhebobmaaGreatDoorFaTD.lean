/-
 Calls that read own blocks, as content. No condition; generic over any program.
 Regions that draw their order, in which own blocks are laid and written. No condition; generic over any program.
 New rows of zeros; checks for nil; bits that are taken away. No condition; generic over any program.
 Rows put together. No condition; generic over any program.
 Calls that look at own blocks, whose result is partly forgotten. No condition; generic over any program.
 Interface values and their methods. No condition; generic over any program.
 Elements by a total function of their place; calls that leave one of many states behind. No condition; generic over any program.
 Empty slices inside of values, by what is in them. No condition; generic over any program.
 Cells of own rows at places not known; an own row that is frozen where another own row refers to it. No condition; generic over any program.
 An own slice that grew in a cell of another own block becomes immutable there. No condition; generic over any program.
 A slice that is built of whole elements. No condition; generic over any program.
 An element of an own slice at an integer place. No condition; generic over any program.
 A call whose result is a tuple with a new own slice; own slices that may be empty are copied and written. No condition; generic over any program.
 A cell of a package variable that the program lays. No condition; generic over any program.
 What a row says of a listed package variable, an array of integers, as the walks want it. No condition; generic over any program.
 A call that works on some of the own blocks; all others stay as they are. No condition; generic over any program.
 Functions that yield in a range over another function. No condition; generic over any program.
 Storing one cell at a place of an own block. No condition; generic over any program.
 New slices that become content at once; a map that is frozen where a cell refers to it. No condition; generic over any program.
 Ranges over functions that look at own blocks of their caller. No condition; generic over any program.
 Functions that yield and look at own blocks of their caller: what they lay themselves becomes content; places below k are kept over a yield. No condition; generic over any program.
 Copying into an own row; slices that are nil, or not. No condition; generic over any program.
 A slice that grows, read as content by a call: nil, or a list. No condition; generic over any program.
-/
import Derived.Test.YtibffijhebobmaaGreatDoorFaTC
import Derived.MakeChecks
import Derived.LaidMore
import Derived.OpenShut
import Derived.FnData
theorem Ce{A:Prop}(h:A:=by
 simp only[bU,Zi] at h
 obtain⟨xs,h1,rfl⟩:=h
 obtain⟨us,hu,k1⟩:=hr
 exact⟨us,hu,fu ih cs xs _ h1 k1⟩):A:=h
theorem uO{A:Prop}(h:A:=by
 exact aB.mono he'.w.lD he'.w.bh h5 (fun b _ s hs=>he'.w.shape b s hs) v _ h4):A:=h
theorem Ej{A:Prop}(h:A:=by
 obtain⟨us,hu,h1⟩:=h
 exact⟨us,hu,aW.sc cs _ (by simpa[JI] using hs) h1⟩):A:=h
set_option linter.unnecessarySimpa false
set_option linter.unusedSectionVars false
set_option linter.unusedSimpArgs false
set_option linter.unusedVariables false
section
namespace Go.AF
def cT(f:V->Option PV):List V->Option (List PV)
 | []=>some []
 | v::vs=>match f v,cT f vs with
   | some x,some xs=>some (x::xs)
   | _,_=>none
def bU(H:List ah):Nat->V->Option PV
 | _,.p x=>some x
 | 0,_=>none
 | n+1,.ptr i off=>match bJ H[i]? with
   | some cs=>(cT (bU H n) cs).map (PV.ip · off)
   | none=>none
 | n+1,.row i len=>match bJ H[i]? with
   | some cs=>(cT (bU H n) cs).map (PV.is · len)
   | none=>none
 | n+1,.sl i off len=>match bJ H[i]? with
   | some cs=>(cT (bU H n) cs).map fun xs=>PV.is (xs.drop off) len
   | none=>none
 | n+1,.map i=>match H[i]? with
   | some (.map ks vs)=>match cT (bU H n) ks,cT (bU H n) vs with
     | some xs,some ys=>some (.im xs ys)
     | _,_=>none
   | _=>none
 | n+1,.func fn fi ca=>match cT (bU H n) fi,cT (bU H n) ca with
   | some xs,some ys=>some (.func fn xs ys)
   | _,_=>none
 | n+1,.iface t v=>(bU H n v).map (PV.iface t)
 | n+1,.agg cs=>(cT (bU H n) cs).map PV.agg
 | n+1,.tuple cs=>(cT (bU H n) cs).map PV.tuple
 | _+1,.opt _ _=>none
 | _+1,.raw _ _ _=>none
 | _+1,.z0=>some (.is [] 0)
 | _+1,.top=>none
theorem wM(H:List ah)(n:Nat):∀ xs:List PV,cT (bU H n) (xs.map .p)=some xs
 | []=>rfl
 | x::xs=>by
  have e:bU H n (.p x)=some x:=by cases n <;> rfl
  simp only[Zz,cT,e,wM H n xs]
section
variable {P:Program} {R:Option Nat} {N κ:Nat} {Q Q':Post} {T T' T2 T3:Tm} {H H' H2 H3:List ah} {o:Oper} {ops:Array Oper} {rest:List Oper}
theorem fu{w:World}{I:Nat->Prop}{ρ:List Nat}{f:V->Option PV}(hf:∀ v x u,f v=some x->aB P w I ρ v u->Rel w (fun b=>b<w.heap.size) x u):∀(vs:List V) (xs:List PV) (us:List Value),cT f vs=some xs->ag P w I ρ vs us->aW w (fun b=>b<w.heap.size) xs us
 | [],xs,us,h,hr=>by simp[cT] at h;subst h;exact hr
 | v::vs,xs,us,h,hr=>by
  obtain⟨u,us',rfl,h1,h2⟩:=hr
  simp only[cT] at h
  split at h
  ·rename_i x ys e1 e2
   simp at h
   subst h
   exact⟨u,us',rfl,hf v x u e1 h1,fu hf vs ys us' e2 h2⟩
  ·cases h
theorem uk{w:World}{b:Nat}{ob:Obj}(h:w.heap[b]? =some ob):b<w.heap.size:=by
 rcases ZS b w.heap.size with h1 | h1
 ·exact h1
 ·rw[Array.getElem?_eq_none h1] at h;cases h
theorem uM{w:World}{I:Nat->Prop}{ρ:List Nat}{i:Nat}{cs:List V}{xs:List PV}{f:V->Option PV}(hi:Inv P w I ρ H)(hf:∀ v x u,f v=some x->aB P w I ρ v u->Rel w (fun b=>b<w.heap.size) x u)
    (hc:bJ H[i]? =some cs)(hx:cT f cs=some xs):∃ b,ρ[i]? =some b∧b<w.heap.size∧aX w (fun b=>b<w.heap.size) xs b 0:=by
 obtain⟨b,arr,e,hρ,hw,hl,hr⟩:=gN hi hc
 refine⟨b,hρ,uk hw,?_⟩
 refine aX.lZ xs (arr.toList.take cs.length) 0 (fu hf cs xs _ hx hr) fun j v hj=> ?_
 rw[ZV] at hj
 split at hj
 ·exact rP
 ·cases hj
theorem mP{w:World}{I:Nat->Prop}{ρ:List Nat}(hi:Inv P w I ρ H):∀(n:Nat) (v:V) (x:PV) (u:Value),bU H n v=some x->aB P w I ρ v u->Rel w (fun b=>b<w.heap.size) x u:=by
 have So:∀(x:PV) (u:Value),aB P w I ρ (.p x) u->Rel w (fun b=>b<w.heap.size) x u:=fun x u h=>Rel.mono (fun b hb=>hi.ib b hb) (fun _ _=>rfl) x u h
 intro n
 induction n with
 | zero=>
  intro v x u h hr
  cases v <;> simp[bU] at h
  subst h
  exact So _ _ hr
 | succ n ih=>
  intro v x u h hr
  cases v with
  | p y=>simp[bU] at h;subst h;exact So _ _ hr
  | ptr i off=>
   simp only[bU] at h
   split at h
   ·rename_i cs hc
    simp only[Zi] at h
    obtain⟨xs,h1,rfl⟩:=h
    obtain⟨b,hρ,hb,eD⟩:=uM hi ih hc h1
    obtain⟨b',pV,hu⟩:=hr
    rw[hρ] at pV
    cases pV
    exact⟨b,0,hb,by simpa using hu,eD⟩
   ·cases h
  | row i len=>
   simp only[bU] at h
   split at h
   ·rename_i cs hc
    simp only[Zi] at h
    obtain⟨xs,h1,rfl⟩:=h
    obtain⟨b,hρ,hb,eD⟩:=uM hi ih hc h1
    obtain⟨b',e,cap,pV,hu,_,hl⟩:=hr
    rw[hρ] at pV
    cases pV
    exact .inr ⟨b,0,cap,fun _=>hb,hl,hu,eD⟩
   ·cases h
  | sl i off len=>
   simp only[bU] at h
   split at h
   ·rename_i cs hc
    simp only[Zi] at h
    obtain⟨xs,h1,rfl⟩:=h
    obtain⟨b,hρ,hb,eD⟩:=uM hi ih hc h1
    obtain⟨b',cap,pV,hu,hl⟩:=hr
    rw[hρ] at pV
    cases pV
    refine .inr ⟨b,off,cap,fun _=>hb,hl,hu,?_⟩
    have:=eD.drop off
    simpa using this
   ·cases h
  | map i=>
   simp only[bU] at h
   split at h
   ·rename_i ks vs hH
    split at h
    ·rename_i xs ys h1 h2
     simp at h
     subst h
     obtain⟨b,hρ,hu⟩:=hr
     obtain⟨es,clock,k1,k2,k3,k4⟩:=hi.rel i b _ hρ hH
     exact⟨b,es,clock,uk k1,hu,k1,fu ih ks xs _ h1 k2,fu ih vs ys _ h2 k3,k4⟩
    ·cases h
   ·cases h
  | func fn fi ca=>
   simp only[bU] at h
   split at h
   ·rename_i xs ys h1 h2
    simp at h
    subst h
    obtain⟨us,vs,hu,k1,k2⟩:=hr
    exact⟨us,vs,hu,fu ih fi xs _ h1 k1,fu ih ca ys _ h2 k2⟩
   ·cases h
  | iface t v=>
   simp only[bU,Zi] at h
   obtain⟨y,h1,rfl⟩:=h
   obtain⟨z,hu,k1⟩:=hr
   exact⟨z,hu,ih v y z h1 k1⟩
  | agg cs=>
   exact Ce
  | tuple cs=>
   exact Ce
  | opt g v=>simp[bU] at h
  | raw a n c=>simp[bU] at h
  | z0=>
   exact BX
  | top=>simp[bU] at h
mutual
def JI:PV->Bool
 | .bool _ | .int _ _ | .str _ | .nilPtr | .nilSlice | .nilMap | .nilFunc | .nilIface=>true
 | .agg cs=>Pt cs
 | .tuple cs=>Pt cs
 | .iface _ v=>JI v
 | .ip _ _ | .is _ _ | .im _ _ | .func _ _ _=>false
def Pt:List PV->Bool
 | []=>true
 | x::xs=>JI x&&Pt xs
end
mutual
theorem Rel.sc{w w':World}{I I':Nat->Prop}:∀(x:PV) (u:Value),JI x=true->Rel w I x u->Rel w' I' x u
 | .bool _,_,_,h=>h
 | .int _ _,_,_,h=>h
 | .str _,_,_,h=>h
 | .nilPtr,_,_,h=>h
 | .nilSlice,_,_,h=>h
 | .nilMap,_,_,h=>h
 | .nilFunc,_,_,h=>h
 | .nilIface,_,_,h=>h
 | .agg cs,u,hs,h=>by
  exact Ej
 | .tuple cs,u,hs,h=>by
  exact Ej
 | .iface t v,u,hs,h=>by
  obtain⟨z,hu,h1⟩:=h
  exact⟨z,hu,Rel.sc v z (by simpa[JI] using hs) h1⟩
 | .ip _ _,_,hs,_=>by simp[JI] at hs
 | .is _ _,_,hs,_=>by simp[JI] at hs
 | .im _ _,_,hs,_=>by simp[JI] at hs
 | .func _ _ _,_,hs,_=>by simp[JI] at hs
theorem aW.sc{w w':World}{I I':Nat->Prop}:∀(xs:List PV) (us:List Value),Pt xs=true->aW w I xs us->aW w' I' xs us
 | [],us,_,h=>h
 | x::xs,us,hs,h=>by
  simp only[Pt,Zn] at hs
  obtain⟨u,us',hu,h1,h2⟩:=h
  exact⟨u,us',hu,Rel.sc x u hs.1 h1,aW.sc xs us' hs.2 h2⟩
end
theorem qm{w w':World}{I J:Nat->Prop}{ρ:List Nat}(hi:Inv P w I ρ H){σ:List Nat}(h3:Ext w (fun b=>b<w.heap.size) [] w' J σ):Ext w I [] w' I []:=
 ⟨⟨h3.w.os,h3.w.tape,h3.w.output,h3.w.size,h3.w.keep,h3.w.shape,fun _ h=>h,fun b h=>h3.w.keep b (hi.ib b h) (by simp),fun _ h=> .inl h,h3.w.cI,fun _ _ h=>h,fun b h=>by cases h⟩,ZE _⟩
theorem aa.yU(n:Nat){g:FuncId}{args:List PV}{r:PV}(hp:Pure P g args r)(hr:JI r=true){f:Operand}{xs:Array Operand}{ts:Array TypeId}{fv:V}{vs all:List V}(ho:o.op= .call {callee:= .value f,args:=xs,argTypes:=ts})(hf:ev T f=some fv)
    (hxs:jT T xs.toList=some vs)(hc:callee vs fv=some (g,all))(hb:cT (bU H n) all=some args)(hg:ak P g=true):aa P N o T H (.p r) H:=by
 intro R w I ρ a hi hT K QX hK
 refine⟨bD,?_⟩
 rw[bG _ _ _ (by simp[ho])]
 obtain⟨us,h1,h2⟩:=dP ho hT hf hxs hc hg
 rw[h2]
 have h1':ag P w (fun b=>b<w.heap.size) [] (args.map .p) us:=ag.pure.2 (fu (mP hi n) all args us hb h1)
 have hi2:Inv P w (fun b=>b<w.heap.size) [] []:=⟨rfl,(fun _ _ _ h=>by simp at h),fun _ h=>h,(fun _ _ _ h=>by simp at h),(fun _ _ _ _ _ h=>by simp at h),(fun _ _ _ h=>by simp at h),hi.gl.mono hi.ib (fun _ _=>rfl)⟩
 refine⟨(fun h=>by cases h),?_⟩
 refine CallsIn.mono (cz R (hp w _ [] us hi2 h1')) ?_
 rintro e w' ⟨u,v,J,σ,H',rfl,⟨rfl,rfl⟩,h3,h4,h5⟩
 have he:=qm hi h3
 have yc:Inv P w' I [] []:=⟨rfl,(fun _ _ _ h=>by simp at h),fun b h=>ZQ (hi.ib b h) h3.w.size,(fun _ _ _ h=>by simp at h),(fun _ _ _ _ _ h=>by simp at h),(fun _ _ _ h=>by simp at h),hi.gl.mono (fun _ h=>h) he.w.bh⟩
 obtain⟨h6,h7⟩:=Inv.frame hi he yc
 exact hK u w' I ρ h6 h7 (Rel.sc r u hr h5)
theorem aa.QJ(n:Nat){g:FuncId}{args cs:List PV}{len:Nat}{e:TypeId}(hp:ax P g (args.map .p) [] fun v H'=>v= .row 0 len∧H'=[.row (cs.map .p) e])(hr:Pt cs=true){f:Operand}{xs:Array Operand}{ts:Array TypeId}{fv:V}{vs all:List V}(ho:o.op= .call {callee:= .value f,args:=xs,argTypes:=ts})(hf:ev T f=some fv)
    (hxs:jT T xs.toList=some vs)(hc:callee vs fv=some (g,all))(hb:cT (bU H n) all=some args)(hg:ak P g=true):aa P N o T H (.row H.length len) (H++[.row (cs.map .p) e]):=by
 intro R w I ρ a hi hT K QX hK
 refine⟨bD,?_⟩
 rw[bG _ _ _ (by simp[ho])]
 obtain⟨us,h1,h2⟩:=dP ho hT hf hxs hc hg
 rw[h2]
 have h1':ag P w (fun b=>b<w.heap.size) [] (args.map .p) us:=ag.pure.2 (fu (mP hi n) all args us hb h1)
 have hi2:Inv P w (fun b=>b<w.heap.size) [] []:=⟨rfl,(fun _ _ _ h=>by simp at h),fun _ h=>h,(fun _ _ _ h=>by simp at h),(fun _ _ _ _ _ h=>by simp at h),(fun _ _ _ h=>by simp at h),hi.gl.mono hi.ib (fun _ _=>rfl)⟩
 refine⟨(fun h=>by cases h),?_⟩
 refine CallsIn.mono (cz R (hp w _ [] us hi2 h1')) ?_
 rintro e' w' ⟨u,v,J,σ,H',rfl,⟨rfl,rfl⟩,h3,h4,h5⟩
 obtain⟨b,e2,cap,hσ,hu,hsh,hl⟩:=h5
 have hσ1:σ=[b]:=by
  have:=h4.len
  match σ,this,hσ with
  | [x],_,h=>simp at h;rw[h]
 subst hσ1
 -- the new block is new
 have hnew:w.heap.size<=b:=by
  rcases h3.w.new b (by simp) with h | h
  ·cases h
  ·exact h
 have he:=qm hi h3
 have yc:Inv P w' I [] []:=⟨rfl,(fun _ _ _ h=>by simp at h),fun b h=>ZQ (hi.ib b h) h3.w.size,(fun _ _ _ h=>by simp at h),(fun _ _ _ _ _ h=>by simp at h),(fun _ _ _ h=>by simp at h),hi.gl.mono (fun _ h=>h) he.w.bh⟩
 obtain⟨h6,h7⟩:=Inv.frame hi he yc
 have iu:b<w'.heap.size:=h4.gC 0 b _ rfl rfl rfl
 have hE:Ext w I ρ w' I (ρ++[b]):=⟨⟨h6.w.os,h6.w.tape,h6.w.output,h6.w.size,h6.w.keep,h6.w.shape,h6.w.lD,h6.w.bh,h6.w.eT,h6.w.cI,h6.w.ki,fun x hx=>by
  rcases Zo.1 hx with h | h
  ·exact .inl h
  ·simp at h;subst h;exact .inr hnew⟩,⟨_,rfl⟩⟩
 have rb:cY P w' I (ρ++[b]) (.row (cs.map .p) e) b:=by
  obtain⟨arr,k1,k2,k3⟩:=h4.rel 0 b _ rfl rfl
  exact⟨arr,k1,k2,ag.pure.2 (aW.sc cs _ hr (ag.pure.1 k3))⟩
 have old:∀(j k:Nat) (blk:ah),(ρ++[b])[j]? =some k->(H++[ah.row (cs.map .p) e])[j]? =some blk->(j<H.length∧ρ[j]? =some k∧H[j]? =some blk)∨(j=H.length∧k=b∧blk= .row (cs.map .p) e):=fun j k blk h1 h2=>by
  rcases bB h2 with⟨g1,g2⟩ | ⟨g1,g2⟩
  ·rw[Zd (by rw[hi.len];exact g1)] at h1
   exact .inl ⟨g1,h1,g2⟩
  ·rw[Zj (by rw[hi.len];omega)] at h1
   rw[hi.len,g1] at h1
   simp at h1
   exact .inr ⟨g1,h1.symm,g2⟩
 have UE:Inv P w' I (ρ++[b]) (H++[.row (cs.map .p) e]):=by
  refine⟨by simp[hi.len],fun j k blk g1 g2 g3=> ?_,h7.ib,fun j k blk g1 g2 g3=> ?_,fun j j' k x y g1 g2 g3 g4 g5 g6=> ?_,fun j k blk g1 g2=> ?_,h7.gl⟩
  ·rcases old j k blk g1 g2 with⟨_,a1,a2⟩ | ⟨_,rfl,_⟩
   ·exact h7.gC j k blk a1 a2 g3
   ·exact iu
  ·rcases old j k blk g1 g2 with⟨_,a1,a2⟩ | ⟨_,rfl,_⟩
   ·exact h7.live j k blk a1 a2 g3
   ·intro h;have:=hi.ib _ h;omega
  ·rcases old j k x g1 g3 with⟨_,a1,a2⟩ | ⟨a0,rfl,_⟩ <;> rcases old j' k y g2 g4 with⟨_,b1,b2⟩ | ⟨b0,b1,_⟩
   ·exact h7.fT j j' k x y a1 b1 a2 b2 g5 g6
   ·subst b1;have:=hi.gC j _ x a1 a2 g5;omega
   ·have:=hi.gC j' _ y b1 b2 g6;omega
   ·omega
  ·rcases old j k blk g1 g2 with⟨_,a1,a2⟩ | ⟨_,rfl,rfl⟩
   ·cases hlv:blk.live with
    | false=>exact cY.gE hlv
    | true=>exact cY.mono h6.w.lD h6.w.bh (We ρ [b]) (fun b _ s hs=>h6.w.shape b s hs) (he.w.keep k (hi.gC j k blk a1 a2 hlv) (by simp)) (hi.rel j k blk a1 a2)
   ·exact rb
 exact hK u w' I (ρ++[b]) hE UE ⟨b,e2,cap,by rw[Zj (by rw[hi.len];exact Zf _)];simp[hi.len],hu,hsh,hl⟩
theorem aa.aac{x y:Operand}{t t' e:TypeId}{cs z:List PV}{len:Nat}(ho:o.op= .binOp .eql t x y t')(hx:ev T x=some (.p (.is cs len)))(hy:ev T y=some (.p .nilSlice))(hs:nh P t=some (e,z))(h0:0<len):aa P N o T H (.p (.bool false)) H:=
 aa.aO (by simp[ho]) fun w I ρ ac hi hT=>by
  have ht:=(dQ hs).1
  have e2:aB P w I ρ (.p .nilSlice) (ac.eval y):=hT.ev hy
  have e1:aB P w I ρ (.p (.is cs len)) (ac.eval x):=hT.ev hx
  have e2:ac.eval y= .slice none 0 0:=e2
  rcases e1 with⟨_,hl⟩ | ⟨b,o',cap,_,_,hu,_⟩
  ·omega
  ·have hb:(binOp .eql t (.slice (some ⟨b,o',none⟩) len cap) (.slice none 0 0)).run P w= .ok (.bool false) w:=by
     simp only[binOp]
     have hq:(Op.equal t (.slice (some ⟨b,o',none⟩) len cap) (.slice none 0 0)).run P w= .ok false w:=by
      show(Op.equalIn (9999+1) t (.slice (some ⟨b,o',none⟩) len cap) (.slice none 0 0)).run P w= .ok false w
      generalize 9999=d
      simp[Op.equalIn,run_underlying ht]
     simp[hq]
   refine⟨.bool false,?_,by simp[aB,Rel]⟩
   simp[execOp,ho,hu,e2,eqGuard,hb]
end
section
variable {P:Program} {R:Option Nat} {N κ:Nat} {Q:Post} {T:Tm} {H:List ah}
theorem gL{b:Frame}{a:Act}{k:List Item}{cs:List Frame}{w:World}{c:Code}:step P (lone (b.atR a (.code (.scope c)::k)) cs w)= .next (lone (b.atR a (.code c:: .inScope c::k)) cs w):=
 step_lone_go (by simp[stepG,stepG.exec,Frame.atR])
theorem xZ{b:Frame}{a:Act}{k:List Item}{cs:List Frame}{w:World}{c:Code}:step P (lone (b.atR a (.inScope c::k)) cs w)= .next (lone (b.atR a k) cs w):=
 step_lone_go (by simp[stepG,stepG.exec,Frame.atR])
theorem aF.label{l:Nat}(h:Q .normal T H):aF P R N κ (.label l) Q T H:=
 fun B w I ρ a hi ht hm=>wpIn_label ⟨.normal,I,ρ,T,H,trivial,h,cA.refl _ _ _,hi,ht,hm⟩
theorem aF.scope{c:Code}(h:aF P R N κ c Q T H):aF P R N κ (.scope c) Q T H:=by
 intro B w I ρ a hi ht hm b k cs hro hb hr
 have h0:(lone (b.atR a (.code (.scope c)::k)) cs w).fenced P (Fr R):=fenced_calm hb hr rfl
 obtain⟨e,a₁,w₁,hq,xO⟩:=h B w I ρ a hi ht hm b (.inScope c::k) cs hro hb hr
 cases e with
 | normal=>exact⟨.normal,a₁,w₁,hq,.head h0 gL (StepsIn.trans xO (.one (fenced_calm hb hr rfl) xZ))⟩
 | exit id=>exact⟨.exit id,a₁,w₁,hq,fun k' hk=> .head h0 gL (xO.1 k' (by simp[exitTo,hk])),fun hr' hk=>let ⟨k₁,h1,h2⟩:=xO.2 hr' (by simp[exitTo,hk]);⟨k₁,h1,.head h0 gL h2⟩⟩
 | goto l=>
  obtain⟨x,_,_,_,_,h1,_⟩:=hq
  cases x <;> exact h1.elim
 | ret=>exact⟨_,a₁,w₁,hq,.of_steps (.one h0 gL) xO⟩
 | panic ch=>exact⟨_,a₁,w₁,hq,.of_steps (.one h0 gL) xO⟩
 | outgrown=>exact⟨_,a₁,w₁,hq,.of_steps (.one h0 gL) xO⟩
end
def sg(n0:Nat)(ms:List Nat)(i:Nat):Option Nat:=bif Nat.blt i n0||ms.elem i then some i else none
def sw(k n:Nat)(i:Nat):Option Nat:=bif Nat.beq i n then some k else bif Nat.beq i k then none else some i
def mask(g:Nat->ah)(S:List Nat):Nat->List ah->List ah
 | _,[]=>[]
 | i,x::H=>(bif S.elem i then g i else x)::mask g S (i+1) H
def kq(S us:List Nat):List Nat:=S.filter fun i=> !us.elem i
def sW(us L:List Nat):List Nat:=us.filter fun i=>L.elem i
def dR:Nat->List ah
 | 0=>[]
 | r+1=> .dead::dR r
def app:List (Nat×ah)->List ah->List ah
 | [],H=>H
 | (k,b)::w,H=>app w (H.set k b)
theorem qn(g:Nat->ah)(S:List Nat):∀(H:List ah) (i k:Nat),(mask g S i H)[k]? =if S.elem (i+k) then(H[k]?).map (fun _=>g (i+k)) else H[k]?
 | [],i,k=>by simp[mask]
 | x::H,i,0=>by
  simp only[mask,List.getElem?_cons_zero,KC,Ri]
  cases S.elem i <;> rfl
 | x::H,i,k+1=>by
  simp only[mask,List.getElem?_cons_succ]
  rw[qn g S H (i+1) k,show i+1+k=i+(k+1) by omega]
theorem Dg(g:Nat->ah)(S:List Nat):∀(H:List ah) (i:Nat),(mask g S i H).length=H.length
 | [],i=>rfl
 | x::H,i=>by simp[mask,Dg g S H (i+1)]
theorem As:∀(w:List (Nat×ah)) (H:List ah),(app w H).length=H.length
 | [],H=>rfl
 | (k,b)::w,H=>by simp[app,As w]
theorem An{k:Nat}:∀{w:List (Nat×ah)} {H:List ah},(∀ b,(k,b)∉w)->(app w H)[k]? =H[k]?
 | [],H,h=>rfl
 | (j,b)::w,H,h=>by
  have:j≠k:=fun e=>h b (by rw[e];simp)
  simp only[app]
  rw[An (fun c hc=>h c (by simp[hc])),Zv,if_neg this]
theorem yR{k:Nat}:∀{w:List (Nat×ah)} {H H':List ah},H.length=H'.length->H[k]? =H'[k]? ->(app w H)[k]? =(app w H')[k]?
 | [],H,H',hl,h=>h
 | (j,b)::w,H,H',hl,h=>by
  simp only[app]
  exact yR (by simp[hl]) (by simp only[Zv,hl,h])
theorem H6{j:Nat}{b:ah}:∀{w:List (Nat×ah)} {H:List ah},(∀ c,(j,c)∉w)->app w (H.set j b)=(app w H).set j b
 | [],H,h=>rfl
 | (k,c)::w,H,h=>by
  have hne:j≠k:=fun e=>h c (by rw[e];simp)
  simp only[app]
  rw[<- H6 (fun d hd=>h d (by simp[hd])),List.set_comm _ _ hne]
theorem Bt:∀{w1 w2:List (Nat×ah)} {H:List ah},(∀ k b1 b2,(k,b1)∈w1->(k,b2)∉w2)->app w1 (app w2 H)=app w2 (app w1 H)
 | [],w2,H,h=>rfl
 | (j,b)::w1,w2,H,h=>by
  simp only[app]
  rw[<- H6 (fun c hc=>h j b c (by simp) hc)]
  exact Bt fun k b1 b2 h1 h2=>h k b1 b2 (by simp[h1]) h2
theorem HE:∀(w1 w2:List (Nat×ah)) (H:List ah),app (w1++w2) H=app w2 (app w1 H)
 | [],w2,H=>rfl
 | (j,b)::w1,w2,H=>by simp only[OK,app];exact HE w1 w2 _
theorem Al:∀{w:List (Nat×ah)} {H:List ah} {x:ah},x∈app w H->x∈H∨∃ k,(k,x)∈w
 | [],H,x,h=> .inl h
 | (j,b)::w,H,x,h=>by
  rcases Al (w:=w) h with h1 | ⟨k,h1⟩
  ·rcases List.mem_or_eq_of_mem_set h1 with h2 | rfl
   ·exact .inl h2
   ·exact .inr ⟨j,by simp⟩
  ·exact .inr ⟨k,by simp[h1]⟩
def HH(gh:Nat->List (Nat×ah))(f:Nat->Bool)(H0:List ah):Nat->List ah
 | 0=>H0
 | j+1=>bif f j then app (gh j) (HH gh f H0 j) else HH gh f H0 j
section
variable {gh:Nat->List (Nat×ah)} {f g:Nat->Bool} {H0:List ah}
theorem uX:∀ m,(HH gh f H0 m).length=H0.length
 | 0=>rfl
 | m+1=>by
  simp only[HH]
  cases f m
  ·exact uX m
  ·exact(As _ _).trans (uX m)
theorem L9{k i m:Nat}(h1:∀ j,j<m->j<i->(∃ b,(k,b)∈gh j)->f j=true)(h2:∀ j,j<m->i<=j->(∃ b,(k,b)∈gh j)->f j=false):
    ∀ n,n<=m->(HH gh f H0 n)[k]? =(HH gh (fun _=>true) H0 (min n i))[k]?
 | 0,_=>by simp[HH]
 | n+1,hn=>by
  have ih:=L9 (i:=i) h1 h2 n (by omega)
  by_cases hw:∃ b,(k,b)∈gh n
  ·by_cases hi:n<i
   ·rw[show min (n+1) i=n+1 by omega]
    rw[show min n i=n by omega] at ih
    simp only[HH,h1 n (by omega) hi hw,cond_true]
    exact yR (by rw[uX,uX]) ih
   ·rw[show min (n+1) i=min n i by omega]
    simp only[HH,h2 n (by omega) (by omega) hw,cond_false]
    exact ih
  ·have hne:∀ b,(k,b)∉gh n:=fun b e=>hw ⟨b,e⟩
   have e1:(HH gh f H0 (n+1))[k]? =(HH gh f H0 n)[k]? :=by
    simp only[HH]
    cases f n
    ·rfl
    ·exact An hne
   rw[e1,ih]
   by_cases hi:n<i
   ·rw[show min (n+1) i=n+1 by omega,show min n i=n by omega]
    simp only[HH,cond_true]
    exact(An hne).symm
   ·rw[show min (n+1) i=min n i by omega]
theorem Hz{m:Nat}(h:∀ j,j<m->f j=g j):∀ n,n<=m->HH gh f H0 n=HH gh g H0 n
 | 0,_=>rfl
 | n+1,hn=>by
  simp only[HH,h n (by omega),Hz h n (by omega)]
theorem NB{i m:Nat}(hi:i<m)(hf:f i=false)(hg:∀ j,g j=(decide (j=i)||f j))(hc:∀ j,i<j->j<m->f j=true->∀ k b1 b2,(k,b1)∈gh j->(k,b2)∉gh i):
    ∀ n,n<=m->HH gh g H0 n=if i<n then app (gh i) (HH gh f H0 n) else HH gh f H0 n
 | 0,_=>by simp[HH]
 | n+1,hn=>by
  have ih:=NB hi hf hg hc n (by omega)
  by_cases h:n=i
  ·subst h
   rw[if_neg (by omega)] at ih
   rw[if_pos (by omega)]
   simp only[HH,hg n,hf,decide_true,Bool.true_or,cond_true,cond_false,ih]
  ·by_cases hlt:i<n
   ·rw[if_pos hlt] at ih
    rw[if_pos (by omega)]
    have e:g n=f n:=by rw[hg];simp[h]
    simp only[HH,e,ih]
    cases hfn:f n with
    | false=>rfl
    | true=>
     simp only[cond_true]
     exact Bt (hc n hlt (by omega) hfn)
   ·rw[if_neg hlt] at ih
    rw[if_neg (by omega)]
    have e:g n=f n:=by rw[hg];simp[h]
    simp only[HH,e,ih]
end
def StG(P:Program)(N:Nat)(ops:Array Oper)(S:List Nat)(n0:Nat)(o:Oper)(us:List Nat)(wr:Bool)(L L':List Nat)(T:Tm)(H:List ah)(v:V)(w:List (Nat×ah)):Prop:=
 (wr=false∧w=[]∧L'=L∧bf (sg n0 (sW us L)) v=v∧∀ g,YJ P N ops o T (mask g (kq S us) 0 H) v)∨
 (wr=true∧o.guard=none∧L'=L∧bf (sg n0 (sW us L)) v=v∧∃ k blk,w=[(k,blk)]∧k∈us∧k∈S∧aE (sg n0 (sW us L)) blk=blk∧∀ g,aa P N o (bI ops o T) (mask g (kq S us) 0 H) v (mask g (kq S us) 0 (H.set k blk)))∨
 (wr=true∧o.guard=none∧∃ k blk v0 w1,w=w1++[(k,blk)]∧(∀ p∈w1,p.1∈us∧p.1∈S∧aE (sg n0 []) p.2=p.2)∧L'=k::L∧k∈us∧k∈S∧n0<=k∧k∉L∧aE (sg n0 []) blk=blk∧v=bf (sw k H.length) v0∧bf (sg n0 [k]) v=v∧k<H.length∧
  ∀ g,aa P N o (bI ops o T) (mask g (kq S us) 0 H) v0 (mask g (kq S us) 0 (app w1 H)++[blk]))
def br(P:Program)(N:Nat)(ops:Array Oper)(S:List Nat)(n0:Nat)(K:Tm->List ah->Prop):List Nat->List (List Nat×Bool)->List Oper->Tm->List ah->Prop
 | _,_,[],T,H=>K T H
 | L,D,o::rest,T,H=>∃ v w L',bg N o.dst=true∧StG P N ops S n0 o (D.headD ([],false)).1 (D.headD ([],false)).2 L L' T H v w∧br P N ops S n0 K L' (D.drop 1) rest (fN T o.dst v) (app w H)
section
variable {P:Program} {R:Option Nat} {N κ:Nat} {Q:Post} {T:Tm} {H:List ah} {o:Oper} {ops:Array Oper} {K:Tm->List ah->Prop} {rest:List Oper} {S L us:List Nat} {n0:Nat} {D:List (List Nat×Bool)}
theorem br.nil(h:K T H):br P N ops S n0 K L D [] T H:=h
theorem br.cons(d:Nat){v:V}(hd:o.dst=some d)(hdN:bg N (some d)=true)(hg:o.guard=none)(hop:∀ g,aa P N o (bI ops o T) (mask g (kq S us) 0 H) v (mask g (kq S us) 0 H))(hv:bf (sg n0 (sW us L)) v=v)
    (next:br P N ops S n0 K L D rest ((d,v)::T) H):br P N ops S n0 K L ((us,false)::D) (o::rest) T H:=
 ⟨v,[],L,by rw[hd];exact hdN,.inl ⟨rfl,rfl,rfl,hv,fun g=> .inl ⟨hg,hop g⟩⟩,by rw[hd];exact next⟩
theorem br.put(k:Nat){blk:ah}{v:V}(hd:o.dst=none)(hg:o.guard=none)(hk:us.elem k=true)(hS:S.elem k=true)(hop:∀ g,aa P N o (bI ops o T) (mask g (kq S us) 0 H) v (mask g (kq S us) 0 (H.set k blk)))(hv:bf (sg n0 (sW us L)) v=v)(hb:aE (sg n0 (sW us L)) blk=blk)
    (next:br P N ops S n0 K L D rest T (H.set k blk)):br P N ops S n0 K L ((us,true)::D) (o::rest) T H:=
 ⟨v,[(k,blk)],L,by rw[hd];rfl,.inr (.inl ⟨rfl,hg,rfl,hv,k,blk,rfl,by simpa using hk,by simpa using hS,hb,hop⟩),by rw[hd];exact next⟩
theorem br.lay(d k:Nat){blk:ah}{v v0:V}(hd:o.dst=some d)(hdN:bg N (some d)=true)(hg:o.guard=none)(hS:S.elem k=true)(hk:Nat.ble n0 k=true)(hL:L.elem k=false)(pQ:Nat.blt k H.length=true)(WI:us.elem k=true)(hop:∀ g,aa P N o (bI ops o T) (mask g (kq S us) 0 H) v0 (mask g (kq S us) 0 H++[blk]))
    (Je:bf (sw k H.length) v0=v)(hv:bf (sg n0 [k]) v=v)(hb:aE (sg n0 []) blk=blk)
    (next:br P N ops S n0 K (k::L) D rest ((d,v)::T) (H.set k blk)):br P N ops S n0 K L ((us,true)::D) (o::rest) T H:=
 ⟨v,[(k,blk)],k::L,by rw[hd];exact hdN,.inr (.inr ⟨rfl,hg,k,blk,v0,[],rfl,(fun _ h=>by cases h),rfl,by simpa using WI,by simpa using hS,by simpa using hk,(fun h=>by rw[show L.elem k=true by simpa using h] at hL;cases hL),hb,Je.symm,hv,by simpa[Nat.blt,Zw] using pQ,hop⟩),by rw[hd];exact next⟩
theorem br.JX(d k k1:Nat){blk:ah}{v v0:V}(hd:o.dst=some d)(hdN:bg N (some d)=true)(hg:o.guard=none)(hS:S.elem k=true)(hS1:S.elem k1=true)(hk:Nat.ble n0 k=true)(hL:L.elem k=false)(pQ:Nat.blt k H.length=true)(WI:us.elem k=true)(aaG:us.elem k1=true)(hop:∀ g,aa P N o (bI ops o T) (mask g (kq S us) 0 H) v0 (mask g (kq S us) 0 (H.set k1 .dead)++[blk]))
    (Je:bf (sw k H.length) v0=v)(hv:bf (sg n0 [k]) v=v)(hb:aE (sg n0 []) blk=blk)
    (next:br P N ops S n0 K (k::L) D rest ((d,v)::T) ((H.set k1 .dead).set k blk)):br P N ops S n0 K L ((us,true)::D) (o::rest) T H:=
 ⟨v,[(k1,.dead),(k,blk)],k::L,by rw[hd];exact hdN,.inr (.inr ⟨rfl,hg,k,blk,v0,[(k1,.dead)],rfl,(fun p hp=>by simp at hp;subst hp;exact⟨by simpa using aaG,by simpa using hS1,rfl⟩),rfl,by simpa using WI,by simpa using hS,by simpa using hk,(fun h=>by rw[show L.elem k=true by simpa using h] at hL;cases hL),hb,Je.symm,hv,by simpa[Nat.blt,Zw] using pQ,hop⟩),by rw[hd];exact next⟩
section
variable {m:Nat} {l:List Oper} {vs:Nat->V}
theorem br.vals{ops:Array Oper}:∀{l':List Oper} {L:List Nat} {D:List (List Nat×Bool)} {T:Tm} {H:List ah},br P N ops S n0 K L D l' T H->∃(vs:Nat->V) (Tx:Nat->Tm) (Hx:Nat->List ah) (gh:Nat->List (Nat×ah)) (Ls:Nat->List Nat),Tx 0=T∧Hx 0=H∧Ls 0=L∧
    (∀ i o,l'[i]? =some o->bg N o.dst=true∧StG P N ops S n0 o (D.getD i ([],false)).1 (D.getD i ([],false)).2 (Ls i) (Ls (i+1)) (Tx i) (Hx i) (vs i) (gh i)∧Tx (i+1)=fN (Tx i) o.dst (vs i)∧Hx (i+1)=app (gh i) (Hx i))∧K (Tx l'.length) (Hx l'.length)
 | [],L,D,T,H,h=>⟨fun _=> .top,fun _=>T,fun _=>H,fun _=>[],fun _=>L,rfl,rfl,rfl,fun i o ho=>by simp at ho,by unfold br at h;exact h⟩
 | o::l',L,D,T,H,h=>by
  obtain⟨v,w,L',hd,hst,hn⟩:=h
  obtain⟨vs,Tx,Hx,gh,Ls,h0,h0',KW,h1,h2⟩:=br.vals hn
  refine⟨fun i=>match i with | 0=>v | i+1=>vs i,fun i=>match i with | 0=>T | i+1=>Tx i,fun i=>match i with | 0=>H | i+1=>Hx i,fun i=>match i with | 0=>w | i+1=>gh i,fun i=>match i with | 0=>L | i+1=>Ls i,rfl,rfl,rfl,fun i x hx=> ?_,h2⟩
  cases i with
  | zero=>
   simp at hx;subst hx
   refine⟨hd,?_,h0,h0'⟩
   have e:D.getD 0 ([],false)=D.headD ([],false):=by cases D <;> rfl
   rw[e]
   show StG P N ops S n0 o _ _ L (Ls 0) T H v w
   rw[KW];exact hst
  | succ i=>
   simp at hx
   obtain⟨k1,k2,k3⟩:=h1 i x hx
   refine⟨k1,?_,k3⟩
   have e:D.getD (i+1) ([],false)=(D.drop 1).getD i ([],false):=by
    simp[Ze,S2]
   rw[e];exact k2
def ID(m:Nat)(l:List Oper)(D:List (List Nat×Bool)):Bool:=
 let t:=wW [] l
 (List.range m).all fun j=>(List.range j).all fun i=> !(((D.getD i ([],false)).2||(D.getD j ([],false)).2)&&(D.getD i ([],false)).1.any fun k=>(D.getD j ([],false)).1.elem k)||(t.getD j 0).testBit i
theorem w6{D:List (List Nat×Bool)}(h:ID m l D=true)(f:Nat->Bool)(hc:∀ i o,l[i]? =some o->f i=true->∀ e∈o.after,Region.binds .any e=true->f e.on=true){i j k:Nat}(hij:i<j)(hj:j<m)
    (hw:(D.getD i ([],false)).2=true∨(D.getD j ([],false)).2=true)(hi:k∈(D.getD i ([],false)).1)(hk:k∈(D.getD j ([],false)).1)(hf:f j=true):f i=true:=by
 simp only[ID] at h
 have:=Zx.1 (Zx.1 h j (xJ.2 hj)) i (xJ.2 hij)
 have h1:((D.getD i ([],false)).2||(D.getD j ([],false)).2)=true:=by simpa using hw
 have h2:((D.getD i ([],false)).1.any fun k=>(D.getD j ([],false)).1.elem k)=true:=List.any_eq_true.2 ⟨k,hi,by simpa using hk⟩
 rw[h1,h2] at this
 exact mW f l [] [] rfl (by simpa using hc) (fun i x h=>by simp at h) j i (by simpa using this) hf
theorem EW{g:Nat->ah}{S:List Nat}{H:List ah}{k:Nat}{b:ah}(h:k∉S):mask g S 0 (H.set k b)=(mask g S 0 H).set k b:=by
 apply Fp
 intro j
 rw[Zv (l:=mask g S 0 H),qn,qn,Zv,Dg,uf]
 by_cases hj:k=j
 ·subst hj
  simp[h]
 ·simp[hj]
theorem vo{S us:List Nat}{k:Nat}:k∈kq S us↔k∈S∧k∉us:=by simp[kq]
theorem aaa{n0:Nat}{ms:List Nat}{i j:Nat}(h:sg n0 ms i=some j):j=i∧(i<n0∨i∈ms):=by
 unfold sg at h
 cases hb:(Nat.blt i n0||ms.elem i) with
 | false=>rw[hb] at h;cases h
 | true=>
  rw[hb] at h
  cases h
  refine⟨rfl,?_⟩
  simp only[KV] at hb
  rcases hb with hb | hb
  ·exact .inl (by simpa[Nat.blt,Zw] using hb)
  ·exact .inr (by simpa using hb)
def SIG(κ:Nat)(P:Program)(N:Nat)(H:List ah)(n0:Nat)(gh:Nat->List (Nat×ah))(m:Nat)(l:List Oper)(T:Tm)(vs:Nat->V)(B:mC)(w0:World)(I0:Nat->Prop)(ρ0:List Nat)(f:Nat->Bool)(a:Act)(w:World):Prop:=
 ∃ I ρ,cA w0 I0 ρ0 w I ρ∧Inv P w I ρ (HH gh f H m)∧a.tmps.size=N∧(∀ s v,tl l T vs f s=some v->aB P w I ρ v (a.tmps.getD s undef))∧
  (∀ s v,lk T s=some v->(∀ j o,l[j]? =some o->f j=true->o.dst≠some s)->aB P w I (ρ.take n0) v (a.tmps.getD s undef))∧Marks κ B w I ρ a.defers
theorem Ft(hk:fB m l)(hm:m<=l.length){D:List (List Nat×Bool)}(hD:ID m l D=true){B:mC}{w0:World}{I0:Nat->Prop}{ρ0:List Nat}{QX:Exit->Act->World->Prop}{Tx:Nat->Tm}{Hx:Nat->List ah}{gh:Nat->List (Nat×ah)}{Ls:Nat->List Nat}
    (h0:Tx 0=T)(h0':Hx 0=H)(KW:Ls 0=[])(hn0:n0<=H.length)(hH:∀ x∈H,aE (sg n0 []) x=x)(hB:B.pre.length<=n0)
    (h1:∀ i o,i<m->l[i]? =some o->bg N o.dst=true∧StG P N l.toArray S n0 o (D.getD i ([],false)).1 (D.getD i ([],false)).2 (Ls i) (Ls (i+1)) (Tx i) (Hx i) (vs i) (gh i)∧Tx (i+1)=fN (Tx i) o.dst (vs i)∧Hx (i+1)=app (gh i) (Hx i))
    (hK:∀ a w I ρ,cA w0 I0 ρ0 w I ρ->Inv P w I ρ (Hx m)->bu P w I ρ N (Tx m) a.tmps->Marks κ B w I ρ a.defers->wpListIn (Fr R) 0 P l.toArray QX (l.drop m) a w):
    ∀(fuel:Nat) (listed:Array Bool) (a:Act) (w:World),listed.toList.count false=fuel->listed.size=l.length->(∀ i o,l[i]? =some o->fl listed i=true->∀ e∈o.after,Region.binds .any e=true->fl listed e.on=true)->(∀ i,m<=i->fl listed i=false)->
    SIG κ P N H n0 gh m l T vs B w0 I0 ρ0 (fl listed) a w->wpAnyIn (Fr R) 0 P .any l.toArray QX fuel listed a w:=by
 intro fuel
 have hlk:=xj (vs:=vs) hk hm h0 (fun i o hi ho=>(h1 i o hi ho).2.2.1)
 have oW:∀ i,i<m->∃ o,l[i]? =some o:=fun i hi=>⟨l[i]'(by omega),Zc _⟩
 have XZ:∀ i,i<=m->Hx i=HH gh (fun _=>true) H i:=by
  intro i
  induction i with
  | zero=>intro _;exact h0'
  | succ i ih=>
   intro hi
   obtain⟨o,ho⟩:=oW i (by omega)
   rw[(h1 i o (by omega) ho).2.2.2,ih (by omega)]
   rfl
 have MN:∀ i k b,i<m->(k,b)∈gh i->k∈(D.getD i ([],false)).1∧(D.getD i ([],false)).2=true∧k∈S∧∃ ms:List Nat,aE (sg n0 ms) b=b∧∀ x∈ms,x∈(D.getD i ([],false)).1∧x∈Ls i:=by
  intro i k b hi hw
  obtain⟨o,ho⟩:=oW i hi
  obtain⟨_,hst,_⟩:=h1 i o hi ho
  rcases hst with⟨_,h2,_⟩ | ⟨h2,_,_,_,k',blk,h3,h4,h5,h6,_⟩ | ⟨h2,_,k',blk,v0,w1,h3,hw1,_,h4,h5,_,_,h6,_⟩
  ·rw[h2] at hw;cases hw
  ·rw[h3] at hw;simp at hw;obtain⟨rfl,rfl⟩:=hw;exact⟨h4,h2,h5,_,h6,fun x hx=>by simpa[sW] using hx⟩
  ·rw[h3] at hw
   rcases Zo.1 hw with h7 | h7
   ·obtain⟨h8,h9,h10⟩:=hw1 _ h7;exact⟨h8,h2,h9,[],h10,fun x hx=>by cases hx⟩
   ·simp at h7;obtain⟨rfl,rfl⟩:=h7;exact⟨h4,h2,h5,[],h6,fun x hx=>by cases hx⟩
 have KX:∀ i,i<m->Ls (i+1)=Ls i∨∃ k,Ls (i+1)=k::Ls i∧k∉Ls i∧k∈(D.getD i ([],false)).1∧(D.getD i ([],false)).2=true:=by
  intro i hi
  obtain⟨o,ho⟩:=oW i hi
  obtain⟨_,hst,_⟩:=h1 i o hi ho
  rcases hst with⟨_,_,h2,_⟩ | ⟨_,_,h2,_⟩ | ⟨h2,_,k,blk,v0,_,_,_,h3,h4,_,_,h5,_⟩
  ·exact .inl h2
  ·exact .inl h2
  ·exact .inr ⟨k,h3,h5,h4,h2⟩
 have Ns:∀ i j k,i<=j->j<=m->k∈Ls i->k∈Ls j:=by
  intro i j k hij
  induction j with
  | zero=>intro _ hki;obtain rfl:i=0:=by omega
          exact hki
  | succ j ih=>
   intro hj hki
   by_cases e:i=j+1
   ·subst e;exact hki
   ·have:=ih (by omega) (by omega) hki
    rcases KX j (by omega) with h | ⟨k',h,_⟩
    ·rw[h];exact this
    ·rw[h];exact Zh _ this
 have X8:∀ j k,j<=m->k∈Ls j->∃ i,i<j∧k∈(D.getD i ([],false)).1∧(D.getD i ([],false)).2=true∧k∉Ls i∧k∈Ls (i+1):=by
  intro j
  induction j with
  | zero=>intro k _ h;rw[KW] at h;cases h
  | succ j ih=>
   intro k hj h
   rcases KX j (by omega) with h2 | ⟨k',h2,h3,h4,h5⟩
   ·rw[h2] at h
    obtain⟨i,hi,h6⟩:=ih k (by omega) h
    exact⟨i,by omega,h6⟩
   ·rw[h2] at h
    rcases Zr.1 h with rfl | h
    ·exact⟨j,by omega,h4,h5,h3,by rw[h2];simp⟩
    ·obtain⟨i,hi,h6⟩:=ih k (by omega) h
     exact⟨i,by omega,h6⟩
 have hlen:∀ f n,(HH gh f H n).length=H.length:=fun f n=>uX n
 have aaA:∀ f n,n<=m->∀ x∈HH gh f H n,∃ ms:List Nat,aE (sg n0 ms) x=x∧∀ y∈ms,∃ j,j<m∧f j=true∧y∈(D.getD j ([],false)).1∧y∈Ls j:=by
  intro f n
  induction n with
  | zero=>intro _ x hx;exact⟨[],hH x hx,fun y hy=>by cases hy⟩
  | succ n ih=>
   intro hn x hx
   simp only[HH] at hx
   cases hf:f n with
   | false=>rw[hf] at hx;exact ih (by omega) x hx
   | true=>
    rw[hf] at hx
    simp only[cond_true] at hx
    rcases Al hx with h | ⟨k,h⟩
    ·exact ih (by omega) x h
    ·obtain⟨_,_,_,ms,h2,h3⟩:=MN n k x (by omega) h
     exact⟨ms,h2,fun y hy=>⟨n,by omega,hf,h3 y hy⟩⟩
 have done:∀(fuel:Nat) (listed:Array Bool) (a:Act) (w:World),listed.toList.count false=fuel->listed.size=l.length->(∀ i,m<=i->fl listed i=false)->(∀ i,i<m->fl listed i=true)->SIG κ P N H n0 gh m l T vs B w0 I0 ρ0 (fl listed) a w->wpAnyIn (Fr R) 0 P .any l.toArray QX fuel listed a w:=by
  intro fuel listed a w mV hsz xW hall hsi
  obtain⟨I,ρ,he,hi,hs,cE,_,hmk⟩:=hsi
  rw[Hz (g:=fun _=>true) (fun j hj=>hall j hj) m (Zf _),<- XZ m (Zf _)] at hi
  exact rJ
 induction fuel with
 | zero=>
  exact nW
 | succ fuel ih=>
  intro listed a w mV hsz hcl xW hsi
  by_cases hall:∀ i,i<m->fl listed i=true
  ·exact nY
  ·obtain⟨i0,nA,hmin⟩:∃ i0,(i0<m∧fl listed i0=false)∧∀ j,j<i0->fl listed j=true:=by
     exact mU
   have KQ:l[i0]? =some (l[i0]'(by omega)):=Zc _
   have zW:i0∈Region.ready .any l.toArray listed:=by
    exact nc
   refine⟨(fun h=>by rw[h] at zW;cases zW),fun i hi=> ?_⟩
   obtain⟨h3,o,ho',Wd⟩:=mem_ready.1 hi
   have ho:l[i]? =some o:=by simpa using ho'
   have hilt:=cC ho
   have wO:∀ j oj,l[j]? =some oj->(decide (j=i)||fl listed j)=true->∀ e∈oj.after,Region.binds .any e=true->(decide (e.on=i)||fl listed e.on)=true:=fun j oj hj uI e he hb=>by
    exact kO
   have pY:i<m:=by
    exact mX
   have tY:fl listed i=false:=by
    exact kG
   obtain⟨sA,hy,_,_⟩:=h1 i o pY ho
   obtain⟨I,ρ,he,hinv,hs,cE,Mp,hmk⟩:=hsi
   -- two operations that use the same own block
   have Rg:∀ j k,j<i->((D.getD j ([],false)).2=true∨(D.getD i ([],false)).2=true)->k∈(D.getD j ([],false)).1->k∈(D.getD i ([],false)).1->fl listed j=true:=by
    intro j k hji hw hkj hki
    have:=w6 hD (fun j=>decide (j=i)||fl listed j) wO hji pY hw hkj hki (by simp)
    have hne:¬ j=i:=by omega
    simpa[hne] using this
   have Gm:∀ j k,i<j->j<m->((D.getD i ([],false)).2=true∨(D.getD j ([],false)).2=true)->k∈(D.getD i ([],false)).1->k∈(D.getD j ([],false)).1->fl listed j=false:=by
    intro j k hij hj hw hki hkj
    cases hf:fl listed j with
    | false=>rfl
    | true=>
     have:=w6 hD (fl listed) hcl hij hj hw hki hkj hf
     rw[tY] at this;cases this
   have hF:mask (fun k=>(HH gh (fl listed) H m).getD k .dead) (kq S (D.getD i ([],false)).1) 0 (Hx i)=HH gh (fl listed) H m:=by
    apply Fp
    intro k
    rw[qn,uf]
    have hlx:(Hx i).length=H.length:=by rw[XZ i (by omega)];exact hlen _ _
    by_cases hin:k∈kq S (D.getD i ([],false)).1
    ·rw[if_pos (by simpa using hin)]
     by_cases pQ:k<H.length
     ·have e1:k<(Hx i).length:=by omega
      have e2:k<(HH gh (fl listed) H m).length:=by rw[hlen];exact pQ
      rw[Zc e1,Zc e2]
      simp[Ze,e2]
     ·have e1:(Hx i).length<=k:=by omega
      have e2:(HH gh (fl listed) H m).length<=k:=by rw[hlen];omega
      rw[ZF e1,ZF e2];rfl
    ·rw[if_neg (by simpa using hin),XZ i (by omega)]
     have hor:k∉S∨k∈(D.getD i ([],false)).1:=by
      rw[vo] at hin
      by_cases h:k∈S
      ·exact .inr (Classical.byContradiction fun h2=>hin ⟨h,h2⟩)
      ·exact .inl h
     have:=L9 (gh:=gh) (f:=fl listed) (H0:=H) (k:=k) (i:=i) (m:=m)
      (fun j hj hji hw=>by
       obtain⟨b,hw⟩:=hw
       obtain⟨h4,h5,h6,_⟩:=MN j k b hj hw
       rcases hor with h | h
       ·exact absurd h6 h
       ·exact Rg j k hji (.inl h5) h4 h)
      (fun j hj hij hw=>by
       obtain⟨b,hw⟩:=hw
       obtain⟨h4,h5,h6,_⟩:=MN j k b hj hw
       rcases hor with h | h
       ·exact absurd h6 h
       ·by_cases e:j=i
        ·subst e;exact tY
        ·exact Gm j k (by omega) hj (.inr h5) h h4) m (Zf _)
     rw[this,Nat.min_eq_right (by omega)]
   have hU:HH gh (fl (listed.setIfInBounds i true)) H m=app (gh i) (HH gh (fl listed) H m):=by
    have:=NB (gh:=gh) (f:=fl listed) (g:=fl (listed.setIfInBounds i true)) (H0:=H) pY tY (fun j=>by rw[gP (by omega)]) (fun j hij hj hf k b1 b2 hw1 hw2=>by
     obtain⟨h4,h5,_⟩:=MN j k b1 hj hw1
     obtain⟨h6,h7,_⟩:=MN i k b2 pY hw2
     have:=Gm j k hij hj (.inl h7) h6 h4
     rw[hf] at this;cases this) m (Zf _)
    rw[this,if_pos pY]
   have mB:∀ s v,lk (bI l.toArray o (Tx i)) s=some v->aB P w I ρ v (a.tmps.getD s undef):=by
    exact mT
   have AW:bu P w I ρ N (bI l.toArray o (Tx i)) a.tmps:=⟨hs,mB⟩
   have next:∀ u w' I' ρ',cA w I ρ w' I' ρ'->Inv P w' I' ρ' (app (gh i) (HH gh (fl listed) H m))->aB P w' I' ρ' (vs i) u->(∀ s v,tl l T vs (fl listed) s=some v->aB P w' I' ρ' v (a.tmps.getD s undef))->
       (∀ s v,lk T s=some v->(∀ j o,l[j]? =some o->fl listed j=true->o.dst≠some s)->aB P w' I' (ρ'.take n0) v (a.tmps.getD s undef))->Marks κ B w' I' ρ' a.defers->
       wpAnyIn (Fr R) 0 P .any l.toArray QX fuel (listed.setIfInBounds i true) (a.put o.dst u) w':=by
    intro u w' I' ρ' he' hinv' hu hold Y5 aaQ
    refine ih (listed.setIfInBounds i true) (a.put o.dst u) w' ?_ (by simp[hsz]) ?_ ?_ ?_
    ·exact Db
    ·exact Bp
    ·exact Eh
    ·refine⟨I',ρ',he.trans he',by rw[hU];exact hinv',by cases o.dst <;> simp[Act.put,hs],fun s v hv=> ?_,fun s v hv hno=> ?_,aaQ.put⟩
     ·cases hd:o.dst with
      | none=>
       have e1:tl l T vs (fl (listed.setIfInBounds i true)) s=tl l T vs (fl listed) s:=gU hk fun j oj hj Ry=>by
        exact Cv
       rw[e1] at hv
       exact hold s v hv
      | some d=>
       have hlt:d<N:=by
        rw[hd] at sA
        simpa[bg,Nat.blt,Zw] using sA
       by_cases VD:d=s
       ·exact BL
       ·have e1:tl l T vs (fl (listed.setIfInBounds i true)) s=tl l T vs (fl listed) s:=gU hk fun j oj hj Ry=>by
          exact ET
        rw[e1] at hv
        have:=hold s v hv
        simpa[Act.put,VD] using this
     ·have aaO:∀ j o,l[j]? =some o->fl listed j=true->o.dst≠some s:=fun j oj hj hf=>hno j oj hj (by rw[gP (by omega),hf];simp)
      have:=Y5 s v hv aaO
      cases hd:o.dst with
      | none=>exact this
      | some d=>
       have VD:d≠s:=fun e=>hno i o ho (by rw[gP (by omega)];simp) (by rw[hd,e])
       simpa[Act.put,VD] using this
   have tH:∀ u w' I' ρ',Ext w I ρ w' I' ρ'->Inv P w' I' ρ' (app (gh i) (HH gh (fl listed) H m))->aB P w' I' ρ' (vs i) u->wpAnyIn (Fr R) 0 P .any l.toArray QX fuel (listed.setIfInBounds i true) (a.put o.dst u) w':=by
    intro u w' I' ρ' he' hinv' hu
    refine next u w' I' ρ' he'.w hinv' hu (fun s v hv=>(cE s v hv).ext he') (fun s v hv hno=> ?_) (hmk.ext he')
    have h4:=Mp s v hv hno
    have h5:ρ.take n0<+:ρ'.take n0:=by
     obtain⟨t,ht⟩:=he'.pre
     rw[<- ht,List.take_append]
     exact⟨_,rfl⟩
    exact uO
   rcases hy with⟨_,hw,_,_,hy⟩ | ⟨_,hg,_,_,k,blk,hw,WI,hkS,_,hop⟩ | ⟨hwr,hg,k,blk,v0,w1,hw,hw1,_,fX,hkS,hk0,hkL,J8,Je,hvi,pQ,hop⟩
   ·have hy:=hy (fun k=>(HH gh (fl listed) H m).getD k .dead)
    rw[hF] at hy
    have tH:∀ u w' I' ρ',Ext w I ρ w' I' ρ'->Inv P w' I' ρ' (HH gh (fl listed) H m)->aB P w' I' ρ' (vs i) u->wpAnyIn (Fr R) 0 P .any l.toArray QX fuel (listed.setIfInBounds i true) (a.put o.dst u) w':=by
     rw[hw] at tH;exact tH
    unfold wpOpIn
    simp only[ho']
    rcases hy with⟨hg,hop⟩ | ⟨j,want,s,c,x,v',hg,o4,DW,hb,hc,hv,hop⟩
    ·simp only[Region.wanted,hg,if_true]
     exact hop R w I ρ a hinv AW _ _ tH
    ·have vI:=lF o4 AW DW hb hc
     simp only[Region.wanted,hg,vI]
     cases c with
     | true=>
      simp only[if_true]
      obtain⟨T2,hsub,hop⟩:=hop rfl
      exact hop R w I ρ a hinv (AW.sH hsub) _ _ fun u w' I' ρ' he' hi' hu=>tH u w' I' ρ' he' hi' (by rw[hv];exact⟨fun _=>hu,(fun h=>by cases h)⟩)
     | false=>
      simp only[KJ,if_false]
      exact⟨bD,tH undef w I ρ (Ext.refl _ _ _) hinv (by rw[hv];exact⟨(fun h=>by cases h),fun _=>rfl⟩)⟩
   ·have hop:=hop (fun k=>(HH gh (fl listed) H m).getD k .dead)
    rw[EW (fun h=>(vo.1 h).2 WI),hF] at hop
    unfold wpOpIn
    simp only[ho']
    simp only[Region.wanted,hg,if_true]
    exact hop R w I ρ a hinv AW _ _ (by rw[hw] at tH;exact tH)
   ·have hop:=hop (fun k=>(HH gh (fl listed) H m).getD k .dead)
    have hF1:∀(w1:List (Nat×ah)) (X:List ah),(∀ p∈w1,p.1∈(D.getD i ([],false)).1)->mask (fun k=>(HH gh (fl listed) H m).getD k .dead) (kq S (D.getD i ([],false)).1) 0 (app w1 X)=app w1 (mask (fun k=>(HH gh (fl listed) H m).getD k .dead) (kq S (D.getD i ([],false)).1) 0 X):=by
     intro w1
     induction w1 with
     | nil=>intro X _;rfl
     | cons p w1 ih2=>
      intro X hp
      obtain⟨k1,b1⟩:=p
      simp only[app]
      rw[ih2 _ (fun q hq=>hp q (by simp[hq])),EW (fun h=>(vo.1 h).2 (hp (k1,b1) (by simp)))]
    rw[hF1 w1 _ (fun p hp=>(hw1 p hp).1),hF] at hop
    unfold wpOpIn
    simp only[ho']
    simp only[Region.wanted,hg,if_true]
    refine hop R w I ρ a hinv AW _ _ fun u w' I' ρ' he' hi' hu=> ?_
    have Yh:(HH gh (fl listed) H m).length=H.length:=hlen _ _
    have hlF:(app w1 (HH gh (fl listed) H m)).length=H.length:=(As _ _).trans Yh
    have hlx:(Hx i).length=H.length:=by rw[XZ i (by omega)];exact hlen _ _
    have YY:ρ.length=H.length:=hinv.len.trans Yh
    have abr:ρ'.length=H.length+1:=by rw[hi'.len];simp[hlF]
    have abt:k<H.length:=by omega
    obtain⟨b,pV⟩:∃ b,ρ'=ρ++[b]:=by
     obtain⟨t,ht⟩:=he'.pre
     have:t.length=1:=by
      have:=congrArg List.length ht
      simp at this
      omega
     match t,this with
     | [b],_=>exact⟨b,ht.symm⟩
    subst pV
    have mF:∀ j,j≠k->j<H.length->(ρ.set k b)[j]? =(ρ++[b])[j]? :=fun j hj hjl=>by
     rw[Zv,if_neg (Ne.symm hj),Zd (by omega)]
    have hτ:∀ ms:List Nat,(∀ i∈ms,i<H.length∧i≠k)->∀ i j c:Nat,sg n0 ms i=some j->(ρ++[b])[i]? =some c->(ρ.set k b)[j]? =some c:=fun ms hms x y c hxy hc=>by
     obtain⟨rfl,hx⟩:=aaa hxy
     rcases hx with hx | hx
     ·rw[mF y (by omega) (by omega)];exact hc
     ·rw[mF y (hms y hx).2 (hms y hx).1];exact hc
    have hσ:∀ i j c:Nat,sw k H.length i=some j->(ρ++[b])[i]? =some c->(ρ.set k b)[j]? =some c:=fun x y c hxy hc=>by
     unfold sw at hxy
     by_cases e1:x=H.length
     ·have Wa:Nat.beq x H.length=true:=by subst e1;exact Nat.beq_refl _
      rw[Wa] at hxy
      cases hxy
      subst e1
      rw[<- YY,Zj (Zf _)] at hc
      simp at hc
      subst hc
      rw[List.getElem?_set_self (by omega)]
     ·have Wa:Nat.beq x H.length=false:=by
        cases h:Nat.beq x H.length with
        | false=>rfl
        | true=>exact absurd (ZM h) e1
      rw[Wa] at hxy
      by_cases e2:x=k
      ·have iu:Nat.beq x k=true:=by subst e2;exact Nat.beq_refl _
       rw[iu] at hxy
       cases hxy
      ·have iu:Nat.beq x k=false:=by
         cases h:Nat.beq x k with
         | false=>rfl
         | true=>exact absurd (ZM h) e2
       rw[iu] at hxy
       cases hxy
       have hxl:x<H.length:=by
        have:=(Za.1 hc).1
        simp at this
        omega
       rw[mF x e2 hxl];exact hc
    have eD:∀(j c:Nat) (x:ah),(ρ.set k b)[j]? =some c->((app w1 (HH gh (fl listed) H m)).set k blk)[j]? =some x->∃ j',(ρ++[b])[j']? =some c∧(app w1 (HH gh (fl listed) H m)++[blk])[j']? =some x∧j'=(if j=k then H.length else j):=by
     intro j c x h4 h5
     by_cases e:j=k
     ·subst e
      rw[List.getElem?_set_self (by omega)] at h4 h5
      cases h4;cases h5
      refine⟨H.length,?_,?_,by simp⟩
      ·rw[<- YY,Zj (Zf _)];simp
      ·rw[<- hlF,Zj (Zf _)];simp
     ·rw[Zv,if_neg (Ne.symm e)] at h4 h5
      refine⟨j,?_,?_,by rw[if_neg e]⟩
      ·rw[Zd (Za.1 h4).1];exact h4
      ·rw[Zd (Za.1 h5).1];exact h5
    have hkey:∀ j,j<m->fl listed j=true->∀ x,x∈(D.getD j ([],false)).1->x∈Ls (j+1)->x≠k∧x<H.length:=by
     intro j hjm h5 x hx1 hx2
     have hji:j≠i:=fun e=>by rw[e,tY] at h5;cases h5
     constructor
     ·rintro rfl
      have cR:(D.getD i ([],false)).2=true:=hwr
      have hki:x∈(D.getD i ([],false)).1:=fX
      rcases Nat.lt_or_gt_of_ne hji with h | h
      ·exact hkL (Ns (j+1) i x (by omega) (by omega) hx2)
      ·have:=Gm j x h hjm (.inl cR) hki hx1
       rw[h5] at this;cases this
     ·obtain⟨i2,h7,h8,h9,h10,h11⟩:=X8 (j+1) x (by omega) hx2
      obtain⟨o2,Wb⟩:=oW i2 (by omega)
      obtain⟨_,hst,_⟩:=h1 i2 o2 (by omega) Wb
      rcases hst with⟨h12,_⟩ | ⟨_,_,h12,_⟩ | ⟨_,_,k2,kg,v2,_,_,_,h13,h14,_,_,_,_,_,_,h15,_⟩
      ·rw[h9] at h12;cases h12
      ·rw[h12] at h11;exact absurd h11 h10
      ·rw[h13] at h11
       rcases Zr.1 h11 with h16 | h16
       ·rw[XZ i2 (by omega),hlen] at h15
        rw[h16];exact h15
       ·exact absurd h16 h10
    have aaY:∀ x∈(app w1 (HH gh (fl listed) H m)++[blk]),∃ ms:List Nat,aE (sg n0 ms) x=x∧∀ y∈ms,y<H.length∧y≠k:=fun x hx=>by
     rcases Zo.1 hx with h | h
     ·rcases Al h with h | ⟨q,h⟩
      ·obtain⟨ms,h2,h3⟩:=aaA _ m (Zf _) x h
       refine⟨ms,h2,fun y hy=> ?_⟩
       obtain⟨j,h4,h5,h6,h7⟩:=h3 y hy
       have:=hkey j h4 h5 y h6 (Ns j (j+1) y (by omega) (by omega) h7)
       exact⟨this.2,this.1⟩
      ·exact⟨[],(hw1 _ h).2.2,fun y hy=>by cases hy⟩
     ·simp at h;subst h;exact⟨[],J8,fun y hy=>by cases hy⟩
    have o3:cA w I ρ w' I' (ρ.set k b):=by
     have KE:=he'.w
     exact⟨KE.os,KE.tape,KE.output,KE.size,KE.keep,KE.shape,KE.lD,KE.bh,KE.eT,KE.cI,KE.ki,fun c hc=>by
      rcases List.mem_or_eq_of_mem_set hc with h | rfl
      ·exact .inl h
      ·exact KE.new c (by simp)⟩
    have hI2:Inv P w' I' (ρ.set k b) ((app w1 (HH gh (fl listed) H m)).set k blk):=by
     refine⟨by simp[YY,hlF],fun j c x h4 h5 h6=> ?_,hi'.ib,fun j c x h4 h5 h6=> ?_,fun j j' c x y h4 h5 h6 h7 h8 h9=> ?_,fun j c x h4 h5=> ?_,hi'.gl⟩
     ·obtain⟨j',k1,k2,_⟩:=eD j c x h4 h5
      exact hi'.gC j' c x k1 k2 h6
     ·obtain⟨j',k1,k2,_⟩:=eD j c x h4 h5
      exact hi'.live j' c x k1 k2 h6
     ·obtain⟨i1,k1,k2,k3⟩:=eD j c x h4 h6
      obtain⟨i2,k4,k5,k6⟩:=eD j' c y h5 h7
      have:=hi'.fT i1 i2 c x y k1 k4 k2 k5 h8 h9
      subst this
      have hj1:j<H.length:=by have:=(Za.1 h4).1;simp at this;omega
      have hj2:j'<H.length:=by have:=(Za.1 h5).1;simp at this;omega
      rw[k3] at k6
      by_cases e1:j=k <;> by_cases e2:j'=k
      ·omega
      ·rw[if_pos e1,if_neg e2] at k6;omega
      ·rw[if_neg e1,if_pos e2] at k6;omega
      ·rw[if_neg e1,if_neg e2] at k6;exact k6
     ·obtain⟨j',k1,k2,_⟩:=eD j c x h4 h5
      obtain⟨ms,m1,m2⟩:=aaY x (Zg k2)
      have:=jr (hτ ms m2) (hi'.rel j' c x k1 k2)
      rwa [m1] at this
    refine next u w' I' (ρ.set k b) o3 (by rw[hw,HE];exact hI2) ?_ (fun s v hv=> ?_) (fun s v hv hno=> ?_) ?_
    ·rw[Je,hlx]
     exact fk hσ v0 u hu
    ·by_cases hex:∃ j oj,l[j]? =some oj∧fl listed j=true∧oj.dst=some s
     ·obtain⟨j,oj,h4,h5,h6⟩:=hex
      have OX:=hv
      rw[qy hk h4 h5 h6] at hv
      cases hv
      have hjm:j<m:=by
       rcases ZS j m with h | h
       ·exact h
       ·rw[xW j h] at h5;cases h5
      have hji:j≠i:=fun e=>by rw[e,tY] at h5;cases h5
      have Y3:=(cE s _ OX).ext he'
      have hkey:=hkey j hjm h5
      obtain⟨_,aal,_⟩:=h1 j oj hjm h4
      have abo:∃ ms:List Nat,bf (sg n0 ms) (vs j)=vs j∧∀ x∈ms,x∈(D.getD j ([],false)).1∧x∈Ls (j+1):=by
       rcases aal with⟨_,_,h7,h8,_⟩ | ⟨_,_,h7,h8,_⟩ | ⟨_,_,k2,kg,v2,_,_,_,h7,h8,_,_,_,_,_,h9,_⟩
       ·exact⟨_,h8,fun x hx=>by rw[h7];simpa[sW] using hx⟩
       ·exact⟨_,h8,fun x hx=>by rw[h7];simpa[sW] using hx⟩
       ·exact⟨_,h9,fun x hx=>by simp at hx;subst hx;exact⟨h8,by rw[h7];simp⟩⟩
      obtain⟨ms,aaL,Ra⟩:=abo
      have:=fk (hτ ms (fun x hx=>⟨(hkey x (Ra x hx).1 (Ra x hx).2).2,(hkey x (Ra x hx).1 (Ra x hx).2).1⟩)) (vs j) _ Y3
      rwa [aaL] at this
     ·have hno:∀ j o,l[j]? =some o->fl listed j=true->o.dst≠some s:=fun j oj h4 h5 h6=>hex ⟨j,oj,h4,h5,h6⟩
      rw[me hno] at hv
      have h4:=Mp s v hv hno
      have h5:ρ.take n0<+:ρ.set k b:=by
       rw[Zbl,List.take_set_of_le (by simp;omega),ZU,KI (by omega)]
      exact uO
    ·have h4:=Mp s v hv hno
     have h5:ρ.take n0<+:(ρ.set k b).take n0:=by
      rw[List.take_set_of_le (by omega)]
      exact ZE _
     exact uO
    ·have hm2:=hmk.ext he'
     obtain⟨q1,q2,q3,q4⟩:=hm2
     refine⟨q1,q2,?_,q4⟩
     obtain⟨_,_,q5,_⟩:=hmk
     rw[Zbl] at q5 ⊢
     rw[List.take_set_of_le (by omega)]
     exact q5
theorem To.Qo{κ:Nat}:∀(r:Nat) {H:List ah},To P κ N T H T (H++dR r)
 | 0,H=>by simpa[dR] using To.refl
 | r+1,H=>by
  have:=(To.pad (P:=P) (κ:=κ) (N:=N) (T:=T) (H:=H)).trans (To.Qo r (H:=H++[.dead]))
  simpa[dR] using this
theorem aF.bQ{id:Nat}(m r:Nat)(S:List Nat)(D:List (List Nat×Bool))(FK:P.follows .mixedOrders=true)(hk:kr m l=true)(hm:m<=l.length)(hD:ID m l D=true)(hκ:Nat.ble κ H.length=true)(hH:H.map (aE (sg H.length []))=H)
    (h:br P N l.toArray S H.length (fun T' H'=>aj P R N κ l.toArray (l.drop m) Q T' H') [] D (l.take m) T (H++dR r)):aF P R N κ (.region id l.toArray true) Q T H:=by
 intro B w I ρ a hi ht hmk
 have hκ:κ<=H.length:=by simpa using hκ
 obtain⟨vs,Tx,Hx,gh,Ls,h0,h0',KW,h1,h2⟩:=br.vals h
 have hlen:(l.take m).length=m:=by simp;omega
 rw[hlen] at h2
 refine wpIn_region_any FK ?_
 have hi':Inv P w.drew I ρ H:=hi.drew
 obtain⟨I2,ρ2,hE,hi2,_,hp⟩:=To.Qo (P:=P) (κ:=ρ.length) (N:=N) (T:=T) r w.drew I ρ a.tmps hi' (ht.ext Ext.drew)
 have hpre:ρ<+:ρ2:=hp ρ (ZE _) (Zf _)
 have YY:ρ.length=H.length:=hi.len
 have kW:ρ2.take H.length=ρ:=by
  rw[<- YY];exact(Zbl.1 hpre).symm
 have hE0:cA w I ρ w.drew I2 ρ2:=(Ext.drew (w:=w) (I:=I) (ρ:=ρ)).w.trans hE
 have Wx:∀ s v,lk T s=some v->aB P w.drew I2 ρ v (a.tmps.getD s undef):=fun s v hv=>
  aB.mono hE.lD (fun _ _=>rfl) (ZE ρ) (fun _ _ _ hs=>hs) v _ ((ht.at_ s v hv).ext (Ext.drew (w:=w) (I:=I) (ρ:=ρ)))
 have hH':∀ x∈H,aE (sg H.length []) x=x:=fun x hx=>by
  obtain⟨i,hil,rfl⟩:=Pv hx
  have:(H.map (aE (sg H.length [])))[i]? =H[i]? :=by rw[hH]
  rw[Zu,Zc hil] at this
  simpa using this
 refine Ft (κ:=κ) (fB.of hk) hm hD (B:=B) (w0:=w) (I0:=I) (ρ0:=ρ) h0 h0' KW (by simp) (fun x hx=> ?_) (ZW hmk.2.1 hκ) (fun i o pY ho=>h1 i o (by rw[ZV,if_pos pY];exact ho)) ?_ _ _ a w.drew (by simp) (by simp) ?_ ?_ ?_
 ·rcases Zo.1 hx with h | h
  ·exact hH' x h
  ·have:∀ r,x∈dR r->x= .dead:=by
     intro r
     induction r with
     | zero=>intro h;cases h
     | succ r ih=>intro h;rcases Zr.1 h with h | h
                  ·exact h
                  ·exact ih h
   rw[this r h];rfl
 ·exact qt
 ·exact kK
 ·exact lu
 ·have hnone:∀ f:Nat,HH gh (fl (Array.replicate l.length false)) (H++dR r) f=H++dR r:=by
    intro f
    induction f with
    | zero=>rfl
    | succ f ih=>
     have e0:fl (Array.replicate l.length false) f=false:=by
      unfold fl
      by_cases hlt:f<l.length <;> simp[hlt]
     simp only[HH,e0,cond_false,ih]
  refine⟨I2,ρ2,hE0,by simpa only[List.size_toArray,hnone] using hi2,ht.size,fun s v hv=> ?_,fun s v hv _=> ?_,hmk.Ka hE0 (hmk.2.2.1.trans hpre)⟩
  ·rw[me (fun j o hj hf=>by
     unfold fl at hf
     by_cases hlt:j<l.length <;> simp[hlt] at hf)] at hv
   exact aB.mono (fun _ h=>h) (fun _ _=>rfl) hpre (fun _ _ _ hs=>hs) v _ (Wx s v hv)
  ·rw[kW];exact Wx s v hv
end
end
section
variable {P:Program} {R:Option Nat} {N κ:Nat} {Q Q':Post} {T T' T2 T3:Tm} {H H' H2 H3:List ah} {o:Oper} {ops:Array Oper} {rest:List Oper}
theorem yb{α:Type}[Inhabited α](z:List α)(hz:0<z.length):∀ n:Nat,(List.range (n*z.length)).map (fun i=>z[i%z.length]!)=(List.replicate n z).flatten
 | 0=>by simp
 | n+1=>by
  rw[List.replicate_succ',Z6,<- yb z hz n,Nat.succ_mul,List.range_add,ZA]
  congr 1
  simp only[O1,List.flatten_nil,ZT,Q1]
  apply Fp
  intro i
  rw[Zu]
  by_cases h:i<z.length
  ·simp[XR h,UA h,h]
  ·rw[ZF (by simpa using h),ZF (by omega)];rfl
theorem aa.makeSlice{x y:Operand}{t e:TypeId}{z:List PV}{n c b9:Nat}(ho:o.op= .makeSlice t x y)(hx:ev T x=some (.p (.int .i64 (n:Int))))(hy:ev T y=some (.p (.int .i64 (c:Int))))(hs:nh P t=some (e,z))(hby:xh P e=some b9)(hb0:0<b9)
    (hnc:n<=c)(hb:b9*c<=281474976710656):aa P N o T H (.row H.length n) (H++[.row ((List.replicate n z).flatten.map .p) e]):=
 aa.dB (by simp[ho]) fun w I ρ a hi hT=>by
  obtain⟨hu,⟨b,ht⟩,vN,hz⟩:=dQ hs
  obtain⟨uz,h1,h2⟩:=hz w
  have h3:=h2 I
  have h4:=aW.length h3
  simp only[Gi] at h4
  obtain⟨inf,jU,rfl⟩:∃ inf,P.info? e=some inf∧inf.bytes=b9:=by
   exact DV
  have hc:c<=281474976710656:=ZW (Nat.le_mul_of_pos_left c hb0) hb
  have A6:∀ k w,(askRoom k).run P w= .ok () w:=fun k w=>by
   exact qA
  have wn:IntKind.i64.wrap (n:Int)=n:=aK (by omega)
  have wc:IntKind.i64.wrap (c:Int)=c:=aK (by omega)
  have hEl:∀(cs:Array Value),cs.toList=(List.replicate c uz.cells.toList).flatten->∃ I' ρ',Ext w I ρ (w.alloc (.cells cs e)) I' ρ'∧Inv P (w.alloc (.cells cs e)) I' ρ' (H++[.row ((List.replicate n z).flatten.map .p) e])∧aB P (w.alloc (.cells cs e)) I' ρ' (.row H.length n) (.slice (some ⟨w.heap.size,0,none⟩) n c):=by
   intro cs hcs
   have hE:Ext w I ρ (w.alloc (.cells cs e)) I (ρ++[w.heap.size]):=Ext.aQ hi _
   have kW:cs.toList.take ((List.replicate n z).flatten.map V.p).length=(List.replicate n uz.cells.toList).flatten:=by
    have e1:((List.replicate n z).flatten.map V.p).length=n*z.length:=by simp
    rw[e1,hcs,show c=n+(c - n) by omega,<- List.replicate_append_replicate,Z6,Yl (by simp[h4]),OI (by simp[h4])]
   refine⟨_,_,hE,Inv.aQ hi _ ⟨cs,heap_alloc_new w _,?_,?_⟩,?_⟩
   ·rw[<- Gi,hcs]
    simp only[Zp,List.length_flatten,List.map_replicate,List.sum_replicate_nat]
    have e3:uz.cells.toList.length=z.length:=h4
    rw[e3]
    exact FT _ hnc
   ·rw[kW]
    exact ag.ext hE (ag.pure.2 (aW.Tc h3 n))
   ·refine⟨w.heap.size,e,c,by rw[<- hi.len];simp,rfl,?_,hnc⟩
    obtain⟨d,i,_,h5,_,h6⟩:=gw ht
    have hsz:cs.size=c*z.length:=by
     rw[<- Gi,hcs];simp[h4]
    simp only[World.shape?,heap_alloc_new,hsz,Program.cellsOf,h5,Ri,Vj,h6]
  have hsz:uz.cells.size=z.length:=h4
  obtain⟨I',ρ',e2⟩:=hEl ((Array.range (c*z.length)).map (uz.cells[· %uz.cells.size]!)) (by
   rw[Array.toList_map,Array.toList_range]
   have:=yb uz.cells.toList (by rw[Gi,hsz];exact vN) c
   rw[Gi,hsz] at this
   rw[<- this,hsz]
   apply V1
   intro i _
   simp[getElem!_def])
  have g1:¬ ((c:Int)<0):=by omega
  have g2:¬ ((n:Int)<0):=by omega
  have g3:¬ ((c:Int)<(n:Int)):=by omega
  have g4:¬ ((281474976710656:Int)<(inf.bytes:Int)*(c:Int)):=by
   have:((inf.bytes*c:Nat):Int)<=281474976710656:=by omega
   rw[Int.natCast_mul] at this
   omega
  refine⟨_,_,I',ρ',.inl ?_,e2⟩
  by_cases hc0:c=0
  ·subst hc0
   obtain rfl:n=0:=by omega
   have w0:IntKind.i64.wrap 0=0:=by decide
   simp[execOp,ho,cX hT hx,cX hT hy,Instr.makeSlice,run_underlying hu,asInt,dZ,run_typeInfo w jU,w0,A6,aM ht,newRow,newObj,Sem.run]
   have e0:Array.range 0= #[]:=by decide
   rw[e0,Array.map_empty,Array.map_empty]
  ·simp[execOp,ho,cX hT hx,cX hT hy,Instr.makeSlice,run_underlying hu,asInt,dZ,run_typeInfo w jU,wn,wc,A6,aM ht,newRow,newObj,Sem.run,hc0,h1,g1,g2,g3,g4]
   intro h
   exact absurd h (by have:=Nat.mul_pos (by omega:0<c) vN;omega)
theorem aa.nilCheck{x:Operand}{i off:Nat}(ho:o.op= .nilCheck x)(hx:ev T x=some (.ptr i off)):aa P N o T H (.ptr i off) H:=
 aa.aO (by simp[ho]) fun w I ρ a hi hT=>by
  have h:=hT.ev hx
  obtain⟨b,hb,hu⟩:=h
  exact⟨_,by simp[execOp,ho,hu],hT.ev hx⟩
theorem aa.I9{x:Operand}{cs:List PV}{off:Nat}(ho:o.op= .nilCheck x)(hx:ev T x=some (.p (.ip cs off))):aa P N o T H (.p (.ip cs off)) H:=
 aa.aO (by simp[ho]) fun w I ρ a hi hT=>by
  have h:=hT.ev hx
  obtain⟨b,o',hb,hu,hr⟩:=h
  exact⟨_,by simp[execOp,ho,hu],hT.ev hx⟩
theorem aa.Qw{x y:Operand}{t t':TypeId}{k:IntKind}(a b:Nat)(ho:o.op= .binOp .andNot t x y t')(hx:ev T x=some (.p (.int k (a:Int))))(hy:ev T y=some (.p (.int k (b:Int))))(ha:(a:Int)<=k.max):aa P N o T H (.p (.int k ((a^^^(a&&& b):Nat):Int))) H:=
 aa.bits ho (.inr (.inr (.inr rfl))) hx hy fun w=>by
  have hk:=max_lt k
  have R6:a<2^k.bits:=by have:(a:Int)<((2^k.bits:Nat):Int):=by simpa using(by omega:(a:Int)<2^k.bits)
                         omega
  have hle:a^^^(a&&& b)<=a:=by
   have:a^^^(a&&& b)=a&&& (a^^^(a&&& b)):=by
    apply KH
    intro i
    simp only[Nat.testBit_xor,KU]
    cases a.testBit i <;> cases b.testBit i <;> rfl
   rw[this];exact Nat.and_le_left
  have h1:(BitVec.ofInt k.bits (a:Int)&&& ~~~ BitVec.ofInt k.bits (b:Int)).toNat=a^^^(a&&& b):=by
   have e:BitVec.ofInt k.bits (a:Int)&&& ~~~ BitVec.ofInt k.bits (b:Int)=BitVec.ofNat k.bits (a^^^(a&&& b)):=by
    rw[jq,jq]
    apply BitVec.eq_of_getLsbD_eq
    intro i hi
    simp only[BitVec.getLsbD_and,BitVec.getLsbD_not,BitVec.getLsbD_ofNat,Nat.testBit_xor,KU,hi,decide_true,Bool.true_and]
    cases a.testBit i <;> cases b.testBit i <;> rfl
   rw[e,BitVec.toNat_ofNat,UA (Nat.lt_of_le_of_lt hle R6)]
  have h2:((a^^^(a&&& b):Nat):Int)<=k.max:=by omega
  exact Cl
theorem NC{n:Nat}{x:PV}:bU H n (.p x)=some x:=by cases n <;> rfl
theorem VP{n i len:Nat}{xs:List PV}(h:bJ H[i]? =some (xs.map .p)):bU H (n+1) (.row i len)=some (.is xs len):=by
 simp only[bU,h,wM,Ri]
def jZ(ks:List Nat):Tm->Tm
 | []=>[]
 | (s,v)::T=>bif ks.any (Nat.beq s) then(s,v)::jZ ks T else jZ ks T
theorem uV(ks:List Nat):∀(T:Tm) (s:Nat) (v:V),lk (jZ ks T) s=some v->lk T s=some v
 | [],s,v,h=>by cases h
 | (a,u)::T,s,v,h=>by
  simp only[jZ] at h
  cases hk:ks.any (Nat.beq a) with
  | true=>
   rw[hk] at h
   simp only[cond_true,lk] at h ⊢
   cases hb:Nat.beq a s with
   | true=>rw[hb] at h;exact h
   | false=>rw[hb] at h;exact uV ks T s v h
  | false=>
   rw[hk] at h
   simp only[cond_false] at h
   have h2:=uV ks T s v h
   simp only[lk]
   cases hb:Nat.beq a s with
   | false=>exact h2
   | true=>
    exfalso
    have e:=ZM hb
    subst e
    have gen:∀ T:Tm,lk (jZ ks T) a=none:=by
     intro T
     induction T with
     | nil=>rfl
     | cons p T ih=>
      obtain⟨c,u⟩:=p
      simp only[jZ]
      cases hc:ks.any (Nat.beq c) with
      | false=>exact ih
      | true=>
       simp only[cond_true,lk]
       cases iu:Nat.beq c a with
       | false=>exact ih
       | true=>
        have e2:=ZM iu
        subst e2
        rw[hk] at hc;cases hc
    rw[gen T] at h;cases h
theorem Sub.Jw{C T:Tm}{ks:List Nat}(h:Sub C T):Sub (C++jZ ks T) T:=by
 intro s v hv
 have app:∀(A B:Tm),lk (A++B) s=some v->lk A s=some v∨lk B s=some v:=by
  intro A B
  induction A with
  | nil=>intro h;exact .inr h
  | cons p A ih=>
   obtain⟨a,u⟩:=p
   exact Da
 rcases app _ _ hv with h1 | h1
 ·exact h s v h1
 ·exact uV ks T s v h1
theorem aF.FY{γ:Type}{c:Code}(ks:List Nat)(ch:γ->Tm)(inv:γ->Prop)(μ:γ->Nat)(g0:γ)(h0:inv g0)(hS:Sub (ch g0) T)
    (round:∀ g,inv g->aF P R N κ c (AX.then (fun T' H'=>∃ g',inv g'∧μ g'<μ g∧To P κ N T' H' (ch g'++jZ ks T) H) Q) (ch g++jZ ks T) H):aF P R N κ (.loop c) Q T H:=
 aF.He (fun g=>ch g++jZ ks T) (fun _=>H) inv μ g0 h0 (To.sub (Sub.Jw hS)) round
theorem aF.fE{γ:Type}{c:Code}(ks:List Nat)(ch:γ->Tm)(Hs:γ->List ah)(inv:γ->Prop)(μ:γ->Nat)(g0:γ)(h0:inv g0)(hto:To P κ N T H (ch g0++jZ ks T) (Hs g0))
    (round:∀ g,inv g->aF P R N κ c (AX.then (fun T' H'=>∃ g',inv g'∧μ g'<μ g∧To P κ N T' H' (ch g'++jZ ks T) (Hs g')) Q) (ch g++jZ ks T) (Hs g)):aF P R N κ (.loop c) Q T H:=
 aF.He (fun g=>ch g++jZ ks T) Hs inv μ g0 h0 hto round
end
theorem L4(A B:List PV):iH (A.map .p++B.map .p)=some (A++B):=by
 rw[<- ZA];exact iE _
section
variable {P:Program} {R:Option Nat} {N κ:Nat} {Q:Post} {T:Tm} {H H':List ah} {o:Oper} {ops:Array Oper} {K:Tm->List ah->Prop} {rest:List Oper} {S L us:List Nat} {n0:Nat} {D:List (List Nat×Bool)}
theorem aa.frz(k:Nat){xs:List PV}{vs:List V}{v:V}(hc:bJ H[k]? =some vs)(hp:iH vs=some xs)(h:aa P N o (wj k xs T) (H.set k .dead) v H'):aa P N o T H v H':=
 fun R w I ρ a hi ht KK QX hK=>by
  rw[dM hp] at hc
  obtain⟨I',h1,h2,h3⟩:=kX hi hc ht
  exact h R w I' ρ a h2 h3 KK QX fun u w' QO ρ' he hi' hu=>hK u w' QO ρ' (h1.trans he) hi' hu
theorem br.abi(d k:Nat){blk:ah}{v:V}(hd:o.dst=some d)(hdN:bg N (some d)=true)(hg:o.guard=none)(hk:us.elem k=true)(hS:S.elem k=true)(hop:∀ g,aa P N o (bI ops o T) (mask g (kq S us) 0 H) v (mask g (kq S us) 0 (H.set k blk)))(hv:bf (sg n0 (sW us L)) v=v)(hb:aE (sg n0 (sW us L)) blk=blk)
    (next:br P N ops S n0 K L D rest ((d,v)::T) (H.set k blk)):br P N ops S n0 K L ((us,true)::D) (o::rest) T H:=
 ⟨v,[(k,blk)],L,by rw[hd];exact hdN,.inr (.inl ⟨rfl,hg,rfl,hv,k,blk,rfl,by simpa using hk,by simpa using hS,hb,hop⟩),by rw[hd];exact next⟩
end
section
variable {P:Program} {R:Option Nat} {N κ:Nat} {Q:Post} {T:Tm} {H H':List ah} {o:Oper}
def scV(x:PV):V:=bif JI x then .p x else .top
theorem Qa{w w':World}{I I':Nat->Prop}{ρ:List Nat}{x:PV}{u:Value}(h:Rel w I x u):aB P w' I' ρ (scV x) u:=by
 unfold scV
 cases hs:JI x with
 | true=>exact Rel.sc x u hs h
 | false=>trivial
theorem Ds{w w':World}{I I':Nat->Prop}{ρ:List Nat}:∀(xs:List PV) (us:List Value),aW w I xs us->ag P w' I' ρ (xs.map scV) us
 | [],us,h=>h
 | x::xs,us,h=>by
  obtain⟨u,us',hu,h1,h2⟩:=h
  exact⟨u,us',hu,Qa h1,Ds xs us' h2⟩
theorem aa.Td(n:Nat){g:FuncId}{args rs:List PV}(hp:Pure P g args (.tuple rs)){f:Operand}{xs:Array Operand}{ts:Array TypeId}{fv:V}{vs all:List V}(ho:o.op= .call {callee:= .value f,args:=xs,argTypes:=ts})(hf:ev T f=some fv)
    (hxs:jT T xs.toList=some vs)(hc:callee vs fv=some (g,all))(hb:cT (bU H n) all=some args)(hg:ak P g=true):aa P N o T H (.tuple (rs.map scV)) H:=by
 intro R w I ρ a hi hT K QX hK
 refine⟨bD,?_⟩
 rw[bG _ _ _ (by simp[ho])]
 obtain⟨us,h1,h2⟩:=dP ho hT hf hxs hc hg
 rw[h2]
 have h1':ag P w (fun b=>b<w.heap.size) [] (args.map .p) us:=ag.pure.2 (fu (mP hi n) all args us hb h1)
 have hi2:Inv P w (fun b=>b<w.heap.size) [] []:=⟨rfl,(fun _ _ _ h=>by simp at h),fun _ h=>h,(fun _ _ _ h=>by simp at h),(fun _ _ _ _ _ h=>by simp at h),(fun _ _ _ h=>by simp at h),hi.gl.mono hi.ib (fun _ _=>rfl)⟩
 refine⟨(fun h=>by cases h),?_⟩
 refine CallsIn.mono (cz R (hp w _ [] us hi2 h1')) ?_
 rintro e w' ⟨u,v,J,σ,H',rfl,⟨rfl,rfl⟩,h3,h4,h5⟩
 have he:=qm hi h3
 have yc:Inv P w' I [] []:=⟨rfl,(fun _ _ _ h=>by simp at h),fun b h=>ZQ (hi.ib b h) h3.w.size,(fun _ _ _ h=>by simp at h),(fun _ _ _ _ _ h=>by simp at h),(fun _ _ _ h=>by simp at h),hi.gl.mono (fun _ h=>h) he.w.bh⟩
 obtain⟨h6,h7⟩:=Inv.frame hi he yc
 obtain⟨us',hu,hr⟩:=h5
 exact hK u w' I ρ h6 h7 ⟨us',hu,Ds rs _ hr⟩
end
section
variable {P:Program} {R:Option Nat} {N κ:Nat} {Q:Post} {T:Tm} {H H':List ah} {o:Oper}
def rW(P:Program)(t:TypeId):Bool:=
 match P.underlying t with
 | some (.interface _)=>false
 | some _=>true
 | none=>false
theorem aa.aG{t:TypeId}{x:Operand}{y:PV}(ho:o.op= .makeInterface t x)(hx:ev T x=some (.p y))(ht:rW P t=true):aa P N o T H (.p (.iface t y)) H:=
 aa.aO (by simp[ho]) fun w I ρ a hi hT=>by
  have h:=hT.ev hx
  unfold rW at ht
  cases hu:P.underlying t with
  | none=>simp[hu] at ht
  | some d=>
   refine⟨.iface t (a.eval x),?_,a.eval x,rfl,h⟩
   cases d <;> simp[hu] at ht <;> simp[execOp,ho,Instr.makeInterface,run_underlying hu]
def TL(P:Program)(t:TypeId)(name:String):Option FuncId:=
 match P.info? t with
 | some i=>match i.methods.find? (·.name==name) with
   | some m=>if m.path.isEmpty then(match m.func,P.underlying t with
     | some (_,false),some (.pointer _)=>none
     | some (f,false),some _=>some f
     | _,_=>none) else none
   | none=>none
 | none=>none
theorem GC{t:TypeId}{name:String}{f:FuncId}(h:TL P t name=some f)(n:Nat)(v:Value)(w:World):(method (n+1) t v name).run P w= .ok (f,v) w:=by
 unfold TL at h
 cases hi:P.info? t with
 | none=>simp[hi] at h
 | some i=>
  simp only[hi] at h
  cases hm:i.methods.find? (·.name==name) with
  | none=>simp[hm] at h
  | some m=>
   simp only[hm] at h
   split at h
   ·rename_i hp
    have hp':m.path= #[]:=by simpa using hp
    cases hf:m.func with
    | none=>simp[hf] at h
    | some q=>
     obtain⟨g,b⟩:=q
     cases b with
     | true=>simp[hf] at h
     | false=>
      cases hu:P.underlying t with
      | none=>simp[hf,hu] at h
      | some d=>
       cases d <;> simp[hf,hu] at h <;> subst h <;> simp[method,run_typeInfo w hi,hm,hp',follow,hf,receiverAt,run_underlying hu,Place.get]
   ·cases h
def K9(P:Program)(name:String)(x:PV)(args:List PV)(r:PV):Prop:=∃ t y g,x= .iface t y∧TL P t name=some g∧ak P g=true∧Pure P g (y::args) r
theorem aa.invoke{name:String}{x r:PV}{args:List PV}(hF:K9 P name x args r){rc:Operand}{xs:Array Operand}{ts:Array TypeId}(ho:o.op= .call {callee:= .invoke rc name,args:=xs,argTypes:=ts})(hx:ev T rc=some (.p x))(hxs:jT T xs.toList=some (args.map .p)):aa P N o T H (.p r) H:=by
 obtain⟨t,y,g,rfl,hm,hg,hp⟩:=hF
 intro R w I ρ a hi hT K QX hK
 refine⟨bD,?_⟩
 rw[bG _ _ _ (by simp[ho])]
 obtain⟨z,hz,hr⟩:=hT.ev hx
 have h2:=ag.pure.1 (hT.jT hxs)
 have hrun:(execOp a.eval o).run P w= .ok (.enter g (z::xs.toList.map a.eval).toArray) w:=by
  have e0:∀ us:Array Value,(#[Value.iface t z]++us)[0]? =some (.iface t z):=fun us=>by
   rw[Array.getElem?_append_left (by simp)];rfl
  obtain⟨n,hn⟩:∃ n,P.types.size+Made.depth=n+1:=⟨P.types.size+(Made.depth - 1),by have:0<Made.depth:=by decide
                                                                                  omega⟩
  simp[execOp,ho,resolve,Go.invoke,callMethod,hz,e0,hn,GC hm,fP hg]
  exact OI (by simp)
 rw[hrun]
 have h1':ag P w I [] ((y::args).map .p) (z::xs.toList.map a.eval):=ag.pure.2 ⟨z,_,rfl,hr,h2⟩
 refine⟨(fun h=>by cases h),?_⟩
 refine CallsIn.mono (cz R (hp w I [] _ hi.nothing h1')) ?_
 rintro e w' ⟨u,v,J,σ,H',rfl,⟨rfl,rfl⟩,h3,h4,h5⟩
 have hσ:σ=[]:=ZB h4.len
 subst hσ
 obtain⟨h6,h7⟩:=Inv.frame hi h3 h4
 exact hK u w' J ρ h6 h7 h5
end
section
variable {P:Program} {R:Option Nat} {N κ:Nat} {Q:Post} {T:Tm} {H H':List ah} {o:Oper}
theorem aa.aN{α:Type}{g:Nat->α}{x y:Operand}{t:TypeId}{kd:IntKind}{sz len k:Nat}{xs:List α}{f:α->List PV}(hg:∀ k (h:k<xs.length),xs[k]=g k)(ho:o.op= .indexAddr t x y)(hx:ev T x=some (.p (.is (xs.flatMap f) len)))(hy:ev T y=some (.p (.int kd (k:Int))))(ht:eE P t=true)
    (he:nk P t=some sz)(hl:len=xs.length)(hf:∀ x,(f x).length=sz)(h0:0<sz)(hk:k<xs.length):aa P N o T H (.p (.ip (f (g k)) 0)) H:=by
 have h:=aa.j6 (P:=P) (N:=N) (H:=H) ho hx hy ht he hl hf h0 hk
 rwa [hg k hk] at h
theorem aa.sF{t:TypeId}{parts:Array (Nat×Operand)}{z:List PV}{ps:List (Nat×Nat)}{vs:List (Nat×V)}{r:List V}{v:V}(ho:o.op= .build t parts)(hb:lY P t=some (z,ps))(hv:iC T parts.toList=some vs)(hr:iV ps (z.map .p) vs=some r)(hw:fW r=v):aa P N o T H v H:=by
 subst hw;exact aa.build ho hb hv hr
theorem aa.isR{xs ys:List PV}{n:Nat}(h:aa P N o T H (.p (.is ys n)) H')(e:ys=xs):aa P N o T H (.p (.is xs n)) H':=e▸h
theorem aj.yM(d:Nat){ops:Array Oper}{rest:List Oper}{f:Operand}{xs:Array Operand}{ts:Array TypeId}{fv:V}{vs all:List V}{g:FuncId}{Qr:V->List ah->Prop}(hp:ax P g all H Qr)(ho:o.op= .call {callee:= .value f,args:=xs,argTypes:=ts})(hd:o.dst=some d)(hN:bg N (some d)=true)(hgd:o.guard=none)(hf:ev T f=some fv)
    (hxs:jT T xs.toList=some vs)(hc:callee vs fv=some (g,all))(hg:ak P g=true)(next:∀ v H',Qr v H'->aj P R N κ ops rest Q ((d,v)::T) H'):aj P R N κ ops (o::rest) Q T H:=by
 intro QX B w I ρ a hi ht hm hq
 refine wpListIn_plain hgd fun K hK=> ?_
 refine⟨bD,?_⟩
 rw[bG _ _ _ (by simp[ho])]
 obtain⟨us,h1,h2⟩:=dP ho ht hf hxs hc hg
 rw[h2]
 refine⟨(fun h=>by cases h),?_⟩
 refine CallsIn.mono (cz R (hp w I ρ us hi h1)) ?_
 rintro e w' ⟨u,v',J,σ,H2,rfl,hQ,h3,h4,h5⟩
 refine hK _ _ ?_
 refine next v' H2 hQ QX B w' J σ (a.put o.dst u) h4 (by rw[hd];exact(ht.ext h3).put hN h5) ((hm.ext h3).put) fun e a2 w2 q=>hq e a2 w2 (QC.ext h3.w q)
theorem lP.many{fn:Func}{r1 r2:ResultVar}{rs:List ResultVar}{vs:List V}{xs:List PV}{Qr:V->List ah->Prop}(h:fn.results=(r1::r2::rs).toArray)(hr:AI P T H (r1::r2::rs) vs)(hv:vs=xs.map .p)(hq:Qr (.p (.tuple xs)) H):lP P N fn Qr .ret T H:=by
 refine⟨.inr rfl,.p (.tuple xs),?_,hq⟩
 have:=en.many (N:=N) h hr
 have e:jP vs= .p (.tuple xs):=by
  subst hv
  simp[jP,iE]
 rwa [e] at this
theorem lP.one{fn:Func}{r:ResultVar}{v:V}{Qr:V->List ah->Prop}(h:fn.results= #[r])(hr:pU P T H r v)(hq:Qr v H):lP P N fn Qr .ret T H:=
 ⟨.inr rfl,v,en.one h hr,hq⟩
end
mutual
def wkP:PV->PV
 | .nilSlice=> .is [] 0
 | .agg cs=> .agg (wE cs)
 | .tuple cs=> .tuple (wE cs)
 | .is cs n=> .is (wE cs) n
 | .ip cs off=> .ip (wE cs) off
 | x=>x
def wE:List PV->List PV
 | []=>[]
 | x::xs=>wkP x::wE xs
end
mutual
theorem Rel.wk{w:World}{I:Nat->Prop}:∀(x:PV) (u:Value),Rel w I x u->Rel w I (wkP x) u
 | .nilSlice,u,h=> .inl ⟨⟨none,0,h⟩,rfl⟩
 | .agg cs,u,h=>by
  obtain⟨us,hu,h1⟩:=h
  exact⟨us,hu,aW.wk cs _ h1⟩
 | .tuple cs,u,h=>by
  obtain⟨us,hu,h1⟩:=h
  exact⟨us,hu,aW.wk cs _ h1⟩
 | .is cs n,u,h=>by
  rcases h with h | ⟨b,o,cap,hb,hl,hu,hc⟩
  ·exact .inl h
  ·exact .inr ⟨b,o,cap,fun hn=>hb (fun e=>hn (by subst e;rfl)),hl,hu,aX.wk cs b o hc⟩
 | .ip cs off,u,h=>by
  obtain⟨b,o,hb,hu,hc⟩:=h
  exact⟨b,o,hb,hu,aX.wk cs b o hc⟩
 | .bool _,_,h=>h
 | .int _ _,_,h=>h
 | .str _,_,h=>h
 | .nilPtr,_,h=>h
 | .nilMap,_,h=>h
 | .nilFunc,_,h=>h
 | .nilIface,_,h=>h
 | .im _ _,_,h=>h
 | .func _ _ _,_,h=>h
 | .iface _ _,_,h=>h
theorem aW.wk{w:World}{I:Nat->Prop}:∀(xs:List PV) (us:List Value),aW w I xs us->aW w I (wE xs) us
 | [],us,h=>h
 | c::cs,us,h=>by
  obtain⟨u,us',hu,h1,h2⟩:=h
  exact⟨u,us',hu,Rel.wk c u h1,aW.wk cs us' h2⟩
theorem aX.wk{w:World}{I:Nat->Prop}:∀(xs:List PV) (b o:Nat),aX w I xs b o->aX w I (wE xs) b o
 | [],_,_,h=>h
 | c::cs,b,o,h=>by
  obtain⟨⟨u,hu,h1⟩,h2⟩:=h
  exact⟨⟨u,hu,Rel.wk c u h1⟩,aX.wk cs b (o+1) h2⟩
end
def Xk:V->V
 | .p x=> .p (wkP x)
 | v=>v
theorem aB.wk{P:Program}{w:World}{I:Nat->Prop}{ρ:List Nat}(v:V)(u:Value)(h:aB P w I ρ v u):aB P w I ρ (Xk v) u:=by
 cases v <;> first | exact Rel.wk _ _ h | exact h
theorem ag.wk{P:Program}{w:World}{I:Nat->Prop}{ρ:List Nat}:∀(vs:List V) (us:List Value),ag P w I ρ vs us->ag P w I ρ (vs.map Xk) us
 | [],us,h=>h
 | c::cs,us,h=>by
  obtain⟨u,us',hu,h1,h2⟩:=h
  exact⟨u,us',hu,aB.wk c u h1,ag.wk cs us' h2⟩
section
variable {P:Program} {N κ:Nat} {T:Tm} {H:List ah}
theorem To.wkB(i:Nat){cs:List V}{e:TypeId}(hH:H[i]? =some (.cells cs e)):To P κ N T H T (H.set i (.cells (cs.map Xk) e)):=fun w I ρ tmps hi ht=>by
 obtain⟨b,hb⟩:∃ b,ρ[i]? =some b:=by
  have h1:i<H.length:=(Za.1 hH).1
  rw[<- hi.len] at h1
  exact⟨ρ[i],Zc h1⟩
 refine⟨I,ρ,cA.refl _ _ _,?_,ht,fun L hL _=>hL⟩
 refine hi.write hb hH rfl (Ext.refl _ _ _) rfl (fun _ _=>rfl) ?_
 obtain⟨arr,h1,h2⟩:=hi.rel i b _ hb hH
 exact⟨arr,h1,ag.wk cs _ h2⟩
end
section
variable {P:Program} {R:Option Nat} {N κ:Nat} {Q:Post} {T:Tm} {H H':List ah} {o:Oper}
theorem tv{i:Nat}{xs:List PV}:∀ l:List PV,lz i xs (l.map .p)=l.map .p
 | []=>rfl
 | x::l=>by simp[lz,iG,tv l]
end
theorem EK(i:Nat)(xs:List PV):∀ a b:List V,lz i xs (a++b)=lz i xs a++lz i xs b
 | [],b=>rfl
 | x::a,b=>by simp only[OK,lz,EK i xs a b]
section
variable {P:Program} {N κ:Nat} {T:Tm} {H:List ah}
theorem To.aao(i j:Nat){xs:List PV}{vs cs:List V}{e:TypeId}(hij:i≠j)(hc:bJ H[i]? =some vs)(hp:iH vs=some xs)(hH:H[j]? =some (.cells cs e)):To P κ N T H (wj i xs T) ((H.set i .dead).set j (.cells (lz i xs cs) e)):=by
 intro w I ρ tmps hi ht
 rw[dM hp] at hc
 obtain⟨b,arr,e',hρ,hw,hl,hr⟩:=gN hi hc
 obtain⟨bj,hbj⟩:∃ b,ρ[j]? =some b:=by
  have h1:j<H.length:=(Za.1 hH).1
  rw[<- hi.len] at h1
  exact⟨ρ[j],Zc h1⟩
 have WL:∃ blk,H[i]? =some blk∧blk.live=true:=by
  exact Cu
 obtain⟨blk,hHi,ew⟩:=WL
 have hE:=Ext.freeze hi hρ hHi ew
 have hF:=Inv.freeze hi hρ hHi ew
 have hx:aX w (fun k=>I k∨k=b) xs b 0:=by
  exact BJ
 have hHj:(H.set i ah.dead)[j]? =some (.cells cs e):=by rw[G7 hij];exact hH
 refine⟨_,ρ,hE.w,?_,⟨ht.size,fun s v hv=> ?_⟩,fun L hL _=>hL⟩
 ·refine hF.write hbj hHj rfl (Ext.refl _ _ _) rfl (fun _ _=>rfl) ?_
  obtain⟨fe,h1,h3⟩:=hF.rel j bj _ hbj hHj
  exact⟨fe,h1,nE hρ (.inr rfl) hx cs _ h3⟩
 ·rw[oH,Zi] at hv
  obtain⟨v0,h1,rfl⟩:=hv
  exact ni hρ (.inr rfl) hx v0 _ ((ht.at_ s v0 h1).ext hE)
theorem AA:∀ l:List PV,(l.map V.p).map Xk=(wE l).map V.p
 | []=>rfl
 | x::l=>by simp only[Zz,wE,AA l];rfl
theorem To.aag(i j:Nat){xs:List PV}{n:Nat}{a b:List PV}{e eb:TypeId}(T2:Tm)(hij:i≠j)(hi:H[i]? =some (dU (xs.map .p) e n))(hj:H[j]? =some (.cells (a.map .p++ke i n::b.map .p) eb))(h0:n=0->xs=[])(ha:wE a=a)(hb:wE b=b)
    (h1:Sub T2 (wj i xs T))(h2:Sub T2 T):To P κ N T H T2 ((H.set i .dead).set j (.cells (a.map .p++ .p (.is xs n)::b.map .p) eb)):=by
 cases n with
 | zero=>
  have hx:=h0 rfl
  subst hx
  have e1:H.set i .dead=H:=by
   apply Fp
   intro k
   rw[Zv]
   split
   ·rename_i hik
    subst hik
    split
    ·exact hi.symm
    ·rename_i h;rw[ZF (by omega)]
   ·rfl
  rw[e1]
  have h3:=To.wkB (P:=P) (N:=N) (κ:=κ) (T:=T) j hj
  have e2:(a.map V.p++ke i 0::b.map V.p).map Xk=a.map .p++ .p (.is [] 0)::b.map .p:=by
   rw[ZA,Zz,AA,AA,ha,hb]
   rfl
  rw[e2] at h3
  exact h3.trans (To.sub h2)
 | succ n=>
  have h3:=To.aao (P:=P) (N:=N) (κ:=κ) (T:=T) i j hij (xs:=xs) (vs:=xs.map .p) (by rw[hi];rfl) (iE xs) hj
  have e2:lz i xs (a.map V.p++ke i (n+1)::b.map V.p)=a.map .p++ .p (.is xs (n+1))::b.map .p:=by
   rw[EK,tv]
   simp only[lz,tv,ke,iG,if_true]
  rw[e2] at h3
  exact h3.trans (To.sub h1)
end
theorem ur(z:List PV):∀ n:Nat,((List.replicate n z).flatten).length=n*z.length
 | 0=>by simp
 | n+1=>by rw[Wp,O1,Zb,ur z n,Nat.succ_mul];omega
section
variable {P:Program} {N:Nat} {T:Tm} {H:List ah} {o:Oper}
end
theorem To.tW{P:Program}{N κ:Nat}{T T2:Tm}{H H2 H3:List ah}(h:To P κ N T H T2 H2)(e:H2=H3):To P κ N T H T2 H3:=e▸h
section
variable {P:Program} {N:Nat} {T:Tm} {H:List ah} {o:Oper}
theorem aa.lC{x y:Operand}{t:TypeId}{kd:IntKind}{sz i len:Nat}{n:Int}(ho:o.op= .indexAddr t x y)(hx:ev T x=some (.row i len))(hy:ev T y=some (.p (.int kd n)))(ht:eE P t=true)(he:nk P t=some sz)(hn:0<=n)(hk:n.toNat<len):aa P N o T H (.ptr i (n.toNat*sz)) H:=
 aa.Dj (k:=n.toNat) ho hx (by rw[hy,V7 hn]) ht he hk
end
section
variable {P:Program} {N κ:Nat} {T:Tm} {H:List ah} {o:Oper}
end
section
variable {P:Program} {N:Nat} {T:Tm} {H:List ah} {o:Oper}
theorem aa.y4{g:Nat}{R0:List PV}{y:Operand}{t:TypeId}{kd:IntKind}{sz len:Nat}{n:Int}(hg:(g,R0)∈o5 P)(ho:o.op= .indexAddr t (.global g) y)(hy:ev T y=some (.p (.int kd n)))(ht:xN P t=some len)(he:nk P t=some sz)
    (h0:0<=n)(hl:n<len):aa P N o T H (.p (.ip R0 (n.toNat*sz))) H:=
 aa.aO (by simp[ho]) fun w I ρ a hi hT=>by
  have hn:=cX hT hy
  obtain⟨k1,k2,_⟩:=hi.gl.1 _ hg
  have zW:aB P w I ρ (.p (.ip R0 0)) (a.eval (.global g)):=⟨g,0,k1,rfl,k2⟩
  obtain⟨ad,hu,hr⟩:=sU (v:= .p (.ip R0 (n.toNat*sz))) (n:=n.toNat*sz) zW (show shift (n.toNat*sz) (.p (.ip R0 0))=some (.p (.ip R0 (n.toNat*sz))) by simp[shift])
  exact EJ
theorem aa.JC{K α:Type}[DecidableEq K]{enc:K->PV}{gp:α->PV}{d:TypeDesc}(hk:dJ enc d){x y:Operand}{t:TypeId}{z:PV}{ms:List (K×α)}{n:K}(a0:α)(ho:o.op= .lookup t x y false)(hx:ev T x=some (.p (lJ enc gp ms)))(hy:ev T y=some (.p (enc n)))
    (ht:oX P t=some (d,z))(hz:z=gp a0):aa P N o T H (.p (gp ((bM n ms).getD a0))) H:=by
 have h:=aa.En (P:=P) (N:=N) (H:=H) hk (gp:=gp) ho hx hy ht
 have e:x5 z false ((bM n ms).map fun a=>V.p (gp a))= .p (gp ((bM n ms).getD a0)):=by
  unfold x5
  cases bM n ms with
  | none=>simp[hz]
  | some a=>rfl
 rw[e] at h
 exact h
end
open Go
theorem vj{w:World}{I:Nat->Prop}(k:IntKind)(b:Nat):∀(ns:List Int) (o:Nat),(∀ i n,ns[i]? =some n->w.cell? ⟨b,o+i,none⟩=some (.int k n))->aX w I (ns.map (PV.int k)) b o
 | [],o,_=>trivial
 | n::ns,o,h=>⟨⟨.int k n,h 0 n rfl,rfl⟩,vj k b ns (o+1) fun i m hm=>by
  have:=h (i+1) m (by simpa using hm)
  rwa [show o+1+i=o+(i+1) by omega]⟩
theorem xE{P:Program}{W:World}{nm:String}{g t e n:Nat}{k:IntKind}{ns:List Int}{d:DataW Unit}{rest:List (String×DataW Unit)}{ps:List MemPlace}(hd:d= .agg (ns.map fun n=> .lit (.int k n)))(hg:P.globalNamed nm=some g)(ht:(P.globals[g]?).map (·.type)=some t)
    (hu:P.underlying t=some (.array n e))(hue:P.underlying e=some (.int k))(hc:P.cellsOf e=1)(hct:P.cellsOf t=n)(hn:ns.length=n)(h0:0<n)(h:DataW.LaidVars P W ((nm,d)::rest) ps):
    (g<W.heap.size∧aX W (fun b=>b<W.heap.size) (ns.map (PV.int k)) g 0∧∃ arr e fr,W.heap[g]? =some (.cells arr e fr)∧arr.size=(ns.map (PV.int k)).length)∧∃ q,DataW.LaidVars P W rest q:=by
 obtain⟨g0,t0,cs0,f0,p0,q0,TY,ht0,Je,hd0,hr,_⟩:=h
 obtain rfl:=ZD (hg.symm.trans TY)
 obtain rfl:=ZD (ht.symm.trans ht0)
 obtain⟨xs,m1,rfl,hx1,hlen,hxn,hel⟩:=DataW.trod_array hu hd0
 simp only[Prod.mk.injEq] at hx1
 have hx2:=hx1.1
 rw[hd] at hx2
 have hx3:(ns.map fun n=>DataW.lit (.int k n))=xs.map (·.1):=by injection hx2
 have key:∀ i m,ns[i]? =some m->W.cell? ⟨g,0+i,none⟩=some (.int k m):=fun i m hm=>by
  have hi:i<n:=by rw[<- hn];exact(Za.1 hm).1
  have h1:=hel i hi
  obtain⟨y,hy⟩:∃ y,xs[i]? =some y:=⟨xs[i]'(by rw[hxn];exact hi),Zc _⟩
  rw[hy,hc,JW] at h1
  obtain⟨r,e1,e2,_⟩:=DataW.trod_int hue h1
  have e3:(xs.map (·.1))[i]? =some y.1:=by rw[Zu,hy];rfl
  rw[<- hx3,Zu,hm] at e3
  simp only[Ri,Wg] at e3
  rw[e2] at e3
  have e4:m=r:=by simpa using e3
  subst e4
  rw[uf,World.var?_cell hg Je i]
  have e5:(cs0.toList.drop i)[0]? =some (.int k m):=by
   have:((cs0.toList.drop i).take 1)[0]? =some (.int k m):=by rw[e1];rfl
   rwa [SW (by omega)] at this
  rw[St,KC] at e5
  simpa using e5
 have hcell:∃ e fr,W.heap[g]? =some (.cells cs0 e fr):=by
  unfold World.var? at Je
  rw[hg] at Je
  simp only[Option.bind_some] at Je
  split at Je
  ·rename_i cs e fr hh
   cases Je
   exact⟨e,fr,hh⟩
  ·cases Je
 obtain⟨e1,fr,hh⟩:=hcell
 refine⟨⟨(ZL.1 hh).1,vj k g ns 0 key,cs0,e1,fr,hh,?_⟩,q0,hr⟩
 rw[Zp,hn,<- hct,<- hlen,Gi]
def kB:List ah->List Nat->List ah->List ah
 | H,k::ks,x::xs=>kB (H.set k x) ks xs
 | H,_,_=>H
theorem cO:∀(ks:List Nat) (xs:List ah) (H:List ah),(kB H ks xs).length=H.length
 | [],xs,H=>by cases xs <;> rfl
 | k::ks,[],H=>rfl
 | k::ks,x::xs,H=>by rw[kB,cO ks xs,ZZ]
theorem ld:∀(ks:List Nat) (xs:List ah) (H:List ah) (i:Nat) (blk:ah),ks.Nodup->xs.length=ks.length->(kB H ks xs)[i]? =some blk->(∃ j:Nat,ks[j]? =some i∧xs[j]? =some blk)∨(i∉ks∧H[i]? =some blk)
 | [],xs,H,i,blk,_,_,h=>by
  have:kB H [] xs=H:=by cases xs <;> rfl
  rw[this] at h
  exact .inr ⟨by simp,h⟩
 | k::ks,[],H,i,blk,_,hl,h=>by simp at hl
 | k::ks,x::xs,H,i,blk,hn,hl,h=>by
  rw[ZC] at hn
  rw[kB] at h
  rcases ld ks xs _ i blk hn.2 (by simpa using hl) h with⟨j,h1,h2⟩ | ⟨h1,h2⟩
  ·exact .inl ⟨j+1,by simpa using h1,by simpa using h2⟩
  ·by_cases e:k=i
   ·subst e
    rw[Zv] at h2
    simp only[if_true] at h2
    split at h2
    ·exact .inl ⟨0,rfl,h2⟩
    ·cases h2
   ·rw[G7 e] at h2
    exact .inr ⟨by simp[h1,Ne.symm e],h2⟩
section
variable {P:Program} {R:Option Nat} {N κ:Nat} {Q:Post} {T:Tm} {H:List ah} {o:Oper}
theorem Inv.some{w:World}{I:Nat->Prop}{ρ:List Nat}(hi:Inv P w I ρ H)(ks:List Nat)(hlt:∀ i∈ks,i<H.length)(hk3:ks.Nodup):
    (∀ j i:Nat,ks[j]? =Option.some i->(ks.map fun i=>ρ.getD i 0)[j]? =ρ[i]?)∧Inv P w I (ks.map fun i=>ρ.getD i 0) (ks.map fun i=>aE (pl ks) (H.getD i .dead)):=by
 have rU:∀ j i:Nat,ks[j]? =Option.some i->(ks.map fun i=>ρ.getD i 0)[j]? =ρ[i]? :=fun j i h=>by
  exact CS
 have hσ:∀ i j b:Nat,pl ks i=Option.some j->ρ[i]? =Option.some b->(ks.map fun i=>ρ.getD i 0)[j]? =Option.some b:=fun i j b h hb=>by rw[rU j i (Aw h)];exact hb
 have eD:∀(j b:Nat) (blk:ah),(ks.map fun i=>ρ.getD i 0)[j]? =Option.some b->(ks.map fun i=>aE (pl ks) (H.getD i .dead))[j]? =Option.some blk->∃ i x,ks[j]? =Option.some i∧ρ[i]? =Option.some b∧H[i]? =Option.some x∧blk=aE (pl ks) x:=by
  exact DI
 refine⟨rU,⟨by simp,fun j b blk h1 h2 h3=> ?_,hi.ib,fun j b blk h1 h2 h3=> ?_,fun i j b x y h1 h2 h3 h4 h5 h6=> ?_,fun j b blk h1 h2=> ?_,hi.gl⟩⟩
 ·exact Ew
 ·exact BS
 ·exact Cr
 ·exact A8
theorem aj.TA(d:Nat)(ks:List Nat){ops:Array Oper}{rest:List Oper}{f:Operand}{xs:Array Operand}{ts:Array TypeId}{fv:V}{vs all:List V}{g:FuncId}{Qr:V->List ah->Prop}(hp:ax P g (bA (pl ks) all) (ks.map fun i=>aE (pl ks) (H.getD i .dead)) Qr)(hlen:∀ v H',Qr v H'->H'.length=ks.length)
    (hks:(ks.all (fun i=>Nat.blt i H.length)&&decide ks.Nodup)=true)(ew:(ks.all fun i=>(H.getD i .dead).live)=true)(ho:o.op= .call {callee:= .value f,args:=xs,argTypes:=ts})(hd:o.dst=some d)(hN:bg N (some d)=true)(hgd:o.guard=none)(hf:ev T f=some fv)
    (hxs:jT T xs.toList=some vs)(hc:callee vs fv=some (g,all))(hg:ak P g=true)(next:∀ v H',Qr v H'->aj P R N κ ops rest Q ((d,bf (fun j=>ks[j]?) v)::T) (kB H ks (H'.map (aE fun j=>ks[j]?)))):aj P R N κ ops (o::rest) Q T H:=by
 intro QX B w I ρ a hi ht hm hq
 refine wpListIn_plain hgd fun K hK=> ?_
 refine⟨bD,?_⟩
 rw[bG _ _ _ (by simp[ho])]
 obtain⟨us,h1,h2⟩:=dP ho ht hf hxs hc hg
 rw[h2]
 refine⟨(fun h=>by cases h),?_⟩
 simp only[Zn,Zx,Zq] at hks ew
 have hlt:∀ i∈ks,i<H.length:=fun i h=>by have:=hks.1 i h;simpa[Nat.blt,Zw] using this
 obtain⟨rU,nA⟩:=hi.some ks hlt hks.2
 have hσ:∀ i j b:Nat,pl ks i=some j->ρ[i]? =some b->(ks.map fun i=>ρ.getD i 0)[j]? =some b:=fun i j b h hb=>by rw[rU j i (Aw h)];exact hb
 refine CallsIn.mono (cz R (hp w I _ us nA (e9 hσ all us h1))) ?_
 rintro e w' ⟨u,v',J,σ,H2,rfl,hQ,h3,h4,h5⟩
 have xG:=hlen _ _ hQ
 obtain rfl:(ks.map fun i=>ρ.getD i 0)=σ:=h3.pre.eq_of_length (by rw[Zp,h4.len,xG])
 have hσ':∀ i j b:Nat,(fun j=>ks[j]?) i=some j->(ks.map fun i=>ρ.getD i 0)[i]? =some b->ρ[j]? =some b:=fun i j b h hb=>by rw[<- rU i j h];exact hb
 have hin:∀ b,b∈(ks.map fun i=>ρ.getD i 0)->∃ j i:Nat,ks[j]? =some i∧ρ[i]? =some b:=fun b hb=>by
  obtain⟨j,hj,e⟩:=Pv hb
  have Hv:j<ks.length:=by simpa using hj
  refine⟨j,ks[j],Zc Hv,?_⟩
  rw[<- rU j ks[j] (Zc Hv),<- e]
  exact Zc hj
 have hmem:∀ b,b∈(ks.map fun i=>ρ.getD i 0)->b∈ρ:=fun b hb=>by
  obtain⟨j,i,_,h⟩:=hin b hb
  exact Zg h
 have U6:∀ j i:Nat,ks[j]? =some i->∃ x,H[i]? =some x∧x.live=true:=fun j i h=>by
  have hi2:=hlt i (Zg h)
  refine⟨H[i],Zc hi2,?_⟩
  have:=ew i (Zg h)
  rwa [Ze,Zc hi2] at this
 -- what an own block that is at none of the places has, stays
 have hout:∀(i b:Nat) (x:ah),ρ[i]? =some b->H[i]? =some x->x.live=true->i∉ks->b∉(ks.map fun i=>ρ.getD i 0):=fun i b x g1 g2 g3 g4 hb=>by
  obtain⟨j,i2,k1,k2⟩:=hin b hb
  obtain⟨y,k3,k4⟩:=U6 j i2 k1
  have:=hi.fT i i2 b x y g1 k2 g2 k3 g3 k4
  subst this
  exact g4 (Zg k1)
 have hE:Ext w I ρ w' J ρ:=⟨⟨h3.w.os,h3.w.tape,h3.w.output,h3.w.size,fun b g1 g2=>h3.w.keep b g1 fun h=>g2 (hmem b h),h3.w.shape,h3.w.lD,h3.w.bh,fun b h=>by
  rcases h3.w.eT b h with h | h | h
  ·exact .inl h
  ·exact .inr (.inl (hmem b h))
  ·exact .inr (.inr h),h3.w.cI,h3.w.ki,fun b h=> .inl h⟩,ZE _⟩
 have eD:∀(i:Nat) (blk:ah),(kB H ks (H2.map (aE fun j=>ks[j]?)))[i]? =some blk->(∃(j:Nat) (x:ah),ks[j]? =some i∧H2[j]? =some x∧blk=aE (fun j=>ks[j]?) x)∨(i∉ks∧H[i]? =some blk):=fun i blk h=>by
  rcases ld ks _ H i blk hks.2 (by rw[Zp,xG]) h with⟨j,g1,g2⟩ | g
  ·rw[Zu,Zi] at g2
   obtain⟨x,g3,rfl⟩:=g2
   exact .inl ⟨j,x,g1,g3,rfl⟩
  ·exact .inr g
 have hI:Inv P w' J ρ (kB H ks (H2.map (aE fun j=>ks[j]?))):=by
  refine⟨by rw[cO,hi.len],fun i b blk g1 g2 g3=> ?_,h4.ib,fun i b blk g1 g2 g3=> ?_,fun i i' b x y g1 g2 g3 g4 g5 g6=> ?_,fun i b blk g1 g2=> ?_,h4.gl⟩
  ·rcases eD i blk g2 with⟨j,x,k1,k2,rfl⟩ | ⟨k1,k2⟩
   ·exact h4.gC j b x (by rw[rU j i k1];exact g1) k2 (by rwa [cg] at g3)
   ·exact wG
  ·rcases eD i blk g2 with⟨j,x,k1,k2,rfl⟩ | ⟨k1,k2⟩
   ·exact h4.live j b x (by rw[rU j i k1];exact g1) k2 (by rwa [cg] at g3)
   ·intro hJ
    rcases h3.w.eT b hJ with h | h | h
    ·exact hi.live i b blk g1 k2 g3 h
    ·exact hout i b blk g1 k2 g3 k1 h
    ·have:=hi.gC i b blk g1 k2 g3;omega
  ·rcases eD i x g3 with⟨j,x',k1,k2,rfl⟩ | ⟨k1,k2⟩ <;> rcases eD i' y g4 with⟨j',y',m1,m2,rfl⟩ | ⟨m1,m2⟩
   ·rw[cg] at g5 g6
    have:=h4.fT j j' b x' y' (by rw[rU j i k1];exact g1) (by rw[rU j' i' m1];exact g2) k2 m2 g5 g6
    subst this
    rw[k1] at m1
    exact ZD m1
   ·exact absurd (Zg (by rw[rU j i k1];exact g1)) (hout i' b y g2 m2 g6 m1)
   ·exact absurd (Zg (by rw[rU j' i' m1];exact g2)) (hout i b x g1 k2 g5 k1)
   ·exact hi.fT i i' b x y g1 g2 k2 m2 g5 g6
  ·rcases eD i blk g2 with⟨j,x,k1,k2,rfl⟩ | ⟨k1,k2⟩
   ·exact jr hσ' (h4.rel j b x (by rw[rU j i k1];exact g1) k2)
   ·cases hlv:blk.live with
    | false=>exact cY.gE hlv
    | true=>exact cY.mono h3.w.lD h3.w.bh (ZE _) (fun b _ s hs=>h3.w.shape b s hs) (h3.w.keep b (hi.gC i b blk g1 k2 hlv) (hout i b blk g1 k2 hlv k1)) (hi.rel i b blk g1 k2)
 refine hK _ _ ?_
 refine next v' H2 hQ QX B w' J ρ (a.put o.dst u) hI (by rw[hd];exact(ht.ext hE).put hN (fk hσ' v' u h5)) ((hm.ext hE).put) fun e a2 w2 q=>hq e a2 w2 (QC.ext hE.w q)
theorem aF.toEnd{c:Code}(h:aF P R N κ c (AX.then (fun T' H'=>∃ T2 H2,To P κ N T' H' T2 H2∧Q .normal T2 H2) Q) T H):aF P R N κ c Q T H:=by
 intro B w I ρ a hi ht hm
 refine wpIn_mono (h B w I ρ a hi ht hm) ?_
 rintro e a' w' ⟨z,J,σ,T1,H1,h1,h2,h3,h4,h5,h6⟩
 cases z <;> cases e <;> first | exact h1.elim | skip
 ·obtain⟨T2,H2,k1,k2⟩:=h2
  obtain⟨I',ρ',g1,g2,g3,g4⟩:=k1 w' J σ a'.tmps h4 h5
  exact⟨.normal,I',ρ',T2,H2,trivial,k2,h3.trans g1,g2,g3,h6.to g1 g4⟩
 all_goals exact⟨_,J,σ,T1,H1,h1,h2,h3,h4,h5,h6⟩
theorem aF.GF{g:Operand}{ps:Array Tmp}{fC body:Code}{fv:V}{f:FuncId}{mk:V->List V}{xs:List (List V)}(κ2:Nat)(hg:ev T g=some fv)(hc:∀ y,callee [y] fv=some (f,mk y))(hf:ak P f=true)(Fl:MY P f mk xs)
    (hκ:κ<=κ2)(hκn:κ2<=H.length)(hR:∀ l0,R=some l0->∃(i:Nat) (r0:vH) (st:LoopState) (pe:Option Code),r0.l=l0∧H[i]? =some (.loop r0 st pe))(hps:∀ x∈xs,x.length=ps.size)(hlt:ps.toList.all (fun p=>Nat.blt p N)=true)
    (J:List ah->Nat->List ah->Prop)(Jx:List ah->Code->List ah->Prop)(hJ:∀ k h,J H k h->h.length=H.length)(NI:∀ c h,Jx H c h->h.length=H.length)(h0:J H 0 H)
    (round:∀ l tmps k h x,J H k h->xs[k]? =some x->Round P N κ2 ⟨l,tmps,T,ps,fC,body⟩ k H.length (J H) (Jx H) (mM T ps.toList x) (h++[.loop ⟨l,tmps,T,ps,fC,body⟩ .ready none]))
    (done:∀ h,J H xs.length h->Q .normal T (h++[.dead]))(stop:∀ c h,Jx H c h->aF P R N κ c Q T (h++[.dead])):aF P R N κ (.rangeFunc g ps fC body) Q T H:=
 aF.rangeFunc κ2 hg hc hf Fl hκ hκn hR hps hlt (J H) (Jx H) hJ NI h0 round done stop
end
def below(n i:Nat):Option Nat:=if Nat.blt i n then some i else none
def VK(P:Program)(h:List ah):Prop:=∀ blk∈h,∀(w:World) (I:Nat->Prop) (ρ:List Nat) (b:Nat),cY P w I ρ blk b->cY P w I (ρ.take h.length) blk b
section
variable {P:Program} {w w2:World} {I I2:Nat->Prop} {ρ ρ2:List Nat}
theorem vX{l:List Nat}{n i b:Nat}(hi:i<n)(h:l[i]? =some b):(l.take n)[i]? =some b:=by rw[SW hi];exact h
end
section
variable {P:Program} {R:Option Nat} {N:Nat} {Q Q':Post} {T T' T2 T3:Tm} {H H' H2 H3:List ah} {o:Oper} {ops:Array Oper} {rest:List Oper}
end
section
variable {P:Program} {R:Option Nat} {N κ:Nat} {Q:Post} {T:Tm} {H H2:List ah} {o:Oper}
end
section
variable {P:Program} {R:Option Nat} {N κ:Nat} {Q:Post} {T:Tm} {H H2:List ah} {o:Oper}
section
variable {K α:Type} {enc:K->PV} {gp:α->PV}
end
end
section
variable {P:Program} {R:Option Nat} {N κ:Nat} {Q Q':Post} {T T' T2 T3:Tm} {H H' H2 H3:List ah} {o:Oper} {ops:Array Oper} {rest:List Oper}
end
theorem N3:∀{T:Tm} {s:Nat} {v:V},lk T s=some v->(s,v)∈T
 | [],s,v,h=>by cases h
 | (a,u)::T,s,v,h=>by
  simp only[lk] at h
  cases hb:Nat.beq a s with
  | true=>
   rw[hb] at h
   cases h
   obtain rfl:=ZM hb
   exact Zt
  | false=>
   rw[hb] at h
   exact Zh _ (N3 h)
def tF(n:Nat):V->Prop
 | .p _=>True
 | .ptr j _=>j<n
 | _=>False
theorem tF.ren{n:Nat}:∀{v:V},tF n v->bf (below n) v=v
 | .p _,_=>rfl
 | .ptr j _,h=>by
  have e:below n j=some j:=by unfold below;rw[if_pos (by simpa[Nat.blt,Zw,tF] using h)]
  simp only[bf,e]
 | .row _ _,h=>h.elim
 | .sl _ _ _,h=>h.elim
 | .map _,h=>h.elim
 | .func _ _ _,h=>h.elim
 | .iface _ _,h=>h.elim
 | .agg _,h=>h.elim
 | .tuple _,h=>h.elim
 | .opt _ _,h=>h.elim
 | .raw _ _ _,h=>h.elim
 | .z0,h=>h.elim
 | .top,h=>h.elim
theorem tF.frz{n:Nat}{xs:List PV}:∀{v:V},tF n v->iG n xs v=v
 | .p _,_=>rfl
 | .ptr j _,h=>by
  have h':j<n:=h
  simp only[iG]
  rw[if_neg (by omega)]
 | .row _ _,h=>h.elim
 | .sl _ _ _,h=>h.elim
 | .map _,h=>h.elim
 | .func _ _ _,h=>h.elim
 | .iface _ _,h=>h.elim
 | .agg _,h=>h.elim
 | .tuple _,h=>h.elim
 | .opt _ _,h=>h.elim
 | .raw _ _ _,h=>h.elim
 | .z0,h=>h.elim
 | .top,h=>h.elim
def nu(n:Nat)(T:Tm):Tm->Prop
 | []=>True
 | (s,v)::r=>lk T s=some v∧tF n v∧nu n T r
theorem nu.mem{n:Nat}{T:Tm}:∀{T2:Tm},nu n T T2->∀ s v,(s,v)∈T2->lk T s=some v∧tF n v
 | [],_,s,v,h=>by cases h
 | (a,u)::r,h,s,v,hm=>by
  obtain⟨h1,h2,h3⟩:=h
  rcases Zr.1 hm with e | hm
  ·cases e;exact⟨h1,h2⟩
  ·exact nu.mem h3 s v hm
section
variable {P:Program} {R:Option Nat} {N κ:Nat} {Q Q':Post} {T T' T2 T3:Tm} {H H' H2 H3:List ah} {o:Oper} {ops:Array Oper} {rest:List Oper}
theorem To.aaS{ext:List ah}(hw:VK P H)(hκ:κ<=H.length)(hT:∀ s v,lk T2 s=some v->lk T s=some v∧tF H.length v):To P κ N T (H++ext) T2 H:=by
 intro w I ρ tmps hi ht
 have hρ:ρ.length=H.length+ext.length:=by rw[hi.len,Zb]
 have t1:∀(i b:Nat),(ρ.take H.length)[i]? =some b->i<H.length∧ρ[i]? =some b:=fun i b e=>by
  exact CI
 have t2:∀(i:Nat) (blk:ah),H[i]? =some blk->(H++ext)[i]? =some blk:=fun i blk e=>by
  rw[Zd (Za.1 e).1]
  exact e
 refine⟨I,ρ.take H.length,?_,?_,⟨ht.size,fun s v hv=> ?_⟩,fun B hB hκ2=> ?_⟩
 ·exact C8
 ·exact Bx
 ·obtain⟨h1,h2⟩:=hT s v hv
  have h3:=ht.at_ s v h1
  have h4:=fk (σ:=below H.length) (ρ2:=ρ.take H.length) (fun i j b g1 g2=>by
   unfold below at g1
   split at g1
   ·rename_i g3
    cases g1
    exact vX (by simpa[Nat.blt,Zw] using g3) g2
   ·cases g1) v _ h3
  rwa [h2.ren] at h4
 ·exact Bh
theorem To.Lv{h:List ah}{xs:List PV}{vs:List V}{e:TypeId}{s:Nat}(hw:VK P h)(hκ:κ<=h.length)(hs:lk T s=some (.ptr h.length 0))(hv:iH vs=some xs)(hT:nu h.length T T2):To P κ N T (h++[.cells vs e]) ((s,.p (.ip xs 0))::T2) h:=by
 have eD:bJ (h++[ah.cells vs e])[h.length]? =some vs:=by simp[bJ]
 have h1:=To.freeze (P:=P) (κ:=κ) (N:=N) (T:=T) (H:=h++[.cells vs e]) h.length eD hv
 rw[jx] at h1
 refine h1.trans (To.aaS hw hκ fun s' v OX=> ?_)
 simp only[lk] at OX
 rw[oH]
 cases hb:Nat.beq s s' with
 | true=>
  rw[hb] at OX
  obtain rfl:=ZM hb
  cases OX
  rw[hs]
  refine⟨?_,trivial⟩
  simp[iG]
 | false=>
  rw[hb] at OX
  obtain⟨h2,h3⟩:=hT.mem s' v (N3 OX)
  rw[h2]
  exact⟨congrArg some h3.frz,h3⟩
theorem yl:∀(vs zs pre:List V),zs.length=vs.length->setAt (pre++zs) pre.length vs=pre++vs
 | [],zs,pre,h=>by
  obtain rfl:zs=[]:=ZB (by simpa using h)
  rfl
 | v::vs,[],pre,h=>by simp at h
 | v::vs,z::zs,pre,h=>by
  have ih:=yl vs zs (pre++[v]) (by simpa using h)
  simp only[setAt]
  have e:(pre++z::zs).set pre.length v=(pre++[v])++zs:=by simp
  rw[e]
  have e2:pre.length+1=(pre++[v]).length:=by simp
  rw[e2,ih]
  simp
def LV(k:Nat):V->V
 | .p x=> .p x
 | .ptr j off=>bif Nat.blt j k then .ptr j off else .top
 | _=> .top
def Ee(k:Nat):Tm->Tm
 | []=>[]
 | (s,v)::r=>(s,LV k v)::Ee k r
theorem Ho(k:Nat):∀(T:Tm) (s:Nat),lk (Ee k T) s=(lk T s).map (LV k)
 | [],s=>rfl
 | (a,v)::r,s=>by
  simp only[Ee,lk]
  cases Nat.beq a s with
  | true=>rfl
  | false=>exact Ho k r s
theorem LR{w w':World}{I I':Nat->Prop}{ρ ρ':List Nat}{k:Nat}(h:cA w I ρ w' I' ρ')(hp:ρ.take k<+:ρ'){v:V}{u:Value}(hv:aB P w I ρ v u):aB P w' I' ρ' (LV k v) u:=by
 cases v <;> first | trivial | skip
 ·exact Rel.mono h.lD h.bh _ u hv
 ·rename_i j off
  simp only[LV]
  cases hb:Nat.blt j k with
  | false=>trivial
  | true=>
   obtain⟨b,h1,h2⟩:=hv
   have hlt:j<k:=by simpa[Nat.blt,Zw] using hb
   obtain⟨t,ht⟩:=hp
   refine⟨b,?_,h2⟩
   have h3:(ρ.take k)[j]? =some b:=by rw[SW hlt];exact h1
   rw[<- ht,Zd (Za.1 h3).1]
   exact h3
theorem bu.Ee{w w':World}{I I':Nat->Prop}{ρ ρ':List Nat}{tmps:Array Value}{k:Nat}(h:cA w I ρ w' I' ρ')(hp:ρ.take k<+:ρ')(t:bu P w I ρ N T tmps):bu P w' I' ρ' N (AF.Ee k T) tmps:=
 ⟨t.size,fun s v hv=>by
  rw[Ho,Zi] at hv
  obtain⟨v0,h1,rfl⟩:=hv
  exact LR h hp (t.at_ s v0 h1)⟩
end
section
variable {P:Program} {R:Option Nat} {N κ:Nat} {Q Q':Post} {T T' T2 T3:Tm} {H H' H2 H3:List ah} {o:Oper} {ops:Array Oper} {rest:List Oper}
theorem aa.RL{x y:Operand}{t t2 e:TypeId}{z:List PV}{i len n:Nat}{cs ys:List V}{yv:V}(ho:o.op= .call {callee:= .builtin .copy,args:= #[x,y],argTypes:= #[t,t2]})(hx:ev T x=some (.row i len))(hy:ev T y=some yv)(hs:nh P t=some (e,z))
    (hH:H[i]? =some (.row cs e))(hsrc:mY H z.length yv=some (ys,n))(hn:n<=len)(hcl:ys.length<=cs.length)(hone:ys.all ig=true):aa P N o T H (.p (.int .i64 (n:Int))) (H.set i (.row (setAt cs 0 ys) e)):=
 aa.dB (by simp[ho]) fun w I ρ a hi hT=>by
  obtain⟨hu,⟨bb,kW⟩,vN,hz⟩:=dQ hs
  obtain⟨b,e',cap,hρ,FQ,hsh,hle⟩:=hT.ev hx
  obtain⟨us,⟨ad,vp,AY⟩,_,hfc,cE,hlen⟩:=kH hi (hT.ev hy) hsrc
  obtain⟨arr,hw,hal,har⟩:=hi.rel i b _ hρ hH
  have hun:∀ u∈us,zJ u=true:=zV cE hone
  have vI:=ag.length cE
  have abf:=ag.length har
  have ew:(ah.row cs e).live=true:=rfl
  have hf:=hfc n (Zf _)
  rw[<- hlen,ZP] at hf
  have hsz:us.length<=arr.size:=by
   have:cs.length<=arr.size:=by
    rw[<- abf,ZU,Gi]
    exact Nat.min_le_right _ _
   omega
  obtain⟨w',dx,r1,r2,r3,r4,r5,r6,r7,r8,r9⟩:=fj (P:=P) (w:=w) us arr w 0 0 hw (by omega) hun
  have hE:Ext w I ρ w' I ρ:=Ext.write hi hρ hH ew r5 r6 r7 r8 r9 (fun s h=>by
   simp only[World.shape?,hw] at h
   simp only[World.shape?,r2,r3]
   exact h)
  have vJ:ag P w' I ρ (setAt cs 0 ys) (dx.toList.take cs.length):=by
   rw[r4]
   exact j4 ys us cs arr.toList (0+0) (ag.ext hE cE) (by omega) (ag.ext hE har)
  refine⟨.int .i64 n,w',I,ρ,.inl ?_,hE,Inv.write hi hρ hH ew hE r8 r9 ?_,by simp[aB,Rel]⟩
  ·have hmin:Nat.min n len=n:=KI hn
   have hlo:(Builtin.lenOf (.slice ad n vp)).run P w= .ok n w:=by simp[Builtin.lenOf]
   rw[AY] at hf
   simp[execOp,ho,resolve,Go.invoke,Go.builtin,Builtin.copy_,run_underlying hu,FQ,aM kW,AY,hlo,hmin,hf,r1,goInt]
  ·refine⟨dx,r2,?_,?_⟩
   ·rw[fS,r3]
    exact hal
   ·rw[fS]
    exact vJ
def Tp:PV->Option Bool
 | .nilSlice=>some true
 | .is _ (_+1)=>some false
 | _=>none
theorem Mc{w:World}{I:Nat->Prop}{ρ:List Nat}{t e:TypeId}{v:PV}{c:Bool}{u:Value}(ht:P.underlying t=some (.slice e))(hq:Tp v=some c)(hv:aB P w I ρ (.p v) u):(Op.equal t u (.slice none 0 0)).run P w= .ok c w:=by
 show(Op.equalIn (9999+1) t u (.slice none 0 0)).run P w= .ok c w
 generalize 9999=d
 unfold Tp at hq
 split at hq
 ·cases hq
  have e1:u= .slice none 0 0:=hv
  subst e1
  simp[Op.equalIn,run_underlying ht]
 ·cases hq
  rcases hv with⟨_,hl⟩ | ⟨b,o',cap,_,_,hu,_⟩
  ·omega
  ·rw[hu]
   simp[Op.equalIn,run_underlying ht]
 ·cases hq
theorem aa.Tj{x y:Operand}{t t' e:TypeId}{v:PV}{z:List PV}{c:Bool}(ho:o.op= .binOp .eql t x y t')(hx:ev T x=some (.p v))(hy:ev T y=some (.p .nilSlice))(hs:nh P t=some (e,z))(hq:Tp v=some c):aa P N o T H (.p (.bool c)) H:=
 aa.aO (by simp[ho]) fun w I ρ ac hi hT=>by
  have ht:=(dQ hs).1
  have e2:ac.eval y= .slice none 0 0:=hT.ev hy
  have hb:(binOp .eql t (ac.eval x) (.slice none 0 0)).run P w= .ok (.bool c) w:=by
   simp only[binOp]
   simp[Mc ht hq (hT.ev hx)]
  refine⟨.bool c,?_,by simp[aB,Rel]⟩
  simp[execOp,ho,e2,eqGuard,hb]
end
section
variable {P:Program} {w:World} {I:Nat->Prop} {ρ:List Nat}
end
end Go.AF
end
