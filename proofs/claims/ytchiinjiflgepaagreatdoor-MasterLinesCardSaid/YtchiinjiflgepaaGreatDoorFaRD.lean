/-
 Calls that read own blocks, as content. No condition; generic over any program.
 Regions that draw their order, in which own blocks are laid and written. No condition; generic over any program.
 New rows of zeros; checks for nil; bits that are taken away. No condition; generic over any program.
 Rows put together. No condition; generic over any program.
 Calls that look at own blocks, whose result is partly forgotten. No condition; generic over any program.
 Interface values and their methods. No condition; generic over any program.
 Elements by a total function of their place; calls that leave one of many states behind. No condition; generic over any program.
 Empty slices inside of values, by what is in them. No condition; generic over any program.
 Cells of own rows at places not known; an own row that is frozen where another own row refers to it. No condition; generic over any program.
 An own slice that grew in a cell of another own block becomes immutable there. No condition; generic over any program.
 A slice that is built of whole elements. No condition; generic over any program.
 An element of an own slice at an integer place. No condition; generic over any program.
 A call whose result is a tuple with a new own slice; own slices that may be empty are copied and written. No condition; generic over any program.
 A cell of a package variable that the program lays. No condition; generic over any program.
 What a row says of a listed package variable, an array of integers, as the walks want it. No condition; generic over any program.
 A call that works on some of the own blocks; all others stay as they are. No condition; generic over any program.
 Functions that yield in a range over another function. No condition; generic over any program.
 Storing one cell at a place of an own block. No condition; generic over any program.
 New slices that become content at once; a map that is frozen where a cell refers to it. No condition; generic over any program.
 Ranges over functions that look at own blocks of their caller. No condition; generic over any program.
 Functions that yield and look at own blocks of their caller: what they lay themselves becomes content; places below k are kept over a yield. No condition; generic over any program.
 Copying into an own row; slices that are nil, or not. No condition; generic over any program.
 A slice that grows, read as content by a call: nil, or a list. No condition; generic over any program.
-/
import Derived.Test.YtchiinjiflgepaaGreatDoorFaRC
import Derived.MakeChecks
import Derived.LaidMore
import Derived.OpenShut
import Derived.FnData
theorem XO{A:Prop}(h:A:=by
 simp only[ct,Zm] at h
 obtain⟨xs,h1,rfl⟩:=h
 obtain⟨us,hu,k1⟩:=hr
 exact⟨us,hu,fR ih cs xs _ h1 k1⟩):A:=h
theorem Rn{A:Prop}(h:A:=by
 exact aG.mono he'.w.mB he'.w.bu h5 (fun b _ s hs=>he'.w.shape b s hs) v _ h4):A:=h
theorem aar{A:Prop}(h:A:=by
 obtain⟨us,hu,h1⟩:=h
 exact⟨us,hu,aW.sc cs _ (by simpa[GN] using hs) h1⟩):A:=h
set_option linter.unnecessarySimpa false
set_option linter.unusedSectionVars false
set_option linter.unusedSimpArgs false
set_option linter.unusedVariables false
section
namespace Go.AF
def c9(f:V->Option PV):List V->Option (List PV)
 | []=>some []
 | v::vs=>match f v,c9 f vs with
   | some x,some xs=>some (x::xs)
   | _,_=>none
def ct(H:List ak):Nat->V->Option PV
 | _,.p x=>some x
 | 0,_=>none
 | n+1,.ptr i off=>match b6 H[i]? with
   | some cs=>(c9 (ct H n) cs).map (PV.ip · off)
   | none=>none
 | n+1,.row i len=>match b6 H[i]? with
   | some cs=>(c9 (ct H n) cs).map (PV.is · len)
   | none=>none
 | n+1,.sl i off len=>match b6 H[i]? with
   | some cs=>(c9 (ct H n) cs).map fun xs=>PV.is (xs.drop off) len
   | none=>none
 | n+1,.map i=>match H[i]? with
   | some (.map ks vs)=>match c9 (ct H n) ks,c9 (ct H n) vs with
     | some xs,some ys=>some (.im xs ys)
     | _,_=>none
   | _=>none
 | n+1,.func fn fi ca=>match c9 (ct H n) fi,c9 (ct H n) ca with
   | some xs,some ys=>some (.func fn xs ys)
   | _,_=>none
 | n+1,.iface t v=>(ct H n v).map (PV.iface t)
 | n+1,.agg cs=>(c9 (ct H n) cs).map PV.agg
 | n+1,.tuple cs=>(c9 (ct H n) cs).map PV.tuple
 | _+1,.opt _ _=>none
 | _+1,.raw _ _ _=>none
 | _+1,.z0=>some (.is [] 0)
 | _+1,.top=>none
theorem vR(H:List ak)(n:Nat):∀ xs:List PV,c9 (ct H n) (xs.map .p)=some xs
 | []=>rfl
 | x::xs=>by
  have e:ct H n (.p x)=some x:=by cases n <;> rfl
  simp only[ZE,c9,e,vR H n xs]
section
variable {P:Program} {R:Option Nat} {N κ:Nat} {Q Q':Post} {T T' T2 T3:Tm} {H H' H2 H3:List ak} {o:Oper} {ops:Array Oper} {rest:List Oper}
theorem fR{w:World}{I:Nat->Prop}{ρ:List Nat}{f:V->Option PV}(hf:∀ v x u,f v=some x->aG P w I ρ v u->Rel w (fun b=>b<w.heap.size) x u):∀(vs:List V) (xs:List PV) (us:List Value),c9 f vs=some xs->aj P w I ρ vs us->aW w (fun b=>b<w.heap.size) xs us
 | [],xs,us,h,hr=>by simp[c9] at h;subst h;exact hr
 | v::vs,xs,us,h,hr=>by
  obtain⟨u,us',rfl,h1,h2⟩:=hr
  simp only[c9] at h
  split at h
  ·rename_i x ys e1 e2
   simp at h
   subst h
   exact⟨u,us',rfl,hf v x u e1 h1,fR hf vs ys us' e2 h2⟩
  ·cases h
theorem uo{w:World}{b:Nat}{ob:Obj}(h:w.heap[b]? =some ob):b<w.heap.size:=by
 rcases ZS b w.heap.size with h1 | h1
 ·exact h1
 ·rw[Array.getElem?_eq_none h1] at h;cases h
theorem vV{w:World}{I:Nat->Prop}{ρ:List Nat}{i:Nat}{cs:List V}{xs:List PV}{f:V->Option PV}(hi:Inv P w I ρ H)(hf:∀ v x u,f v=some x->aG P w I ρ v u->Rel w (fun b=>b<w.heap.size) x u)
    (hc:b6 H[i]? =some cs)(hx:c9 f cs=some xs):∃ b,ρ[i]? =some b∧b<w.heap.size∧aY w (fun b=>b<w.heap.size) xs b 0:=by
 obtain⟨b,arr,e,hρ,hw,hl,hr⟩:=iH hi hc
 refine⟨b,hρ,uo hw,?_⟩
 refine aY.mK xs (arr.toList.take cs.length) 0 (fR hf cs xs _ hx hr) fun j v hj=> ?_
 rw[ZU] at hj
 split at hj
 ·exact Lj
 ·cases hj
theorem oh{w:World}{I:Nat->Prop}{ρ:List Nat}(hi:Inv P w I ρ H):∀(n:Nat) (v:V) (x:PV) (u:Value),ct H n v=some x->aG P w I ρ v u->Rel w (fun b=>b<w.heap.size) x u:=by
 have Tg:∀(x:PV) (u:Value),aG P w I ρ (.p x) u->Rel w (fun b=>b<w.heap.size) x u:=fun x u h=>Rel.mono (fun b hb=>hi.ib b hb) (fun _ _=>rfl) x u h
 intro n
 induction n with
 | zero=>
  intro v x u h hr
  cases v <;> simp[ct] at h
  subst h
  exact Tg _ _ hr
 | succ n ih=>
  intro v x u h hr
  cases v with
  | p y=>simp[ct] at h;subst h;exact Tg _ _ hr
  | ptr i off=>
   simp only[ct] at h
   split at h
   ·rename_i cs hc
    simp only[Zm] at h
    obtain⟨xs,h1,rfl⟩:=h
    obtain⟨b,hρ,hb,fD⟩:=vV hi ih hc h1
    obtain⟨b',qf,hu⟩:=hr
    rw[hρ] at qf
    cases qf
    exact⟨b,0,hb,by simpa using hu,fD⟩
   ·cases h
  | row i len=>
   simp only[ct] at h
   split at h
   ·rename_i cs hc
    simp only[Zm] at h
    obtain⟨xs,h1,rfl⟩:=h
    obtain⟨b,hρ,hb,fD⟩:=vV hi ih hc h1
    obtain⟨b',e,cap,qf,hu,_,hl⟩:=hr
    rw[hρ] at qf
    cases qf
    exact .inr ⟨b,0,cap,fun _=>hb,hl,hu,fD⟩
   ·cases h
  | sl i off len=>
   simp only[ct] at h
   split at h
   ·rename_i cs hc
    simp only[Zm] at h
    obtain⟨xs,h1,rfl⟩:=h
    obtain⟨b,hρ,hb,fD⟩:=vV hi ih hc h1
    obtain⟨b',cap,qf,hu,hl⟩:=hr
    rw[hρ] at qf
    cases qf
    refine .inr ⟨b,off,cap,fun _=>hb,hl,hu,?_⟩
    have:=fD.drop off
    simpa using this
   ·cases h
  | map i=>
   simp only[ct] at h
   split at h
   ·rename_i ks vs hH
    split at h
    ·rename_i xs ys h1 h2
     simp at h
     subst h
     obtain⟨b,hρ,hu⟩:=hr
     obtain⟨es,clock,k1,k2,k3,k4⟩:=hi.rel i b _ hρ hH
     exact⟨b,es,clock,uo k1,hu,k1,fR ih ks xs _ h1 k2,fR ih vs ys _ h2 k3,k4⟩
    ·cases h
   ·cases h
  | func fn fi ca=>
   simp only[ct] at h
   split at h
   ·rename_i xs ys h1 h2
    simp at h
    subst h
    obtain⟨us,vs,hu,k1,k2⟩:=hr
    exact⟨us,vs,hu,fR ih fi xs _ h1 k1,fR ih ca ys _ h2 k2⟩
   ·cases h
  | iface t v=>
   simp only[ct,Zm] at h
   obtain⟨y,h1,rfl⟩:=h
   obtain⟨z,hu,k1⟩:=hr
   exact⟨z,hu,ih v y z h1 k1⟩
  | agg cs=>
   exact XO
  | tuple cs=>
   exact XO
  | opt g v=>simp[ct] at h
  | raw a n c=>simp[ct] at h
  | z0=>
   exact WO
  | top=>simp[ct] at h
mutual
def GN:PV->Bool
 | .bool _ | .int _ _ | .str _ | .nilPtr | .nilSlice | .nilMap | .nilFunc | .nilIface=>true
 | .agg cs=>Ou cs
 | .tuple cs=>Ou cs
 | .iface _ v=>GN v
 | .ip _ _ | .is _ _ | .im _ _ | .func _ _ _=>false
def Ou:List PV->Bool
 | []=>true
 | x::xs=>GN x&&Ou xs
end
mutual
theorem Rel.sc{w w':World}{I I':Nat->Prop}:∀(x:PV) (u:Value),GN x=true->Rel w I x u->Rel w' I' x u
 | .bool _,_,_,h=>h
 | .int _ _,_,_,h=>h
 | .str _,_,_,h=>h
 | .nilPtr,_,_,h=>h
 | .nilSlice,_,_,h=>h
 | .nilMap,_,_,h=>h
 | .nilFunc,_,_,h=>h
 | .nilIface,_,_,h=>h
 | .agg cs,u,hs,h=>by
  exact aar
 | .tuple cs,u,hs,h=>by
  exact aar
 | .iface t v,u,hs,h=>by
  obtain⟨z,hu,h1⟩:=h
  exact⟨z,hu,Rel.sc v z (by simpa[GN] using hs) h1⟩
 | .ip _ _,_,hs,_=>by simp[GN] at hs
 | .is _ _,_,hs,_=>by simp[GN] at hs
 | .im _ _,_,hs,_=>by simp[GN] at hs
 | .func _ _ _,_,hs,_=>by simp[GN] at hs
theorem aW.sc{w w':World}{I I':Nat->Prop}:∀(xs:List PV) (us:List Value),Ou xs=true->aW w I xs us->aW w' I' xs us
 | [],us,_,h=>h
 | x::xs,us,hs,h=>by
  simp only[Ou,Zo] at hs
  obtain⟨u,us',hu,h1,h2⟩:=h
  exact⟨u,us',hu,Rel.sc x u hs.1 h1,aW.sc xs us' hs.2 h2⟩
end
theorem qy{w w':World}{I J:Nat->Prop}{ρ:List Nat}(hi:Inv P w I ρ H){σ:List Nat}(h3:Ext w (fun b=>b<w.heap.size) [] w' J σ):Ext w I [] w' I []:=
 ⟨⟨h3.w.os,h3.w.tape,h3.w.output,h3.w.size,h3.w.keep,h3.w.shape,fun _ h=>h,fun b h=>h3.w.keep b (hi.ib b h) (by simp),fun _ h=> .inl h,h3.w.cL,fun _ _ h=>h,fun b h=>by cases h⟩,ZG _⟩
theorem aa.yH(n:Nat){g:FuncId}{args:List PV}{r:PV}(hp:Pure P g args r)(hr:GN r=true){f:Operand}{xs:Array Operand}{ts:Array TypeId}{fv:V}{vs all:List V}(ho:o.op= .call {callee:= .value f,args:=xs,argTypes:=ts})(hf:ev T f=some fv)
    (hxs:lG T xs.toList=some vs)(hc:callee vs fv=some (g,all))(hb:c9 (ct H n) all=some args)(hg:an P g=true):aa P N o T H (.p r) H:=by
 intro R w I ρ a hi hT K QX hK
 refine⟨bQ,?_⟩
 rw[bT _ _ _ (by simp[ho])]
 obtain⟨us,h1,h2⟩:=ep ho hT hf hxs hc hg
 rw[h2]
 have h1':aj P w (fun b=>b<w.heap.size) [] (args.map .p) us:=aj.pure.2 (fR (oh hi n) all args us hb h1)
 have hi2:Inv P w (fun b=>b<w.heap.size) [] []:=⟨rfl,(fun _ _ _ h=>by simp at h),fun _ h=>h,(fun _ _ _ h=>by simp at h),(fun _ _ _ _ _ h=>by simp at h),(fun _ _ _ h=>by simp at h),hi.gl.mono hi.ib (fun _ _=>rfl)⟩
 refine⟨(fun h=>by cases h),?_⟩
 refine CallsIn.mono (cK R (hp w _ [] us hi2 h1')) ?_
 rintro e w' ⟨u,v,J,σ,H',rfl,⟨rfl,rfl⟩,h3,h4,h5⟩
 have he:=qy hi h3
 have Aw:Inv P w' I [] []:=⟨rfl,(fun _ _ _ h=>by simp at h),fun b h=>ZQ (hi.ib b h) h3.w.size,(fun _ _ _ h=>by simp at h),(fun _ _ _ _ _ h=>by simp at h),(fun _ _ _ h=>by simp at h),hi.gl.mono (fun _ h=>h) he.w.bu⟩
 obtain⟨h6,h7⟩:=Inv.frame hi he Aw
 exact hK u w' I ρ h6 h7 (Rel.sc r u hr h5)
theorem aa.OV(n:Nat){g:FuncId}{args cs:List PV}{len:Nat}{e:TypeId}(hp:aE P g (args.map .p) [] fun v H'=>v= .row 0 len∧H'=[.row (cs.map .p) e])(hr:Ou cs=true){f:Operand}{xs:Array Operand}{ts:Array TypeId}{fv:V}{vs all:List V}(ho:o.op= .call {callee:= .value f,args:=xs,argTypes:=ts})(hf:ev T f=some fv)
    (hxs:lG T xs.toList=some vs)(hc:callee vs fv=some (g,all))(hb:c9 (ct H n) all=some args)(hg:an P g=true):aa P N o T H (.row H.length len) (H++[.row (cs.map .p) e]):=by
 intro R w I ρ a hi hT K QX hK
 refine⟨bQ,?_⟩
 rw[bT _ _ _ (by simp[ho])]
 obtain⟨us,h1,h2⟩:=ep ho hT hf hxs hc hg
 rw[h2]
 have h1':aj P w (fun b=>b<w.heap.size) [] (args.map .p) us:=aj.pure.2 (fR (oh hi n) all args us hb h1)
 have hi2:Inv P w (fun b=>b<w.heap.size) [] []:=⟨rfl,(fun _ _ _ h=>by simp at h),fun _ h=>h,(fun _ _ _ h=>by simp at h),(fun _ _ _ _ _ h=>by simp at h),(fun _ _ _ h=>by simp at h),hi.gl.mono hi.ib (fun _ _=>rfl)⟩
 refine⟨(fun h=>by cases h),?_⟩
 refine CallsIn.mono (cK R (hp w _ [] us hi2 h1')) ?_
 rintro e' w' ⟨u,v,J,σ,H',rfl,⟨rfl,rfl⟩,h3,h4,h5⟩
 obtain⟨b,e2,cap,hσ,hu,hsh,hl⟩:=h5
 have hσ1:σ=[b]:=by
  have:=h4.len
  match σ,this,hσ with
  | [x],_,h=>simp at h;rw[h]
 subst hσ1
 -- the new block is new
 have hnew:w.heap.size<=b:=by
  rcases h3.w.new b (by simp) with h | h
  ·cases h
  ·exact h
 have he:=qy hi h3
 have Aw:Inv P w' I [] []:=⟨rfl,(fun _ _ _ h=>by simp at h),fun b h=>ZQ (hi.ib b h) h3.w.size,(fun _ _ _ h=>by simp at h),(fun _ _ _ _ _ h=>by simp at h),(fun _ _ _ h=>by simp at h),hi.gl.mono (fun _ h=>h) he.w.bu⟩
 obtain⟨h6,h7⟩:=Inv.frame hi he Aw
 have iY:b<w'.heap.size:=h4.iq 0 b _ rfl rfl rfl
 have hE:Ext w I ρ w' I (ρ++[b]):=⟨⟨h6.w.os,h6.w.tape,h6.w.output,h6.w.size,h6.w.keep,h6.w.shape,h6.w.mB,h6.w.bu,h6.w.fk,h6.w.cL,h6.w.kX,fun x hx=>by
  rcases Zs.1 hx with h | h
  ·exact .inl h
  ·simp at h;subst h;exact .inr hnew⟩,⟨_,rfl⟩⟩
 have rb:dz P w' I (ρ++[b]) (.row (cs.map .p) e) b:=by
  obtain⟨arr,k1,k2,k3⟩:=h4.rel 0 b _ rfl rfl
  exact⟨arr,k1,k2,aj.pure.2 (aW.sc cs _ hr (aj.pure.1 k3))⟩
 have old:∀(j k:Nat) (blk:ak),(ρ++[b])[j]? =some k->(H++[ak.row (cs.map .p) e])[j]? =some blk->(j<H.length∧ρ[j]? =some k∧H[j]? =some blk)∨(j=H.length∧k=b∧blk= .row (cs.map .p) e):=fun j k blk h1 h2=>by
  rcases bO h2 with⟨g1,g2⟩ | ⟨g1,g2⟩
  ·rw[Zd (by rw[hi.len];exact g1)] at h1
   exact .inl ⟨g1,h1,g2⟩
  ·rw[Zj (by rw[hi.len];omega)] at h1
   rw[hi.len,g1] at h1
   simp at h1
   exact .inr ⟨g1,h1.symm,g2⟩
 have Uy:Inv P w' I (ρ++[b]) (H++[.row (cs.map .p) e]):=by
  refine⟨by simp[hi.len],fun j k blk g1 g2 g3=> ?_,h7.ib,fun j k blk g1 g2 g3=> ?_,fun j j' k x y g1 g2 g3 g4 g5 g6=> ?_,fun j k blk g1 g2=> ?_,h7.gl⟩
  ·rcases old j k blk g1 g2 with⟨_,a1,a2⟩ | ⟨_,rfl,_⟩
   ·exact h7.iq j k blk a1 a2 g3
   ·exact iY
  ·rcases old j k blk g1 g2 with⟨_,a1,a2⟩ | ⟨_,rfl,_⟩
   ·exact h7.live j k blk a1 a2 g3
   ·intro h;have:=hi.ib _ h;omega
  ·rcases old j k x g1 g3 with⟨_,a1,a2⟩ | ⟨a0,rfl,_⟩ <;> rcases old j' k y g2 g4 with⟨_,b1,b2⟩ | ⟨b0,b1,_⟩
   ·exact h7.gJ j j' k x y a1 b1 a2 b2 g5 g6
   ·subst b1;have:=hi.iq j _ x a1 a2 g5;omega
   ·have:=hi.iq j' _ y b1 b2 g6;omega
   ·omega
  ·rcases old j k blk g1 g2 with⟨_,a1,a2⟩ | ⟨_,rfl,rfl⟩
   ·cases hlv:blk.live with
    | false=>exact dz.ie hlv
    | true=>exact dz.mono h6.w.mB h6.w.bu (Xi ρ [b]) (fun b _ s hs=>h6.w.shape b s hs) (he.w.keep k (hi.iq j k blk a1 a2 hlv) (by simp)) (hi.rel j k blk a1 a2)
   ·exact rb
 exact hK u w' I (ρ++[b]) hE Uy ⟨b,e2,cap,by rw[Zj (by rw[hi.len];exact Zg _)];simp[hi.len],hu,hsh,hl⟩
end
section
variable {P:Program} {R:Option Nat} {N κ:Nat} {Q:Post} {T:Tm} {H:List ak}
theorem iE{b:Frame}{a:Act}{k:List Item}{cs:List Frame}{w:World}{c:Code}:step P (lone (b.atR a (.code (.scope c)::k)) cs w)= .next (lone (b.atR a (.code c:: .inScope c::k)) cs w):=
 step_lone_go (by simp[stepG,stepG.exec,Frame.atR])
theorem xu{b:Frame}{a:Act}{k:List Item}{cs:List Frame}{w:World}{c:Code}:step P (lone (b.atR a (.inScope c::k)) cs w)= .next (lone (b.atR a k) cs w):=
 step_lone_go (by simp[stepG,stepG.exec,Frame.atR])
theorem aC.label{l:Nat}(h:Q .normal T H):aC P R N κ (.label l) Q T H:=
 fun B w I ρ a hi ht hm=>wpIn_label ⟨.normal,I,ρ,T,H,trivial,h,cR.refl _ _ _,hi,ht,hm⟩
theorem aC.scope{c:Code}(h:aC P R N κ c Q T H):aC P R N κ (.scope c) Q T H:=by
 intro B w I ρ a hi ht hm b k cs hro hb hr
 have h0:(lone (b.atR a (.code (.scope c)::k)) cs w).fenced P (Fr R):=fenced_calm hb hr rfl
 obtain⟨e,a₁,w₁,hq,xE⟩:=h B w I ρ a hi ht hm b (.inScope c::k) cs hro hb hr
 cases e with
 | normal=>exact⟨.normal,a₁,w₁,hq,.head h0 iE (StepsIn.trans xE (.one (fenced_calm hb hr rfl) xu))⟩
 | exit id=>exact⟨.exit id,a₁,w₁,hq,fun k' hk=> .head h0 iE (xE.1 k' (by simp[exitTo,hk])),fun hr' hk=>let ⟨k₁,h1,h2⟩:=xE.2 hr' (by simp[exitTo,hk]);⟨k₁,h1,.head h0 iE h2⟩⟩
 | goto l=>
  obtain⟨x,_,_,_,_,h1,_⟩:=hq
  cases x <;> exact h1.elim
 | ret=>exact⟨_,a₁,w₁,hq,.of_steps (.one h0 iE) xE⟩
 | panic ch=>exact⟨_,a₁,w₁,hq,.of_steps (.one h0 iE) xE⟩
 | outgrown=>exact⟨_,a₁,w₁,hq,.of_steps (.one h0 iE) xE⟩
end
def sg(n0:Nat)(ms:List Nat)(i:Nat):Option Nat:=bif Nat.blt i n0||ms.elem i then some i else none
def sw(k n:Nat)(i:Nat):Option Nat:=bif Nat.beq i n then some k else bif Nat.beq i k then none else some i
def mask(g:Nat->ak)(S:List Nat):Nat->List ak->List ak
 | _,[]=>[]
 | i,x::H=>(bif S.elem i then g i else x)::mask g S (i+1) H
def mC(S us:List Nat):List Nat:=S.filter fun i=> !us.elem i
def wJ(us L:List Nat):List Nat:=us.filter fun i=>L.elem i
def eD:Nat->List ak
 | 0=>[]
 | r+1=> .dead::eD r
def app:List (Nat×ak)->List ak->List ak
 | [],H=>H
 | (k,b)::w,H=>app w (H.set k b)
theorem rM(g:Nat->ak)(S:List Nat):∀(H:List ak) (i k:Nat),(mask g S i H)[k]? =if S.elem (i+k) then(H[k]?).map (fun _=>g (i+k)) else H[k]?
 | [],i,k=>by simp[mask]
 | x::H,i,0=>by
  simp only[mask,List.getElem?_cons_zero,Il,QA]
  cases S.elem i <;> rfl
 | x::H,i,k+1=>by
  simp only[mask,List.getElem?_cons_succ]
  rw[rM g S H (i+1) k,show i+1+k=i+(k+1) by omega]
theorem Ch(g:Nat->ak)(S:List Nat):∀(H:List ak) (i:Nat),(mask g S i H).length=H.length
 | [],i=>rfl
 | x::H,i=>by simp[mask,Ch g S H (i+1)]
theorem zK:∀(w:List (Nat×ak)) (H:List ak),(app w H).length=H.length
 | [],H=>rfl
 | (k,b)::w,H=>by simp[app,zK w]
theorem Dr{k:Nat}:∀{w:List (Nat×ak)} {H:List ak},(∀ b,(k,b)∉w)->(app w H)[k]? =H[k]?
 | [],H,h=>rfl
 | (j,b)::w,H,h=>by
  have:j≠k:=fun e=>h b (by rw[e];simp)
  simp only[app]
  rw[Dr (fun c hc=>h c (by simp[hc])),Zu,if_neg this]
theorem yg{k:Nat}:∀{w:List (Nat×ak)} {H H':List ak},H.length=H'.length->H[k]? =H'[k]? ->(app w H)[k]? =(app w H')[k]?
 | [],H,H',hl,h=>h
 | (j,b)::w,H,H',hl,h=>by
  simp only[app]
  exact yg (by simp[hl]) (by simp only[Zu,hl,h])
theorem FW{j:Nat}{b:ak}:∀{w:List (Nat×ak)} {H:List ak},(∀ c,(j,c)∉w)->app w (H.set j b)=(app w H).set j b
 | [],H,h=>rfl
 | (k,c)::w,H,h=>by
  have hne:j≠k:=fun e=>h c (by rw[e];simp)
  simp only[app]
  rw[<- FW (fun d hd=>h d (by simp[hd])),List.set_comm _ _ hne]
theorem AV:∀{w1 w2:List (Nat×ak)} {H:List ak},(∀ k b1 b2,(k,b1)∈w1->(k,b2)∉w2)->app w1 (app w2 H)=app w2 (app w1 H)
 | [],w2,H,h=>rfl
 | (j,b)::w1,w2,H,h=>by
  simp only[app]
  rw[<- FW (fun c hc=>h j b c (by simp) hc)]
  exact AV fun k b1 b2 h1 h2=>h k b1 b2 (by simp[h1]) h2
theorem Ec:∀(w1 w2:List (Nat×ak)) (H:List ak),app (w1++w2) H=app w2 (app w1 H)
 | [],w2,H=>rfl
 | (j,b)::w1,w2,H=>by simp only[NS,app];exact Ec w1 w2 _
theorem zP:∀{w:List (Nat×ak)} {H:List ak} {x:ak},x∈app w H->x∈H∨∃ k,(k,x)∈w
 | [],H,x,h=> .inl h
 | (j,b)::w,H,x,h=>by
  rcases zP (w:=w) h with h1 | ⟨k,h1⟩
  ·rcases List.mem_or_eq_of_mem_set h1 with h2 | rfl
   ·exact .inl h2
   ·exact .inr ⟨j,by simp⟩
  ·exact .inr ⟨k,by simp[h1]⟩
def HH(gW:Nat->List (Nat×ak))(f:Nat->Bool)(H0:List ak):Nat->List ak
 | 0=>H0
 | j+1=>bif f j then app (gW j) (HH gW f H0 j) else HH gW f H0 j
section
variable {gW:Nat->List (Nat×ak)} {f g:Nat->Bool} {H0:List ak}
theorem vo:∀ m,(HH gW f H0 m).length=H0.length
 | 0=>rfl
 | m+1=>by
  simp only[HH]
  cases f m
  ·exact vo m
  ·exact(zK _ _).trans (vo m)
theorem MA{k i m:Nat}(h1:∀ j,j<m->j<i->(∃ b,(k,b)∈gW j)->f j=true)(h2:∀ j,j<m->i<=j->(∃ b,(k,b)∈gW j)->f j=false):
    ∀ n,n<=m->(HH gW f H0 n)[k]? =(HH gW (fun _=>true) H0 (min n i))[k]?
 | 0,_=>by simp[HH]
 | n+1,hn=>by
  have ih:=MA (i:=i) h1 h2 n (by omega)
  by_cases hw:∃ b,(k,b)∈gW n
  ·by_cases hi:n<i
   ·rw[show min (n+1) i=n+1 by omega]
    rw[show min n i=n by omega] at ih
    simp only[HH,h1 n (by omega) hi hw,cond_true]
    exact yg (by rw[vo,vo]) ih
   ·rw[show min (n+1) i=min n i by omega]
    simp only[HH,h2 n (by omega) (by omega) hw,cond_false]
    exact ih
  ·have hne:∀ b,(k,b)∉gW n:=fun b e=>hw ⟨b,e⟩
   have e1:(HH gW f H0 (n+1))[k]? =(HH gW f H0 n)[k]? :=by
    simp only[HH]
    cases f n
    ·rfl
    ·exact Dr hne
   rw[e1,ih]
   by_cases hi:n<i
   ·rw[show min (n+1) i=n+1 by omega,show min n i=n by omega]
    simp only[HH,cond_true]
    exact(Dr hne).symm
   ·rw[show min (n+1) i=min n i by omega]
theorem FO{m:Nat}(h:∀ j,j<m->f j=g j):∀ n,n<=m->HH gW f H0 n=HH gW g H0 n
 | 0,_=>rfl
 | n+1,hn=>by
  simp only[HH,h n (by omega),FO h n (by omega)]
theorem K0{i m:Nat}(hi:i<m)(hf:f i=false)(hg:∀ j,g j=(decide (j=i)||f j))(hc:∀ j,i<j->j<m->f j=true->∀ k b1 b2,(k,b1)∈gW j->(k,b2)∉gW i):
    ∀ n,n<=m->HH gW g H0 n=if i<n then app (gW i) (HH gW f H0 n) else HH gW f H0 n
 | 0,_=>by simp[HH]
 | n+1,hn=>by
  have ih:=K0 hi hf hg hc n (by omega)
  by_cases h:n=i
  ·subst h
   rw[if_neg (by omega)] at ih
   rw[if_pos (by omega)]
   simp only[HH,hg n,hf,decide_true,Bool.true_or,cond_true,cond_false,ih]
  ·by_cases hlt:i<n
   ·rw[if_pos hlt] at ih
    rw[if_pos (by omega)]
    have e:g n=f n:=by rw[hg];simp[h]
    simp only[HH,e,ih]
    cases hfn:f n with
    | false=>rfl
    | true=>
     simp only[cond_true]
     exact AV (hc n hlt (by omega) hfn)
   ·rw[if_neg hlt] at ih
    rw[if_neg (by omega)]
    have e:g n=f n:=by rw[hg];simp[h]
    simp only[HH,e,ih]
end
def StG(P:Program)(N:Nat)(ops:Array Oper)(S:List Nat)(n0:Nat)(o:Oper)(us:List Nat)(wr:Bool)(L L':List Nat)(T:Tm)(H:List ak)(v:V)(w:List (Nat×ak)):Prop:=
 (wr=false∧w=[]∧L'=L∧aZ (sg n0 (wJ us L)) v=v∧∀ g,YJ P N ops o T (mask g (mC S us) 0 H) v)∨
 (wr=true∧o.guard=none∧L'=L∧aZ (sg n0 (wJ us L)) v=v∧∃ k blk,w=[(k,blk)]∧k∈us∧k∈S∧aM (sg n0 (wJ us L)) blk=blk∧∀ g,aa P N o (cu ops o T) (mask g (mC S us) 0 H) v (mask g (mC S us) 0 (H.set k blk)))∨
 (wr=true∧o.guard=none∧∃ k blk v0 w1,w=w1++[(k,blk)]∧(∀ p∈w1,p.1∈us∧p.1∈S∧aM (sg n0 []) p.2=p.2)∧L'=k::L∧k∈us∧k∈S∧n0<=k∧k∉L∧aM (sg n0 []) blk=blk∧v=aZ (sw k H.length) v0∧aZ (sg n0 [k]) v=v∧k<H.length∧
  ∀ g,aa P N o (cu ops o T) (mask g (mC S us) 0 H) v0 (mask g (mC S us) 0 (app w1 H)++[blk]))
def aX(P:Program)(N:Nat)(ops:Array Oper)(S:List Nat)(n0:Nat)(K:Tm->List ak->Prop):List Nat->List (List Nat×Bool)->List Oper->Tm->List ak->Prop
 | _,_,[],T,H=>K T H
 | L,D,o::rest,T,H=>∃ v w L',bC N o.dst=true∧StG P N ops S n0 o (D.headD ([],false)).1 (D.headD ([],false)).2 L L' T H v w∧aX P N ops S n0 K L' (D.drop 1) rest (gN T o.dst v) (app w H)
section
variable {P:Program} {R:Option Nat} {N κ:Nat} {Q:Post} {T:Tm} {H:List ak} {o:Oper} {ops:Array Oper} {K:Tm->List ak->Prop} {rest:List Oper} {S L us:List Nat} {n0:Nat} {D:List (List Nat×Bool)}
theorem aX.nil(h:K T H):aX P N ops S n0 K L D [] T H:=h
theorem aX.cons(d:Nat){v:V}(hd:o.dst=some d)(xe:bC N (some d)=true)(hg:o.guard=none)(hop:∀ g,aa P N o (cu ops o T) (mask g (mC S us) 0 H) v (mask g (mC S us) 0 H))(hv:aZ (sg n0 (wJ us L)) v=v)
    (next:aX P N ops S n0 K L D rest ((d,v)::T) H):aX P N ops S n0 K L ((us,false)::D) (o::rest) T H:=
 ⟨v,[],L,by rw[hd];exact xe,.inl ⟨rfl,rfl,rfl,hv,fun g=> .inl ⟨hg,hop g⟩⟩,by rw[hd];exact next⟩
theorem aX.put(k:Nat){blk:ak}{v:V}(hd:o.dst=none)(hg:o.guard=none)(hk:us.elem k=true)(hS:S.elem k=true)(hop:∀ g,aa P N o (cu ops o T) (mask g (mC S us) 0 H) v (mask g (mC S us) 0 (H.set k blk)))(hv:aZ (sg n0 (wJ us L)) v=v)(hb:aM (sg n0 (wJ us L)) blk=blk)
    (next:aX P N ops S n0 K L D rest T (H.set k blk)):aX P N ops S n0 K L ((us,true)::D) (o::rest) T H:=
 ⟨v,[(k,blk)],L,by rw[hd];rfl,.inr (.inl ⟨rfl,hg,rfl,hv,k,blk,rfl,by simpa using hk,by simpa using hS,hb,hop⟩),by rw[hd];exact next⟩
theorem aX.lay(d k:Nat){blk:ak}{v v0:V}(hd:o.dst=some d)(xe:bC N (some d)=true)(hg:o.guard=none)(hS:S.elem k=true)(hk:Nat.ble n0 k=true)(hL:L.elem k=false)(vS:Nat.blt k H.length=true)(hku:us.elem k=true)(hop:∀ g,aa P N o (cu ops o T) (mask g (mC S us) 0 H) v0 (mask g (mC S us) 0 H++[blk]))
    (Hf:aZ (sw k H.length) v0=v)(hv:aZ (sg n0 [k]) v=v)(hb:aM (sg n0 []) blk=blk)
    (next:aX P N ops S n0 K (k::L) D rest ((d,v)::T) (H.set k blk)):aX P N ops S n0 K L ((us,true)::D) (o::rest) T H:=
 ⟨v,[(k,blk)],k::L,by rw[hd];exact xe,.inr (.inr ⟨rfl,hg,k,blk,v0,[],rfl,(fun _ h=>by cases h),rfl,by simpa using hku,by simpa using hS,by simpa using hk,(fun h=>by rw[show L.elem k=true by simpa using h] at hL;cases hL),hb,Hf.symm,hv,by simpa[Nat.blt,ZA] using vS,hop⟩),by rw[hd];exact next⟩
theorem aX.xD(d k k1:Nat){blk:ak}{v v0:V}(hd:o.dst=some d)(xe:bC N (some d)=true)(hg:o.guard=none)(hS:S.elem k=true)(XG:S.elem k1=true)(hk:Nat.ble n0 k=true)(hL:L.elem k=false)(vS:Nat.blt k H.length=true)(hku:us.elem k=true)(acD:us.elem k1=true)(hop:∀ g,aa P N o (cu ops o T) (mask g (mC S us) 0 H) v0 (mask g (mC S us) 0 (H.set k1 .dead)++[blk]))
    (Hf:aZ (sw k H.length) v0=v)(hv:aZ (sg n0 [k]) v=v)(hb:aM (sg n0 []) blk=blk)
    (next:aX P N ops S n0 K (k::L) D rest ((d,v)::T) ((H.set k1 .dead).set k blk)):aX P N ops S n0 K L ((us,true)::D) (o::rest) T H:=
 ⟨v,[(k1,.dead),(k,blk)],k::L,by rw[hd];exact xe,.inr (.inr ⟨rfl,hg,k,blk,v0,[(k1,.dead)],rfl,(fun p hp=>by simp at hp;subst hp;exact⟨by simpa using acD,by simpa using XG,rfl⟩),rfl,by simpa using hku,by simpa using hS,by simpa using hk,(fun h=>by rw[show L.elem k=true by simpa using h] at hL;cases hL),hb,Hf.symm,hv,by simpa[Nat.blt,ZA] using vS,hop⟩),by rw[hd];exact next⟩
section
variable {m:Nat} {l:List Oper} {vs:Nat->V}
theorem aX.vals{ops:Array Oper}:∀{l':List Oper} {L:List Nat} {D:List (List Nat×Bool)} {T:Tm} {H:List ak},aX P N ops S n0 K L D l' T H->∃(vs:Nat->V) (Tx:Nat->Tm) (Hx:Nat->List ak) (gW:Nat->List (Nat×ak)) (Ls:Nat->List Nat),Tx 0=T∧Hx 0=H∧Ls 0=L∧
    (∀ i o,l'[i]? =some o->bC N o.dst=true∧StG P N ops S n0 o (D.getD i ([],false)).1 (D.getD i ([],false)).2 (Ls i) (Ls (i+1)) (Tx i) (Hx i) (vs i) (gW i)∧Tx (i+1)=gN (Tx i) o.dst (vs i)∧Hx (i+1)=app (gW i) (Hx i))∧K (Tx l'.length) (Hx l'.length)
 | [],L,D,T,H,h=>⟨fun _=> .top,fun _=>T,fun _=>H,fun _=>[],fun _=>L,rfl,rfl,rfl,fun i o ho=>by simp at ho,by unfold aX at h;exact h⟩
 | o::l',L,D,T,H,h=>by
  obtain⟨v,w,L',hd,hst,hn⟩:=h
  obtain⟨vs,Tx,Hx,gW,Ls,h0,h0',KG,h1,h2⟩:=aX.vals hn
  refine⟨fun i=>match i with | 0=>v | i+1=>vs i,fun i=>match i with | 0=>T | i+1=>Tx i,fun i=>match i with | 0=>H | i+1=>Hx i,fun i=>match i with | 0=>w | i+1=>gW i,fun i=>match i with | 0=>L | i+1=>Ls i,rfl,rfl,rfl,fun i x hx=> ?_,h2⟩
  cases i with
  | zero=>
   simp at hx;subst hx
   refine⟨hd,?_,h0,h0'⟩
   have e:D.getD 0 ([],false)=D.headD ([],false):=by cases D <;> rfl
   rw[e]
   show StG P N ops S n0 o _ _ L (Ls 0) T H v w
   rw[KG];exact hst
  | succ i=>
   simp at hx
   obtain⟨k1,k2,k3⟩:=h1 i x hx
   refine⟨k1,?_,k3⟩
   have e:D.getD (i+1) ([],false)=(D.drop 1).getD i ([],false):=by
    simp[Zh,XK]
   rw[e];exact k2
def Fs(m:Nat)(l:List Oper)(D:List (List Nat×Bool)):Bool:=
 let t:=vK [] l
 (List.range m).all fun j=>(List.range j).all fun i=> !(((D.getD i ([],false)).2||(D.getD j ([],false)).2)&&(D.getD i ([],false)).1.any fun k=>(D.getD j ([],false)).1.elem k)||(t.getD j 0).testBit i
theorem uR{D:List (List Nat×Bool)}(h:Fs m l D=true)(f:Nat->Bool)(hc:∀ i o,l[i]? =some o->f i=true->∀ e∈o.after,Region.binds .any e=true->f e.on=true){i j k:Nat}(hij:i<j)(hj:j<m)
    (hw:(D.getD i ([],false)).2=true∨(D.getD j ([],false)).2=true)(hi:k∈(D.getD i ([],false)).1)(hk:k∈(D.getD j ([],false)).1)(hf:f j=true):f i=true:=by
 simp only[Fs] at h
 have:=ZC.1 (ZC.1 h j (wX.2 hj)) i (wX.2 hij)
 have h1:((D.getD i ([],false)).2||(D.getD j ([],false)).2)=true:=by simpa using hw
 have h2:((D.getD i ([],false)).1.any fun k=>(D.getD j ([],false)).1.elem k)=true:=List.any_eq_true.2 ⟨k,hi,by simpa using hk⟩
 rw[h1,h2] at this
 exact nU f l [] [] rfl (by simpa using hc) (fun i x h=>by simp at h) j i (by simpa using this) hf
theorem CC{g:Nat->ak}{S:List Nat}{H:List ak}{k:Nat}{b:ak}(h:k∉S):mask g S 0 (H.set k b)=(mask g S 0 H).set k b:=by
 apply Dt
 intro j
 rw[Zu (l:=mask g S 0 H),rM,rM,Zu,Ch,tZ]
 by_cases hj:k=j
 ·subst hj
  simp[h]
 ·simp[hj]
theorem uI{S us:List Nat}{k:Nat}:k∈mC S us↔k∈S∧k∉us:=by simp[mC]
theorem aaE{n0:Nat}{ms:List Nat}{i j:Nat}(h:sg n0 ms i=some j):j=i∧(i<n0∨i∈ms):=by
 unfold sg at h
 cases hb:(Nat.blt i n0||ms.elem i) with
 | false=>rw[hb] at h;cases h
 | true=>
  rw[hb] at h
  cases h
  refine⟨rfl,?_⟩
  simp only[CK] at hb
  rcases hb with hb | hb
  ·exact .inl (by simpa[Nat.blt,ZA] using hb)
  ·exact .inr (by simpa using hb)
def SIG(κ:Nat)(P:Program)(N:Nat)(H:List ak)(n0:Nat)(gW:Nat->List (Nat×ak))(m:Nat)(l:List Oper)(T:Tm)(vs:Nat->V)(B:pV)(w0:World)(I0:Nat->Prop)(ρ0:List Nat)(f:Nat->Bool)(a:Act)(w:World):Prop:=
 ∃ I ρ,cR w0 I0 ρ0 w I ρ∧Inv P w I ρ (HH gW f H m)∧a.tmps.size=N∧(∀ s v,tl l T vs f s=some v->aG P w I ρ v (a.tmps.getD s undef))∧
  (∀ s v,lk T s=some v->(∀ j o,l[j]? =some o->f j=true->o.dst≠some s)->aG P w I (ρ.take n0) v (a.tmps.getD s undef))∧Marks κ B w I ρ a.defers
theorem DX(hk:gS m l)(hm:m<=l.length){D:List (List Nat×Bool)}(hD:Fs m l D=true){B:pV}{w0:World}{I0:Nat->Prop}{ρ0:List Nat}{QX:Exit->Act->World->Prop}{Tx:Nat->Tm}{Hx:Nat->List ak}{gW:Nat->List (Nat×ak)}{Ls:Nat->List Nat}
    (h0:Tx 0=T)(h0':Hx 0=H)(KG:Ls 0=[])(hn0:n0<=H.length)(hH:∀ x∈H,aM (sg n0 []) x=x)(hB:B.pre.length<=n0)
    (h1:∀ i o,i<m->l[i]? =some o->bC N o.dst=true∧StG P N l.toArray S n0 o (D.getD i ([],false)).1 (D.getD i ([],false)).2 (Ls i) (Ls (i+1)) (Tx i) (Hx i) (vs i) (gW i)∧Tx (i+1)=gN (Tx i) o.dst (vs i)∧Hx (i+1)=app (gW i) (Hx i))
    (hK:∀ a w I ρ,cR w0 I0 ρ0 w I ρ->Inv P w I ρ (Hx m)->bR P w I ρ N (Tx m) a.tmps->Marks κ B w I ρ a.defers->wpListIn (Fr R) 0 P l.toArray QX (l.drop m) a w):
    ∀(fuel:Nat) (listed:Array Bool) (a:Act) (w:World),listed.toList.count false=fuel->listed.size=l.length->(∀ i o,l[i]? =some o->fl listed i=true->∀ e∈o.after,Region.binds .any e=true->fl listed e.on=true)->(∀ i,m<=i->fl listed i=false)->
    SIG κ P N H n0 gW m l T vs B w0 I0 ρ0 (fl listed) a w->wpAnyIn (Fr R) 0 P .any l.toArray QX fuel listed a w:=by
 intro fuel
 have hlk:=B1 (vs:=vs) hk hm h0 (fun i o hi ho=>(h1 i o hi ho).2.2.1)
 have o9:∀ i,i<m->∃ o,l[i]? =some o:=fun i hi=>⟨l[i]'(by omega),Zb _⟩
 have X3:∀ i,i<=m->Hx i=HH gW (fun _=>true) H i:=by
  intro i
  induction i with
  | zero=>intro _;exact h0'
  | succ i ih=>
   intro hi
   obtain⟨o,ho⟩:=o9 i (by omega)
   rw[(h1 i o (by omega) ho).2.2.2,ih (by omega)]
   rfl
 have IW:∀ i k b,i<m->(k,b)∈gW i->k∈(D.getD i ([],false)).1∧(D.getD i ([],false)).2=true∧k∈S∧∃ ms:List Nat,aM (sg n0 ms) b=b∧∀ x∈ms,x∈(D.getD i ([],false)).1∧x∈Ls i:=by
  intro i k b hi hw
  obtain⟨o,ho⟩:=o9 i hi
  obtain⟨_,hst,_⟩:=h1 i o hi ho
  rcases hst with⟨_,h2,_⟩ | ⟨h2,_,_,_,k',blk,h3,h4,h5,h6,_⟩ | ⟨h2,_,k',blk,v0,w1,h3,hw1,_,h4,h5,_,_,h6,_⟩
  ·rw[h2] at hw;cases hw
  ·rw[h3] at hw;simp at hw;obtain⟨rfl,rfl⟩:=hw;exact⟨h4,h2,h5,_,h6,fun x hx=>by simpa[wJ] using hx⟩
  ·rw[h3] at hw
   rcases Zs.1 hw with h7 | h7
   ·obtain⟨h8,h9,h10⟩:=hw1 _ h7;exact⟨h8,h2,h9,[],h10,fun x hx=>by cases hx⟩
   ·simp at h7;obtain⟨rfl,rfl⟩:=h7;exact⟨h4,h2,h5,[],h6,fun x hx=>by cases hx⟩
 have I4:∀ i,i<m->Ls (i+1)=Ls i∨∃ k,Ls (i+1)=k::Ls i∧k∉Ls i∧k∈(D.getD i ([],false)).1∧(D.getD i ([],false)).2=true:=by
  intro i hi
  obtain⟨o,ho⟩:=o9 i hi
  obtain⟨_,hst,_⟩:=h1 i o hi ho
  rcases hst with⟨_,_,h2,_⟩ | ⟨_,_,h2,_⟩ | ⟨h2,_,k,blk,v0,_,_,_,h3,h4,_,_,h5,_⟩
  ·exact .inl h2
  ·exact .inl h2
  ·exact .inr ⟨k,h3,h5,h4,h2⟩
 have MI:∀ i j k,i<=j->j<=m->k∈Ls i->k∈Ls j:=by
  intro i j k hij
  induction j with
  | zero=>intro _ hki;obtain rfl:i=0:=by omega
          exact hki
  | succ j ih=>
   intro hj hki
   by_cases e:i=j+1
   ·subst e;exact hki
   ·have:=ih (by omega) (by omega) hki
    rcases I4 j (by omega) with h | ⟨k',h,_⟩
    ·rw[h];exact this
    ·rw[h];exact Zk _ this
 have YY:∀ j k,j<=m->k∈Ls j->∃ i,i<j∧k∈(D.getD i ([],false)).1∧(D.getD i ([],false)).2=true∧k∉Ls i∧k∈Ls (i+1):=by
  intro j
  induction j with
  | zero=>intro k _ h;rw[KG] at h;cases h
  | succ j ih=>
   intro k hj h
   rcases I4 j (by omega) with h2 | ⟨k',h2,h3,h4,h5⟩
   ·rw[h2] at h
    obtain⟨i,hi,h6⟩:=ih k (by omega) h
    exact⟨i,by omega,h6⟩
   ·rw[h2] at h
    rcases Zv.1 h with rfl | h
    ·exact⟨j,by omega,h4,h5,h3,by rw[h2];simp⟩
    ·obtain⟨i,hi,h6⟩:=ih k (by omega) h
     exact⟨i,by omega,h6⟩
 have hlen:∀ f n,(HH gW f H n).length=H.length:=fun f n=>vo n
 have acI:∀ f n,n<=m->∀ x∈HH gW f H n,∃ ms:List Nat,aM (sg n0 ms) x=x∧∀ y∈ms,∃ j,j<m∧f j=true∧y∈(D.getD j ([],false)).1∧y∈Ls j:=by
  intro f n
  induction n with
  | zero=>intro _ x hx;exact⟨[],hH x hx,fun y hy=>by cases hy⟩
  | succ n ih=>
   intro hn x hx
   simp only[HH] at hx
   cases hf:f n with
   | false=>rw[hf] at hx;exact ih (by omega) x hx
   | true=>
    rw[hf] at hx
    simp only[cond_true] at hx
    rcases zP hx with h | ⟨k,h⟩
    ·exact ih (by omega) x h
    ·obtain⟨_,_,_,ms,h2,h3⟩:=IW n k x (by omega) h
     exact⟨ms,h2,fun y hy=>⟨n,by omega,hf,h3 y hy⟩⟩
 have done:∀(fuel:Nat) (listed:Array Bool) (a:Act) (w:World),listed.toList.count false=fuel->listed.size=l.length->(∀ i,m<=i->fl listed i=false)->(∀ i,i<m->fl listed i=true)->SIG κ P N H n0 gW m l T vs B w0 I0 ρ0 (fl listed) a w->wpAnyIn (Fr R) 0 P .any l.toArray QX fuel listed a w:=by
  intro fuel listed a w sF hsz CL hall hsi
  obtain⟨I,ρ,he,hi,hs,cT,_,hmk⟩:=hsi
  rw[FO (g:=fun _=>true) (fun j hj=>hall j hj) m (Zg _),<- X3 m (Zg _)] at hi
  exact R9
 induction fuel with
 | zero=>
  exact QY
 | succ fuel ih=>
  intro listed a w sF hsz hcl CL hsi
  by_cases hall:∀ i,i<m->fl listed i=true
  ·exact Rf
  ·obtain⟨i0,rU,hmin⟩:∃ i0,(i0<m∧fl listed i0=false)∧∀ j,j<i0->fl listed j=true:=by
     exact Q3
   have NL:l[i0]? =some (l[i0]'(by omega)):=Zb _
   have Gr:i0∈Region.ready .any l.toArray listed:=by
    exact Ml
   refine⟨(fun h=>by rw[h] at Gr;cases Gr),fun i hi=> ?_⟩
   obtain⟨h3,o,ho',hev⟩:=mem_ready.1 hi
   have ho:l[i]? =some o:=by simpa using ho'
   have hilt:=cZ ho
   have BK:∀ j oj,l[j]? =some oj->(decide (j=i)||fl listed j)=true->∀ e∈oj.after,Region.binds .any e=true->(decide (e.on=i)||fl listed e.on)=true:=fun j oj hj wZ e he hb=>by
    exact IM
   have tG:i<m:=by
    exact Ql
   have w7:fl listed i=false:=by
    exact KK
   obtain⟨v7,hy,_,_⟩:=h1 i o tG ho
   obtain⟨I,ρ,he,hinv,hs,cT,I9,hmk⟩:=hsi
   -- two operations that use the same own block
   have PW:∀ j k,j<i->((D.getD j ([],false)).2=true∨(D.getD i ([],false)).2=true)->k∈(D.getD j ([],false)).1->k∈(D.getD i ([],false)).1->fl listed j=true:=by
    intro j k hji hw hkj hki
    have:=uR hD (fun j=>decide (j=i)||fl listed j) BK hji tG hw hkj hki (by simp)
    have hne:¬ j=i:=by omega
    simpa[hne] using this
   have Du:∀ j k,i<j->j<m->((D.getD i ([],false)).2=true∨(D.getD j ([],false)).2=true)->k∈(D.getD i ([],false)).1->k∈(D.getD j ([],false)).1->fl listed j=false:=by
    intro j k hij hj hw hki hkj
    cases hf:fl listed j with
    | false=>rfl
    | true=>
     have:=uR hD (fl listed) hcl hij hj hw hki hkj hf
     rw[w7] at this;cases this
   have hF:mask (fun k=>(HH gW (fl listed) H m).getD k .dead) (mC S (D.getD i ([],false)).1) 0 (Hx i)=HH gW (fl listed) H m:=by
    apply Dt
    intro k
    rw[rM,tZ]
    have hlx:(Hx i).length=H.length:=by rw[X3 i (by omega)];exact hlen _ _
    by_cases hin:k∈mC S (D.getD i ([],false)).1
    ·rw[if_pos (by simpa using hin)]
     by_cases vS:k<H.length
     ·have e1:k<(Hx i).length:=by omega
      have e2:k<(HH gW (fl listed) H m).length:=by rw[hlen];exact vS
      rw[Zb e1,Zb e2]
      simp[Zh,e2]
     ·have e1:(Hx i).length<=k:=by omega
      have e2:(HH gW (fl listed) H m).length<=k:=by rw[hlen];omega
      rw[ZH e1,ZH e2];rfl
    ·rw[if_neg (by simpa using hin),X3 i (by omega)]
     have hor:k∉S∨k∈(D.getD i ([],false)).1:=by
      rw[uI] at hin
      by_cases h:k∈S
      ·exact .inr (Classical.byContradiction fun h2=>hin ⟨h,h2⟩)
      ·exact .inl h
     have:=MA (gW:=gW) (f:=fl listed) (H0:=H) (k:=k) (i:=i) (m:=m)
      (fun j hj hji hw=>by
       obtain⟨b,hw⟩:=hw
       obtain⟨h4,h5,h6,_⟩:=IW j k b hj hw
       rcases hor with h | h
       ·exact absurd h6 h
       ·exact PW j k hji (.inl h5) h4 h)
      (fun j hj hij hw=>by
       obtain⟨b,hw⟩:=hw
       obtain⟨h4,h5,h6,_⟩:=IW j k b hj hw
       rcases hor with h | h
       ·exact absurd h6 h
       ·by_cases e:j=i
        ·subst e;exact w7
        ·exact Du j k (by omega) hj (.inr h5) h h4) m (Zg _)
     rw[this,Nat.min_eq_right (by omega)]
   have hU:HH gW (fl (listed.setIfInBounds i true)) H m=app (gW i) (HH gW (fl listed) H m):=by
    have:=K0 (gW:=gW) (f:=fl listed) (g:=fl (listed.setIfInBounds i true)) (H0:=H) tG w7 (fun j=>by rw[jF (by omega)]) (fun j hij hj hf k b1 b2 hw1 hw2=>by
     obtain⟨h4,h5,_⟩:=IW j k b1 hj hw1
     obtain⟨h6,h7,_⟩:=IW i k b2 tG hw2
     have:=Du j k hij hj (.inl h7) h6 h4
     rw[hf] at this;cases this) m (Zg _)
    rw[this,if_pos tG]
   have tD:∀ s v,lk (cu l.toArray o (Tx i)) s=some v->aG P w I ρ v (a.tmps.getD s undef):=by
    exact L2
   have Bb:bR P w I ρ N (cu l.toArray o (Tx i)) a.tmps:=⟨hs,tD⟩
   have next:∀ u w' I' ρ',cR w I ρ w' I' ρ'->Inv P w' I' ρ' (app (gW i) (HH gW (fl listed) H m))->aG P w' I' ρ' (vs i) u->(∀ s v,tl l T vs (fl listed) s=some v->aG P w' I' ρ' v (a.tmps.getD s undef))->
       (∀ s v,lk T s=some v->(∀ j o,l[j]? =some o->fl listed j=true->o.dst≠some s)->aG P w' I' (ρ'.take n0) v (a.tmps.getD s undef))->Marks κ B w' I' ρ' a.defers->
       wpAnyIn (Fr R) 0 P .any l.toArray QX fuel (listed.setIfInBounds i true) (a.put o.dst u) w':=by
    intro u w' I' ρ' he' hinv' hu hold aai acm
    refine ih (listed.setIfInBounds i true) (a.put o.dst u) w' ?_ (by simp[hsz]) ?_ ?_ ?_
    ·exact RY
    ·exact T5
    ·exact Yw
    ·refine⟨I',ρ',he.trans he',by rw[hU];exact hinv',by cases o.dst <;> simp[Act.put,hs],fun s v hv=> ?_,fun s v hv hno=> ?_,acm.put⟩
     ·cases hd:o.dst with
      | none=>
       have e1:tl l T vs (fl (listed.setIfInBounds i true)) s=tl l T vs (fl listed) s:=iR hk fun j oj hj OR=>by
        exact RJ
       rw[e1] at hv
       exact hold s v hv
      | some d=>
       have hlt:d<N:=by
        rw[hd] at v7
        simpa[bC,Nat.blt,ZA] using v7
       by_cases W0:d=s
       ·exact RZ
       ·have e1:tl l T vs (fl (listed.setIfInBounds i true)) s=tl l T vs (fl listed) s:=iR hk fun j oj hj OR=>by
          exact TQ
        rw[e1] at hv
        have:=hold s v hv
        simpa[Act.put,W0] using this
     ·have acd:∀ j o,l[j]? =some o->fl listed j=true->o.dst≠some s:=fun j oj hj hf=>hno j oj hj (by rw[jF (by omega),hf];simp)
      have:=aai s v hv acd
      cases hd:o.dst with
      | none=>exact this
      | some d=>
       have W0:d≠s:=fun e=>hno i o ho (by rw[jF (by omega)];simp) (by rw[hd,e])
       simpa[Act.put,W0] using this
   have tP:∀ u w' I' ρ',Ext w I ρ w' I' ρ'->Inv P w' I' ρ' (app (gW i) (HH gW (fl listed) H m))->aG P w' I' ρ' (vs i) u->wpAnyIn (Fr R) 0 P .any l.toArray QX fuel (listed.setIfInBounds i true) (a.put o.dst u) w':=by
    intro u w' I' ρ' he' hinv' hu
    refine next u w' I' ρ' he'.w hinv' hu (fun s v hv=>(cT s v hv).ext he') (fun s v hv hno=> ?_) (hmk.ext he')
    have h4:=I9 s v hv hno
    have h5:ρ.take n0<+:ρ'.take n0:=by
     obtain⟨t,ht⟩:=he'.pre
     rw[<- ht,List.take_append]
     exact⟨_,rfl⟩
    exact Rn
   rcases hy with⟨_,hw,_,_,hy⟩ | ⟨_,hg,_,_,k,blk,hw,hku,hkS,_,hop⟩ | ⟨hwr,hg,k,blk,v0,w1,hw,hw1,_,ij,hkS,hk0,hkL,FZ,Hf,hvi,vS,hop⟩
   ·have hy:=hy (fun k=>(HH gW (fl listed) H m).getD k .dead)
    rw[hF] at hy
    have tP:∀ u w' I' ρ',Ext w I ρ w' I' ρ'->Inv P w' I' ρ' (HH gW (fl listed) H m)->aG P w' I' ρ' (vs i) u->wpAnyIn (Fr R) 0 P .any l.toArray QX fuel (listed.setIfInBounds i true) (a.put o.dst u) w':=by
     rw[hw] at tP;exact tP
    unfold wpOpIn
    simp only[ho']
    rcases hy with⟨hg,hop⟩ | ⟨j,want,s,c,x,v',hg,pE,GS,hb,hc,hv,hop⟩
    ·simp only[Region.wanted,hg,if_true]
     exact hop R w I ρ a hinv Bb _ _ tP
    ·have xm:=pS pE Bb GS hb hc
     simp only[Region.wanted,hg,xm]
     cases c with
     | true=>
      simp only[if_true]
      obtain⟨T2,hsub,hop⟩:=hop rfl
      exact hop R w I ρ a hinv (Bb.vY hsub) _ _ fun u w' I' ρ' he' hi' hu=>tP u w' I' ρ' he' hi' (by rw[hv];exact⟨fun _=>hu,(fun h=>by cases h)⟩)
     | false=>
      simp only[Ib,if_false]
      exact⟨bQ,tP undef w I ρ (Ext.refl _ _ _) hinv (by rw[hv];exact⟨(fun h=>by cases h),fun _=>rfl⟩)⟩
   ·have hop:=hop (fun k=>(HH gW (fl listed) H m).getD k .dead)
    rw[CC (fun h=>(uI.1 h).2 hku),hF] at hop
    unfold wpOpIn
    simp only[ho']
    simp only[Region.wanted,hg,if_true]
    exact hop R w I ρ a hinv Bb _ _ (by rw[hw] at tP;exact tP)
   ·have hop:=hop (fun k=>(HH gW (fl listed) H m).getD k .dead)
    have hF1:∀(w1:List (Nat×ak)) (X:List ak),(∀ p∈w1,p.1∈(D.getD i ([],false)).1)->mask (fun k=>(HH gW (fl listed) H m).getD k .dead) (mC S (D.getD i ([],false)).1) 0 (app w1 X)=app w1 (mask (fun k=>(HH gW (fl listed) H m).getD k .dead) (mC S (D.getD i ([],false)).1) 0 X):=by
     intro w1
     induction w1 with
     | nil=>intro X _;rfl
     | cons p w1 ih2=>
      intro X hp
      obtain⟨k1,b1⟩:=p
      simp only[app]
      rw[ih2 _ (fun q hq=>hp q (by simp[hq])),CC (fun h=>(uI.1 h).2 (hp (k1,b1) (by simp)))]
    rw[hF1 w1 _ (fun p hp=>(hw1 p hp).1),hF] at hop
    unfold wpOpIn
    simp only[ho']
    simp only[Region.wanted,hg,if_true]
    refine hop R w I ρ a hinv Bb _ _ fun u w' I' ρ' he' hi' hu=> ?_
    have XY:(HH gW (fl listed) H m).length=H.length:=hlen _ _
    have hlF:(app w1 (HH gW (fl listed) H m)).length=H.length:=(zK _ _).trans XY
    have hlx:(Hx i).length=H.length:=by rw[X3 i (by omega)];exact hlen _ _
    have Z6:ρ.length=H.length:=hinv.len.trans XY
    have acY:ρ'.length=H.length+1:=by rw[hi'.len];simp[hlF]
    have acT:k<H.length:=by omega
    obtain⟨b,qf⟩:∃ b,ρ'=ρ++[b]:=by
     obtain⟨t,ht⟩:=he'.pre
     have:t.length=1:=by
      have:=congrArg List.length ht
      simp at this
      omega
     match t,this with
     | [b],_=>exact⟨b,ht.symm⟩
    subst qf
    have jM:∀ j,j≠k->j<H.length->(ρ.set k b)[j]? =(ρ++[b])[j]? :=fun j hj hjl=>by
     rw[Zu,if_neg (Ne.symm hj),Zd (by omega)]
    have hτ:∀ ms:List Nat,(∀ i∈ms,i<H.length∧i≠k)->∀ i j c:Nat,sg n0 ms i=some j->(ρ++[b])[i]? =some c->(ρ.set k b)[j]? =some c:=fun ms hms x y c hxy hc=>by
     obtain⟨rfl,hx⟩:=aaE hxy
     rcases hx with hx | hx
     ·rw[jM y (by omega) (by omega)];exact hc
     ·rw[jM y (hms y hx).2 (hms y hx).1];exact hc
    have hσ:∀ i j c:Nat,sw k H.length i=some j->(ρ++[b])[i]? =some c->(ρ.set k b)[j]? =some c:=fun x y c hxy hc=>by
     unfold sw at hxy
     by_cases e1:x=H.length
     ·have Xz:Nat.beq x H.length=true:=by subst e1;exact Nat.beq_refl _
      rw[Xz] at hxy
      cases hxy
      subst e1
      rw[<- Z6,Zj (Zg _)] at hc
      simp at hc
      subst hc
      rw[List.getElem?_set_self (by omega)]
     ·have Xz:Nat.beq x H.length=false:=by
        cases h:Nat.beq x H.length with
        | false=>rfl
        | true=>exact absurd (ZL h) e1
      rw[Xz] at hxy
      by_cases e2:x=k
      ·have iY:Nat.beq x k=true:=by subst e2;exact Nat.beq_refl _
       rw[iY] at hxy
       cases hxy
      ·have iY:Nat.beq x k=false:=by
         cases h:Nat.beq x k with
         | false=>rfl
         | true=>exact absurd (ZL h) e2
       rw[iY] at hxy
       cases hxy
       have hxl:x<H.length:=by
        have:=(Za.1 hc).1
        simp at this
        omega
       rw[jM x e2 hxl];exact hc
    have fD:∀(j c:Nat) (x:ak),(ρ.set k b)[j]? =some c->((app w1 (HH gW (fl listed) H m)).set k blk)[j]? =some x->∃ j',(ρ++[b])[j']? =some c∧(app w1 (HH gW (fl listed) H m)++[blk])[j']? =some x∧j'=(if j=k then H.length else j):=by
     intro j c x h4 h5
     by_cases e:j=k
     ·subst e
      rw[List.getElem?_set_self (by omega)] at h4 h5
      cases h4;cases h5
      refine⟨H.length,?_,?_,by simp⟩
      ·rw[<- Z6,Zj (Zg _)];simp
      ·rw[<- hlF,Zj (Zg _)];simp
     ·rw[Zu,if_neg (Ne.symm e)] at h4 h5
      refine⟨j,?_,?_,by rw[if_neg e]⟩
      ·rw[Zd (Za.1 h4).1];exact h4
      ·rw[Zd (Za.1 h5).1];exact h5
    have hkey:∀ j,j<m->fl listed j=true->∀ x,x∈(D.getD j ([],false)).1->x∈Ls (j+1)->x≠k∧x<H.length:=by
     intro j hjm h5 x hx1 hx2
     have hji:j≠i:=fun e=>by rw[e,w7] at h5;cases h5
     constructor
     ·rintro rfl
      have bw:(D.getD i ([],false)).2=true:=hwr
      have hki:x∈(D.getD i ([],false)).1:=ij
      rcases Nat.lt_or_gt_of_ne hji with h | h
      ·exact hkL (MI (j+1) i x (by omega) (by omega) hx2)
      ·have:=Du j x h hjm (.inl bw) hki hx1
       rw[h5] at this;cases this
     ·obtain⟨i2,h7,h8,h9,h10,h11⟩:=YY (j+1) x (by omega) hx2
      obtain⟨o2,XJ⟩:=o9 i2 (by omega)
      obtain⟨_,hst,_⟩:=h1 i2 o2 (by omega) XJ
      rcases hst with⟨h12,_⟩ | ⟨_,_,h12,_⟩ | ⟨_,_,k2,lq,v2,_,_,_,Xm,h14,_,_,_,_,_,_,h15,_⟩
      ·rw[h9] at h12;cases h12
      ·rw[h12] at h11;exact absurd h11 h10
      ·rw[Xm] at h11
       rcases Zv.1 h11 with h16 | h16
       ·rw[X3 i2 (by omega),hlen] at h15
        rw[h16];exact h15
       ·exact absurd h16 h10
    have acJ:∀ x∈(app w1 (HH gW (fl listed) H m)++[blk]),∃ ms:List Nat,aM (sg n0 ms) x=x∧∀ y∈ms,y<H.length∧y≠k:=fun x hx=>by
     rcases Zs.1 hx with h | h
     ·rcases zP h with h | ⟨q,h⟩
      ·obtain⟨ms,h2,h3⟩:=acI _ m (Zg _) x h
       refine⟨ms,h2,fun y hy=> ?_⟩
       obtain⟨j,h4,h5,h6,h7⟩:=h3 y hy
       have:=hkey j h4 h5 y h6 (MI j (j+1) y (by omega) (by omega) h7)
       exact⟨this.2,this.1⟩
      ·exact⟨[],(hw1 _ h).2.2,fun y hy=>by cases hy⟩
     ·simp at h;subst h;exact⟨[],FZ,fun y hy=>by cases hy⟩
    have pL:cR w I ρ w' I' (ρ.set k b):=by
     have Ia:=he'.w
     exact⟨Ia.os,Ia.tape,Ia.output,Ia.size,Ia.keep,Ia.shape,Ia.mB,Ia.bu,Ia.fk,Ia.cL,Ia.kX,fun c hc=>by
      rcases List.mem_or_eq_of_mem_set hc with h | rfl
      ·exact .inl h
      ·exact Ia.new c (by simp)⟩
    have hI2:Inv P w' I' (ρ.set k b) ((app w1 (HH gW (fl listed) H m)).set k blk):=by
     refine⟨by simp[Z6,hlF],fun j c x h4 h5 h6=> ?_,hi'.ib,fun j c x h4 h5 h6=> ?_,fun j j' c x y h4 h5 h6 h7 h8 h9=> ?_,fun j c x h4 h5=> ?_,hi'.gl⟩
     ·obtain⟨j',k1,k2,_⟩:=fD j c x h4 h5
      exact hi'.iq j' c x k1 k2 h6
     ·obtain⟨j',k1,k2,_⟩:=fD j c x h4 h5
      exact hi'.live j' c x k1 k2 h6
     ·obtain⟨i1,k1,k2,k3⟩:=fD j c x h4 h6
      obtain⟨i2,k4,k5,k6⟩:=fD j' c y h5 h7
      have:=hi'.gJ i1 i2 c x y k1 k4 k2 k5 h8 h9
      subst this
      have hj1:j<H.length:=by have:=(Za.1 h4).1;simp at this;omega
      have hj2:j'<H.length:=by have:=(Za.1 h5).1;simp at this;omega
      rw[k3] at k6
      by_cases e1:j=k <;> by_cases e2:j'=k
      ·omega
      ·rw[if_pos e1,if_neg e2] at k6;omega
      ·rw[if_neg e1,if_pos e2] at k6;omega
      ·rw[if_neg e1,if_neg e2] at k6;exact k6
     ·obtain⟨j',k1,k2,_⟩:=fD j c x h4 h5
      obtain⟨ms,m1,m2⟩:=acJ x (Zi k2)
      have:=kr (hτ ms m2) (hi'.rel j' c x k1 k2)
      rwa [m1] at this
    refine next u w' I' (ρ.set k b) pL (by rw[hw,Ec];exact hI2) ?_ (fun s v hv=> ?_) (fun s v hv hno=> ?_) ?_
    ·rw[Hf,hlx]
     exact fU hσ v0 u hu
    ·by_cases hex:∃ j oj,l[j]? =some oj∧fl listed j=true∧oj.dst=some s
     ·obtain⟨j,oj,h4,h5,h6⟩:=hex
      have NJ:=hv
      rw[qZ hk h4 h5 h6] at hv
      cases hv
      have hjm:j<m:=by
       rcases ZS j m with h | h
       ·exact h
       ·rw[CL j h] at h5;cases h5
      have hji:j≠i:=fun e=>by rw[e,w7] at h5;cases h5
      have aa8:=(cT s _ NJ).ext he'
      have hkey:=hkey j hjm h5
      obtain⟨_,ace,_⟩:=h1 j oj hjm h4
      have ab3:∃ ms:List Nat,aZ (sg n0 ms) (vs j)=vs j∧∀ x∈ms,x∈(D.getD j ([],false)).1∧x∈Ls (j+1):=by
       rcases ace with⟨_,_,h7,h8,_⟩ | ⟨_,_,h7,h8,_⟩ | ⟨_,_,k2,lq,v2,_,_,_,h7,h8,_,_,_,_,_,h9,_⟩
       ·exact⟨_,h8,fun x hx=>by rw[h7];simpa[wJ] using hx⟩
       ·exact⟨_,h8,fun x hx=>by rw[h7];simpa[wJ] using hx⟩
       ·exact⟨_,h9,fun x hx=>by simp at hx;subst hx;exact⟨h8,by rw[h7];simp⟩⟩
      obtain⟨ms,ab1,OW⟩:=ab3
      have:=fU (hτ ms (fun x hx=>⟨(hkey x (OW x hx).1 (OW x hx).2).2,(hkey x (OW x hx).1 (OW x hx).2).1⟩)) (vs j) _ aa8
      rwa [ab1] at this
     ·have hno:∀ j o,l[j]? =some o->fl listed j=true->o.dst≠some s:=fun j oj h4 h5 h6=>hex ⟨j,oj,h4,h5,h6⟩
      rw[ng hno] at hv
      have h4:=I9 s v hv hno
      have h5:ρ.take n0<+:ρ.set k b:=by
       rw[Zbm,List.take_set_of_le (by simp;omega),zC,Hl (by omega)]
      exact Rn
    ·have h4:=I9 s v hv hno
     have h5:ρ.take n0<+:(ρ.set k b).take n0:=by
      rw[List.take_set_of_le (by omega)]
      exact ZG _
     exact Rn
    ·have hm2:=hmk.ext he'
     obtain⟨q1,q2,q3,q4⟩:=hm2
     refine⟨q1,q2,?_,q4⟩
     obtain⟨_,_,q5,_⟩:=hmk
     rw[Zbm] at q5 ⊢
     rw[List.take_set_of_le (by omega)]
     exact q5
theorem To.PY{κ:Nat}:∀(r:Nat) {H:List ak},To P κ N T H T (H++eD r)
 | 0,H=>by simpa[eD] using To.refl
 | r+1,H=>by
  have:=(To.pad (P:=P) (κ:=κ) (N:=N) (T:=T) (H:=H)).trans (To.PY r (H:=H++[.dead]))
  simpa[eD] using this
theorem aC.bz{id:Nat}(m r:Nat)(S:List Nat)(D:List (List Nat×Bool))(DR:P.follows .mixedOrders=true)(hk:ld m l=true)(hm:m<=l.length)(hD:Fs m l D=true)(hκ:Nat.ble κ H.length=true)(hH:H.map (aM (sg H.length []))=H)
    (h:aX P N l.toArray S H.length (fun T' H'=>aq P R N κ l.toArray (l.drop m) Q T' H') [] D (l.take m) T (H++eD r)):aC P R N κ (.region id l.toArray true) Q T H:=by
 intro B w I ρ a hi ht hmk
 have hκ:κ<=H.length:=by simpa using hκ
 obtain⟨vs,Tx,Hx,gW,Ls,h0,h0',KG,h1,h2⟩:=aX.vals h
 have hlen:(l.take m).length=m:=by simp;omega
 rw[hlen] at h2
 refine wpIn_region_any DR ?_
 have hi':Inv P w.drew I ρ H:=hi.drew
 obtain⟨I2,ρ2,hE,hi2,_,hp⟩:=To.PY (P:=P) (κ:=ρ.length) (N:=N) (T:=T) r w.drew I ρ a.tmps hi' (ht.ext Ext.drew)
 have hpre:ρ<+:ρ2:=hp ρ (ZG _) (Zg _)
 have Z6:ρ.length=H.length:=hi.len
 have nj:ρ2.take H.length=ρ:=by
  rw[<- Z6];exact(Zbm.1 hpre).symm
 have hE0:cR w I ρ w.drew I2 ρ2:=(Ext.drew (w:=w) (I:=I) (ρ:=ρ)).w.trans hE
 have YW:∀ s v,lk T s=some v->aG P w.drew I2 ρ v (a.tmps.getD s undef):=fun s v hv=>
  aG.mono hE.mB (fun _ _=>rfl) (ZG ρ) (fun _ _ _ hs=>hs) v _ ((ht.at_ s v hv).ext (Ext.drew (w:=w) (I:=I) (ρ:=ρ)))
 have hH':∀ x∈H,aM (sg H.length []) x=x:=fun x hx=>by
  obtain⟨i,hil,rfl⟩:=OX hx
  have:(H.map (aM (sg H.length [])))[i]? =H[i]? :=by rw[hH]
  rw[Zt,Zb hil] at this
  simpa using this
 refine DX (κ:=κ) (gS.of hk) hm hD (B:=B) (w0:=w) (I0:=I) (ρ0:=ρ) h0 h0' KG (by simp) (fun x hx=> ?_) (Zz hmk.2.1 hκ) (fun i o tG ho=>h1 i o (by rw[ZU,if_pos tG];exact ho)) ?_ _ _ a w.drew (by simp) (by simp) ?_ ?_ ?_
 ·rcases Zs.1 hx with h | h
  ·exact hH' x h
  ·have:∀ r,x∈eD r->x= .dead:=by
     intro r
     induction r with
     | zero=>intro h;cases h
     | succ r ih=>intro h;rcases Zv.1 h with h | h
                  ·exact h
                  ·exact ih h
   rw[this r h];rfl
 ·intro a' w' I' ρ' he hi2 nF hm2
  exact Lg
 ·exact DS
 ·exact BI
 ·have hnone:∀ f:Nat,HH gW (fl (Array.replicate l.length false)) (H++eD r) f=H++eD r:=by
    intro f
    induction f with
    | zero=>rfl
    | succ f ih=>
     have e0:fl (Array.replicate l.length false) f=false:=by
      unfold fl
      by_cases hlt:f<l.length <;> simp[hlt]
     simp only[HH,e0,cond_false,ih]
  refine⟨I2,ρ2,hE0,by simpa only[List.size_toArray,hnone] using hi2,ht.size,fun s v hv=> ?_,fun s v hv _=> ?_,hmk.Ks hE0 (hmk.2.2.1.trans hpre)⟩
  ·rw[ng (fun j o hj hf=>by
     unfold fl at hf
     by_cases hlt:j<l.length <;> simp[hlt] at hf)] at hv
   exact aG.mono (fun _ h=>h) (fun _ _=>rfl) hpre (fun _ _ _ hs=>hs) v _ (YW s v hv)
  ·rw[nj];exact YW s v hv
end
end
section
variable {P:Program} {R:Option Nat} {N κ:Nat} {Q Q':Post} {T T' T2 T3:Tm} {H H' H2 H3:List ak} {o:Oper} {ops:Array Oper} {rest:List Oper}
theorem yK{α:Type}[Inhabited α](z:List α)(hz:0<z.length):∀ n:Nat,(List.range (n*z.length)).map (fun i=>z[i%z.length]!)=(List.replicate n z).flatten
 | 0=>by simp
 | n+1=>by
  rw[List.replicate_succ',YG,<- yK z hz n,Nat.succ_mul,List.range_add,Zy]
  congr 1
  simp only[Q8,List.flatten_nil,ZY,QI]
  apply Dt
  intro i
  rw[Zt]
  by_cases h:i<z.length
  ·simp[Ys h,Un h,h]
  ·rw[ZH (by simpa using h),ZH (by omega)];rfl
theorem aa.makeSlice{x y:Operand}{t e:TypeId}{z:List PV}{n c iM:Nat}(ho:o.op= .makeSlice t x y)(hx:ev T x=some (.p (.int .i64 (n:Int))))(hy:ev T y=some (.p (.int .i64 (c:Int))))(hs:nL P t=some (e,z))(hby:tU P e=some iM)(hb0:0<iM)
    (hnc:n<=c)(hb:iM*c<=281474976710656):aa P N o T H (.row H.length n) (H++[.row ((List.replicate n z).flatten.map .p) e]):=
 aa.dZ (by simp[ho]) fun w I ρ a hi hT=>by
  obtain⟨hu,⟨b,ht⟩,wW,hz⟩:=fC hs
  obtain⟨uz,h1,h2⟩:=hz w
  have h3:=h2 I
  have h4:=aW.length h3
  simp only[CZ] at h4
  obtain⟨inf,kN,rfl⟩:∃ inf,P.info? e=some inf∧inf.bytes=iM:=by
   exact XV
  have hc:c<=281474976710656:=Zz (Nat.le_mul_of_pos_left c hb0) hb
  have Bx:∀ k w,(askRoom k).run P w= .ok () w:=fun k w=>by
   exact FG
  have wn:IntKind.i64.wrap (n:Int)=n:=aA (by omega)
  have wc:IntKind.i64.wrap (c:Int)=c:=aA (by omega)
  have hEl:∀(cs:Array Value),cs.toList=(List.replicate c uz.cells.toList).flatten->∃ I' ρ',Ext w I ρ (w.alloc (.cells cs e)) I' ρ'∧Inv P (w.alloc (.cells cs e)) I' ρ' (H++[.row ((List.replicate n z).flatten.map .p) e])∧aG P (w.alloc (.cells cs e)) I' ρ' (.row H.length n) (.slice (some ⟨w.heap.size,0,none⟩) n c):=by
   intro cs hcs
   have hE:Ext w I ρ (w.alloc (.cells cs e)) I (ρ++[w.heap.size]):=Ext.aI hi _
   have nj:cs.toList.take ((List.replicate n z).flatten.map V.p).length=(List.replicate n uz.cells.toList).flatten:=by
    have e1:((List.replicate n z).flatten.map V.p).length=n*z.length:=by simp
    rw[e1,hcs,show c=n+(c - n) by omega,<- List.replicate_append_replicate,YG,ZaP (by simp[h4]),NP (by simp[h4])]
   refine⟨_,_,hE,Inv.aI hi _ ⟨cs,heap_alloc_new w _,?_,?_⟩,?_⟩
   ·rw[<- CZ,hcs]
    simp only[Zr,List.length_flatten,List.map_replicate,List.sum_replicate_nat]
    have e3:uz.cells.toList.length=z.length:=h4
    rw[e3]
    exact FP _ hnc
   ·rw[nj]
    exact aj.ext hE (aj.pure.2 (aW.Ux h3 n))
   ·refine⟨w.heap.size,e,c,by rw[<- hi.len];simp,rfl,?_,hnc⟩
    obtain⟨d,i,_,h5,_,h6⟩:=jz ht
    have hsz:cs.size=c*z.length:=by
     rw[<- CZ,hcs];simp[h4]
    simp only[World.shape?,heap_alloc_new,hsz,Program.cellsOf,h5,QA,NW,h6]
  have hsz:uz.cells.size=z.length:=h4
  obtain⟨I',ρ',e2⟩:=hEl ((Array.range (c*z.length)).map (uz.cells[· %uz.cells.size]!)) (by
   rw[Array.toList_map,Array.toList_range]
   have:=yK uz.cells.toList (by rw[CZ,hsz];exact wW) c
   rw[CZ,hsz] at this
   rw[<- this,hsz]
   apply Xx
   intro i _
   simp[getElem!_def])
  have g1:¬ ((c:Int)<0):=by omega
  have g2:¬ ((n:Int)<0):=by omega
  have g3:¬ ((c:Int)<(n:Int)):=by omega
  have g4:¬ ((281474976710656:Int)<(inf.bytes:Int)*(c:Int)):=by
   have:((inf.bytes*c:Nat):Int)<=281474976710656:=by omega
   rw[Int.natCast_mul] at this
   omega
  refine⟨_,_,I',ρ',.inl ?_,e2⟩
  by_cases hc0:c=0
  ·subst hc0
   obtain rfl:n=0:=by omega
   have w0:IntKind.i64.wrap 0=0:=by decide
   simp[execOp,ho,c5 hT hx,c5 hT hy,Instr.makeSlice,run_underlying hu,asInt,eT,run_typeInfo w kN,w0,Bx,aS ht,newRow,newObj,Sem.run]
   have e0:Array.range 0= #[]:=by decide
   rw[e0,Array.map_empty,Array.map_empty]
  ·simp[execOp,ho,c5 hT hx,c5 hT hy,Instr.makeSlice,run_underlying hu,asInt,eT,run_typeInfo w kN,wn,wc,Bx,aS ht,newRow,newObj,Sem.run,hc0,h1,g1,g2,g3,g4]
   intro h
   exact absurd h (by have:=Nat.mul_pos (by omega:0<c) wW;omega)
theorem aa.nilCheck{x:Operand}{i off:Nat}(ho:o.op= .nilCheck x)(hx:ev T x=some (.ptr i off)):aa P N o T H (.ptr i off) H:=
 aa.aR (by simp[ho]) fun w I ρ a hi hT=>by
  have h:=hT.ev hx
  obtain⟨b,hb,hu⟩:=h
  exact⟨_,by simp[execOp,ho,hu],hT.ev hx⟩
theorem aa.GL{x:Operand}{cs:List PV}{off:Nat}(ho:o.op= .nilCheck x)(hx:ev T x=some (.p (.ip cs off))):aa P N o T H (.p (.ip cs off)) H:=
 aa.aR (by simp[ho]) fun w I ρ a hi hT=>by
  have h:=hT.ev hx
  obtain⟨b,o',hb,hu,hr⟩:=h
  exact⟨_,by simp[execOp,ho,hu],hT.ev hx⟩
theorem aa.OJ{x y:Operand}{t t':TypeId}{k:IntKind}(a b:Nat)(ho:o.op= .binOp .andNot t x y t')(hx:ev T x=some (.p (.int k (a:Int))))(hy:ev T y=some (.p (.int k (b:Int))))(ha:(a:Int)<=k.max):aa P N o T H (.p (.int k ((a^^^(a&&& b):Nat):Int))) H:=
 aa.bits ho (.inr (.inr (.inr rfl))) hx hy fun w=>by
  have hk:=max_lt k
  have Q9:a<2^k.bits:=by have:(a:Int)<((2^k.bits:Nat):Int):=by simpa using(by omega:(a:Int)<2^k.bits)
                         omega
  have hle:a^^^(a&&& b)<=a:=by
   have:a^^^(a&&& b)=a&&& (a^^^(a&&& b)):=by
    apply Ie
    intro i
    simp only[Nat.testBit_xor,J0]
    cases a.testBit i <;> cases b.testBit i <;> rfl
   rw[this];exact Nat.and_le_left
  have h1:(BitVec.ofInt k.bits (a:Int)&&& ~~~ BitVec.ofInt k.bits (b:Int)).toNat=a^^^(a&&& b):=by
   have e:BitVec.ofInt k.bits (a:Int)&&& ~~~ BitVec.ofInt k.bits (b:Int)=BitVec.ofNat k.bits (a^^^(a&&& b)):=by
    rw[jX,jX]
    apply BitVec.eq_of_getLsbD_eq
    intro i hi
    simp only[BitVec.getLsbD_and,BitVec.getLsbD_not,BitVec.getLsbD_ofNat,Nat.testBit_xor,J0,hi,decide_true,Bool.true_and]
    cases a.testBit i <;> cases b.testBit i <;> rfl
   rw[e,BitVec.toNat_ofNat,Un (Nat.lt_of_le_of_lt hle Q9)]
  have h2:((a^^^(a&&& b):Nat):Int)<=k.max:=by omega
  exact SP
theorem Kb{n:Nat}{x:PV}:ct H n (.p x)=some x:=by cases n <;> rfl
theorem VN{n i len:Nat}{xs:List PV}(h:b6 H[i]? =some (xs.map .p)):ct H (n+1) (.row i len)=some (.is xs len):=by
 simp only[ct,h,vR,QA]
def kP(ks:List Nat):Tm->Tm
 | []=>[]
 | (s,v)::T=>bif ks.any (Nat.beq s) then(s,v)::kP ks T else kP ks T
theorem wV(ks:List Nat):∀(T:Tm) (s:Nat) (v:V),lk (kP ks T) s=some v->lk T s=some v
 | [],s,v,h=>by cases h
 | (a,u)::T,s,v,h=>by
  simp only[kP] at h
  cases hk:ks.any (Nat.beq a) with
  | true=>
   rw[hk] at h
   simp only[cond_true,lk] at h ⊢
   cases hb:Nat.beq a s with
   | true=>rw[hb] at h;exact h
   | false=>rw[hb] at h;exact wV ks T s v h
  | false=>
   rw[hk] at h
   simp only[cond_false] at h
   have h2:=wV ks T s v h
   simp only[lk]
   cases hb:Nat.beq a s with
   | false=>exact h2
   | true=>
    exfalso
    have e:=ZL hb
    subst e
    have gen:∀ T:Tm,lk (kP ks T) a=none:=by
     intro T
     induction T with
     | nil=>rfl
     | cons p T ih=>
      obtain⟨c,u⟩:=p
      simp only[kP]
      cases hc:ks.any (Nat.beq c) with
      | false=>exact ih
      | true=>
       simp only[cond_true,lk]
       cases iY:Nat.beq c a with
       | false=>exact ih
       | true=>
        have e2:=ZL iY
        subst e2
        rw[hk] at hc;cases hc
    rw[gen T] at h;cases h
theorem Sub.tO{C T:Tm}{ks:List Nat}(h:Sub C T):Sub (C++kP ks T) T:=by
 intro s v hv
 have app:∀(A B:Tm),lk (A++B) s=some v->lk A s=some v∨lk B s=some v:=by
  intro A B
  induction A with
  | nil=>intro h;exact .inr h
  | cons p A ih=>
   obtain⟨a,u⟩:=p
   exact Ua
 rcases app _ _ hv with h1 | h1
 ·exact h s v h1
 ·exact wV ks T s v h1
theorem aC.kZ{γ:Type}{c:Code}(ks:List Nat)(ch:γ->Tm)(inv:γ->Prop)(μ:γ->Nat)(g0:γ)(h0:inv g0)(hS:Sub (ch g0) T)
    (round:∀ g,inv g->aC P R N κ c (AX.then (fun T' H'=>∃ g',inv g'∧μ g'<μ g∧To P κ N T' H' (ch g'++kP ks T) H) Q) (ch g++kP ks T) H):aC P R N κ (.loop c) Q T H:=
 aC.FV (fun g=>ch g++kP ks T) (fun _=>H) inv μ g0 h0 (To.sub (Sub.tO hS)) round
theorem aC.dw{γ:Type}{c:Code}(ks:List Nat)(ch:γ->Tm)(Hs:γ->List ak)(inv:γ->Prop)(μ:γ->Nat)(g0:γ)(h0:inv g0)(hto:To P κ N T H (ch g0++kP ks T) (Hs g0))
    (round:∀ g,inv g->aC P R N κ c (AX.then (fun T' H'=>∃ g',inv g'∧μ g'<μ g∧To P κ N T' H' (ch g'++kP ks T) (Hs g')) Q) (ch g++kP ks T) (Hs g)):aC P R N κ (.loop c) Q T H:=
 aC.FV (fun g=>ch g++kP ks T) Hs inv μ g0 h0 hto round
end
theorem lZ(A B:List PV):jS (A.map .p++B.map .p)=some (A++B):=by
 rw[<- Zy];exact jy _
section
variable {P:Program} {R:Option Nat} {N κ:Nat} {Q:Post} {T:Tm} {H H':List ak} {o:Oper} {ops:Array Oper} {K:Tm->List ak->Prop} {rest:List Oper} {S L us:List Nat} {n0:Nat} {D:List (List Nat×Bool)}
end
section
variable {P:Program} {R:Option Nat} {N κ:Nat} {Q:Post} {T:Tm} {H H':List ak} {o:Oper}
def scV(x:PV):V:=bif GN x then .p x else .top
theorem OO{w w':World}{I I':Nat->Prop}{ρ:List Nat}{x:PV}{u:Value}(h:Rel w I x u):aG P w' I' ρ (scV x) u:=by
 unfold scV
 cases hs:GN x with
 | true=>exact Rel.sc x u hs h
 | false=>trivial
theorem A7{w w':World}{I I':Nat->Prop}{ρ:List Nat}:∀(xs:List PV) (us:List Value),aW w I xs us->aj P w' I' ρ (xs.map scV) us
 | [],us,h=>h
 | x::xs,us,h=>by
  obtain⟨u,us',hu,h1,h2⟩:=h
  exact⟨u,us',hu,OO h1,A7 xs us' h2⟩
theorem aa.T9(n:Nat){g:FuncId}{args rs:List PV}(hp:Pure P g args (.tuple rs)){f:Operand}{xs:Array Operand}{ts:Array TypeId}{fv:V}{vs all:List V}(ho:o.op= .call {callee:= .value f,args:=xs,argTypes:=ts})(hf:ev T f=some fv)
    (hxs:lG T xs.toList=some vs)(hc:callee vs fv=some (g,all))(hb:c9 (ct H n) all=some args)(hg:an P g=true):aa P N o T H (.tuple (rs.map scV)) H:=by
 intro R w I ρ a hi hT K QX hK
 refine⟨bQ,?_⟩
 rw[bT _ _ _ (by simp[ho])]
 obtain⟨us,h1,h2⟩:=ep ho hT hf hxs hc hg
 rw[h2]
 have h1':aj P w (fun b=>b<w.heap.size) [] (args.map .p) us:=aj.pure.2 (fR (oh hi n) all args us hb h1)
 have hi2:Inv P w (fun b=>b<w.heap.size) [] []:=⟨rfl,(fun _ _ _ h=>by simp at h),fun _ h=>h,(fun _ _ _ h=>by simp at h),(fun _ _ _ _ _ h=>by simp at h),(fun _ _ _ h=>by simp at h),hi.gl.mono hi.ib (fun _ _=>rfl)⟩
 refine⟨(fun h=>by cases h),?_⟩
 refine CallsIn.mono (cK R (hp w _ [] us hi2 h1')) ?_
 rintro e w' ⟨u,v,J,σ,H',rfl,⟨rfl,rfl⟩,h3,h4,h5⟩
 have he:=qy hi h3
 have Aw:Inv P w' I [] []:=⟨rfl,(fun _ _ _ h=>by simp at h),fun b h=>ZQ (hi.ib b h) h3.w.size,(fun _ _ _ h=>by simp at h),(fun _ _ _ _ _ h=>by simp at h),(fun _ _ _ h=>by simp at h),hi.gl.mono (fun _ h=>h) he.w.bu⟩
 obtain⟨h6,h7⟩:=Inv.frame hi he Aw
 obtain⟨us',hu,hr⟩:=h5
 exact hK u w' I ρ h6 h7 ⟨us',hu,A7 rs _ hr⟩
end
section
variable {P:Program} {R:Option Nat} {N κ:Nat} {Q:Post} {T:Tm} {H H':List ak} {o:Oper}
def sP(P:Program)(t:TypeId):Bool:=
 match P.underlying t with
 | some (.interface _)=>false
 | some _=>true
 | none=>false
theorem aa.aJ{t:TypeId}{x:Operand}{y:PV}(ho:o.op= .makeInterface t x)(hx:ev T x=some (.p y))(ht:sP P t=true):aa P N o T H (.p (.iface t y)) H:=
 aa.aR (by simp[ho]) fun w I ρ a hi hT=>by
  have h:=hT.ev hx
  unfold sP at ht
  cases hu:P.underlying t with
  | none=>simp[hu] at ht
  | some d=>
   refine⟨.iface t (a.eval x),?_,a.eval x,rfl,h⟩
   cases d <;> simp[hu] at ht <;> simp[execOp,ho,Instr.makeInterface,run_underlying hu]
def UM(P:Program)(t:TypeId)(name:String):Option FuncId:=
 match P.info? t with
 | some i=>match i.methods.find? (·.name==name) with
   | some m=>if m.path.isEmpty then(match m.func,P.underlying t with
     | some (_,false),some (.pointer _)=>none
     | some (f,false),some _=>some f
     | _,_=>none) else none
   | none=>none
 | none=>none
theorem DV{t:TypeId}{name:String}{f:FuncId}(h:UM P t name=some f)(n:Nat)(v:Value)(w:World):(method (n+1) t v name).run P w= .ok (f,v) w:=by
 unfold UM at h
 cases hi:P.info? t with
 | none=>simp[hi] at h
 | some i=>
  simp only[hi] at h
  cases hm:i.methods.find? (·.name==name) with
  | none=>simp[hm] at h
  | some m=>
   simp only[hm] at h
   split at h
   ·rename_i hp
    have hp':m.path= #[]:=by simpa using hp
    cases hf:m.func with
    | none=>simp[hf] at h
    | some q=>
     obtain⟨g,b⟩:=q
     cases b with
     | true=>simp[hf] at h
     | false=>
      cases hu:P.underlying t with
      | none=>simp[hf,hu] at h
      | some d=>
       cases d <;> simp[hf,hu] at h <;> subst h <;> simp[method,run_typeInfo w hi,hm,hp',follow,hf,receiverAt,run_underlying hu,Place.get]
   ·cases h
def ML(P:Program)(name:String)(x:PV)(args:List PV)(r:PV):Prop:=∃ t y g,x= .iface t y∧UM P t name=some g∧an P g=true∧Pure P g (y::args) r
theorem aa.invoke{name:String}{x r:PV}{args:List PV}(hF:ML P name x args r){rc:Operand}{xs:Array Operand}{ts:Array TypeId}(ho:o.op= .call {callee:= .invoke rc name,args:=xs,argTypes:=ts})(hx:ev T rc=some (.p x))(hxs:lG T xs.toList=some (args.map .p)):aa P N o T H (.p r) H:=by
 obtain⟨t,y,g,rfl,hm,hg,hp⟩:=hF
 intro R w I ρ a hi hT K QX hK
 refine⟨bQ,?_⟩
 rw[bT _ _ _ (by simp[ho])]
 obtain⟨z,hz,hr⟩:=hT.ev hx
 have h2:=aj.pure.1 (hT.lG hxs)
 have hrun:(execOp a.eval o).run P w= .ok (.enter g (z::xs.toList.map a.eval).toArray) w:=by
  have e0:∀ us:Array Value,(#[Value.iface t z]++us)[0]? =some (.iface t z):=fun us=>by
   rw[Array.getElem?_append_left (by simp)];rfl
  obtain⟨n,hn⟩:∃ n,P.types.size+Made.depth=n+1:=⟨P.types.size+(Made.depth - 1),by have:0<Made.depth:=by decide
                                                                                  omega⟩
  simp[execOp,ho,resolve,Go.invoke,callMethod,hz,e0,hn,DV hm,gI hg]
  exact NP (by simp)
 rw[hrun]
 have h1':aj P w I [] ((y::args).map .p) (z::xs.toList.map a.eval):=aj.pure.2 ⟨z,_,rfl,hr,h2⟩
 refine⟨(fun h=>by cases h),?_⟩
 refine CallsIn.mono (cK R (hp w I [] _ hi.nothing h1')) ?_
 rintro e w' ⟨u,v,J,σ,H',rfl,⟨rfl,rfl⟩,h3,h4,h5⟩
 have hσ:σ=[]:=ZD h4.len
 subst hσ
 obtain⟨h6,h7⟩:=Inv.frame hi h3 h4
 exact hK u w' J ρ h6 h7 h5
end
section
variable {P:Program} {R:Option Nat} {N κ:Nat} {Q:Post} {T:Tm} {H H':List ak} {o:Oper}
theorem aa.aB{α:Type}{g:Nat->α}{x y:Operand}{t:TypeId}{kd:IntKind}{sz len k:Nat}{xs:List α}{f:α->List PV}(hg:∀ k (h:k<xs.length),xs[k]=g k)(ho:o.op= .indexAddr t x y)(hx:ev T x=some (.p (.is (xs.flatMap f) len)))(hy:ev T y=some (.p (.int kd (k:Int))))(ht:eB P t=true)
    (he:nq P t=some sz)(hl:len=xs.length)(hf:∀ x,(f x).length=sz)(h0:0<sz)(hk:k<xs.length):aa P N o T H (.p (.ip (f (g k)) 0)) H:=by
 have h:=aa.eM (P:=P) (N:=N) (H:=H) ho hx hy ht he hl hf h0 hk
 rwa [hg k hk] at h
theorem aa.zp{t:TypeId}{parts:Array (Nat×Operand)}{z:List PV}{ps:List (Nat×Nat)}{vs:List (Nat×V)}{r:List V}{v:V}(ho:o.op= .build t parts)(hb:lW P t=some (z,ps))(hv:jl T parts.toList=some vs)(hr:jI ps (z.map .p) vs=some r)(hw:gL r=v):aa P N o T H v H:=by
 subst hw;exact aa.build ho hb hv hr
theorem aa.isR{xs ys:List PV}{n:Nat}(h:aa P N o T H (.p (.is ys n)) H')(e:ys=xs):aa P N o T H (.p (.is xs n)) H':=e▸h
theorem aq.BG(d:Nat){ops:Array Oper}{rest:List Oper}{f:Operand}{xs:Array Operand}{ts:Array TypeId}{fv:V}{vs all:List V}{g:FuncId}{Qr:V->List ak->Prop}(hp:aE P g all H Qr)(ho:o.op= .call {callee:= .value f,args:=xs,argTypes:=ts})(hd:o.dst=some d)(hN:bC N (some d)=true)(hgd:o.guard=none)(hf:ev T f=some fv)
    (hxs:lG T xs.toList=some vs)(hc:callee vs fv=some (g,all))(hg:an P g=true)(next:∀ v H',Qr v H'->aq P R N κ ops rest Q ((d,v)::T) H'):aq P R N κ ops (o::rest) Q T H:=by
 intro QX B w I ρ a hi ht hm hq
 refine wpListIn_plain hgd fun K hK=> ?_
 refine⟨bQ,?_⟩
 rw[bT _ _ _ (by simp[ho])]
 obtain⟨us,h1,h2⟩:=ep ho ht hf hxs hc hg
 rw[h2]
 refine⟨(fun h=>by cases h),?_⟩
 refine CallsIn.mono (cK R (hp w I ρ us hi h1)) ?_
 rintro e w' ⟨u,v',J,σ,H2,rfl,hQ,h3,h4,h5⟩
 refine hK _ _ ?_
 refine next v' H2 hQ QX B w' J σ (a.put o.dst u) h4 (by rw[hd];exact(ht.ext h3).put hN h5) ((hm.ext h3).put) fun e a2 w2 q=>hq e a2 w2 (QC.ext h3.w q)
theorem nk.many{fn:Func}{r1 r2:ResultVar}{rs:List ResultVar}{vs:List V}{xs:List PV}{Qr:V->List ak->Prop}(h:fn.results=(r1::r2::rs).toArray)(hr:Ak P T H (r1::r2::rs) vs)(hv:vs=xs.map .p)(hq:Qr (.p (.tuple xs)) H):nk P N fn Qr .ret T H:=by
 refine⟨.inr rfl,.p (.tuple xs),?_,hq⟩
 have:=fE.many (N:=N) h hr
 have e:ki vs= .p (.tuple xs):=by
  subst hv
  simp[ki,jy]
 rwa [e] at this
theorem nk.one{fn:Func}{r:ResultVar}{v:V}{Qr:V->List ak->Prop}(h:fn.results= #[r])(hr:pT P T H r v)(hq:Qr v H):nk P N fn Qr .ret T H:=
 ⟨.inr rfl,v,fE.one h hr,hq⟩
end
mutual
def Uj:PV->PV
 | .nilSlice=> .is [] 0
 | .agg cs=> .agg (nB cs)
 | .tuple cs=> .tuple (nB cs)
 | .is cs n=> .is (nB cs) n
 | .ip cs off=> .ip (nB cs) off
 | x=>x
def nB:List PV->List PV
 | []=>[]
 | x::xs=>Uj x::nB xs
end
mutual
theorem Rel.wk{w:World}{I:Nat->Prop}:∀(x:PV) (u:Value),Rel w I x u->Rel w I (Uj x) u
 | .nilSlice,u,h=> .inl ⟨⟨none,0,h⟩,rfl⟩
 | .agg cs,u,h=>by
  obtain⟨us,hu,h1⟩:=h
  exact⟨us,hu,aW.wk cs _ h1⟩
 | .tuple cs,u,h=>by
  obtain⟨us,hu,h1⟩:=h
  exact⟨us,hu,aW.wk cs _ h1⟩
 | .is cs n,u,h=>by
  rcases h with h | ⟨b,o,cap,hb,hl,hu,hc⟩
  ·exact .inl h
  ·exact .inr ⟨b,o,cap,fun hn=>hb (fun e=>hn (by subst e;rfl)),hl,hu,aY.wk cs b o hc⟩
 | .ip cs off,u,h=>by
  obtain⟨b,o,hb,hu,hc⟩:=h
  exact⟨b,o,hb,hu,aY.wk cs b o hc⟩
 | .bool _,_,h=>h
 | .int _ _,_,h=>h
 | .str _,_,h=>h
 | .nilPtr,_,h=>h
 | .nilMap,_,h=>h
 | .nilFunc,_,h=>h
 | .nilIface,_,h=>h
 | .im _ _,_,h=>h
 | .func _ _ _,_,h=>h
 | .iface _ _,_,h=>h
theorem aW.wk{w:World}{I:Nat->Prop}:∀(xs:List PV) (us:List Value),aW w I xs us->aW w I (nB xs) us
 | [],us,h=>h
 | c::cs,us,h=>by
  obtain⟨u,us',hu,h1,h2⟩:=h
  exact⟨u,us',hu,Rel.wk c u h1,aW.wk cs us' h2⟩
theorem aY.wk{w:World}{I:Nat->Prop}:∀(xs:List PV) (b o:Nat),aY w I xs b o->aY w I (nB xs) b o
 | [],_,_,h=>h
 | c::cs,b,o,h=>by
  obtain⟨⟨u,hu,h1⟩,h2⟩:=h
  exact⟨⟨u,hu,Rel.wk c u h1⟩,aY.wk cs b (o+1) h2⟩
end
def XR:V->V
 | .p x=> .p (Uj x)
 | v=>v
theorem aG.wk{P:Program}{w:World}{I:Nat->Prop}{ρ:List Nat}(v:V)(u:Value)(h:aG P w I ρ v u):aG P w I ρ (XR v) u:=by
 cases v <;> first | exact Rel.wk _ _ h | exact h
theorem aj.wk{P:Program}{w:World}{I:Nat->Prop}{ρ:List Nat}:∀(vs:List V) (us:List Value),aj P w I ρ vs us->aj P w I ρ (vs.map XR) us
 | [],us,h=>h
 | c::cs,us,h=>by
  obtain⟨u,us',hu,h1,h2⟩:=h
  exact⟨u,us',hu,aG.wk c u h1,aj.wk cs us' h2⟩
section
variable {P:Program} {N κ:Nat} {T:Tm} {H:List ak}
theorem To.wkS(s:Nat){x:PV}(hs:lk T s=some (.p x)):To P κ N T H ((s,.p (Uj x))::js [s] T) H:=fun w I ρ tmps hi ht=>by
 refine⟨I,ρ,cR.refl _ _ _,hi,⟨ht.size,fun a v hx=> ?_⟩,fun L hL _=>hL⟩
 simp only[lk] at hx
 cases hb:Nat.beq s a with
 | true=>
  rw[hb] at hx
  have:=ZL hb
  subst this
  simp at hx
  subst hx
  exact Rel.wk x _ (ht.at_ s _ hs)
 | false=>
  rw[hb] at hx
  exact ht.at_ a v (jv [s] T a v hx)
theorem To.wkB(i:Nat){cs:List V}{e:TypeId}(hH:H[i]? =some (.cells cs e)):To P κ N T H T (H.set i (.cells (cs.map XR) e)):=fun w I ρ tmps hi ht=>by
 obtain⟨b,hb⟩:∃ b,ρ[i]? =some b:=by
  have h1:i<H.length:=(Za.1 hH).1
  rw[<- hi.len] at h1
  exact⟨ρ[i],Zb h1⟩
 refine⟨I,ρ,cR.refl _ _ _,?_,ht,fun L hL _=>hL⟩
 refine hi.write hb hH rfl (Ext.refl _ _ _) rfl (fun _ _=>rfl) ?_
 obtain⟨arr,h1,h2⟩:=hi.rel i b _ hb hH
 exact⟨arr,h1,aj.wk cs _ h2⟩
end
section
variable {P:Program} {R:Option Nat} {N κ:Nat} {Q:Post} {T:Tm} {H H':List ak} {o:Oper}
theorem aa.As{α:Type}{g:Nat->α}{x y:Operand}{t:TypeId}{kd:IntKind}{sz len:Nat}{n:Int}{xs:List α}{f:α->List PV}(hg:∀ k (h:k<xs.length),xs[k]=g k)(ho:o.op= .indexAddr t x y)(hx:ev T x=some (.p (.is (xs.flatMap f) len)))(hy:ev T y=some (.p (.int kd n)))(ht:eB P t=true)
    (he:nq P t=some sz)(hl:len=xs.length)(hf:∀ x,(f x).length=sz)(h0:0<sz)(hn:0<=n)(hk:n.toNat<xs.length):aa P N o T H (.p (.ip (f (g n.toNat)) 0)) H:=by
 have h:=aa.Cc (P:=P) (N:=N) (H:=H) ho hx hy ht he hl hf h0 hn hk
 rwa [hg _ hk] at h
theorem sE{i:Nat}{xs:List PV}:∀ l:List PV,lQ i xs (l.map .p)=l.map .p
 | []=>rfl
 | x::l=>by simp[lQ,jq,sE l]
end
theorem AR(i:Nat)(xs:List PV):∀ a b:List V,lQ i xs (a++b)=lQ i xs a++lQ i xs b
 | [],b=>rfl
 | x::a,b=>by simp only[NS,lQ,AR i xs a b]
section
variable {P:Program} {N κ:Nat} {T:Tm} {H:List ak}
theorem To.abZ(i j:Nat){xs:List PV}{vs cs:List V}{e:TypeId}(hij:i≠j)(hc:b6 H[i]? =some vs)(hp:jS vs=some xs)(hH:H[j]? =some (.cells cs e)):To P κ N T H (xB i xs T) ((H.set i .dead).set j (.cells (lQ i xs cs) e)):=by
 intro w I ρ tmps hi ht
 rw[eK hp] at hc
 obtain⟨b,arr,e',hρ,hw,hl,hr⟩:=iH hi hc
 obtain⟨bj,hbj⟩:∃ b,ρ[j]? =some b:=by
  have h1:j<H.length:=(Za.1 hH).1
  rw[<- hi.len] at h1
  exact⟨ρ[j],Zb h1⟩
 have Yx:∃ blk,H[i]? =some blk∧blk.live=true:=by
  exact abd
 obtain⟨blk,hHi,e9⟩:=Yx
 have hE:=Ext.freeze hi hρ hHi e9
 have hF:=Inv.freeze hi hρ hHi e9
 have hx:aY w (fun k=>I k∨k=b) xs b 0:=by
  exact S5
 have hHj:(H.set i ak.dead)[j]? =some (.cells cs e):=by rw[D9 hij];exact hH
 refine⟨_,ρ,hE.w,?_,⟨ht.size,fun s v hv=> ?_⟩,fun L hL _=>hL⟩
 ·refine hF.write hbj hHj rfl (Ext.refl _ _ _) rfl (fun _ _=>rfl) ?_
  obtain⟨fK,h1,h3⟩:=hF.rel j bj _ hbj hHj
  exact⟨fK,h1,og hρ (.inr rfl) hx cs _ h3⟩
 ·rw[oF,Zm] at hv
  obtain⟨v0,h1,rfl⟩:=hv
  exact nK hρ (.inr rfl) hx v0 _ ((ht.at_ s v0 h1).ext hE)
theorem zQ:∀ l:List PV,(l.map V.p).map XR=(nB l).map V.p
 | []=>rfl
 | x::l=>by simp only[ZE,nB,zQ l];rfl
theorem To.abv(i j:Nat){xs:List PV}{n:Nat}{a b:List PV}{e eb:TypeId}(T2:Tm)(hij:i≠j)(hi:H[i]? =some (dG (xs.map .p) e n))(hj:H[j]? =some (.cells (a.map .p++gP i n::b.map .p) eb))(h0:n=0->xs=[])(ha:nB a=a)(hb:nB b=b)
    (h1:Sub T2 (xB i xs T))(h2:Sub T2 T):To P κ N T H T2 ((H.set i .dead).set j (.cells (a.map .p++ .p (.is xs n)::b.map .p) eb)):=by
 cases n with
 | zero=>
  have hx:=h0 rfl
  subst hx
  have e1:H.set i .dead=H:=by
   apply Dt
   intro k
   rw[Zu]
   split
   ·rename_i hik
    subst hik
    split
    ·exact hi.symm
    ·rename_i h;rw[ZH (by omega)]
   ·rfl
  rw[e1]
  have h3:=To.wkB (P:=P) (N:=N) (κ:=κ) (T:=T) j hj
  have e2:(a.map V.p++gP i 0::b.map V.p).map XR=a.map .p++ .p (.is [] 0)::b.map .p:=by
   rw[Zy,ZE,zQ,zQ,ha,hb]
   rfl
  rw[e2] at h3
  exact h3.trans (To.sub h2)
 | succ n=>
  have h3:=To.abZ (P:=P) (N:=N) (κ:=κ) (T:=T) i j hij (xs:=xs) (vs:=xs.map .p) (by rw[hi];rfl) (jy xs) hj
  have e2:lQ i xs (a.map V.p++gP i (n+1)::b.map V.p)=a.map .p++ .p (.is xs (n+1))::b.map .p:=by
   rw[AR,sE]
   simp only[lQ,sE,gP,jq,if_true]
  rw[e2] at h3
  exact h3.trans (To.sub h1)
end
theorem uC(z:List PV):∀ n:Nat,((List.replicate n z).flatten).length=n*z.length
 | 0=>by simp
 | n+1=>by rw[Xu,Q8,Zc,uC z n,Nat.succ_mul];omega
section
variable {P:Program} {N:Nat} {T:Tm} {H:List ak} {o:Oper}
end
theorem To.uG{P:Program}{N κ:Nat}{T T2:Tm}{H H2 H3:List ak}(h:To P κ N T H T2 H2)(e:H2=H3):To P κ N T H T2 H3:=e▸h
section
variable {P:Program} {N:Nat} {T:Tm} {H:List ak} {o:Oper}
theorem aa.iF{x y:Operand}{t:TypeId}{kd:IntKind}{sz i len:Nat}{n:Int}(ho:o.op= .indexAddr t x y)(hx:ev T x=some (.row i len))(hy:ev T y=some (.p (.int kd n)))(ht:eB P t=true)(he:nq P t=some sz)(hn:0<=n)(hk:n.toNat<len):aa P N o T H (.ptr i (n.toNat*sz)) H:=
 aa.vA (k:=n.toNat) ho hx (by rw[hy,V0 hn]) ht he hk
end
section
variable {P:Program} {N κ:Nat} {T:Tm} {H:List ak} {o:Oper}
theorem aa.Mn{x y:Operand}{t:TypeId}{kd:IntKind}{sz i n k:Nat}(ho:o.op= .indexAddr t x y)(hx:ev T x=some (gP i n))(hy:ev T y=some (.p (.int kd (k:Int))))(ht:eB P t=true)(he:nq P t=some sz)(hk:k<n):aa P N o T H (.ptr i (k*sz)) H:=
 aa.vA ho (by rw[hx,Kk (by omega)]) hy ht he hk
end
section
variable {P:Program} {N:Nat} {T:Tm} {H:List ak} {o:Oper}
theorem aa.yq{g:Nat}{RF:List PV}{y:Operand}{t:TypeId}{kd:IntKind}{sz len:Nat}{n:Int}(hg:(g,RF)∈nN P)(ho:o.op= .indexAddr t (.global g) y)(hy:ev T y=some (.p (.int kd n)))(ht:zz P t=some len)(he:nq P t=some sz)
    (h0:0<=n)(hl:n<len):aa P N o T H (.p (.ip RF (n.toNat*sz))) H:=
 aa.aR (by simp[ho]) fun w I ρ a hi hT=>by
  have hn:=c5 hT hy
  obtain⟨k1,k2,_⟩:=hi.gl.1 _ hg
  have Gr:aG P w I ρ (.p (.ip RF 0)) (a.eval (.global g)):=⟨g,0,k1,rfl,k2⟩
  obtain⟨ad,hu,hr⟩:=so (v:= .p (.ip RF (n.toNat*sz))) (n:=n.toNat*sz) Gr (show shift (n.toNat*sz) (.p (.ip RF 0))=some (.p (.ip RF (n.toNat*sz))) by simp[shift])
  exact R0
theorem aa.HW{K α:Type}[DecidableEq K]{enc:K->PV}{gp:α->PV}{d:TypeDesc}(hk:dV enc d){x y:Operand}{t:TypeId}{z:PV}{ms:List (K×α)}{n:K}(a0:α)(ho:o.op= .lookup t x y false)(hx:ev T x=some (.p (mF enc gp ms)))(hy:ev T y=some (.p (enc n)))
    (ht:pg P t=some (d,z))(hz:z=gp a0):aa P N o T H (.p (gp ((cQ n ms).getD a0))) H:=by
 have h:=aa.B3 (P:=P) (N:=N) (H:=H) hk (gp:=gp) ho hx hy ht
 have e:BA z false ((cQ n ms).map fun a=>V.p (gp a))= .p (gp ((cQ n ms).getD a0)):=by
  unfold BA
  cases cQ n ms with
  | none=>simp[hz]
  | some a=>rfl
 rw[e] at h
 exact h
end
open Go
theorem uK{w:World}{I:Nat->Prop}(k:IntKind)(b:Nat):∀(ns:List Int) (o:Nat),(∀ i n,ns[i]? =some n->w.cell? ⟨b,o+i,none⟩=some (.int k n))->aY w I (ns.map (PV.int k)) b o
 | [],o,_=>trivial
 | n::ns,o,h=>⟨⟨.int k n,h 0 n rfl,rfl⟩,uK k b ns (o+1) fun i m hm=>by
  have:=h (i+1) m (by simpa using hm)
  rwa [show o+1+i=o+(i+1) by omega]⟩
theorem lP{P:Program}{W:World}{nm:String}{g t e n:Nat}{k:IntKind}{ns:List Int}{d:DataW Unit}{rest:List (String×DataW Unit)}{ps:List MemPlace}(hd:d= .agg (ns.map fun n=> .lit (.int k n)))(hg:P.globalNamed nm=some g)(ht:(P.globals[g]?).map (·.type)=some t)
    (hu:P.underlying t=some (.array n e))(hue:P.underlying e=some (.int k))(hc:P.cellsOf e=1)(hct:P.cellsOf t=n)(hn:ns.length=n)(h0:0<n)(h:DataW.LaidVars P W ((nm,d)::rest) ps):
    (g<W.heap.size∧aY W (fun b=>b<W.heap.size) (ns.map (PV.int k)) g 0∧∃ arr e fr,W.heap[g]? =some (.cells arr e fr)∧arr.size=(ns.map (PV.int k)).length)∧∃ q,DataW.LaidVars P W rest q:=by
 obtain⟨g0,t0,cs0,f0,p0,q0,Uv,ht0,Hf,hd0,hr,_⟩:=h
 obtain rfl:=ZB (hg.symm.trans Uv)
 obtain rfl:=ZB (ht.symm.trans ht0)
 obtain⟨xs,m1,rfl,hx1,hlen,hxn,hel⟩:=DataW.trod_array hu hd0
 simp only[Prod.mk.injEq] at hx1
 have hx2:=hx1.1
 rw[hd] at hx2
 have hx3:(ns.map fun n=>DataW.lit (.int k n))=xs.map (·.1):=by injection hx2
 have key:∀ i m,ns[i]? =some m->W.cell? ⟨g,0+i,none⟩=some (.int k m):=fun i m hm=>by
  have hi:i<n:=by rw[<- hn];exact(Za.1 hm).1
  have h1:=hel i hi
  obtain⟨y,hy⟩:∃ y,xs[i]? =some y:=⟨xs[i]'(by rw[hxn];exact hi),Zb _⟩
  rw[hy,hc,Ig] at h1
  obtain⟨r,e1,e2,_⟩:=DataW.trod_int hue h1
  have e3:(xs.map (·.1))[i]? =some y.1:=by rw[Zt,hy];rfl
  rw[<- hx3,Zt,hm] at e3
  simp only[QA,Yr] at e3
  rw[e2] at e3
  have e4:m=r:=by simpa using e3
  subst e4
  rw[tZ,World.var?_cell hg Hf i]
  have e5:(cs0.toList.drop i)[0]? =some (.int k m):=by
   have:((cs0.toList.drop i).take 1)[0]? =some (.int k m):=by rw[e1];rfl
   rwa [Rv (by omega)] at this
  rw[Rd,Il] at e5
  simpa using e5
 have hcell:∃ e fr,W.heap[g]? =some (.cells cs0 e fr):=by
  unfold World.var? at Hf
  rw[hg] at Hf
  simp only[Option.bind_some] at Hf
  split at Hf
  ·rename_i cs e fr hh
   cases Hf
   exact⟨e,fr,hh⟩
  ·cases Hf
 obtain⟨e1,fr,hh⟩:=hcell
 refine⟨⟨(ZO.1 hh).1,uK k g ns 0 key,cs0,e1,fr,hh,?_⟩,q0,hr⟩
 rw[Zr,hn,<- hct,<- hlen,CZ]
def lC:List ak->List Nat->List ak->List ak
 | H,k::ks,x::xs=>lC (H.set k x) ks xs
 | H,_,_=>H
theorem cS:∀(ks:List Nat) (xs:List ak) (H:List ak),(lC H ks xs).length=H.length
 | [],xs,H=>by cases xs <;> rfl
 | k::ks,[],H=>rfl
 | k::ks,x::xs,H=>by rw[lC,cS ks xs,yl]
theorem lH:∀(ks:List Nat) (xs:List ak) (H:List ak) (i:Nat) (blk:ak),ks.Nodup->xs.length=ks.length->(lC H ks xs)[i]? =some blk->(∃ j:Nat,ks[j]? =some i∧xs[j]? =some blk)∨(i∉ks∧H[i]? =some blk)
 | [],xs,H,i,blk,_,_,h=>by
  have:lC H [] xs=H:=by cases xs <;> rfl
  rw[this] at h
  exact .inr ⟨by simp,h⟩
 | k::ks,[],H,i,blk,_,hl,h=>by simp at hl
 | k::ks,x::xs,H,i,blk,hn,hl,h=>by
  rw[ZF] at hn
  rw[lC] at h
  rcases lH ks xs _ i blk hn.2 (by simpa using hl) h with⟨j,h1,h2⟩ | ⟨h1,h2⟩
  ·exact .inl ⟨j+1,by simpa using h1,by simpa using h2⟩
  ·by_cases e:k=i
   ·subst e
    rw[Zu] at h2
    simp only[if_true] at h2
    split at h2
    ·exact .inl ⟨0,rfl,h2⟩
    ·cases h2
   ·rw[D9 e] at h2
    exact .inr ⟨by simp[h1,Ne.symm e],h2⟩
section
variable {P:Program} {R:Option Nat} {N κ:Nat} {Q:Post} {T:Tm} {H:List ak} {o:Oper}
theorem Inv.some{w:World}{I:Nat->Prop}{ρ:List Nat}(hi:Inv P w I ρ H)(ks:List Nat)(hlt:∀ i∈ks,i<H.length)(hk3:ks.Nodup):
    (∀ j i:Nat,ks[j]? =Option.some i->(ks.map fun i=>ρ.getD i 0)[j]? =ρ[i]?)∧Inv P w I (ks.map fun i=>ρ.getD i 0) (ks.map fun i=>aM (pl ks) (H.getD i .dead)):=by
 have rT:∀ j i:Nat,ks[j]? =Option.some i->(ks.map fun i=>ρ.getD i 0)[j]? =ρ[i]? :=fun j i h=>by
  exact Sn
 have hσ:∀ i j b:Nat,pl ks i=Option.some j->ρ[i]? =Option.some b->(ks.map fun i=>ρ.getD i 0)[j]? =Option.some b:=fun i j b h hb=>by rw[rT j i (y6 h)];exact hb
 have fD:∀(j b:Nat) (blk:ak),(ks.map fun i=>ρ.getD i 0)[j]? =Option.some b->(ks.map fun i=>aM (pl ks) (H.getD i .dead))[j]? =Option.some blk->∃ i x,ks[j]? =Option.some i∧ρ[i]? =Option.some b∧H[i]? =Option.some x∧blk=aM (pl ks) x:=by
  exact Sl
 refine⟨rT,⟨by simp,fun j b blk h1 h2 h3=> ?_,hi.ib,fun j b blk h1 h2 h3=> ?_,fun i j b x y h1 h2 h3 h4 h5 h6=> ?_,fun j b blk h1 h2=> ?_,hi.gl⟩⟩
 ·exact ac0
 ·exact aa3
 ·exact Ul
 ·exact SD
theorem aq.WA(d:Nat)(ks:List Nat){ops:Array Oper}{rest:List Oper}{f:Operand}{xs:Array Operand}{ts:Array TypeId}{fv:V}{vs all:List V}{g:FuncId}{Qr:V->List ak->Prop}(hp:aE P g (bE (pl ks) all) (ks.map fun i=>aM (pl ks) (H.getD i .dead)) Qr)(hlen:∀ v H',Qr v H'->H'.length=ks.length)
    (hks:(ks.all (fun i=>Nat.blt i H.length)&&decide ks.Nodup)=true)(e9:(ks.all fun i=>(H.getD i .dead).live)=true)(ho:o.op= .call {callee:= .value f,args:=xs,argTypes:=ts})(hd:o.dst=some d)(hN:bC N (some d)=true)(hgd:o.guard=none)(hf:ev T f=some fv)
    (hxs:lG T xs.toList=some vs)(hc:callee vs fv=some (g,all))(hg:an P g=true)(next:∀ v H',Qr v H'->aq P R N κ ops rest Q ((d,aZ (fun j=>ks[j]?) v)::T) (lC H ks (H'.map (aM fun j=>ks[j]?)))):aq P R N κ ops (o::rest) Q T H:=by
 intro QX B w I ρ a hi ht hm hq
 refine wpListIn_plain hgd fun K hK=> ?_
 refine⟨bQ,?_⟩
 rw[bT _ _ _ (by simp[ho])]
 obtain⟨us,h1,h2⟩:=ep ho ht hf hxs hc hg
 rw[h2]
 refine⟨(fun h=>by cases h),?_⟩
 simp only[Zo,ZC,Zl] at hks e9
 have hlt:∀ i∈ks,i<H.length:=fun i h=>by have:=hks.1 i h;simpa[Nat.blt,ZA] using this
 obtain⟨rT,rU⟩:=hi.some ks hlt hks.2
 have hσ:∀ i j b:Nat,pl ks i=some j->ρ[i]? =some b->(ks.map fun i=>ρ.getD i 0)[j]? =some b:=fun i j b h hb=>by rw[rT j i (y6 h)];exact hb
 refine CallsIn.mono (cK R (hp w I _ us rU (fm hσ all us h1))) ?_
 rintro e w' ⟨u,v',J,σ,H2,rfl,hQ,h3,h4,h5⟩
 have ug:=hlen _ _ hQ
 obtain rfl:(ks.map fun i=>ρ.getD i 0)=σ:=h3.pre.eq_of_length (by rw[Zr,h4.len,ug])
 have hσ':∀ i j b:Nat,(fun j=>ks[j]?) i=some j->(ks.map fun i=>ρ.getD i 0)[i]? =some b->ρ[j]? =some b:=fun i j b h hb=>by rw[<- rT i j h];exact hb
 have hin:∀ b,b∈(ks.map fun i=>ρ.getD i 0)->∃ j i:Nat,ks[j]? =some i∧ρ[i]? =some b:=fun b hb=>by
  obtain⟨j,hj,e⟩:=OX hb
  have Eg:j<ks.length:=by simpa using hj
  refine⟨j,ks[j],Zb Eg,?_⟩
  rw[<- rT j ks[j] (Zb Eg),<- e]
  exact Zb hj
 have hmem:∀ b,b∈(ks.map fun i=>ρ.getD i 0)->b∈ρ:=fun b hb=>by
  obtain⟨j,i,_,h⟩:=hin b hb
  exact Zi h
 have Vi:∀ j i:Nat,ks[j]? =some i->∃ x,H[i]? =some x∧x.live=true:=fun j i h=>by
  have hi2:=hlt i (Zi h)
  refine⟨H[i],Zb hi2,?_⟩
  have:=e9 i (Zi h)
  rwa [Zh,Zb hi2] at this
 -- what an own block that is at none of the places has, stays
 have hout:∀(i b:Nat) (x:ak),ρ[i]? =some b->H[i]? =some x->x.live=true->i∉ks->b∉(ks.map fun i=>ρ.getD i 0):=fun i b x g1 g2 g3 g4 hb=>by
  obtain⟨j,i2,k1,k2⟩:=hin b hb
  obtain⟨y,k3,k4⟩:=Vi j i2 k1
  have:=hi.gJ i i2 b x y g1 k2 g2 k3 g3 k4
  subst this
  exact g4 (Zi k1)
 have hE:Ext w I ρ w' J ρ:=⟨⟨h3.w.os,h3.w.tape,h3.w.output,h3.w.size,fun b g1 g2=>h3.w.keep b g1 fun h=>g2 (hmem b h),h3.w.shape,h3.w.mB,h3.w.bu,fun b h=>by
  rcases h3.w.fk b h with h | h | h
  ·exact .inl h
  ·exact .inr (.inl (hmem b h))
  ·exact .inr (.inr h),h3.w.cL,h3.w.kX,fun b h=> .inl h⟩,ZG _⟩
 have fD:∀(i:Nat) (blk:ak),(lC H ks (H2.map (aM fun j=>ks[j]?)))[i]? =some blk->(∃(j:Nat) (x:ak),ks[j]? =some i∧H2[j]? =some x∧blk=aM (fun j=>ks[j]?) x)∨(i∉ks∧H[i]? =some blk):=fun i blk h=>by
  rcases lH ks _ H i blk hks.2 (by rw[Zr,ug]) h with⟨j,g1,g2⟩ | g
  ·rw[Zt,Zm] at g2
   obtain⟨x,g3,rfl⟩:=g2
   exact .inl ⟨j,x,g1,g3,rfl⟩
  ·exact .inr g
 have hI:Inv P w' J ρ (lC H ks (H2.map (aM fun j=>ks[j]?))):=by
  refine⟨by rw[cS,hi.len],fun i b blk g1 g2 g3=> ?_,h4.ib,fun i b blk g1 g2 g3=> ?_,fun i i' b x y g1 g2 g3 g4 g5 g6=> ?_,fun i b blk g1 g2=> ?_,h4.gl⟩
  ·rcases fD i blk g2 with⟨j,x,k1,k2,rfl⟩ | ⟨k1,k2⟩
   ·exact h4.iq j b x (by rw[rT j i k1];exact g1) k2 (by rwa [cC] at g3)
   ·exact QW
  ·rcases fD i blk g2 with⟨j,x,k1,k2,rfl⟩ | ⟨k1,k2⟩
   ·exact h4.live j b x (by rw[rT j i k1];exact g1) k2 (by rwa [cC] at g3)
   ·intro hJ
    rcases h3.w.fk b hJ with h | h | h
    ·exact hi.live i b blk g1 k2 g3 h
    ·exact hout i b blk g1 k2 g3 k1 h
    ·have:=hi.iq i b blk g1 k2 g3;omega
  ·rcases fD i x g3 with⟨j,x',k1,k2,rfl⟩ | ⟨k1,k2⟩ <;> rcases fD i' y g4 with⟨j',y',m1,m2,rfl⟩ | ⟨m1,m2⟩
   ·rw[cC] at g5 g6
    have:=h4.gJ j j' b x' y' (by rw[rT j i k1];exact g1) (by rw[rT j' i' m1];exact g2) k2 m2 g5 g6
    subst this
    rw[k1] at m1
    exact ZB m1
   ·exact absurd (Zi (by rw[rT j i k1];exact g1)) (hout i' b y g2 m2 g6 m1)
   ·exact absurd (Zi (by rw[rT j' i' m1];exact g2)) (hout i b x g1 k2 g5 k1)
   ·exact hi.gJ i i' b x y g1 g2 k2 m2 g5 g6
  ·rcases fD i blk g2 with⟨j,x,k1,k2,rfl⟩ | ⟨k1,k2⟩
   ·exact kr hσ' (h4.rel j b x (by rw[rT j i k1];exact g1) k2)
   ·cases hlv:blk.live with
    | false=>exact dz.ie hlv
    | true=>exact dz.mono h3.w.mB h3.w.bu (ZG _) (fun b _ s hs=>h3.w.shape b s hs) (h3.w.keep b (hi.iq i b blk g1 k2 hlv) (hout i b blk g1 k2 hlv k1)) (hi.rel i b blk g1 k2)
 refine hK _ _ ?_
 refine next v' H2 hQ QX B w' J ρ (a.put o.dst u) hI (by rw[hd];exact(ht.ext hE).put hN (fU hσ' v' u h5)) ((hm.ext hE).put) fun e a2 w2 q=>hq e a2 w2 (QC.ext hE.w q)
theorem aC.toEnd{c:Code}(h:aC P R N κ c (AX.then (fun T' H'=>∃ T2 H2,To P κ N T' H' T2 H2∧Q .normal T2 H2) Q) T H):aC P R N κ c Q T H:=by
 intro B w I ρ a hi ht hm
 refine wpIn_mono (h B w I ρ a hi ht hm) ?_
 rintro e a' w' ⟨z,J,σ,T1,H1,h1,h2,h3,h4,h5,h6⟩
 cases z <;> cases e <;> first | exact h1.elim | skip
 ·obtain⟨T2,H2,k1,k2⟩:=h2
  obtain⟨I',ρ',g1,g2,g3,g4⟩:=k1 w' J σ a'.tmps h4 h5
  exact⟨.normal,I',ρ',T2,H2,trivial,k2,h3.trans g1,g2,g3,h6.to g1 g4⟩
 all_goals exact⟨_,J,σ,T1,H1,h1,h2,h3,h4,h5,h6⟩
theorem aC.DF{g:Operand}{ps:Array Tmp}{gX body:Code}{fv:V}{f:FuncId}{mk:V->List V}{xs:List (List V)}(κ2:Nat)(hg:ev T g=some fv)(hc:∀ y,callee [y] fv=some (f,mk y))(hf:an P f=true)(zV:LA P f mk xs)
    (hκ:κ<=κ2)(Ui:κ2<=H.length)(hR:∀ l0,R=some l0->∃(i:Nat) (r0:uf) (st:LoopState) (pe:Option Code),r0.l=l0∧H[i]? =some (.loop r0 st pe))(hps:∀ x∈xs,x.length=ps.size)(hlt:ps.toList.all (fun p=>Nat.blt p N)=true)
    (J:List ak->Nat->List ak->Prop)(Jx:List ak->Code->List ak->Prop)(hJ:∀ k h,J H k h->h.length=H.length)(Ii:∀ c h,Jx H c h->h.length=H.length)(h0:J H 0 H)
    (round:∀ l tmps k h x,J H k h->xs[k]? =some x->Round P N κ2 ⟨l,tmps,T,ps,gX,body⟩ k H.length (J H) (Jx H) (nt T ps.toList x) (h++[.loop ⟨l,tmps,T,ps,gX,body⟩ .ready none]))
    (done:∀ h,J H xs.length h->Q .normal T (h++[.dead]))(stop:∀ c h,Jx H c h->aC P R N κ c Q T (h++[.dead])):aC P R N κ (.rangeFunc g ps gX body) Q T H:=
 aC.rangeFunc κ2 hg hc hf zV hκ Ui hR hps hlt (J H) (Jx H) hJ Ii h0 round done stop
end
def below(n i:Nat):Option Nat:=if Nat.blt i n then some i else none
def Xn(P:Program)(h:List ak):Prop:=∀ blk∈h,∀(w:World) (I:Nat->Prop) (ρ:List Nat) (b:Nat),dz P w I ρ blk b->dz P w I (ρ.take h.length) blk b
section
variable {P:Program} {w w2:World} {I I2:Nat->Prop} {ρ ρ2:List Nat}
theorem u9{l:List Nat}{n i b:Nat}(hi:i<n)(h:l[i]? =some b):(l.take n)[i]? =some b:=by rw[Rv hi];exact h
end
section
variable {P:Program} {R:Option Nat} {N:Nat} {Q Q':Post} {T T' T2 T3:Tm} {H H' H2 H3:List ak} {o:Oper} {ops:Array Oper} {rest:List Oper}
end
section
variable {P:Program} {R:Option Nat} {N κ:Nat} {Q:Post} {T:Tm} {H H2:List ak} {o:Oper}
end
section
variable {P:Program} {R:Option Nat} {N κ:Nat} {Q:Post} {T:Tm} {H H2:List ak} {o:Oper}
section
variable {K α:Type} {enc:K->PV} {gp:α->PV}
end
end
section
variable {P:Program} {R:Option Nat} {N κ:Nat} {Q Q':Post} {T T' T2 T3:Tm} {H H' H2 H3:List ak} {o:Oper} {ops:Array Oper} {rest:List Oper}
end
theorem JI:∀{T:Tm} {s:Nat} {v:V},lk T s=some v->(s,v)∈T
 | [],s,v,h=>by cases h
 | (a,u)::T,s,v,h=>by
  simp only[lk] at h
  cases hb:Nat.beq a s with
  | true=>
   rw[hb] at h
   cases h
   obtain rfl:=ZL hb
   exact Zx
  | false=>
   rw[hb] at h
   exact Zk _ (JI h)
def tM(n:Nat):V->Prop
 | .p _=>True
 | .ptr j _=>j<n
 | _=>False
theorem tM.ren{n:Nat}:∀{v:V},tM n v->aZ (below n) v=v
 | .p _,_=>rfl
 | .ptr j _,h=>by
  have e:below n j=some j:=by unfold below;rw[if_pos (by simpa[Nat.blt,ZA,tM] using h)]
  simp only[aZ,e]
 | .row _ _,h=>h.elim
 | .sl _ _ _,h=>h.elim
 | .map _,h=>h.elim
 | .func _ _ _,h=>h.elim
 | .iface _ _,h=>h.elim
 | .agg _,h=>h.elim
 | .tuple _,h=>h.elim
 | .opt _ _,h=>h.elim
 | .raw _ _ _,h=>h.elim
 | .z0,h=>h.elim
 | .top,h=>h.elim
theorem tM.frz{n:Nat}{xs:List PV}:∀{v:V},tM n v->jq n xs v=v
 | .p _,_=>rfl
 | .ptr j _,h=>by
  have h':j<n:=h
  simp only[jq]
  rw[if_neg (by omega)]
 | .row _ _,h=>h.elim
 | .sl _ _ _,h=>h.elim
 | .map _,h=>h.elim
 | .func _ _ _,h=>h.elim
 | .iface _ _,h=>h.elim
 | .agg _,h=>h.elim
 | .tuple _,h=>h.elim
 | .opt _ _,h=>h.elim
 | .raw _ _ _,h=>h.elim
 | .z0,h=>h.elim
 | .top,h=>h.elim
def ow(n:Nat)(T:Tm):Tm->Prop
 | []=>True
 | (s,v)::r=>lk T s=some v∧tM n v∧ow n T r
theorem ow.mem{n:Nat}{T:Tm}:∀{T2:Tm},ow n T T2->∀ s v,(s,v)∈T2->lk T s=some v∧tM n v
 | [],_,s,v,h=>by cases h
 | (a,u)::r,h,s,v,hm=>by
  obtain⟨h1,h2,h3⟩:=h
  rcases Zv.1 hm with e | hm
  ·cases e;exact⟨h1,h2⟩
  ·exact ow.mem h3 s v hm
section
variable {P:Program} {R:Option Nat} {N κ:Nat} {Q Q':Post} {T T' T2 T3:Tm} {H H' H2 H3:List ak} {o:Oper} {ops:Array Oper} {rest:List Oper}
theorem To.acz{ext:List ak}(hw:Xn P H)(hκ:κ<=H.length)(hT:∀ s v,lk T2 s=some v->lk T s=some v∧tM H.length v):To P κ N T (H++ext) T2 H:=by
 intro w I ρ tmps hi ht
 have hρ:ρ.length=H.length+ext.length:=by rw[hi.len,Zc]
 have t1:∀(i b:Nat),(ρ.take H.length)[i]? =some b->i<H.length∧ρ[i]? =some b:=fun i b e=>by
  exact Tq
 have t2:∀(i:Nat) (blk:ak),H[i]? =some blk->(H++ext)[i]? =some blk:=fun i blk e=>by
  rw[Zd (Za.1 e).1]
  exact e
 refine⟨I,ρ.take H.length,?_,?_,⟨ht.size,fun s v hv=> ?_⟩,fun B hB hκ2=> ?_⟩
 ·exact Tc
 ·exact S4
 ·obtain⟨h1,h2⟩:=hT s v hv
  have h3:=ht.at_ s v h1
  have h4:=fU (σ:=below H.length) (ρ2:=ρ.take H.length) (fun i j b g1 g2=>by
   unfold below at g1
   split at g1
   ·rename_i g3
    cases g1
    exact u9 (by simpa[Nat.blt,ZA] using g3) g2
   ·cases g1) v _ h3
  rwa [h2.ren] at h4
 ·exact aaz
theorem To.V9{h:List ak}{xs:List PV}{vs:List V}{e:TypeId}{s:Nat}(hw:Xn P h)(hκ:κ<=h.length)(hs:lk T s=some (.ptr h.length 0))(hv:jS vs=some xs)(hT:ow h.length T T2):To P κ N T (h++[.cells vs e]) ((s,.p (.ip xs 0))::T2) h:=by
 have fD:b6 (h++[ak.cells vs e])[h.length]? =some vs:=by simp[b6]
 have h1:=To.freeze (P:=P) (κ:=κ) (N:=N) (T:=T) (H:=h++[.cells vs e]) h.length fD hv
 rw[oB] at h1
 refine h1.trans (To.acz hw hκ fun s' v NJ=> ?_)
 simp only[lk] at NJ
 rw[oF]
 cases hb:Nat.beq s s' with
 | true=>
  rw[hb] at NJ
  obtain rfl:=ZL hb
  cases NJ
  rw[hs]
  refine⟨?_,trivial⟩
  simp[jq]
 | false=>
  rw[hb] at NJ
  obtain⟨h2,h3⟩:=hT.mem s' v (JI NJ)
  rw[h2]
  exact⟨congrArg some h3.frz,h3⟩
theorem yN:∀(vs zs pre:List V),zs.length=vs.length->setAt (pre++zs) pre.length vs=pre++vs
 | [],zs,pre,h=>by
  obtain rfl:zs=[]:=ZD (by simpa using h)
  rfl
 | v::vs,[],pre,h=>by simp at h
 | v::vs,z::zs,pre,h=>by
  have ih:=yN vs zs (pre++[v]) (by simpa using h)
  simp only[setAt]
  have e:(pre++z::zs).set pre.length v=(pre++[v])++zs:=by simp
  rw[e]
  have e2:pre.length+1=(pre++[v]).length:=by simp
  rw[e2,ih]
  simp
def MR(k:Nat):V->V
 | .p x=> .p x
 | .ptr j off=>bif Nat.blt j k then .ptr j off else .top
 | _=> .top
def BU(k:Nat):Tm->Tm
 | []=>[]
 | (s,v)::r=>(s,MR k v)::BU k r
theorem Ez(k:Nat):∀(T:Tm) (s:Nat),lk (BU k T) s=(lk T s).map (MR k)
 | [],s=>rfl
 | (a,v)::r,s=>by
  simp only[BU,lk]
  cases Nat.beq a s with
  | true=>rfl
  | false=>exact Ez k r s
theorem KE{w w':World}{I I':Nat->Prop}{ρ ρ':List Nat}{k:Nat}(h:cR w I ρ w' I' ρ')(hp:ρ.take k<+:ρ'){v:V}{u:Value}(hv:aG P w I ρ v u):aG P w' I' ρ' (MR k v) u:=by
 cases v <;> first | trivial | skip
 ·exact Rel.mono h.mB h.bu _ u hv
 ·rename_i j off
  simp only[MR]
  cases hb:Nat.blt j k with
  | false=>trivial
  | true=>
   obtain⟨b,h1,h2⟩:=hv
   have hlt:j<k:=by simpa[Nat.blt,ZA] using hb
   obtain⟨t,ht⟩:=hp
   refine⟨b,?_,h2⟩
   have h3:(ρ.take k)[j]? =some b:=by rw[Rv hlt];exact h1
   rw[<- ht,Zd (Za.1 h3).1]
   exact h3
theorem bR.BU{w w':World}{I I':Nat->Prop}{ρ ρ':List Nat}{tmps:Array Value}{k:Nat}(h:cR w I ρ w' I' ρ')(hp:ρ.take k<+:ρ')(t:bR P w I ρ N T tmps):bR P w' I' ρ' N (AF.BU k T) tmps:=
 ⟨t.size,fun s v hv=>by
  rw[Ez,Zm] at hv
  obtain⟨v0,h1,rfl⟩:=hv
  exact KE h hp (t.at_ s v0 h1)⟩
end
section
variable {P:Program} {R:Option Nat} {N κ:Nat} {Q Q':Post} {T T' T2 T3:Tm} {H H' H2 H3:List ak} {o:Oper} {ops:Array Oper} {rest:List Oper}
theorem aa.Pm{x y:Operand}{t t2 e:TypeId}{z:List PV}{i len n:Nat}{cs ys:List V}{yv:V}(ho:o.op= .call {callee:= .builtin .copy,args:= #[x,y],argTypes:= #[t,t2]})(hx:ev T x=some (.row i len))(hy:ev T y=some yv)(hs:nL P t=some (e,z))
    (hH:H[i]? =some (.row cs e))(hsrc:ql H z.length yv=some (ys,n))(hn:n<=len)(hcl:ys.length<=cs.length)(hone:ys.all jT=true):aa P N o T H (.p (.int .i64 (n:Int))) (H.set i (.row (setAt cs 0 ys) e)):=
 aa.dZ (by simp[ho]) fun w I ρ a hi hT=>by
  obtain⟨hu,⟨bb,nj⟩,wW,hz⟩:=fC hs
  obtain⟨b,e',cap,hρ,C6,hsh,hle⟩:=hT.ev hx
  obtain⟨us,⟨ad,vU,Au⟩,_,hfc,cT,hlen⟩:=lO hi (hT.ev hy) hsrc
  obtain⟨arr,hw,hal,har⟩:=hi.rel i b _ hρ hH
  have hun:∀ u∈us,zk u=true:=zN cT hone
  have xm:=aj.length cT
  have abL:=aj.length har
  have e9:(ak.row cs e).live=true:=rfl
  have hf:=hfc n (Zg _)
  rw[<- hlen,ZT] at hf
  have hsz:us.length<=arr.size:=by
   have:cs.length<=arr.size:=by
    rw[<- abL,zC,CZ]
    exact Nat.min_le_right _ _
   omega
  obtain⟨w',dK,r1,r2,r3,r4,r5,r6,r7,r8,r9⟩:=fJ (P:=P) (w:=w) us arr w 0 0 hw (by omega) hun
  have hE:Ext w I ρ w' I ρ:=Ext.write hi hρ hH e9 r5 r6 r7 r8 r9 (fun s h=>by
   simp only[World.shape?,hw] at h
   simp only[World.shape?,r2,r3]
   exact h)
  have vf:aj P w' I ρ (setAt cs 0 ys) (dK.toList.take cs.length):=by
   rw[r4]
   exact kU ys us cs arr.toList (0+0) (aj.ext hE cT) (by omega) (aj.ext hE har)
  refine⟨.int .i64 n,w',I,ρ,.inl ?_,hE,Inv.write hi hρ hH e9 hE r8 r9 ?_,by simp[aG,Rel]⟩
  ·have hmin:Nat.min n len=n:=Hl hn
   have hlo:(Builtin.lenOf (.slice ad n vU)).run P w= .ok n w:=by simp[Builtin.lenOf]
   rw[Au] at hf
   simp[execOp,ho,resolve,Go.invoke,Go.builtin,Builtin.copy_,run_underlying hu,C6,aS nj,Au,hlo,hmin,hf,r1,goInt]
  ·refine⟨dK,r2,?_,?_⟩
   ·rw[gH,r3]
    exact hal
   ·rw[gH]
    exact vf
end
section
variable {P:Program} {w:World} {I:Nat->Prop} {ρ:List Nat}
end
end Go.AF
end
