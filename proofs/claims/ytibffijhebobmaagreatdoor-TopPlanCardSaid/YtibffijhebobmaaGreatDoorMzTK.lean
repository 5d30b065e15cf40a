/-
 Chapter 4, the program: the states that Plan remembers, as keys of a map.
 Chapter 4: the best plan, as plain data: what Plan finds, that it can be followed, and that there is none if it finds none. No program in sight.
 Chapter 4, the program: Plan, its small functions.
 Chapter 4: bounds of what Plan reckons with; the best of the first dies. No program in sight.
 Chapter 15: marks: lines that are not mark, back or keep leave them; a mark and what goes back to it. No program in sight.
 Chapter 15: marks that are counted; what is entered behind a mark, and back to it. No program in sight.
 Chapter 15: lines that are made of a word and numbers are read as these; words between blanks. No program in sight.
 The laws across chapters: lines as texts.
 Across chapters 1 and 15: sacks that are entered, leads that are made of two of them, and what they come from. No program in sight.
 Chapter 15: a line that is refused, and a question, changes nothing. No program in sight.
 Chapter 15: what a line that is not refused adds; refused lines. No program in sight.
 Chapter 15: what more of the library's texts do at this program: a text within a text, what is behind a prefix, numbers that are read, words between blanks.
 The helper of MasterBack and MasterRefused: how many marks there are.
-/
import Derived.Test.YtibffijhebobmaaGreatDoorFaTF
import Derived.Test.YtibffijhebobmaaGreatDoorMzTD
import Derived.Test.YtibffijhebobmaaGreatDoorChecked
import Derived.Test.YtibffijhebobmaaGreatDoorMzTP
import Derived.Test.YtibffijhebobmaaGreatDoorMzTF
import Derived.Test.YtibffijhebobmaaGreatDoorMzTG
import Derived.Test.YtibffijhebobmaaGreatDoorMzTJ
import Derived.Lib.Fields
import Derived.Test.YtibffijhebobmaaGreatDoorMzTI
import Derived.Test.YtibffijhebobmaaGreatDoorMzTC
import Derived.Lib.IndexMore
import Derived.Test.YtibffijhebobmaaGreatDoorMzTA
import Derived.Lib.AtoiErrMem
import Derived.Test.YtibffijhebobmaaGreatDoorMzTZ
theorem BQ{A:Prop}(h:A:=by
 iterate 2 refine af ?_
 refine Fin.fQ rfl ⟨_,_,_,rfl,an,rfl⟩ ?_
 first | rw[if_pos hlt] | rw[if_neg hlt]
 rfl):A:=h
set_option linter.unusedSimpArgs false
set_option linter.unusedVariables false
section
set_option maxRecDepth 100000
namespace Go.Proofs.YtibffijhebobmaaGreatDoor.Di
open Go Go.AF
structure dK where
 draw:Int
 last:Int
 u0:Int
 u1:Int
 u2:Int
 u3:Int
 deriving DecidableEq
def dK.cells(s:dK):List PV:=[.int .i64 s.draw,.int .i64 s.last,.int .i64 s.u0,.int .i64 s.u1,.int .i64 s.u2,.int .i64 s.u3]
def ja(s:dK):PV:= .agg s.cells
def dK.us(s:dK):List Value:=[.int .i64 s.draw,.int .i64 s.last,.int .i64 s.u0,.int .i64 s.u1,.int .i64 s.u2,.int .i64 s.u3]
theorem SY:eqTy Tryz.prog 3 132=some [.int .i64,.int .i64,.int .i64,.int .i64,.int .i64,.int .i64]:=by kernel_rfl
theorem tyS:fc Tryz.prog 132=some (true,6):=by kernel_rfl
theorem aa4(a b:dK):ie [.int .i64,.int .i64,.int .i64,.int .i64,.int .i64,.int .i64] a.us b.us=some (decide (a=b)):=by
 have e:ie [.int .i64,.int .i64,.int .i64,.int .i64,.int .i64,.int .i64] a.us b.us=some (decide (a.draw=b.draw)&&(decide (a.last=b.last)&&(decide (a.u0=b.u0)&&(decide (a.u1=b.u1)&&(decide (a.u2=b.u2)&&(decide (a.u3=b.u3)&&true)))))):=by
  simp[ie,FN,dK.us]
  rfl
 rw[e]
 congr 1
 rw[Bool.eq_iff_iff]
 simp only[Zn,Zq,and_true]
 cases a;cases b
 simp
def dK.val(s:dK):Value:= .agg s.us.toArray
def isStr:Option TypeDesc->Bool
 | some (.struct _)=>true
 | _=>false
theorem aaJ:isStr (Tryz.prog.underlying 132)=true:=by kernel_rfl
theorem XJ:ER Tryz.prog ja 132 dK.val where
 rel w I a u:=by
  constructor
  ·intro h
   obtain⟨us,rfl,h⟩:=h
   have e:us.toList=a.us:=by
    obtain⟨u0,s0,e0,k0,u1,s1,rfl,k1,u2,s2,rfl,k2,u3,s3,rfl,k3,u4,s4,rfl,k4,u5,s5,rfl,k5,k6⟩:=h
    have k6:s5=[]:=k6
    have k0:u0= .int .i64 a.draw:=k0
    have k1:u1= .int .i64 a.last:=k1
    have k2:u2= .int .i64 a.u0:=k2
    have k3:u3= .int .i64 a.u1:=k3
    have k4:u4= .int .i64 a.u2:=k4
    have k5:u5= .int .i64 a.u3:=k5
    rw[e0,k0,k1,k2,k3,k4,k5,k6]
    rfl
   show Value.agg us=Value.agg a.us.toArray
   rw[<- e,Array.toArray_toList]
  ·rintro rfl
   exact⟨_,rfl,_,_,rfl,rfl,_,_,rfl,rfl,_,_,rfl,rfl,_,_,rfl,rfl,_,_,rfl,rfl,_,_,rfl,rfl,rfl⟩
 und:=by
  have h:=aaJ
  cases e: Tryz.prog.underlying 132 with
  | none=>rw[e] at h;cases h
  | some d=>
   rw[e] at h
   cases d <;> first | exact⟨_,rfl,fun a v=>by unfold dK.val;cases v <;> rfl⟩ | cases h
 same w a b:=by
  have h:=rq (P:= Tryz.prog) (w:=w) 3 132 _ true 6 SY tyS rfl (fun h=>by cases h) 9997 a.us b.us _ (aa4 a b)
  exact h
 check b w a:=jt (P:= Tryz.prog) (w:=w) b 3 132 _ true 6 SY tyS rfl 9997 a.us rfl
 bits a:=by simp[Instr.sameBits,dK.us,dK.val]
def dK.used(s:dK)(i:Nat):Int:=match i with
 | 0=>s.u0
 | 1=>s.u1
 | 2=>s.u2
 | 3=>s.u3
 | _=>0
def dK.next(s:dK)(i:Nat)(n:Int):dK:=match i with
 | 0=>{s with draw:=s.draw+1,last:=0,u0:=s.u0+n}
 | 1=>{s with draw:=s.draw+1,last:=1,u1:=s.u1+n}
 | 2=>{s with draw:=s.draw+1,last:=2,u2:=s.u2+n}
 | 3=>{s with draw:=s.draw+1,last:=3,u3:=s.u3+n}
 | _=>s
theorem yV{s:dK}{i j:Nat}{n:Int}(hi:i<4):(s.next i n).used j=if i=j then s.used j+n else s.used j:=by
 match i,hi with
 | 0,_=>match j with
   | 0=>rfl
   | 1=>rfl
   | 2=>rfl
   | 3=>rfl
   | j+4=>rfl
 | 1,_=>match j with
   | 0=>rfl
   | 1=>rfl
   | 2=>rfl
   | 3=>rfl
   | j+4=>rfl
 | 2,_=>match j with
   | 0=>rfl
   | 1=>rfl
   | 2=>rfl
   | 3=>rfl
   | j+4=>rfl
 | 3,_=>match j with
   | 0=>rfl
   | 1=>rfl
   | 2=>rfl
   | 3=>rfl
   | j+4=>rfl
structure kj where
 plan:List Int
 cost:Int
 is:Bool
def dj(p:bn)(s:dK)(r:kj)(i:Nat):kj:=⟨(i:Int)::r.plan,r.cost+i+(if s.last≠ -1∧s.last≠i then p.change else 0),true⟩
def nP(best own:kj):kj:=if best.is=true then(if own.cost<best.cost then own else best) else own
def jE(p:bn)(s:dK)(w:aH)(go:dK->kj)(best:kj)(i:Nat):kj:=
 if nX p (gt dw.d p.dies i) (s.used i) w=true∧(go (s.next i w.len)).is=true then nP best (dj p s (go (s.next i w.len)) i) else best
def c7(p:bn):List aH->dK->kj
 | [],s=>⟨[],0,true⟩
 | w::l,s=>(List.range p.dies.length).foldl (jE p s w (c7 p l)) ⟨[],0,false⟩
def Qj(p:bn):List aH->dK->List Int->Prop
 | [],_,pl=>pl=[]
 | w::l,s,pl=>∃(i:Nat) (r:List Int),pl=(i:Int)::r∧i<p.dies.length∧nX p (gt dw.d p.dies i) (s.used i) w=true∧Qj p l (s.next i w.len) r
theorem O3{b o:kj}(ho:o.is=true):(nP b o).is=true∧(nP b o=b∧b.is=true∨nP b o=o):=by
 unfold nP
 split
 ·rename_i h
  split
  ·exact⟨ho,.inr rfl⟩
  ·exact⟨h,.inl ⟨rfl,h⟩⟩
 ·exact⟨ho,.inr rfl⟩
theorem AU(p:bn)(s:dK)(w:aH)(go:dK->kj):∀ n:Nat,let R:=(List.range n).foldl (jE p s w go) ⟨[],0,false⟩
    (R.is=true->∃ i,i<n∧nX p (gt dw.d p.dies i) (s.used i) w=true∧(go (s.next i w.len)).is=true∧R.plan=(i:Int)::(go (s.next i w.len)).plan)∧
    (∀ i,i<n->nX p (gt dw.d p.dies i) (s.used i) w=true->(go (s.next i w.len)).is=true->R.is=true)
 | 0=>⟨fun h=>(by cases h),fun i hi=>absurd hi (Nat.not_lt_zero i)⟩
 | n+1=>by
  have ih:=AU p s w go n
  dsimp only at ih ⊢
  rw[YS,Li,Q9,List.foldl_nil]
  generalize (List.range n).foldl (jE p s w go) ⟨[],0,false⟩=B at ih ⊢
  obtain⟨h1,h2⟩:=ih
  unfold jE
  split
  ·rename_i hc
   obtain⟨k1,k2⟩:=O3 (b:=B) (o:=dj p s (go (s.next n w.len)) n) rfl
   refine⟨fun _=> ?_,fun _ _ _ _=>k1⟩
   rcases k2 with⟨e,hb⟩ | e
   ·rw[e]
    obtain⟨i,a,b,c,d⟩:=h1 hb
    exact⟨i,by omega,b,c,d⟩
   ·rw[e]
    exact⟨n,by omega,hc.1,hc.2,rfl⟩
  ·rename_i hc
   refine⟨fun h=> ?_,fun i hi hd hg=> ?_⟩
   ·obtain⟨i,a,b,c,d⟩:=h1 h
    exact⟨i,by omega,b,c,d⟩
   ·rcases Md.1 hi with h | rfl
    ·exact h2 i h hd hg
    ·exact absurd ⟨hd,hg⟩ hc
theorem ny(p:bn):∀(l:List aH) (s:dK),(c7 p l s).is=true->Qj p l s (c7 p l s).plan
 | [],s,_=>rfl
 | w::l,s,h=>by
  obtain⟨i,hi,hd,hg,e⟩:=(AU p s w (c7 p l) p.dies.length).1 h
  exact⟨i,_,e,hi,hd,ny p l _ hg⟩
theorem It(p:bn):∀(l:List aH) (s:dK) (pl:List Int),Qj p l s pl->(c7 p l s).is=true
 | [],s,_,_=>rfl
 | w::l,s,pl,⟨i,r,_,hi,hd,h⟩=>(AU p s w (c7 p l) p.dies.length).2 i hi hd (It p l _ r h)
theorem Oy(p:bn):∀(l:List aH) (s:dK) (pl:List Int),Qj p l s pl->pl.length=l.length
 | [],s,pl,h=>by rw[show pl=[] from h];rfl
 | w::l,s,pl,⟨i,r,e,_,_,h⟩=>by rw[e,Zm,Zm,Oy p l _ r h]
theorem Gx{p:bn}(h4:p.dies.length<=4){plan:List Int}:∀(l:List aH) (i:Nat) (u:List Int) (s:dK),u.length=p.dies.length->(∀ j,j<p.dies.length->gt 0 u j=s.used j)->plan.length=i+l.length->
    ((∃ v,eX p plan i u l=(some v,((i+l.length:Nat):Int),0))↔Qj p l s (plan.drop i))
 | [],i,u,s,hu,hs,hl=>by
  have e:plan.drop i=[]:=List.drop_eq_nil_of_le (by rw[hl];exact Zf _)
  rw[e]
  refine⟨fun _=>rfl,fun _=>⟨u,?_⟩⟩
  have hl':plan.length=i:=hl
  unfold eX
  rw[if_neg (by omega)]
  rfl
 | w::l,i,u,s,hu,hs,hl=>by
  rw[Zm] at hl
  have hi:i<plan.length:=by omega
  have ed:plan.drop i=gt 0 plan i::plan.drop (i+1):=by rw[Uu hi,aC 0 i hi]
  have key:∀ j,j<p.dies.length->∀ k,k<p.dies.length->gt 0 (u.set j (gt 0 u j+w.len)) k=(s.next j w.len).used k:=fun j hj k hk=>by
   rw[yV (by omega)]
   unfold gt
   rw[Ze,Zv]
   by_cases e:j=k
   ·subst e
    rw[if_pos rfl,if_pos (by omega),if_pos rfl]
    have:=hs j hj
    unfold gt at this
    show u.getD j 0+_=_
    rw[this]
   ·rw[if_neg e,if_neg e]
    have:=hs k hk
    unfold gt at this
    rw[<- Ze,this]
  unfold eX
  rw[if_neg (by omega)]
  constructor
  ·intro hf
   split at hf
   ·obtain⟨v,h⟩:=hf;cases h
   ·rename_i h2
    have hB:=fq (by simpa using h2:iq (gt 0 plan i) 0 ((p.dies.length:Int) - 1)=true)
    obtain⟨j,ej⟩:∃ j:Nat,gt 0 plan i=(j:Int):=⟨(gt 0 plan i).toNat,by omega⟩
    rw[ej,AD] at hf
    have hj:j<p.dies.length:=by omega
    split at hf
    ·obtain⟨v,h⟩:=hf;cases h
    ·rename_i h3
     rw[ed,ej]
     refine⟨j,_,rfl,hj,by rw[<- hs j hj];simpa using h3,?_⟩
     refine(Gx (plan:=plan) h4 l (i+1) _ (s.next j w.len) (by rw[ZZ];exact hu) (key j hj) (by omega)).1 ?_
     rw[show i+1+l.length=i+(l.length+1) by omega]
     exact hf
  ·rintro⟨j,r,e,hj,hd,ho⟩
   rw[ed] at e
   obtain⟨ej,er⟩:=List.cons.inj e
   rw[ej,if_neg (by unfold iq;simp;omega),AD,if_neg (by rw[hs j hj,hd];decide)]
   have:=(Gx (plan:=plan) h4 l (i+1) _ (s.next j w.len) (by rw[ZZ];exact hu) (key j hj) (by omega)).2 (by rw[er];exact ho)
   rw[show i+1+l.length=i+(l.length+1) by omega] at this
   exact this
end Go.Proofs.YtibffijhebobmaaGreatDoor.Di
end
section
set_option maxRecDepth 100000
set_option maxHeartbeats 4000000
namespace Go.Proofs.YtibffijhebobmaaGreatDoor.Di
open Go.AF
def ng:List Int->PV
 | []=> .nilSlice
 | x::l=>bw (x::l)
def cS(r:kj):List PV:=[ng r.plan,.int .i64 r.cost,.bool r.is]
def fF(r:kj):PV:= .agg (cS r)
theorem MR(l:List Int):ig (.p (ng l))=true:=by cases l <;> rfl
theorem hY(r:kj):(dV (.p (fF r))).all ig=true:=by
 show(ig (.p (ng r.plan))&&(true&&(true&&true)))=true
 rw[MR];rfl
theorem HS(r:kj):Pure Tryz.prog 71 [fF r] (.int .i64 r.cost):=by
 refine Kf (N:=5) Tryz.func71 ?_
 iterate 8 refine af ?_
 refine Kc (Kl (.p (.int .i64 r.cost))) ?_
 exact gS
theorem GQ(a b:kj):Pure Tryz.prog 70 [fF a,fF b,.func (.func 71) [] []] (fF (if b.cost<a.cost then b else a)):=by
 refine Kf (N:=16) Tryz.func70 ?_
 iterate 8 refine af ?_
 refine aF.aD 7 mixed (by kernel_rfl) (by decide) ?_
 refine af ?_
 refine Kq (Kl (.p (fF b))) ?_
 refine Kq (Kp (HS b)) ?_
 refine af ?_
 refine Kq (Kl (.p (fF a))) ?_
 refine Kq (Kp (HS a)) ?_
 refine Kq (aa.lss rfl rfl rfl) ?_
 refine aA.nil ?_
 refine af ?_
 refine Ki (fun hc0=> ?_) fun hc0=> ?_
 ·have hlt:b.cost<a.cost:=Zk hc0
  iterate 2 refine af ?_
  refine Kc (Kl (.p (fF b))) ?_
  refine Kz (aa.store (H':=[.cells ((cS b).map .p) 134]) rfl rfl rfl rfl (hY b) an rfl rfl) ?_
  exact BQ
 ·have hlt:¬ b.cost<a.cost:=Zl hc0
  iterate 3 refine af ?_
  refine Kc (Kl (.p (fF a))) ?_
  refine Kz (aa.store (H':=[.cells ((cS a).map .p) 134]) rfl rfl rfl rfl (hY a) an rfl rfl) ?_
  exact BQ
open Go Go.AF
structure J1 (l:List aH) (s:dK):Prop where
 dr:0<=s.draw∧s.draw<=(l.length:Int)
 us:∀ i,i<4->0<=s.used i∧s.used i<=1000*s.draw
theorem ou{s:dK}{i:Nat}{n:Int}(hi:i<4):(s.next i n).draw=s.draw+1:=by
 match i,hi with
 | 0,_=>rfl
 | 1,_=>rfl
 | 2,_=>rfl
 | 3,_=>rfl
theorem Qy{l:List aH}{s:dK}{i:Nat}{n:Int}(h:J1 l s)(hl:s.draw<(l.length:Int))(hn:1<=n∧n<=1000)(hi:i<4):J1 l (s.next i n):=by
 have h1:=h.dr
 refine⟨by rw[ou hi];omega,fun j hj=> ?_⟩
 have h2:=h.us j hj
 rw[yV hi,ou hi]
 split <;> omega
theorem ym{p:bn}(hc:0<=p.change∧p.change<=10000){s:dK}{w:aH}{go:dK->kj}{B:Int}(hg:∀ s,0<=(go s).cost∧(go s).cost<=B):∀ n:Nat,n<=4->0<=((List.range n).foldl (jE p s w go) ⟨[],0,false⟩).cost∧((List.range n).foldl (jE p s w go) ⟨[],0,false⟩).cost<=B+10003
 | 0,_=>by
  have:=hg s
  exact⟨tr 0,by show(0:Int)<=_;omega⟩
 | n+1,hn=>by
  have ih:=ym hc hg (s:=s) (w:=w) n (by omega)
  rw[YS,Li,Q9,List.foldl_nil]
  generalize (List.range n).foldl (jE p s w go) ⟨[],0,false⟩=b at ih ⊢
  have h2:=hg (s.next n w.len)
  have ho:0<=(dj p s (go (s.next n w.len)) n).cost∧(dj p s (go (s.next n w.len)) n).cost<=B+10003:=by
   unfold dj
   dsimp only
   split <;> omega
  unfold jE
  split
  ·unfold nP
   split
   ·split
    ·exact ho
    ·exact ih
   ·exact ho
  ·exact ih
theorem Ik{p:bn}(hp:cL p=true):∀(l:List aH) (s:dK),0<=(c7 p l s).cost∧(c7 p l s).cost<=10003*(l.length:Int)
 | [],s=>⟨tr 0,tr _⟩
 | w::l,s=>by
  obtain⟨⟨_,h4⟩,hc,_⟩:=c9 hp
  have h:=ym hc (s:=s) (w:=w) (Ik hp l) p.dies.length h4
  rw[Zm]
  show 0<=((List.range p.dies.length).foldl (jE p s w (c7 p l)) ⟨[],0,false⟩).cost∧_
  refine⟨h.1,Int.le_trans h.2 ?_⟩
  push_cast
  omega
theorem qk{p:bn}{l:List aH}{s:dK}(h:(c7 p l s).is=true):(c7 p l s).plan.length=l.length:=Oy p l s _ (ny p l s h)
def oU(p:bn)(l:List aH)(s:dK)(k i:Nat):kj:=(List.range i).foldl (jE p s (gt aH.d l k) (c7 p (l.drop (k+1)))) ⟨[],0,false⟩
theorem qW(p:bn)(l:List aH)(s:dK)(k i:Nat):oU p l s k (i+1)=jE p s (gt aH.d l k) (c7 p (l.drop (k+1))) (oU p l s k i) i:=by
 unfold oU
 rw[YS,Li]
 rfl
theorem O8{p:bn}{l:List aH}{s:dK}{k:Nat}(hk:k<l.length):oU p l s k p.dies.length=c7 p (l.drop k) s:=by
 rw[Uu hk,aC aH.d k hk]
 rfl
theorem Yw{H:List ah}{s:dK}{i:Nat}(hi:i<4):cN H false 1 (.p (.ip s.cells (2+i)))=some (.p (.int .i64 (s.used i))):=by
 match i,hi with
 | 0,_=>rfl
 | 1,_=>rfl
 | 2,_=>rfl
 | 3,_=>rfl
end Go.Proofs.YtibffijhebobmaaGreatDoor.Di
end
section
namespace Go.Proofs.YtibffijhebobmaaGreatDoor
open Go.AF
theorem LK(w:Bs)(k:Int):aY w [k]=(w++[32])++Lib.itoa k:=by simp[aY]
theorem HU{u:Nat}(h:u<10):(UInt8.ofNat (48+u)).toNat=48+u:=by
 rw[UInt8.toNat_ofNat'];omega
theorem Pw(u:Nat):oT (Lib.decDigits u)=u:=by
 induction u using Nat.strongRecOn with
 | ind u ih=>
  by_cases h:u<10
  ·rw[jg h]
   show 10*0+((UInt8.ofNat (48+u)).toNat - 48)=u
   rw[HU h];omega
  ·rw[rA (by omega),Ch,ih _ (by omega),HU (by omega)];omega
theorem Ir(u:Nat):(Lib.decDigits u).all qK=true:=by
 induction u using Nat.strongRecOn with
 | ind u ih=>
  have hd:∀ k,k<10->qK (UInt8.ofNat (48+k))=true:=fun k hk=>by
   unfold qK
   rw[HU hk,Zn,Zq,Zq];omega
  by_cases h:u<10
  ·rw[jg h,Qm,hd u h];rfl
  ·rw[rA (by omega),List.all_append,ih _ (by omega),Qm,hd _ (by omega)];rfl
theorem Nq(u:Nat):Lib.decDigits u≠[]:=by
 by_cases h:u<10
 ·rw[jg h];exact List.cons_ne_nil _ _
 ·rw[rA (by omega)];exact fun e=>List.cons_ne_nil _ _ (List.append_eq_nil_iff.1 e).2
theorem NA(u:Nat):1<=u->(Lib.decDigits u).getD 0 0≠48:=by
 induction u using Nat.strongRecOn with
 | ind u ih=>
  intro h1
  by_cases h:u<10
  ·rw[jg h]
   intro e
   have e:UInt8.ofNat (48+u)=48:=e
   have:=congrArg UInt8.toNat e
   rw[HU h] at this
   have e2:(48:UInt8).toNat=48:=rfl
   omega
  ·rw[rA (by omega)]
   have h2:=ih (u / 10) (by omega) (by omega)
   cases hd:Lib.decDigits (u / 10) with
   | nil=>exact absurd hd (Nq _)
   | cons x r=>rw[hd] at h2;exact h2
theorem Nu{n:Int}(h0:0<=n)(h1:n<10000000000000):uc (Lib.itoa n)=some n:=by
 have hl:=rN h0 h1
 rw[vZ h0] at hl ⊢
 rw[uD ⟨Nq _,hl,?_,Ir _⟩,Pw,V7 h0]
 by_cases h:n.toNat=0
 ·left;rw[h];decide+kernel
 ·exact .inr (NA _ (by omega))
theorem MH{n:Int}(h0:0<=n):∀ b∈Lib.itoa n,48<=b.toNat∧b.toNat<=57:=fun b hb=>by
 rw[vZ h0] at hb
 exact xH (Zx.1 (Ir _) b hb)
theorem Lr{n:Int}(h0:0<=n):Fc 32 (Lib.itoa n):=fun b hb e=>by
 have h:=MH h0 b hb
 rw[e] at h
 exact absurd h.1 (by decide)
theorem UT(v:Vb):Fc 32 v.t:=by
 intro b hb e
 subst e
 revert hb
 cases v <;> decide
theorem AM{c:UInt8}(t:Bs):∀(w cur:Bs),Fc c w->eg c cur (w++t)=eg c (cur++w) t
 | [],cur,_=>by rw[OW,ZT]
 | b::w,cur,h=>by
  rw[OK,eg,if_neg (h b (Zt ..)),AM t w _ fun x hx=>h x (Zh _ hx),ZK]
  rfl
theorem tQ{c:UInt8}:∀(r:List Bs) (w:Bs),Fc c w->(∀ x∈r,Fc c x)->eg c [] (cQ c (w::r))=w::r
 | [],w,hw,_=>by
  show eg c [] (w++[])=_
  rw[AM _ _ _ hw,eg];rfl
 | y::r,w,hw,h=>by
  rw[kQ,ZK,AM _ _ _ hw]
  show eg c w (c::cQ c (y::r))=_
  rw[eg,if_pos rfl,tQ r y (h y (Zt ..)) fun x hx=>h x (Zh _ hx)]
theorem Fu{w:Bs}{l:List Int}(hw:Fc 32 w)(hB:∀ x∈l,0<=x∧x<10000000000000):b7 (aY w l)=w::l.map Lib.itoa:=by
 unfold b7
 rw[eJ]
 exact tQ _ _ hw fun x hx=>by
  obtain⟨n,hn,rfl⟩:=uE.1 hx
  exact Lr (hB n hn).1
theorem yI:∀ l:List Int,(∀ x∈l,0<=x∧x<10000000000000)->(l.map Lib.itoa).mapM uc=some l
 | [],_=>rfl
 | x::l,h=>by
  have h1:=h x (Zt ..)
  rw[Zz,List.mapM_cons,Nu h1.1 h1.2,yI l fun y hy=>h y (Zh _ hy)]
  rfl
theorem F3{v:Vb}{l:List Int}(hl:l.length=v.many)(hB:∀ x∈l,0<=x∧x<10000000000000):cF (aY v.t l)=some (v,l):=by
 unfold cF
 rw[Fu (UT v) hB]
 dsimp only
 rw[Uj]
 dsimp only
 rw[Zp,if_pos hl,yI l hB]
 rfl
theorem yE{F:cW}{v:Vb}{l:List Int}(hl:l.length=v.many)(hB:∀ x∈l,0<=x∧x<10000000000000):aI F (aY v.t l)=bH F v l:=by
 have h:=jD (w:=v.t) hB
 have h1:=Mf v
 have h2:v.many<=8:=by cases v <;> decide
 unfold aI
 rw[if_neg (by omega),F3 hl hB]
theorem Fz(w:Bs)(l:List Int)(x:Int):(aY w l++[32])++Lib.itoa x=aY w (l++[x]):=by simp[aY]
theorem YZ{w:Bs}{l:List Int}(hw:w.length<=100)(hl:l.length<=10)(hB:∀ x∈l,0<=x∧x<10000000000000)(k:Nat):(aY w (l.take k)).length+[(32:UInt8)].length<9223372036854775808:=by
 have h:=jD (w:=w) (l:=l.take k) fun x hx=>hB x (SG hx)
 have h2:(l.take k).length<=10:=by rw[ZU];omega
 show _+1<_
 omega
theorem abh{w:Bs}{l:List Int}{k:Nat}(hw:w.length<=100)(hl:l.length<=10)(hB:∀ x∈l,0<=x∧x<10000000000000)(hk:k<l.length):(aY w (l.take k)++[32]).length+(Lib.itoa (Di.gt 0 l k)).length<9223372036854775808:=by
 have e:l.take k++[Di.gt 0 l k]=l.take (k+1):=by rw[ZN hk,Di.aC 0 k hk]
 rw[<- Zb,Fz,e]
 have h:=jD (w:=w) (l:=l.take (k+1)) fun x hx=>hB x (SG hx)
 have h2:(l.take (k+1)).length<=10:=by rw[ZU];omega
 omega
theorem oA(w:Bs)(l:List Int)(hw:w.length<=100)(hl:l.length<=10)(hB:∀ x∈l,0<=x∧x<10000000000000):Pure Tryz.prog 22 [.str (sB w),Di.bw l] (.str (sB (aY w l))):=by
 refine Kf (N:=20) Tryz.func22 ?_
 iterate 12 refine af ?_
 refine aF.fE [4,7,8,19] (fun g=>[(9,.p (.int .i64 ((g:Nat):Int))),(0,.p (.str (sB (aY w (l.take g)))))]) (fun g=>[]) (fun g=>g<=l.length) (fun g=>l.length - g) 0 (Zs _) (To.sub (Sub.cons rfl (Sub.cons (by rw[OH];unfold aY;rw[List.flatMap_nil,ZT];rfl) KS))) (fun k hg=> ?_)
 iterate 5 refine af ?_
 refine Ki (fun hc0=> ?_) fun hc0=> ?_
 ·have hk0:k<l.length:=by have h:=Zk hc0;omega
  have hx:=hB _ (Di.bC 0 hk0)
  iterate 5 refine af ?_
  refine Kc (aa.aN (g:=Di.gt 0 l) (k:=k) (Di.aC _) rfl rfl rfl an dH rfl (fun _=>rfl) (by decide) hk0) ?_
  refine Kc (Kl (.p (.int .i64 (Di.gt 0 l k)))) ?_
  iterate 4 refine af ?_
  refine Kc (aa.Gl (aY w (l.take k)) [32] rfl rfl rfl (YZ hw hl hB k)) ?_
  refine af ?_
  refine Kc (Kp (AS (Di.gt 0 l k) hx.1 hx.2)) ?_
  refine Kc (aa.Gl (aY w (l.take k)++[32]) (Lib.itoa (Di.gt 0 l k)) rfl rfl rfl (abh hw hl hB hk0)) ?_
  iterate 3 refine af ?_
  refine Kc (aa.add (m:=((k+1:Nat):Int)) rfl rfl rfl ((aK ?_).trans ?_)) ?_
  ·omega
  ·omega
  iterate 2 refine af ?_
  refine⟨k+1,?_,?_,?_⟩
  ·exact hk0
  ·omega
  rw[GH,<- fR hk0]
  exact To.done [] rfl KS rfl
 ·have QD:k=l.length:=by have h:=Zl hc0;omega
  subst QD
  refine aF.exit ?_
  iterate 6 refine af ?_
  refine Fin.fQ rfl rfl ?_
  rw[ZP]
theorem An{a b:Bs}(h:a≠[]):a++b≠[]:=fun e=>h (List.append_eq_nil_iff.1 e).1
open Go.Proofs
end Go.Proofs.YtibffijhebobmaaGreatDoor
end
section
set_option maxRecDepth 100000
set_option maxHeartbeats 4000000
namespace Go.Proofs.YtibffijhebobmaaGreatDoor
open Go.AF
theorem SQ{R:Option Nat}{N:Nat}{Q:Post}{T T2:Tm}{o:Oper}{ops:Array Oper}{rest:List Oper}{f:Operand}{xs:Array Operand}{ts:Array TypeId}(d:Nat)(F:cW)(z:Bool)(s:Bs){G:cW}{r:Bs}{e:Int}(hF:mJ F)(hz:z=true->F.marks=[])(hl0:aI F s=(G,r,e))
    (ho:o.op= .call {callee:= .value f,args:=xs,argTypes:=ts})(hd:o.dst=some d)(hN:bg N (some d)=true)(hg:o.guard=none)(hf:ev T f=some (.p (.func (.func 13) [] [])))(hxs:jT T xs.toList=some [.ptr 0 0,.p (.str (sB s))])(Vw:ak Tryz.prog 13=true)(hT:Sub T2 T)(hl:eV (below 1) T2=T2)
    (next:∀ z',(z'=true->G.marks=[])->aj Tryz.prog R N 0 ops rest Q ((d,.p (.tuple [.str (sB r),.int .i64 e]))::T2) (cD 0 G z')):aj Tryz.prog R N 0 ops (o::rest) Q T (cD 0 F z):=by
 have e1:(aI F s).1=G:=by rw[hl0]
 have e2:sK F s= .p (.tuple [.str (sB r),.int .i64 e]):=by unfold sK;rw[hl0]
 refine SN d [] F z s hF hz (fun i x h=>by simp at h) (Zs _) ho hd hN hg hf hxs Vw hT hl (fun z' YN=> ?_)
 rw[e1] at YN
 show aj _ _ _ _ _ _ _ _ (cD 0 (aI F s).1 z')
 rw[e1,e2]
 exact next z' YN
end Go.Proofs.YtibffijhebobmaaGreatDoor
end
