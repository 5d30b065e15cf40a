/-
 Chapter 15: the floor as plain data: the books, the marks; what a line says, and what it does.
 Chapter 15: numbers and words of a line, step by step.
 Chapter 15: the members of a set, one after the other.
 Chapter 15: how great what a floor answers can be.
 Chapter 15: a line leaves a floor that can be.
 Chapter 15: how long replies are; scripts.
 Chapter 15, the program: texts that are cut and joined; what a reply is put together of; lowest bits of 64; how many bits there are.
-/
import Derived.Test.YtibffijhebobmaaGreatDoorMzUD
import Derived.Test.YtibffijhebobmaaGreatDoorMzUC
import Derived.Test.YtibffijhebobmaaGreatDoorMzUR
import Derived.Lib.ItoaNum
import Derived.Test.YtibffijhebobmaaGreatDoorFaUF
import Derived.Lib.Split
import Derived.Lib.IndexMore
import Derived.Lib.CountLaws
import Derived.Lib.SplitLaws
import Derived.Lib.Join
import Derived.Test.YtibffijhebobmaaGreatDoorMzUZ
theorem eo{A:Prop}(h:A:=by
 exact jD (by decide)):A:=h
theorem v8{A:Prop}(h:A:=by
 exact iV (by omega) (by show 1<=102;decide) (oR (by omega))):A:=h
theorem Cb{A:Prop}(h:A:=by
 rw[Zo]
 exact ZT (List.length_filter_le _ _) (by rw[Ko];exact Ze _)):A:=h
set_option linter.unusedSimpArgs false
set_option linter.unusedVariables false
section
namespace Go.Proofs.YtibffijhebobmaaGreatDoor
open Go.AF
abbrev Bs:=List UInt8
structure bK where
 aq:List Ck.Sk
 ah:List Rx.b6
 av:List Di.cU
 plan:List Int
 bad:Nat
 good:Nat
 bX:List Int
structure cT where
 aV:Di.bO
 b:bK
 marks:List bK
def noB:bK:=⟨[],[],[],[],0,0,[]⟩
def newF(p:Di.bO):cT:=⟨p,noB,[]⟩
inductive Vb where
 | nC | slat | lead | pencil | bad | good | blame | call | from_ | wear | mark | back | keep
 deriving DecidableEq
def Vb.t:Vb->Bs
 | .nC=>[115,97,99,107]
 | .slat=>[115,108,97,116]
 | .lead=>[108,101,97,100]
 | .pencil=>[112,101,110,99,105,108]
 | .bad=>[98,97,100]
 | .good=>[103,111,111,100]
 | .blame=>[98,108,97,109,101]
 | .call=>[99,97,108,108]
 | .from_=>[102,114,111,109]
 | .wear=>[119,101,97,114]
 | .mark=>[109,97,114,107]
 | .back=>[98,97,99,107]
 | .keep=>[107,101,101,112]
def Vb.many:Vb->Nat
 | .nC=>6
 | .lead=>8
 | .pencil=>3
 | .bad=>1
 | .good=>1
 | .from_=>1
 | .wear=>1
 | _=>0
def XT:List Vb:=[.nC,.slat,.lead,.pencil,.bad,.good,.blame,.call,.from_,.wear,.mark,.back,.keep]
def jG(s:Bs):Option Vb:=XT.find? fun v=>decide (v.t=s)
theorem Ts(v:Vb):jG v.t=some v:=by cases v <;> decide
theorem xM{s:Bs}{v:Vb}(h:jG s=some v):v.t=s:=by
 have:=List.find?_some h
 simpa using this
theorem Jc{s:Bs}(h:jG s=none)(v:Vb):v.t≠s:=by
 have:=List.find?_eq_none.1 h v (by cases v <;> decide)
 simpa using this
def nn(l:List Int)(k:Nat):Int:=Di.gt 0 l k
def aH(w:Bs)(l:List Int):Bs:=w++l.flatMap fun n=>32::Lib.itoa n
def iO(n:Nat):List Int:=((List.range 24).filter fun i=>n.testBit i).map fun(i:Nat)=>(i:Int)
def pow2(n:Int):Nat:=2^n.toNat
def both(a b:Int):Int:=if a=b then((pow2 a:Nat):Int) else((pow2 a+pow2 b:Nat):Int)
def shr(l:List Ck.Sk)(b:List Ck.Tk):(Int×Int)×Int:=if Ck.dG l b then((Ck.mj l b 1001,Ck.iP l b 1001),0) else((0,0),1)
theorem Vz(l:List Ck.Sk)(b:List Ck.Tk):Ck.vr l b=[.agg [.int .i64 (shr l b).1.1,.int .i64 (shr l b).1.2],.int .i64 (shr l b).2]:=by
 unfold Ck.vr shr
 split <;> rfl
def bM(s m:Int):Ck.Tk:=⟨s,⟨m,m⟩⟩
def hY(n:List Int):Ck.Sk:=⟨⟨nn n 0,nn n 1⟩,⟨nn n 2,nn n 3⟩,⟨nn n 4,nn n 5⟩⟩
def bK.fh(b:bK)(x:Rx.b6):bK:={b with ah:=b.ah++[x]}
def fu(b:bK)(set:Nat)(x:Int):Int:=if (b.ah.length:Int)<=x then 2 else if set.testBit x.toNat then 5 else 0
def dA:Bs:=[99,97,114,100]
def eE:Bs:=[115,104,97,114,101]
def uh(b:bK)(die:Int):Nat->Int
 | 0=>0
 | g+1=>uh b die g+if Di.gt 0 b.plan g=die then(Di.gt Di.cU.d b.av g).len else 0
def eG(b:bK)(die:Int):Int:=uh b die b.plan.length
def bG(F:cT)(v:Vb)(n:List Int):cT×Bs×Int:=
 let b:=F.b
 let next:Int:=b.ah.length
 match v with
 | .nC=>if 8<=b.aq.length∨24<=b.ah.length then(F,[],9) else if (shr [hY n] [bM 0 1]).2≠0 then(F,[],(shr [hY n] [bM 0 1]).2) else
     ({F with b:={b.fh ⟨0,0⟩ with aq:=b.aq++[hY n],bX:=b.bX++[next]}},aH v.t [(b.aq.length:Int)]++32::aH dA [next],0)
 | .slat=>if 24<=b.ah.length then(F,[],9) else({F with b:=b.fh ⟨0,0⟩},aH dA [next],0)
 | .lead=>if 24<=b.ah.length then(F,[],9) else
     let s:=shr b.aq [bM (nn n 0) (nn n 1),bM (nn n 2) (nn n 3)]
     if s.2≠0 then(F,[],s.2) else if 8<=b.av.length then(F,[],9) else
     let l:=b.av++[⟨nn n 5,nn n 6,nn n 7⟩]
     let plan:=b.plan++[nn n 4]
     if (Di.fO F.aV l plan).2.2≠0 then(F,[],(Di.fO F.aV l plan).2.2) else
     ({F with b:={b.fh ⟨both (nn b.bX (nn n 0).toNat) (nn b.bX (nn n 2).toNat),0⟩ with av:=l,plan:=plan}},aH dA [next]++32::aH eE [s.1.1,s.1.2],0)
 | .pencil=>if 24<=b.ah.length then(F,[],9) else if next<=nn n 0∨next<=nn n 1 then(F,[],2) else if 1048576<nn n 2 then(F,[],1) else
     ({F with b:=b.fh ⟨both (nn n 0) (nn n 1),nn n 2⟩},aH dA [next],0)
 | .bad=>if fu b b.bad (nn n 0)≠0 then(F,[],fu b b.bad (nn n 0)) else if Rx.iS b.ah ((b.bad+pow2 (nn n 0):Nat):Int) b.good=6 then(F,[],6) else
     ({F with b:={b with bad:=b.bad+pow2 (nn n 0)}},aH v.t [((iO (b.bad+pow2 (nn n 0))).length:Int)],0)
 | .good=>if fu b b.good (nn n 0)≠0 then(F,[],fu b b.good (nn n 0)) else if Rx.iS b.ah b.bad ((b.good+pow2 (nn n 0):Nat):Int)=6 then(F,[],6) else
     ({F with b:={b with good:=b.good+pow2 (nn n 0)}},aH v.t [((iO (b.good+pow2 (nn n 0))).length:Int)],0)
 | .blame=>if Rx.iS b.ah b.bad b.good≠0 then(F,[],Rx.iS b.ah b.bad b.good) else(F,aH v.t (iO (Rx.lz b.ah b.bad b.good)),0)
 | .call=>if Rx.iS b.ah b.bad b.good≠0 then(F,[],Rx.iS b.ah b.bad b.good) else(F,aH v.t ((Rx.lZ b.ah b.bad b.good).1::(Rx.lZ b.ah b.bad b.good).2::iO (Rx.xA b.ah b.bad b.good)),0)
 | .from_=>if Rx.fy b.ah (nn n 0)≠0 then(F,[],Rx.fy b.ah (nn n 0)) else(F,aH v.t (iO (Rx.kz b.ah (Rx.bS b.ah) (nn n 0))),0)
 | .wear=>if (F.aV.dies.length:Int)<=nn n 0 then(F,[],2) else
     let u:=eG b (nn n 0)
     (F,aH v.t [u,(Di.dW F.aV (nn n 0) u).1.1,(Di.dW F.aV (nn n 0) u).1.2],0)
 | .mark=>if 8<=F.marks.length then(F,[],9) else({F with marks:=F.marks++[b]},aH v.t [(F.marks.length:Int)+1],0)
 | .back=>match F.marks.getLast? with
   | none=>(F,[],4)
   | some x=>({F with b:=x,marks:=F.marks.dropLast},aH v.t [(F.marks.length:Int) - 1],0)
 | .keep=>match F.marks.getLast? with
   | none=>(F,[],4)
   | some x=>({F with marks:=F.marks.dropLast},aH v.t [(F.marks.length:Int) - 1],0)
def qq(b:UInt8):Bool:=decide (48<=b.toNat)&&decide (b.toNat<=57)
def oE(s:Bs):Nat:=s.foldl (fun n b=>10*n+(b.toNat - 48)) 0
def tv(s:Bs):Option Int:=if s≠[]∧s.length<=13∧(s=[48]∨s.getD 0 0≠48)∧s.all qq=true then some (oE s:Nat) else none
def dQ(c:UInt8):Bs->Bs->List Bs
 | cur,[]=>[cur]
 | cur,b::s=>if b=c then cur::dQ c [] s else dQ c (cur++[b]) s
def bT(s:Bs):List Bs:=dQ 32 [] s
def cJ(s:Bs):Option (Vb×List Int):=match bT s with
 | []=>none
 | w::l=>match jG w with
   | none=>none
   | some v=>if l.length=v.many then(l.mapM tv).map fun n=>(v,n) else none
def aP(F:cT)(s:Bs):cT×Bs×Int:=if 120<s.length then(F,[],3) else match cJ s with
 | none=>(F,[],8)
 | some (v,n)=>bG F v n
def Fb:Bs:=[101,114,114,111,114]
def zm(r:Bs)(e:Int):Bs:=(if e=0 then r else aH Fb [e])++[10]
def xJ(F:cT):List Bs->Bs
 | []=>[]
 | l::ls=>zm (aP F l).2.1 (aP F l).2.2++xJ (aP F l).1 ls
def wS(p:Di.bO)(s:Bs):Bs×Int:=if 131072<s.length then([],3) else if s≠[]∧s.getLast?≠some 10 then([],8) else if Di.fQ p=false then([],1) else
 (xJ (newF p) (dQ 10 [] s).dropLast,0)
def aa9(b:bK):List PV:=[Ck.bZ b.aq,Rx.jX b.ah,Di.mg b.av,Di.cg b.plan,.int .i64 (b.bad:Int),.int .i64 (b.good:Int)]
structure Yb (p:Di.bO) (b:bK):Prop where
 sk:b.aq.length<=8
 WV:Ck.aF b.aq=true
 cd:Rx.cH b.ah
 dr:b.av.length<=8
 Oq:∃ u,Di.fO p b.av b.plan=(some u,(b.av.length:Int),0)
 bad:b.bad<2^b.ah.length
 good:b.good<2^b.ah.length
 ck:b.bX.length=b.aq.length
 P6:∀ c∈b.bX,0<=c∧c<(b.ah.length:Int)
structure oN (F:cT):Prop where
 p:Di.fQ F.aV=true
 b:Yb F.aV F.b
 mm:F.marks.length<=8
 Yn:∀ x∈F.marks,Yb F.aV x
theorem iY{u:Nat}(h:u<10):Lib.decDigits u=[UInt8.ofNat (48+u)]:=by rw[Lib.decDigits,dif_pos h]
theorem pU{u:Nat}(h:10<=u):Lib.decDigits u=Lib.decDigits (u / 10)++[UInt8.ofNat (48+u%10)]:=by rw[Lib.decDigits,dif_neg (by omega)]
theorem qx{n:Int}(h:0<=n):Lib.itoa n=Lib.decDigits n.toNat:=by unfold Lib.itoa;rw[if_neg (by omega)]
theorem HY:∀(k n:Nat),n<10^(k+1)->(Lib.decDigits n).length<=k+1
 | 0,n,h=>by
  rw[iY (by simpa using h)];exact Ze _
 | k+1,n,h=>by
  by_cases h2:n<10
  ·rw[iY h2];exact Nat.le_add_left _ _
  ·rw[pU (by omega),Zd,Yr]
   have h3:n / 10<10^(k+1):=by rw[Nat.div_lt_iff_lt_mul (by decide)];rw[Vi] at h;exact h
   have:=HY k _ h3
   omega
theorem Ji(n:Nat)(h:n<10000000000000):(Lib.decDigits n).length<=13:=HY 12 n (by
 have:(10:Nat)^(12+1)=10000000000000:=by decide
 omega)
theorem lq{n:Int}(h0:0<=n)(h1:n<10000000000000):(Lib.itoa n).length<=13:=by
 rw[qx h0]
 exact Ji _ (by omega)
theorem gU{w:Bs}{l:List Int}(h:∀ n∈l,0<=n∧n<10000000000000):(aH w l).length<=w.length+14*l.length:=by
 unfold aH
 rw[Zd]
 induction l with
 | nil=>exact Ze _
 | cons x l ih=>
  have h1:=ih fun n hn=>h n (Zg _ hn)
  have h2:=lq (h x (Zq ..)).1 (h x (Zq ..)).2
  rw[ZL,Zd,Zn,Zn]
  omega
theorem DT(s:Bs)(b:UInt8):oE (s++[b])=10*oE s+(b.toNat - 48):=by simp[oE]
theorem CI{s:Bs}{i:Nat}(h:i<s.length):oE (s.take (i+1))=10*oE (s.take i)+((Di.gt 0 s i).toNat - 48):=by
 rw[ZX h,DT,Di.aL 0 i h]
theorem xb{b:UInt8}(h:qq b=true):48<=b.toNat∧b.toNat<=57:=by
 unfold qq at h;simpa using h
theorem MO(s:Bs):∀ i,i<=s.length->(∀ j,j<i->qq (Di.gt 0 s j)=true)->oE (s.take i)<10^i
 | 0,_,_=>by rw[Ml];decide
 | i+1,h,hd=>by
  rw[CI (by omega),Vi]
  have h1:=MO s i (by omega) fun j hj=>hd j (by omega)
  have h2:=xb (hd i (by omega))
  omega
theorem BC{s:Bs}{i:Nat}(h:i<=s.length)(Y4:s.length<=13)(hd:∀ j,j<i->qq (Di.gt 0 s j)=true):oE (s.take i)<10000000000000:=by
 have h1:=MO s i h hd
 have h2:(10:Nat)^i<=10^13:=Zy (by decide) (by omega)
 have h3:(10:Nat)^13=10000000000000:=by decide
 omega
def gv(s:Bs):Int:=(tv s).getD 0
def xw(s:Bs):Bool:=(tv s).isSome
def gP(s:Bs):Prop:=s≠[]∧s.length<=13∧(s=[48]∨s.getD 0 0≠48)∧s.all qq=true
theorem tR{s:Bs}(h:gP s):tv s=some ((oE s:Nat):Int):=if_pos h
theorem KC{s:Bs}(h:¬ gP s):tv s=none:=if_neg h
theorem Pb{s:Bs}{i:Nat}(h:i<s.length)(hd:qq (Di.gt 0 s i)=false):¬ gP s:=fun hc=>by
 have:=Zz.1 hc.2.2.2 _ (Di.bH 0 h)
 rw[hd] at this;cases this
theorem Tr{s:Bs}(h:s≠[]∧s.length<=13∧(s=[48]∨s.getD 0 0≠48))(hd:∀ j,j<s.length->qq (Di.gt 0 s j)=true):gP s:=by
 refine⟨h.1,h.2.1,h.2.2,Zz.2 fun b hb=> ?_⟩
 obtain⟨j,hj,rfl⟩:=Pz hb
 rw[Di.aL 0 j hj]
 exact hd j hj
theorem V1(s:Bs):0<=gv s∧gv s<10000000000000:=by
 unfold gv
 by_cases h:gP s
 ·rw[tR h]
  have:=BC (s:=s) (i:=s.length) (Ze _) h.2.1 fun j hj=>Zz.1 h.2.2.2 _ (Di.bH 0 hj)
  rw[ZS] at this
  show 0<=((oE s:Nat):Int)∧((oE s:Nat):Int)<_
  omega
 ·rw[KC h];decide
theorem iU(c:UInt8):∀(s cur:Bs),0<(dQ c cur s).length∧(dQ c cur s).length<=s.length+1
 | [],cur=>by rw[dQ];exact⟨Nat.one_pos,Ze _⟩
 | b::s,cur=>by
  rw[dQ]
  split
  ·have:=iU c s []
   simp only[Zn];omega
  ·have:=iU c s (cur++[b])
   simp only[Zn];omega
def lG(s:Bs):List PV:=[.str (sB s)]
def jA(l:List Bs):PV:= .is (l.flatMap lG) l.length
def manyN(s:Bs):Int:=match jG s with
 | some v=>(v.many:Nat)
 | none=> -1
def Wz(n k:Nat):List Int:=((List.range k).filter fun i=>n.testBit i).map fun(i:Nat)=>(i:Int)
theorem Nu(n i:Nat):(Wz n i).length<=i:=by
 unfold Wz
 exact Cb
theorem Uz(n:Nat):∀ x∈iO n,0<=x∧x<24:=fun x hx=>by
 obtain⟨k,hk,rfl⟩:=yu.1 hx
 have:=xe.1 (List.mem_filter.1 hk).1
 omega
def Fv(w:List Bs)(g:Nat):List Int:=(w.tail.take g).map gv
def NA(w:List Bs)(g:Nat):Bool:=decide (manyN (Di.gt [] w 0)=(w.length:Int) - 1)&&(w.tail.take g).all xw
theorem MM{w:List Bs}{g:Nat}(h:g+1<=w.length):(Fv w g).length=g:=by
 unfold Fv
 rw[Zo,x7,List.length_tail]
 omega
theorem vq:∀ l:List Bs,l.all xw=true->l.mapM tv=some (l.map gv)
 | [],_=>rfl
 | x::l,h=>by
  rw[Sv,Zk] at h
  have h1:tv x=some (gv x):=by
   have h2:=h.1
   unfold xw at h2
   unfold gv
   cases hx:tv x with
   | none=>rw[hx] at h2;cases h2
   | some v=>rfl
  rw[List.mapM_cons,h1,vq l h.2]
  rfl
theorem mapM_none:∀ l:List Bs,l.all xw=false->l.mapM tv=none
 | [],h=>by cases h
 | x::l,h=>by
  rw[Sv,Bool.and_eq_false_iff] at h
  rw[List.mapM_cons]
  cases hx:tv x with
  | none=>rfl
  | some v=>
   rcases h with h | h
   ·unfold xw at h;rw[hx] at h;cases h
   ·rw[mapM_none l h];rfl
theorem ow(c:UInt8):∀(s cur x:Bs),x∈dQ c cur s->x.length<=cur.length+s.length
 | [],cur,x,h=>by
  rw[dQ,ZJ] at h
  rw[h];exact Ze _
 | b::s,cur,x,h=>by
  rw[dQ] at h
  split at h
  ·rcases Zr.1 h with rfl | h
   ·simp
   ·have:=ow c s [] x h
    simp only[IN,Zn] at this ⊢;omega
  ·have:=ow c s (cur++[b]) x h
   simp only[Zd,Zn,IN] at this ⊢;omega
theorem rY(s:Bs):0<(bT s).length:=(iU 32 s []).1
theorem ML(s:Bs):(NA (bT s) ((bT s).length - 1)=true->∃ v,Di.gt [] (bT s) 0=v.t∧(Fv (bT s) ((bT s).length - 1)).length=v.many∧cJ s=some (v,Fv (bT s) ((bT s).length - 1)))∧
    (NA (bT s) ((bT s).length - 1)=false->cJ s=none):=by
 have hp:=rY s
 have hn:=MM (w:=bT s) (g:=(bT s).length - 1) (by omega)
 unfold cJ
 generalize bT s=w at hp hn ⊢
 cases w with
 | nil=>cases hp
 | cons x l=>
  have e1:(x::l).tail.take ((x::l).length - 1)=l:=by simp
  have e0:Di.gt [] (x::l) 0=x:=rfl
  have eN:Fv (x::l) ((x::l).length - 1)=l.map gv:=by unfold Fv;rw[e1]
  have eI:NA (x::l) ((x::l).length - 1)=(decide (manyN x=(l.length:Int))&&l.all xw):=by
   unfold NA
   rw[e1,e0,Zn]
   congr 2
   simp
  rw[eN,eI,e0]
  simp only
  cases hv:jG x with
  | none=>
   have:manyN x= -1:=by unfold manyN;rw[hv]
   rw[this]
   refine⟨fun h=> ?_,fun _=>rfl⟩
   rw[Zk,Zj] at h
   omega
  | some v=>
   have hm:manyN x=(v.many:Nat):=by unfold manyN;rw[hv]
   rw[hm]
   simp only
   constructor
   ·intro h
    rw[Zk,Zj] at h
    have hl:l.length=v.many:=by omega
    refine⟨v,(xM hv).symm,by rw[Zo];exact hl,?_⟩
    rw[if_pos hl,vq l h.2]
    rfl
   ·intro h
    by_cases hl:l.length=v.many
    ·rw[if_pos hl,mapM_none l (by rw[hl] at h;simpa using h)]
     rfl
    ·rw[if_neg hl]
theorem UY{n:Nat}(h:n<=24):2^n<=16777216:=by
 have:=Zy (show 0<2 by omega) h
 have h2:(2:Nat)^24=16777216:=by decide
 omega
section
variable {l:List Rx.b6} {bad good:Int}
theorem NW(hC:Rx.cH l):(0<=(Rx.lZ l bad good).1∧(Rx.lZ l bad good).1<=33554432)∧0<=(Rx.lZ l bad good).2∧(Rx.lZ l bad good).2<=33554432:=by
 unfold Rx.lZ
 split
 ·rename_i h
  have h3:=(Rx.Aq h).2.2.2.2.2
  have h4:Rx.lz l bad good<2^32:=by
   have:=Zy (show 0<2 by omega) (ZT (Rx.c6 hC) (show 24<=32 by decide))
   omega
  obtain⟨h5,h6⟩:=Rx.Iv (l:=l) h3.1 h4
  obtain⟨x,_,e1⟩:=yu.1 h5
  obtain⟨y,_,e2⟩:=yu.1 h6
  have b1:=Rx.Lg hC x
  have b2:=Rx.Lg hC y
  rw[e1] at b1
  rw[e2] at b2
  exact⟨b1,b2⟩
 ·exact⟨by decide,by decide⟩
end
theorem Mb{b:bK}{set:Nat}{x:Int}(h:fu b set x=0):x<(b.ah.length:Int)∧set.testBit x.toNat=false:=by
 unfold fu at h
 split at h
 ·cases h
 ·rename_i h1
  split at h
  ·cases h
  ·rename_i h2
   exact⟨by omega,by simpa using h2⟩
theorem oR{a B:Int}(h1:0<=a∧a<B):∀ x∈[a],0<=x∧x<B:=fun x hx=>by
 rw[ZJ.1 hx];exact h1
theorem LI{a b B:Int}(h1:0<=a∧a<B)(h2:0<=b∧b<B):∀ x∈[a,b],0<=x∧x<B:=fun x hx=>by
 rcases Zr.1 hx with rfl | hx
 ·exact h1
 ·rw[ZJ.1 hx];exact h2
theorem Gu{a b c B:Int}(h1:0<=a∧a<B)(h2:0<=b∧b<B)(h3:0<=c∧c<B):∀ x∈[a,b,c],0<=x∧x<B:=fun x hx=>by
 rcases Zr.1 hx with rfl | hx
 ·exact h1
 ·exact LI h2 h3 x hx
theorem fW(n:Nat):(iO n).length<=100:=ZT (Nu n 24) (by decide)
theorem sH(n:Nat):∀ x∈iO n,0<=x∧x<10000000000000:=fun x hx=>by have:=Uz n x hx;omega
theorem tE{p:Di.bO}{l:List Di.cU}{plan:List Int}{u:List Int}{n:Int}(h:Di.fO p l plan=(some u,n,0)):Di.fQ p=true∧Di.mh l=true:=by
 unfold Di.fO at h
 split at h
 ·cases h
 ·rename_i h1
  split at h
  ·cases h
  ·rename_i h2
   exact⟨by simpa using h1,by simpa using h2⟩
theorem Ie{p:Di.bO}{plan:List Int}:∀(l:List Di.cU) (i:Nat) (u v:List Int) (n:Int),i<=plan.length->Di.fH p plan i u l=(some v,n,0)->plan.length=i+l.length
 | [],i,u,v,n,hi,h=>by
  rw[Di.fH] at h
  split at h
  ·cases h
  ·simp;omega
 | w::l,i,u,v,n,hi,h=>by
  rw[Di.fH] at h
  split at h
  ·cases h
  ·rename_i h1
   split at h
   ·cases h
   ·split at h
    ·cases h
    ·have:=Ie l (i+1) _ v n (by omega) h
     rw[Zn];omega
theorem kE{p:Di.bO}{l:List Di.cU}{plan:List Int}{u:List Int}{n:Int}(h:Di.fO p l plan=(some u,n,0)):plan.length=l.length:=by
 obtain⟨h1,h2⟩:=tE h
 rw[Di.gw h1 h2] at h
 have:=Ie l 0 _ u n (Zv _) h
 omega
theorem E8{b:bK}{d:Int}(hv:∀ w∈b.av,Di.xC w=false)(hp:b.plan.length=b.av.length):∀ g,g<=b.plan.length->0<=uh b d g∧uh b d g<=1000*(g:Int)
 | 0,_=>⟨At _,by show(0:Int)<=1000*((0:Nat):Int);decide⟩
 | g+1,h=>by
  have h1:=E8 (d:=d) hv hp g (by omega)
  have h2:=(Di.oh (hv _ (Di.bH Di.cU.d (show g<b.av.length by omega)))).1
  rw[uh]
  split <;> omega
theorem Mn{p:Di.bO}{j u:Int}:(0<=(Di.dW p j u).1.1∧(Di.dW p j u).1.1<=1820000000)∧0<=(Di.dW p j u).1.2∧(Di.dW p j u).1.2<=1820000000:=by
 unfold Di.dW
 split
 ·decide
 ·rename_i h1
  split
  ·decide
  ·rename_i h2
   have hv:Di.fQ p=true:=by simpa using h1
   obtain⟨⟨n1,n4⟩,_,hsh,Ra⟩:=Di.hO hv
   have h3:Di.iR j 0 ((p.dies.length:Int) - 1)=true∧Di.iR u 0 8000=true:=by simpa using h2
   obtain⟨j0,j1⟩:=Di.fz h3.1
   obtain⟨u0,u1⟩:=Di.fz h3.2
   obtain⟨w1,w2,w3,w4⟩:=Di.oq (Ra _ (Di.bH Di.eB.d (show j.toNat<p.dies.length by omega)))
   obtain⟨_,_,e1,e2⟩:=Di.rX (a:=(Di.gt Di.eB.d p.dies j.toNat).wide) (b:=(Di.gt Di.eB.d p.dies j.toNat).lo) (u:=u) (s:=p.F9) w1 (by omega) (by omega) (by omega)
   obtain⟨_,_,e3,e4⟩:=Di.rX (a:=(Di.gt Di.eB.d p.dies j.toNat).wide) (b:=(Di.gt Di.eB.d p.dies j.toNat).hi) (u:=u) (s:=p.FE) w1 (by omega) (by omega) (by omega)
   have e1:0<=Di.thin p (Di.gt Di.eB.d p.dies j.toNat) u:=e1
   have e2:Di.thin p (Di.gt Di.eB.d p.dies j.toNat) u<=1820000000:=e2
   have e3:0<=Di.jS p (Di.gt Di.eB.d p.dies j.toNat) u:=e3
   have e4:Di.jS p (Di.gt Di.eB.d p.dies j.toNat) u<=1820000000:=e4
   show(0<=Di.thin p _ u / 1000∧Di.thin p _ u / 1000<=_)∧0<=(Di.jS p _ u+999) / 1000∧(Di.jS p _ u+999) / 1000<=_
   omega
theorem uV(s:Ck.Sk):Ck.dG [s] [bM 0 1]=Ck.aF [s]:=by
 unfold Ck.dG
 have:Ck.iE [s].length [bM 0 1]=true:=by
  show Ck.iE 1 [bM 0 1]=true
  decide
 rw[this,Bool.and_true]
theorem Gp(l:List Ck.Sk)(b:List Ck.Tk):(shr l b).2=if Ck.dG l b=true then 0 else 1:=by
 unfold shr
 split <;> rfl
theorem KJ(l:List Ck.Sk)(b:List Ck.Tk):∀ n:Nat,0<=Ck.mj l b n∧Ck.mj l b n<=(n:Int)
 | 0=>by rw[Ck.mj];exact⟨At _,At _⟩
 | n+1=>by
  have:=KJ l b n
  rw[Ck.mj];split <;> omega
theorem NV(l:List Ck.Sk)(b:List Ck.Tk):∀ n:Nat,0<=Ck.iP l b n∧Ck.iP l b n<=1000
 | 0=>by rw[Ck.iP];exact⟨by decide,by decide⟩
 | n+1=>by
  have:=NV l b n
  rw[Ck.iP];split <;> omega
theorem Rq(l:List Ck.Sk)(b:List Ck.Tk):(0<=(shr l b).1.1∧(shr l b).1.1<10000000000000)∧0<=(shr l b).1.2∧(shr l b).1.2<10000000000000:=by
 unfold shr
 have h1:=KJ l b 1001
 have h2:=NV l b 1001
 split
 ·show(0<=Ck.mj l b 1001∧Ck.mj l b 1001<_)∧0<=Ck.iP l b 1001∧Ck.iP l b 1001<_
  omega
 ·exact⟨by decide,by decide⟩
theorem Mz{l:List Ck.Sk}{a b c d:Int}(h:(shr l [bM a b,bM c d]).2=0):(0<=a∧a<(l.length:Int))∧0<=c∧c<(l.length:Int):=by
 rw[Gp] at h
 split at h
 ·rename_i hv
  unfold Ck.dG Ck.iE at hv
  simp only[Zk,List.any_cons,List.any_nil,Bool.or_false,Gc,XY] at hv
  obtain⟨_,_,h1,h2⟩:=hv
  unfold Ck.Tk.bad at h1 h2
  simp only[XY,Wf,Zk,Zj] at h1 h2
  have h1:(0<=a∧a<=(l.length:Int) - 1):=h1.1
  have h2:(0<=c∧c<=(l.length:Int) - 1):=h2.1
  omega
 ·cases h
theorem S3{l:List Rx.b6}{x:Rx.b6}{j:Nat}(h:j<l.length):Rx.bt (l++[x]) j=Rx.bt l j:=by
 unfold Rx.bt
 rw[Zf,Zc h,<- Zf]
theorem T9(l:List Rx.b6)(x:Rx.b6):Rx.bt (l++[x]) l.length=x:=by
 unfold Rx.bt
 rw[Zf,Zi (Ze _),OX];rfl
theorem Me{l:List Rx.b6}{f s:Int}(h:Rx.cH l)(hl:l.length<24)(hf:0<=f∧f<=Rx.pw l.length - 1)(hs:0<=s∧s<=1048576):Rx.cH (l++[⟨f,s⟩]):=fun j hj=>by
 rw[Zd,Yr] at hj
 unfold Rx.Cl
 rcases ZD j l.length with h1 | h1
 ·rw[S3 h1]
  exact h j h1
 ·obtain rfl:j=l.length:=by omega
  rw[T9]
  exact⟨hl,hf,hs⟩
theorem FW{l:List Ck.Sk}{x:Ck.Sk}(h:Ck.aF l=true)(hl:l.length<8)(hx:Ck.aF [x]=true):Ck.aF (l++[x])=true:=by
 unfold Ck.aF at*
 simp only[Zk,Zj,Gc,List.any_append,XY] at*
 refine⟨by rw[Zd];show((_+1:Nat):Int)<=8;omega,h.2,hx.2⟩
theorem rB{a x:Nat}(h:a.testBit x=false):a+2^x=a||| 2^x:=by
 have e1:a / 2^x*2^x+a%2^x=a:=Nat.div_add_mod' a (2^x)
 have ha:=Nat.mod_lt a (PE x)
 have hb:(a / 2^x).testBit 0=false:=by rw[Nat.testBit_div_two_pow];simpa using h
 have hb:a / 2^x%2=0:=by rw[XH] at hb;simp at hb;omega
 apply Ky
 intro i
 have e2:a+2^x=2^x*(a / 2^x+1)+a%2^x:=by rw[Nat.mul_add,Ku,Nat.mul_comm];omega
 have e3:a=2^x*(a / 2^x)+a%2^x:=by rw[Nat.mul_comm];omega
 rw[e2,Ti _ ha,Oy,K4]
 conv=>rhs;rw[e3,Ti _ ha]
 by_cases hi:i<x
 ·rw[if_pos hi,if_pos hi,decide_eq_false (by omega),Bool.or_false]
 ·rw[if_neg hi,if_neg hi]
  by_cases hx:x=i
  ·subst hx
   rw[OX,XH,XH,decide_eq_true rfl,Bool.or_true]
   simp;omega
  ·rw[decide_eq_false hx,Bool.or_false]
   obtain⟨k,hk⟩:∃ k,i - x=k+1:=⟨i - x - 1,by omega⟩
   rw[hk,Nat.testBit_succ,Nat.testBit_succ]
   congr 1
   omega
theorem Mw{a n:Nat}{x:Int}(h:a<2^n)(hx:a.testBit x.toNat=false)(h0:0<=x)(hn:x<(n:Int)):a+pow2 x<2^n:=by
 unfold pow2
 rw[rB hx]
 exact Qu h (RX (by omega) (by omega))
theorem Ol{a b:Int}{n:Nat}(ha:0<=a∧a<(n:Int))(hb:0<=b∧b<(n:Int)):0<=both a b∧both a b<=Rx.pw n - 1:=by
 unfold both Rx.pw pow2
 have pa:=PE a.toNat
 have pb:=PE b.toNat
 have ka:=RX (show 1<2 by omega) (show a.toNat<n by omega)
 have kb:=RX (show 1<2 by omega) (show b.toNat<n by omega)
 split
 ·omega
 ·rename_i hne
  have:(2^a.toNat).testBit b.toNat=false:=by rw[K4];exact decide_eq_false (by omega)
  have h3:=Qu (RX (show 1<2 by omega) (show a.toNat<n by omega)) (RX (show 1<2 by omega) (show b.toNat<n by omega))
  rw[<- rB this] at h3
  omega
theorem K0{p:Di.bO}{plan:List Int}:∀(l:List Di.cU) (i:Nat) (u:List Int),(Di.fH p plan i u l).2.2=0->∃ v,Di.fH p plan i u l=(some v,((i+l.length:Nat):Int),0)
 | [],i,u,h=>by
  rw[Di.fH] at h ⊢
  split at h
  ·cases h
  ·rename_i h1;rw[if_neg h1];exact⟨u,rfl⟩
 | w::l,i,u,h=>by
  rw[Di.fH] at h ⊢
  split at h
  ·cases h
  ·rename_i h1
   split at h
   ·cases h
   ·rename_i h2
    split at h
    ·cases h
    ·rename_i h3
     rw[if_neg h1,if_neg h2,if_neg h3]
     obtain⟨v,hv⟩:=K0 l (i+1) _ h
     refine⟨v,?_⟩
     rw[hv,Zn]
     congr 2
     omega
theorem OW{p:Di.bO}{l:List Di.cU}{plan:List Int}(h:(Di.fO p l plan).2.2=0):(∃ u,Di.fO p l plan=(some u,(l.length:Int),0))∧l.length<=8:=by
 have h0:=h
 unfold Di.fO at h
 split at h
 ·cases h
 ·rename_i h1
  split at h
  ·cases h
  ·rename_i h2
   have h1:Di.fQ p=true:=by simpa using h1
   have h2:Di.mh l=true:=by simpa using h2
   obtain⟨v,hv⟩:=K0 l 0 _ h
   rw[Di.gw h1 h2,hv,yy]
   exact⟨⟨v,rfl⟩,(Di.jq h2).1⟩
theorem tP{p:Di.bO}{b:bK}{f s:Int}(h:Yb p b)(hl:¬ 24<=b.ah.length)(hf:0<=f∧f<=Rx.pw b.ah.length - 1)(hs:0<=s∧s<=1048576):Yb p (b.fh ⟨f,s⟩):=by
 have e:(b.fh ⟨f,s⟩).ah.length=b.ah.length+1:=by show(b.ah++[_]).length=_;rw[Zd];rfl
 have h2:2^b.ah.length<2^(b.ah.length+1):=RX (by omega) (by omega)
 have h3:=h.bad
 have h4:=h.good
 refine⟨h.sk,h.WV,Me h.cd (by omega) hf hs,h.dr,h.Oq,?_,?_,h.ck,fun c hc=> ?_⟩
 ·rw[e];show b.bad<_;omega
 ·rw[e];show b.good<_;omega
 ·have:=h.P6 c hc
  rw[e];omega
theorem V7(n:Nat):(0:Int)<=0∧(0:Int)<=Rx.pw n - 1:=by
 unfold Rx.pw
 have:=PE n
 omega
theorem X3{F:cT}{v:Vb}{n:List Int}(hF:oN F)(hl:n.length=v.many)(hn:∀ x∈n,0<=x∧x<10000000000000):oN (bG F v n).1:=by
 have hb:=hF.b
 have hlen:=Rx.c6 hb.cd
 have nth:∀ k,k<n.length->0<=nn n k∧nn n k<10000000000000:=fun k hk=>hn _ (Di.bH 0 hk)
 have stay:∀ b,Yb F.aV b->oN {F with b:=b}:=fun b h=>⟨hF.p,h,hF.mm,hF.Yn⟩
 cases v
 case nC=>
  unfold bG;dsimp only
  split
  ·exact hF
  ·rename_i h1
   split
   ·exact hF
   ·rename_i h2
    refine stay _ ?_
    have hx:Ck.aF [hY n]=true:=by
     have h3:=Gp [hY n] [bM 0 1]
     rw[uV] at h3
     rw[h3] at h2
     by_cases hh:Ck.aF [hY n]=true
     ·exact hh
     ·rw[if_neg hh] at h2;exact absurd (by decide) h2
    have hc:=tP (f:=0) (s:=0) hb (by omega) (V7 _) (by decide)
    refine⟨?_,FW hb.WV (by omega) hx,hc.cd,hc.dr,hc.Oq,hc.bad,hc.good,?_,fun c hm=> ?_⟩
    ·show(F.b.aq++[hY n]).length<=8
     rw[Zd];show _+1<=8;omega
    ·show(_++_:List Int).length=(_++_:List Ck.Sk).length
     rw[Zd,Zd,hb.ck];rfl
    ·have e:(F.b.fh ⟨0,0⟩).ah.length=F.b.ah.length+1:=by show(F.b.ah++[_]).length=_;rw[Zd];rfl
     show 0<=c∧c<((F.b.fh ⟨0,0⟩).ah.length:Int)
     rw[e]
     rcases Zp.1 hm with h | h
     ·have:=hb.P6 c h;omega
     ·rw[ZJ.1 h];omega
 case slat=>
  unfold bG;dsimp only
  split
  ·exact hF
  ·rename_i h1
   exact stay _ (tP hb h1 (V7 _) (by decide))
 case lead=>
  unfold bG;dsimp only
  split
  ·exact hF
  ·rename_i h1
   split
   ·exact hF
   ·rename_i h2
    split
    ·exact hF
    ·rename_i h3
     split
     ·exact hF
     ·rename_i h4
      obtain⟨⟨i1,i2⟩,i3,i4⟩:=Mz (Classical.not_not.1 h2)
      have Y5:=hb.ck
      have ck1:=hb.P6 _ (Di.bH 0 (show(nn n 0).toNat<F.b.bX.length by omega))
      have ck2:=hb.P6 _ (Di.bH 0 (show(nn n 2).toNat<F.b.bX.length by omega))
      have hc:=tP (s:=0) hb h1 (Ol ck1 ck2) (by decide)
      obtain⟨hf,VJ⟩:=OW (Classical.not_not.1 h4)
      exact stay _ ⟨hc.sk,hc.WV,hc.cd,VJ,hf,hc.bad,hc.good,hc.ck,hc.P6⟩
 case pencil=>
  have q0:=nth 0 (by rw[hl];decide)
  have q1:=nth 1 (by rw[hl];decide)
  have q2:=nth 2 (by rw[hl];decide)
  unfold bG;dsimp only
  split
  ·exact hF
  ·rename_i h1
   split
   ·exact hF
   ·rename_i h2
    split
    ·exact hF
    ·rename_i h3
     exact stay _ (tP hb h1 (Ol (by omega) (by omega)) (by omega))
 case bad=>
  have q0:=nth 0 (by rw[hl];decide)
  unfold bG;dsimp only
  split
  ·exact hF
  ·rename_i h1
   split
   ·exact hF
   ·obtain⟨c1,c2⟩:=Mb (Classical.not_not.1 h1)
    exact stay _ ⟨hb.sk,hb.WV,hb.cd,hb.dr,hb.Oq,Mw hb.bad c2 q0.1 c1,hb.good,hb.ck,hb.P6⟩
 case good=>
  have q0:=nth 0 (by rw[hl];decide)
  unfold bG;dsimp only
  split
  ·exact hF
  ·rename_i h1
   split
   ·exact hF
   ·obtain⟨c1,c2⟩:=Mb (Classical.not_not.1 h1)
    exact stay _ ⟨hb.sk,hb.WV,hb.cd,hb.dr,hb.Oq,hb.bad,Mw hb.good c2 q0.1 c1,hb.ck,hb.P6⟩
 case blame=>
  unfold bG;dsimp only
  split <;> exact hF
 case call=>
  unfold bG;dsimp only
  split <;> exact hF
 case from_=>
  unfold bG;dsimp only
  split <;> exact hF
 case wear=>
  unfold bG;dsimp only
  split <;> exact hF
 case mark=>
  unfold bG;dsimp only
  split
  ·exact hF
  ·rename_i h1
   refine⟨hF.p,hF.b,?_,fun x hx=> ?_⟩
   ·show(_++_:List bK).length<=8
    rw[Zd];show _+1<=8;omega
   ·rcases Zp.1 hx with h | h
    ·exact hF.Yn x h
    ·rw[ZJ.1 h];exact hF.b
 case back=>
  unfold bG;dsimp only
  cases hm:F.marks.getLast? with
  | none=>exact hF
  | some x=>
   have hx:x∈F.marks:=List.mem_of_getLast? hm
   refine⟨hF.p,hF.Yn x hx,?_,fun y hy=>hF.Yn y (List.dropLast_subset _ hy)⟩
   show F.marks.dropLast.length<=8
   rw[List.length_dropLast];have:=hF.mm;omega
 case keep=>
  unfold bG;dsimp only
  cases hm:F.marks.getLast? with
  | none=>exact hF
  | some x=>
   refine⟨hF.p,hF.b,?_,fun y hy=>hF.Yn y (List.dropLast_subset _ hy)⟩
   show F.marks.dropLast.length<=8
   rw[List.length_dropLast];have:=hF.mm;omega
theorem wv{s:Bs}{v:Vb}{n:List Int}(h:cJ s=some (v,n)):n.length=v.many∧∀ x∈n,0<=x∧x<10000000000000:=by
 obtain⟨h1,h2⟩:=ML s
 cases hb:NA (bT s) ((bT s).length - 1) with
 | false=>rw[h2 hb] at h;cases h
 | true=>
  obtain⟨v',_,hl,he⟩:=h1 hb
  rw[he] at h
  cases h
  refine⟨hl,fun x hx=> ?_⟩
  unfold Fv at hx
  obtain⟨y,_,rfl⟩:=yu.1 hx
  exact V1 y
theorem z7{F:cT}{s:Bs}(hF:oN F):oN (aP F s).1:=by
 unfold aP
 split
 ·exact hF
 ·split
  ·exact hF
  ·rename_i v n h
   obtain⟨hl,hn⟩:=wv h
   exact X3 hF hl hn
theorem KX{p:Di.bO}(h:Di.fQ p=true):oN (newF p):=by
 refine⟨h,⟨Zv _,rfl,fun j hj=>absurd hj (Nat.not_lt_zero j),Zv _,?_,by show 0<1;decide,by show 0<1;decide,rfl,fun c hc=>by cases hc⟩,Zv _,fun x hx=>by cases hx⟩
 refine⟨List.replicate p.dies.length 0,?_⟩
 show Di.fO p [] []=_
 rw[Di.gw h (by decide)]
 rfl
theorem Lr(v:Vb):v.t.length<=6:=by cases v <;> decide
theorem VU(l:List Rx.b6)(s:List Int):0<=Rx.ju l s∧Rx.ju l s<=2:=by
 unfold Rx.ju
 split
 ·split <;> decide
 ·decide
theorem Yd(l:List Rx.b6)(a b:Int):0<=Rx.iS l a b∧Rx.iS l a b<=6:=by
 unfold Rx.iS
 split
 ·have:=VU l [a,b];omega
 ·split
  ·decide
  ·split <;> decide
theorem Sz(l:List Rx.b6)(b:Int):0<=Rx.fy l b∧Rx.fy l b<=6:=by
 unfold Rx.fy
 split
 ·split <;> decide
 ·decide
theorem Oj(b:bK)(s:Nat)(x:Int):0<=fu b s x∧fu b s x<=6:=by
 unfold fu
 split
 ·decide
 ·split <;> decide
theorem Sb(l:List Ck.Sk)(b:List Ck.Tk):0<=(shr l b).2∧(shr l b).2<=1:=by
 rw[Gp]
 split <;> decide
theorem MI{p:Di.bO}{plan:List Int}:∀(l:List Di.cU) (i:Nat) (u:List Int),0<=(Di.fH p plan i u l).2.2∧(Di.fH p plan i u l).2.2<=11
 | [],i,u=>by
  rw[Di.fH]
  split <;> (dsimp only;omega)
 | w::l,i,u=>by
  rw[Di.fH]
  split
  ·dsimp only;omega
  ·split
   ·dsimp only;omega
   ·split
    ·dsimp only;omega
    ·exact MI l _ _
theorem XC(p:Di.bO)(l:List Di.cU)(plan:List Int):0<=(Di.fO p l plan).2.2∧(Di.fO p l plan).2.2<=11:=by
 unfold Di.fO
 split
 ·decide
 ·split
  ·decide
  ·exact MI _ _ _
def Wl(x:cT×Bs×Int):Prop:=x.2.1.length<=3000∧0<=x.2.2∧x.2.2<=15
theorem jD{F:cT}{e:Int}(h:0<=e∧e<=15):Wl (F,[],e):=⟨Zv _,h⟩
theorem iV{F:cT}{w:Bs}{l:List Int}(hw:w.length<=100)(hl:l.length<=102)(h:∀ n∈l,0<=n∧n<10000000000000):Wl (F,aH w l,0):=by
 have:=gU (w:=w) h
 exact⟨by show(aH w l).length<=3000;omega,(by decide:(0:Int)<=0∧(0:Int)<=15)⟩
theorem ok_two{F:cT}{w v:Bs}{l m:List Int}(hw:w.length<=100)(hv:v.length<=100)(hl:l.length<=80)(hm:m.length<=80)(h1:∀ n∈l,0<=n∧n<10000000000000)(h2:∀ n∈m,0<=n∧n<10000000000000):Wl (F,aH w l++32::aH v m,0):=by
 have a:=gU (w:=w) h1
 have b:=gU (w:=v) h2
 refine⟨?_,(by decide:(0:Int)<=0∧(0:Int)<=15)⟩
 show(aH w l++32::aH v m).length<=3000
 rw[Zd,Zn];omega
theorem W5{F:cT}{v:Vb}{n:List Int}(hF:oN F)(hl:n.length=v.many)(hn:∀ x∈n,0<=x∧x<10000000000000):Wl (bG F v n):=by
 have hb:=hF.b
 have hlen:=Rx.c6 hb.cd
 have hsk:=hb.sk
 have QU:=hF.mm
 have vl:=Lr v
 cases v
 case nC=>
  unfold bG;dsimp only
  split
  ·exact eo
  ·split
   ·exact jD (by have:=Sb [hY n] [bM 0 1];omega)
   ·exact ok_two (by omega) (by decide) (by show 1<=80;decide) (by show 1<=80;decide) (oR (by omega)) (oR (by omega))
 case slat=>
  unfold bG;dsimp only
  split
  ·exact eo
  ·exact iV (by decide) (by show 1<=102;decide) (oR (by omega))
 case lead=>
  unfold bG;dsimp only
  split
  ·exact eo
  ·split
   ·exact jD (by have:=Sb F.b.aq [bM (nn n 0) (nn n 1),bM (nn n 2) (nn n 3)];omega)
   ·split
    ·exact eo
    ·split
     ·exact jD (by have:=XC F.aV (F.b.av++[⟨nn n 5,nn n 6,nn n 7⟩]) (F.b.plan++[nn n 4]);omega)
     ·obtain⟨sb1,sb2⟩:=Rq F.b.aq [bM (nn n 0) (nn n 1),bM (nn n 2) (nn n 3)]
      exact ok_two (by decide) (by decide) (by show 1<=80;decide) (by show 2<=80;decide) (oR (by omega)) (LI sb1 sb2)
 case pencil=>
  unfold bG;dsimp only
  split
  ·exact eo
  ·split
   ·exact eo
   ·split
    ·exact eo
    ·exact iV (by decide) (by show 1<=102;decide) (oR (by omega))
 case bad=>
  unfold bG;dsimp only
  split
  ·exact jD (by have:=Oj F.b F.b.bad (nn n 0);omega)
  ·split
   ·exact eo
   ·have:=fW (F.b.bad+pow2 (nn n 0))
    exact v8
 case good=>
  unfold bG;dsimp only
  split
  ·exact jD (by have:=Oj F.b F.b.good (nn n 0);omega)
  ·split
   ·exact eo
   ·have:=fW (F.b.good+pow2 (nn n 0))
    exact v8
 case blame=>
  unfold bG;dsimp only
  split
  ·exact jD (by have:=Yd F.b.ah F.b.bad F.b.good;omega)
  ·exact iV (by omega) (ZT (fW _) (by decide)) (sH _)
 case call=>
  unfold bG;dsimp only
  split
  ·exact jD (by have:=Yd F.b.ah F.b.bad F.b.good;omega)
  ·obtain⟨⟨s1,s2⟩,s3,s4⟩:=NW (bad:=F.b.bad) (good:=F.b.good) hb.cd
   refine iV (by omega) ?_ ?_
   ·have:=fW (Rx.xA F.b.ah F.b.bad F.b.good)
    rw[Zn,Zn];omega
   ·intro x hx
    rcases Zr.1 hx with rfl | hx
    ·omega
    ·rcases Zr.1 hx with rfl | hx
     ·omega
     ·exact sH _ x hx
 case from_=>
  unfold bG;dsimp only
  split
  ·exact jD (by have:=Sz F.b.ah (nn n 0);omega)
  ·exact iV (by omega) (ZT (fW _) (by decide)) (sH _)
 case wear=>
  unfold bG;dsimp only
  split
  ·exact eo
  ·obtain⟨uu,hfo⟩:=hb.Oq
   obtain⟨_,Ra⟩:=Di.jq (tE hfo).2
   have hpl:=kE hfo
   have hu:=E8 (d:=nn n 0) Ra hpl F.b.plan.length (Ze _)
   have hu:0<=eG F.b (nn n 0)∧eG F.b (nn n 0)<=1000*(F.b.plan.length:Int):=hu
   have VJ:=hb.dr
   obtain⟨⟨x1,x2⟩,x3,x4⟩:=Mn (p:=F.aV) (j:=nn n 0) (u:=eG F.b (nn n 0))
   exact iV (by omega) (by show 3<=102;decide) (Gu (by omega) (by omega) (by omega))
 case mark=>
  unfold bG;dsimp only
  split
  ·exact eo
  ·exact v8
 case back=>
  unfold bG;dsimp only
  cases hm:F.marks.getLast? with
  | none=>exact jD (by decide)
  | some x=>
   have hx:F.marks≠[]:=fun e=>by rw[e] at hm;cases hm
   have:=List.length_pos_iff.2 hx
   exact iV (by omega) (by show 1<=102;decide) (oR (by omega))
 case keep=>
  unfold bG;dsimp only
  cases hm:F.marks.getLast? with
  | none=>exact jD (by decide)
  | some x=>
   have hx:F.marks≠[]:=fun e=>by rw[e] at hm;cases hm
   have:=List.length_pos_iff.2 hx
   exact iV (by omega) (by show 1<=102;decide) (oR (by omega))
theorem Gq{F:cT}{s:Bs}(hF:oN F):Wl (aP F s):=by
 unfold aP
 split
 ·exact eo
 ·split
  ·exact eo
  ·rename_i v n h
   obtain⟨hl,hn⟩:=wv h
   exact W5 hF hl hn
def j8(F:cT)(L:List Bs):Nat->cT
 | 0=>F
 | g+1=>(aP (j8 F L g) (Di.gt [] L g)).1
def oI(F:cT)(L:List Bs):Nat->Bs
 | 0=>[]
 | g+1=>oI F L g++zm (aP (j8 F L g) (Di.gt [] L g)).2.1 (aP (j8 F L g) (Di.gt [] L g)).2.2
def xV(F:cT):List Bs->cT
 | []=>F
 | l::ls=>xV (aP F l).1 ls
theorem Dt(F:cT):∀(a b:List Bs),xJ F (a++b)=xJ F a++xJ (xV F a) b
 | [],b=>rfl
 | l::a,b=>by
  show _++xJ _ (a++b)=(_++_)++_
  rw[Dt _ a b,ZH]
  rfl
theorem ye(F:cT):∀(a b:List Bs),xV F (a++b)=xV (xV F a) b
 | [],b=>rfl
 | l::a,b=>ye _ a b
theorem Gy{L:List Bs}{g:Nat}(h:g<L.length):L.take (g+1)=L.take g++[Di.gt [] L g]:=by
 rw[ZX h,Di.aL [] g h]
theorem BX(F:cT)(L:List Bs):∀ g,g<=L.length->j8 F L g=xV F (L.take g)
 | 0,_=>rfl
 | g+1,h=>by
  rw[Gy h,ye,<- BX F L g (by omega)]
  rfl
theorem yC(F:cT)(L:List Bs):∀ g,g<=L.length->oI F L g=xJ F (L.take g)
 | 0,_=>by rw[Ml];rfl
 | g+1,h=>by
  rw[Gy h,Dt,<- yC F L g (by omega),<- BX F L g (by omega)]
  show _++_=_++(_++[])
  rw[ZU]
theorem iT{F:cT}{L:List Bs}(hF:oN F):∀ g,oN (j8 F L g)
 | 0=>hF
 | g+1=>z7 (iT hF g)
theorem O3{e:Int}(h:0<=e∧e<=15):(aH Fb [e]).length<=19:=by
 have:=gU (w:=Fb) (l:=[e]) (oR (by omega))
 have h2:Fb.length=5:=rfl
 have h3:[e].length=1:=rfl
 omega
theorem tG{r:Bs}{e:Int}(h:r.length<=3000∧0<=e∧e<=15):(zm r e).length<=3001:=by
 unfold zm
 rw[Zd]
 split
 ·show _+1<=_;omega
 ·have:=O3 h.2;show _+1<=_;omega
theorem sE{F:cT}{L:List Bs}(hF:oN F):∀ g,(oI F L g).length<=3001*g
 | 0=>Ze _
 | g+1=>by
  have:=sE (L:=L) hF g
  have h2:=tG (Gq (s:=Di.gt [] L g) (iT (L:=L) hF g))
  rw[oI,Zd];omega
theorem Ac{p t:Bs}{c:UInt8}:∀(x:Bs),(∀ b∈x,b≠c)->Lib.index (x++(c::p)++t) (c::p)=x.length
 | [],_=>by
  show Lib.index (c::(p++t)) (c::p)=_
  unfold Lib.index
  rw[if_pos (by rw[List.isPrefixOf_iff_prefix];exact⟨t,rfl⟩)];rfl
 | b::x,h=>by
  have ih:=Ac (p:=p) (t:=t) x (fun b hb=>h b (Zg _ hb))
  show Lib.index (b::(x++(c::p)++t)) (c::p)=_
  unfold Lib.index
  rw[if_neg (by rw[List.isPrefixOf_iff_prefix];rintro⟨u,hu⟩;injection hu with h1 h2;exact h b (Zq ..) h1.symm),ih,if_neg (by simp)]
  simp
theorem Mf{p:Bs}{c:UInt8}:∀(x:Bs),(∀ b∈x,b≠c)->Lib.index x (c::p)= -1
 | [],_=>rfl
 | b::x,h=>by
  unfold Lib.index
  rw[if_neg (by rw[List.isPrefixOf_iff_prefix];rintro⟨u,hu⟩;injection hu with h1 h2;exact h b (Zq ..) h1.symm),Mf x (fun b hb=>h b (Zg _ hb)),if_pos (by decide)]
def EW(c:UInt8)(x:Bs):Prop:=∀ b∈x,b≠c
def cA(c:UInt8):List Bs->Bs
 | []=>[]
 | w::r=>w++r.flatMap fun x=>c::x
theorem jg(c:UInt8)(w y:Bs)(r:List Bs):cA c (w::y::r)=w++[c]++cA c (y::r):=by simp[cA]
theorem Hj{c:UInt8}:∀(r:List Bs) (w:Bs),EW c w->(∀ x∈r,EW c x)->Lib.splitK [c] 0 r.length (cA c (w::r))=w::r
 | [],w,_,_=>by
  show[w++[]]=_
  rw[ZU]
 | y::r,w,hw,h=>by
  have hi:Lib.index (w++[c]++cA c (y::r)) [c]=w.length:=Ac w hw
  rw[Zn,Lib.splitK,jg,hi,if_neg (by simp),show((w.length:Nat):Int).toNat=w.length from rfl,Kk,ZH,List.take_left,<- ZH,show w.length+[c].length=(w++[c]).length by rw[Zd],List.drop_left,Hj r y (h y (Zq ..)) fun x hx=>h x (Zg _ hx)]
theorem GN{c:UInt8}:∀(r:List Bs) (w:Bs),EW c w->(∀ x∈r,EW c x)->Lib.count (cA c (w::r)) [c]=r.length
 | [],w,hw,_=>by
  show Lib.count (w++[]) _=_
  rw[ZU]
  exact Lib.count_miss (Mf w hw)
 | y::r,w,hw,h=>by
  have hi:Lib.index (w++[c]++cA c (y::r)) [c]=w.length:=Ac w hw
  rw[jg,Lib.count_hit (List.cons_ne_nil _ _) hi,show w.length+[c].length=(w++[c]).length by rw[Zd],List.drop_left,GN r y (h y (Zq ..)) (fun x hx=>h x (Zg _ hx)),Zn]
  omega
theorem dJ(x:Bs):(sB x).data.toList=x:=by unfold sB;simp
theorem VR(y:ByteArray):y=sB y.data.toList:=by unfold sB;simp
theorem Le{c:UInt8}(ws:List Bs)(h0:0<ws.length)(h:∀ x∈ws,EW c x):Lib.splitB (sB [c]) 0 (ws.length - 1) (sB (cA c ws))=ws.map sB:=by
 cases ws with
 | nil=>cases h0
 | cons w r=>
  have e1:=Lib.splitB_data (sB [c]) 0 r.length (sB (cA c (w::r)))
  rw[dJ,dJ,Hj r w (h w (Zq ..)) fun x hx=>h x (Zg _ hx)] at e1
  have e2:∀ L:List ByteArray,L=(L.map fun x=>x.data.toList).map sB:=fun L=>by
   rw[OE]
   conv=>lhs;rw[<- List.map_id L]
   exact U4 fun y _=>VR y
  rw[Zn,Nat.add_sub_cancel,e2 (Lib.splitB _ _ _ _)]
  exact congrArg (List.map sB) e1
theorem N1{c:UInt8}(ws:List Bs)(h0:0<ws.length)(h:∀ x∈ws,EW c x):Lib.countB (sB (cA c ws)) (sB [c])=ws.length - 1:=by
 cases ws with
 | nil=>cases h0
 | cons w r=>
  show Lib.count (sB _).data.toList (sB _).data.toList=_
  rw[dJ,dJ,GN r w (h w (Zq ..)) fun x hx=>h x (Zg _ hx)]
  rfl
theorem Ey{c:UInt8}:∀(ws:List Bs),ws.length<=(cA c ws).length+1
 | []=>Zv _
 | [w]=>by simp
 | w::y::r=>by
  have:=Ey (c:=c) (y::r)
  rw[jg]
  simp only[Zd,Zn] at this ⊢
  omega
theorem TU(c:UInt8)(s cur:Bs):∃ w r,dQ c cur s=w::r:=by
 have:=(iU c s cur).1
 cases h:dQ c cur s with
 | nil=>rw[h] at this;cases this
 | cons w r=>exact⟨w,r,rfl⟩
theorem vA(c:UInt8):∀(s cur:Bs),cA c (dQ c cur s)=cur++s
 | [],cur=>by rw[dQ];simp[cA]
 | b::s,cur=>by
  rw[dQ]
  split
  ·rename_i h
   obtain⟨w,r,e⟩:=TU c s []
   have ih:=vA c s []
   rw[e] at ih ⊢
   rw[jg,ih,h]
   simp
  ·rw[vA c s (cur++[b])];simp
theorem Ao(c:UInt8):∀(s cur:Bs),EW c cur->∀ x∈dQ c cur s,EW c x
 | [],cur,h,x,hx=>by
  rw[dQ,ZJ] at hx
  rw[hx];exact h
 | b::s,cur,h,x,hx=>by
  rw[dQ] at hx
  split at hx
  ·rcases Zr.1 hx with rfl | hx
   ·exact h
   ·exact Ao c s [] (fun y hy=>by cases hy) x hx
  ·rename_i hb
   refine Ao c s _ (fun y hy=> ?_) x hx
   rcases Zp.1 hy with h1 | h1
   ·exact h y h1
   ·rw[ZJ.1 h1];exact hb
inductive iI where
 | str (w:Bs)
 | num (k:Int)
 | Fy (l:List Int)
def iI.w:iI->List Bs
 | .str w=>[w]
 | .num k=>[Lib.itoa k]
 | .Fy l=>l.map Lib.itoa
def iI.Ov:iI->Bool
 | .str _=>true
 | _=>false
def iI.YC:iI->Bool
 | .num _=>true
 | _=>false
def iI.Yz:iI->Bool
 | .Fy _=>true
 | _=>false
def iI.sV:iI->Bs
 | .str w=>w
 | _=>[]
def iI.nV:iI->Int
 | .num k=>k
 | _=>0
def iI.lV:iI->PV
 | .Fy l=>Di.cg l
 | _=> .nilSlice
def iI.ok:iI->Prop
 | .str w=>w.length<=100
 | .num k=>0<=k∧k<10000000000000
 | .Fy l=>l.length<=100∧∀ k∈l,0<=k∧k<10000000000000
def jk(l:List iI):List Bs:=l.flatMap iI.w
theorem y7{l:List iI}{k:Nat}(h:k<l.length):jk (l.take (k+1))=jk (l.take k)++(Di.gt (.str []) l k).w:=by
 unfold jk
 rw[ZX h,JP,Di.aL (.str []) k h]
 simp
theorem GH:∀{l:List iI},(∀ p∈l,p.ok)->(jk l).length<=100*l.length
 | [],_=>Zv _
 | p::l,h=>by
  have ih:=GH (l:=l) fun q hq=>h q (Zg _ hq)
  have hp:=h p (Zq ..)
  unfold jk at ih ⊢
  rw[ZL,Zd,Zn]
  have:p.w.length<=100:=by
   cases p with
   | str w=>show 1<=100;decide
   | num k=>show 1<=100;decide
   | Fy l=>show(l.map Lib.itoa).length<=100;rw[Zo];exact hp.1
  omega
theorem Nd(l:List iI)(k:Nat):(jk (l.take k)).length<=(jk l).length:=by
 unfold jk
 conv=>rhs;rw[<- Xy k l,JP,Zd]
 omega
theorem VT{l:List iI}(h:∀ p∈l,p.ok):∀ x∈jk l,x.length<=100:=fun x hx=>by
 obtain⟨p,hp,hx⟩:=List.mem_flatMap.1 hx
 have hk:=h p hp
 cases p with
 | str w=>rw[ZJ.1 hx];exact hk
 | num k=>
  rw[ZJ.1 hx]
  have:=lq hk.1 hk.2;omega
 | Fy l=>
  obtain⟨k,hm,rfl⟩:=yu.1 hx
  have:=lq (hk.2 k hm).1 (hk.2 k hm).2;omega
theorem N3{c:UInt8}:∀(ws:List Bs),(∀ x∈ws,x.length<=100)->(cA c ws).length<=101*ws.length
 | [],_=>Zv _
 | [w],h=>by
  have:=h w (Zq ..)
  simp[cA];omega
 | w::y::r,h=>by
  have ih:=N3 (c:=c) (y::r) fun x hx=>h x (Zg _ hx)
  have:=h w (Zq ..)
  rw[jg]
  simp only[Zd,Zn,IN] at ih ⊢
  omega
theorem eD(w:Bs)(l:List Int):aH w l=cA 32 (w::l.map Lib.itoa):=by
 show _=w++(l.map Lib.itoa).flatMap fun x=>32::x
 rw[List.flatMap_map]
 rfl
theorem Nx(ws:List Bs)(sep:UInt8):Lib.join ws [sep]=cA sep ws:=by
 cases ws with
 | nil=>rfl
 | cons w r=>
  rw[Lib.join_cons]
  show w++(r.map ([sep]++ ·)).flatten=w++r.flatMap fun x=>sep::x
  rw[List.flatMap_def]
  rfl
theorem FX(k m:Nat)(h:2^k*(2*m+1)<2^64):2^k*(2*m+1)&&& (2^64 - 2^k*(2*m+1))=2^k:=by
 have hp:=PE k
 have h1:1<=2^k*(2*m+1):=Nat.mul_pos hp (by omega)
 have hk:k<64:=by
  rcases ZD k 64 with h2 | h2
  ·exact h2
  ·exact uE
 apply Ky
 intro i
 have e:2^64 - 2^k*(2*m+1)=2^64 - ((2^k*(2*m+1) - 1)+1):=by omega
 rw[e,N8,Nat.testBit_two_pow_sub_succ (by omega),Rx.tM,Rx.wR,K4]
 by_cases h2:i<k
 ·simp[show ¬ k<=i by omega,show ¬ k=i by omega]
 ·exact B6
theorem Xa{x k:Nat}(h0:x≠0)(h:x<2^32)(hk:x&&& (2^32 - x)=2^k):x&&& (2^64 - x)=2^k:=by
 obtain⟨j,m,e⟩:=Rx.K9 x h0
 rw[e] at hk h ⊢
 rw[Rx.Bd j m h] at hk
 rw[FX j m (Nat.lt_trans h (by decide)),hk]
def EA:List Int:=[0,1,56,2,57,49,28,3,61,58,42,50,38,29,17,4,62,47,59,36,45,43,51,22,53,39,33,30,24,18,12,5,63,55,48,27,60,41,37,16,46,35,44,21,52,32,23,11,54,26,40,15,34,20,31,10,25,14,19,9,13,8,7,6]
theorem N6:∀ k:Nat,k<64->EA[2^k*285870213051353865%18446744073709551616 / 2^58]? =some (k:Int):=by decide
theorem Gr(n:Int):IntKind.u64.wrap n=n%18446744073709551616:=by simp[IntKind.wrap,IntKind.bits,IntKind.signed]
theorem Tl{n:Nat}(h:0<n)(h2:n<2^32):IntKind.u64.wrap (0 - (n:Int))=((2^64 - n:Nat):Int):=by
 rw[Gr]
 omega
theorem UJ(k:Nat):IntKind.u64.wrap (((2^k:Nat):Int)*285870213051353865)=((2^k*285870213051353865%18446744073709551616:Nat):Int):=by
 rw[Gr]
 omega
def bl(n p:Nat):List Int:=(Rx.aM n p).map fun(i:Nat)=>(i:Int)
theorem SZ(n p:Nat):(bl n p).length<=p:=by
 unfold bl Rx.aM
 exact Cb
def byC(b:UInt8):List PV:=[.int .u8 b.toNat]
theorem Gw:∀ s:Bs,bP s=s.flatMap byC
 | []=>rfl
 | b::s=>by
  show PV.int .u8 b.toNat::bP s=_
  rw[ZL,<- Gw s]
  rfl
theorem Xc{s:Bs}{b:Bool}(h:((!decide (s=[])&&decide (((sB s).size:Int)<=13))&&(decide (s=[48])|| !decide (((Di.gt 0 s 0).toNat:Int)=48)))=b):(b=true->s≠[]∧s.length<=13∧(s=[48]∨s.getD 0 0≠48))∧(b=false->¬ gP s):=by
 rw[eX] at h
 have e48:((Di.gt 0 s 0).toNat:Int)=48↔s.getD 0 0=48:=by
  show((s.getD 0 0).toNat:Int)=48↔_
  constructor
  ·intro h;exact UInt8.toNat_inj.1 (by have:(48:UInt8).toNat=48:=rfl;omega)
  ·intro h;rw[h];rfl
 subst h
 constructor
 ·intro h
  simp only[Zk,NC,Gc,Zj,UL,e48] at h
  exact⟨h.1.1,by omega,h.2⟩
 ·rintro h ⟨a,b,c,_⟩
  have:(((!decide (s=[])&&decide ((s.length:Int)<=13))&&(decide (s=[48])|| !decide (((Di.gt 0 s 0).toNat:Int)=48)))=true):=by
   simp only[Zk,NC,Gc,Zj,UL,e48]
   exact⟨⟨a,by omega⟩,c⟩
  rw[this] at h
  cases h
theorem Om{b:UInt8}{x:Bool}(h:(decide ((48:Int)<=(b.toNat:Int))&&decide ((b.toNat:Int)<=57))=x):qq b=x:=by
 rw[<- h]
 unfold qq
 congr 1
 ·exact decide_eq_decide.2 (by omega)
 ·exact decide_eq_decide.2 (by omega)
theorem Ij{a b:Int}{j k:Nat}(ha:a=(j:Int))(hb:b=(k:Int)):both a b=((1*2^j||| 1*2^k:Nat):Int):=by
 subst ha hb
 unfold both pow2
 rw[He,He,ZM,ZM]
 by_cases h:j=k
 ·subst h
  rw[if_pos rfl,Nat.or_self]
 ·rw[if_neg (by omega),<- rB (by rw[K4];exact decide_eq_false (by omega))]
theorem W1{l:List Rx.b6}{bad good:Int}(hC:Rx.cH l):Rx.lz l bad good<2^24:=by
 have oA:=Zy (show 0<2 by omega) (Rx.c6 hC)
 by_cases h:Rx.iS l bad good=0
 ·have:=(Rx.Aq h).2.2.2.2.2.2
  omega
 ·unfold Rx.lz
  rw[if_neg h];decide
theorem UC{l:List Rx.b6}{bad good:Int}(hC:Rx.cH l):Rx.xA l bad good<2^24:=by
 have oA:=Zy (show 0<2 by omega) (Rx.c6 hC)
 unfold Rx.xA
 split
 ·rename_i h
  have:=Rx.G0 (Rx.c6 hC) (Rx.Aq h).2.2.2.2.2.2
  omega
 ·decide
theorem O2{l:List Rx.b6}(hC:Rx.cH l)(b:Int):Rx.kz l (Rx.bS l) b<2^24:=by
 unfold Rx.kz
 split
 ·rename_i h
  have hb:b.toNat<24:=by
   have oA:=Rx.c6 hC
   unfold Rx.fy at h
   rw[if_pos hC] at h
   split at h
   ·rename_i h2
    unfold Rx.iR at h2
    simp at h2
    omega
   ·cases h
  have h1:=Rx.GB l b.toNat
  have h2:=Zy (show 0<2 by omega) (show b.toNat+1<=24 by omega)
  omega
 ·decide
theorem J0{n:Nat}(h:n<2^24):iO n=(Rx.aM n 32).map fun(i:Nat)=>(i:Int):=by
 have e:Rx.aM n 32=Rx.aM n 24:=Rx.oY (by omega) fun i h1 _=>TG (ZR h (Zy (by omega) h1))
 rw[e]
 rfl
end Go.Proofs.YtibffijhebobmaaGreatDoor
end
