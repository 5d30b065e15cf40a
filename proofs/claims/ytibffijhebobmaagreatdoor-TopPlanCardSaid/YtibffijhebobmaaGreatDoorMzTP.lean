/-
 Chapter 15: the floor as plain data: the books, the marks; what a line says, and what it does.
 Chapter 15: numbers and words of a line, step by step.
 Chapter 15: the members of a set, one after the other.
 Chapter 15: how great what a floor answers can be.
 Chapter 15: a line leaves a floor that can be.
 Chapter 15: how long replies are; scripts.
 Chapter 15, the program: texts that are cut and joined; what a reply is put together of; lowest bits of 64; how many bits there are.
-/
import Derived.Test.YtibffijhebobmaaGreatDoorMzTD
import Derived.Test.YtibffijhebobmaaGreatDoorMzTC
import Derived.Test.YtibffijhebobmaaGreatDoorMzTR
import Derived.Lib.ItoaNum
import Derived.Test.YtibffijhebobmaaGreatDoorFaTF
import Derived.Lib.Split
import Derived.Lib.IndexMore
import Derived.Lib.CountLaws
import Derived.Lib.SplitLaws
import Derived.Lib.Join
import Derived.Test.YtibffijhebobmaaGreatDoorMzTZ
theorem eZ{A:Prop}(h:A:=by
 exact jG (by decide)):A:=h
theorem wS{A:Prop}(h:A:=by
 exact jd (by omega) (by show 1<=102;decide) (o8 (by omega))):A:=h
theorem Dz{A:Prop}(h:A:=by
 rw[Zp]
 exact ZW (List.length_filter_le _ _) (by rw[KO];exact Zf _)):A:=h
set_option linter.unusedSimpArgs false
set_option linter.unusedVariables false
section
namespace Go.Proofs.YtibffijhebobmaaGreatDoor
open Go.AF
abbrev Bs:=List UInt8
structure bN where
 au:List Ck.Sk
 ai:List Rx.cx
 aq:List Di.aH
 plan:List Int
 bad:Nat
 good:Nat
 bZ:List Int
structure cW where
 aV:Di.bn
 b:bN
 marks:List bN
def noB:bN:=⟨[],[],[],[],0,0,[]⟩
def newF(p:Di.bn):cW:=⟨p,noB,[]⟩
inductive Vb where
 | nN | slat | lead | pencil | bad | good | blame | call | from_ | wear | mark | back | keep
 deriving DecidableEq
def Vb.t:Vb->Bs
 | .nN=>[115,97,99,107]
 | .slat=>[115,108,97,116]
 | .lead=>[108,101,97,100]
 | .pencil=>[112,101,110,99,105,108]
 | .bad=>[98,97,100]
 | .good=>[103,111,111,100]
 | .blame=>[98,108,97,109,101]
 | .call=>[99,97,108,108]
 | .from_=>[102,114,111,109]
 | .wear=>[119,101,97,114]
 | .mark=>[109,97,114,107]
 | .back=>[98,97,99,107]
 | .keep=>[107,101,101,112]
def Vb.many:Vb->Nat
 | .nN=>6
 | .lead=>8
 | .pencil=>3
 | .bad=>1
 | .good=>1
 | .from_=>1
 | .wear=>1
 | _=>0
def WO:List Vb:=[.nN,.slat,.lead,.pencil,.bad,.good,.blame,.call,.from_,.wear,.mark,.back,.keep]
def ju(s:Bs):Option Vb:=WO.find? fun v=>decide (v.t=s)
theorem Uj(v:Vb):ju v.t=some v:=by cases v <;> decide
theorem yt{s:Bs}{v:Vb}(h:ju s=some v):v.t=s:=by
 have:=List.find?_some h
 simpa using this
theorem JF{s:Bs}(h:ju s=none)(v:Vb):v.t≠s:=by
 have:=List.find?_eq_none.1 h v (by cases v <;> decide)
 simpa using this
def nn(l:List Int)(k:Nat):Int:=Di.gt 0 l k
def aY(w:Bs)(l:List Int):Bs:=w++l.flatMap fun n=>32::Lib.itoa n
def jb(n:Nat):List Int:=((List.range 24).filter fun i=>n.testBit i).map fun(i:Nat)=>(i:Int)
def pow2(n:Int):Nat:=2^n.toNat
def both(a b:Int):Int:=if a=b then((pow2 a:Nat):Int) else((pow2 a+pow2 b:Nat):Int)
def shr(l:List Ck.Sk)(b:List Ck.Tk):(Int×Int)×Int:=if Ck.iT l b then((Ck.tZ l b 1001,Ck.l9 l b 1001),0) else((0,0),1)
theorem W2(l:List Ck.Sk)(b:List Ck.Tk):Ck.uN l b=[.agg [.int .i64 (shr l b).1.1,.int .i64 (shr l b).1.2],.int .i64 (shr l b).2]:=by
 unfold Ck.uN shr
 split <;> rfl
def bT(s m:Int):Ck.Tk:=⟨s,⟨m,m⟩⟩
def iz(n:List Int):Ck.Sk:=⟨⟨nn n 0,nn n 1⟩,⟨nn n 2,nn n 3⟩,⟨nn n 4,nn n 5⟩⟩
def bN.fU(b:bN)(x:Rx.cx):bN:={b with ai:=b.ai++[x]}
def fJ(b:bN)(set:Nat)(x:Int):Int:=if (b.ai.length:Int)<=x then 2 else if set.testBit x.toNat then 5 else 0
def jQ:Bs:=[99,97,114,100]
def F7:Bs:=[115,104,97,114,101]
def xk(b:bN)(die:Int):Nat->Int
 | 0=>0
 | g+1=>xk b die g+if Di.gt 0 b.plan g=die then(Di.gt Di.aH.d b.aq g).len else 0
def eB(b:bN)(die:Int):Int:=xk b die b.plan.length
def bH(F:cW)(v:Vb)(n:List Int):cW×Bs×Int:=
 let b:=F.b
 let next:Int:=b.ai.length
 match v with
 | .nN=>if 8<=b.au.length∨24<=b.ai.length then(F,[],9) else if (shr [iz n] [bT 0 1]).2≠0 then(F,[],(shr [iz n] [bT 0 1]).2) else
     ({F with b:={b.fU ⟨0,0⟩ with au:=b.au++[iz n],bZ:=b.bZ++[next]}},aY v.t [(b.au.length:Int)]++32::aY jQ [next],0)
 | .slat=>if 24<=b.ai.length then(F,[],9) else({F with b:=b.fU ⟨0,0⟩},aY jQ [next],0)
 | .lead=>if 24<=b.ai.length then(F,[],9) else
     let s:=shr b.au [bT (nn n 0) (nn n 1),bT (nn n 2) (nn n 3)]
     if s.2≠0 then(F,[],s.2) else if 8<=b.aq.length then(F,[],9) else
     let l:=b.aq++[⟨nn n 5,nn n 6,nn n 7⟩]
     let plan:=b.plan++[nn n 4]
     if (Di.eC F.aV l plan).2.2≠0 then(F,[],(Di.eC F.aV l plan).2.2) else
     ({F with b:={b.fU ⟨both (nn b.bZ (nn n 0).toNat) (nn b.bZ (nn n 2).toNat),0⟩ with aq:=l,plan:=plan}},aY jQ [next]++32::aY F7 [s.1.1,s.1.2],0)
 | .pencil=>if 24<=b.ai.length then(F,[],9) else if next<=nn n 0∨next<=nn n 1 then(F,[],2) else if 1048576<nn n 2 then(F,[],1) else
     ({F with b:=b.fU ⟨both (nn n 0) (nn n 1),nn n 2⟩},aY jQ [next],0)
 | .bad=>if fJ b b.bad (nn n 0)≠0 then(F,[],fJ b b.bad (nn n 0)) else if Rx.iY b.ai ((b.bad+pow2 (nn n 0):Nat):Int) b.good=6 then(F,[],6) else
     ({F with b:={b with bad:=b.bad+pow2 (nn n 0)}},aY v.t [((jb (b.bad+pow2 (nn n 0))).length:Int)],0)
 | .good=>if fJ b b.good (nn n 0)≠0 then(F,[],fJ b b.good (nn n 0)) else if Rx.iY b.ai b.bad ((b.good+pow2 (nn n 0):Nat):Int)=6 then(F,[],6) else
     ({F with b:={b with good:=b.good+pow2 (nn n 0)}},aY v.t [((jb (b.good+pow2 (nn n 0))).length:Int)],0)
 | .blame=>if Rx.iY b.ai b.bad b.good≠0 then(F,[],Rx.iY b.ai b.bad b.good) else(F,aY v.t (jb (Rx.lE b.ai b.bad b.good)),0)
 | .call=>if Rx.iY b.ai b.bad b.good≠0 then(F,[],Rx.iY b.ai b.bad b.good) else(F,aY v.t ((Rx.lS b.ai b.bad b.good).1::(Rx.lS b.ai b.bad b.good).2::jb (Rx.xU b.ai b.bad b.good)),0)
 | .from_=>if Rx.fY b.ai (nn n 0)≠0 then(F,[],Rx.fY b.ai (nn n 0)) else(F,aY v.t (jb (Rx.mq b.ai (Rx.b8 b.ai) (nn n 0))),0)
 | .wear=>if (F.aV.dies.length:Int)<=nn n 0 then(F,[],2) else
     let u:=eB b (nn n 0)
     (F,aY v.t [u,(Di.bW F.aV (nn n 0) u).1.1,(Di.bW F.aV (nn n 0) u).1.2],0)
 | .mark=>if 8<=F.marks.length then(F,[],9) else({F with marks:=F.marks++[b]},aY v.t [(F.marks.length:Int)+1],0)
 | .back=>match F.marks.getLast? with
   | none=>(F,[],4)
   | some x=>({F with b:=x,marks:=F.marks.dropLast},aY v.t [(F.marks.length:Int) - 1],0)
 | .keep=>match F.marks.getLast? with
   | none=>(F,[],4)
   | some x=>({F with marks:=F.marks.dropLast},aY v.t [(F.marks.length:Int) - 1],0)
def qK(b:UInt8):Bool:=decide (48<=b.toNat)&&decide (b.toNat<=57)
def oT(s:Bs):Nat:=s.foldl (fun n b=>10*n+(b.toNat - 48)) 0
def uc(s:Bs):Option Int:=if s≠[]∧s.length<=13∧(s=[48]∨s.getD 0 0≠48)∧s.all qK=true then some (oT s:Nat) else none
def eg(c:UInt8):Bs->Bs->List Bs
 | cur,[]=>[cur]
 | cur,b::s=>if b=c then cur::eg c [] s else eg c (cur++[b]) s
def b7(s:Bs):List Bs:=eg 32 [] s
def cF(s:Bs):Option (Vb×List Int):=match b7 s with
 | []=>none
 | w::l=>match ju w with
   | none=>none
   | some v=>if l.length=v.many then(l.mapM uc).map fun n=>(v,n) else none
def aI(F:cW)(s:Bs):cW×Bs×Int:=if 120<s.length then(F,[],3) else match cF s with
 | none=>(F,[],8)
 | some (v,n)=>bH F v n
def F9:Bs:=[101,114,114,111,114]
def AP(r:Bs)(e:Int):Bs:=(if e=0 then r else aY F9 [e])++[10]
def xR(F:cW):List Bs->Bs
 | []=>[]
 | l::ls=>AP (aI F l).2.1 (aI F l).2.2++xR (aI F l).1 ls
def w9(p:Di.bn)(s:Bs):Bs×Int:=if 131072<s.length then([],3) else if s≠[]∧s.getLast?≠some 10 then([],8) else if Di.cL p=false then([],1) else
 (xR (newF p) (eg 10 [] s).dropLast,0)
def T6(b:bN):List PV:=[Ck.ic b.au,Rx.ku b.ai,Di.cv b.aq,Di.bw b.plan,.int .i64 (b.bad:Int),.int .i64 (b.good:Int)]
structure Xn (p:Di.bn) (b:bN):Prop where
 sk:b.au.length<=8
 WQ:Ck.dX b.au=true
 cd:Rx.cM b.ai
 dr:b.aq.length<=8
 Kv:∃ u,Di.eC p b.aq b.plan=(some u,(b.aq.length:Int),0)
 bad:b.bad<2^b.ai.length
 good:b.good<2^b.ai.length
 ck:b.bZ.length=b.au.length
 P8:∀ c∈b.bZ,0<=c∧c<(b.ai.length:Int)
structure mJ (F:cW):Prop where
 p:Di.cL F.aV=true
 b:Xn F.aV F.b
 mm:F.marks.length<=8
 Xa:∀ x∈F.marks,Xn F.aV x
theorem jg{u:Nat}(h:u<10):Lib.decDigits u=[UInt8.ofNat (48+u)]:=by rw[Lib.decDigits,dif_pos h]
theorem rA{u:Nat}(h:10<=u):Lib.decDigits u=Lib.decDigits (u / 10)++[UInt8.ofNat (48+u%10)]:=by rw[Lib.decDigits,dif_neg (by omega)]
theorem vZ{n:Int}(h:0<=n):Lib.itoa n=Lib.decDigits n.toNat:=by unfold Lib.itoa;rw[if_neg (by omega)]
theorem Is:∀(k n:Nat),n<10^(k+1)->(Lib.decDigits n).length<=k+1
 | 0,n,h=>by
  rw[jg (by simpa using h)];exact Zf _
 | k+1,n,h=>by
  by_cases h2:n<10
  ·rw[jg h2];exact Nat.le_add_left _ _
  ·rw[rA (by omega),Zb,Sy]
   have h3:n / 10<10^(k+1):=by rw[Nat.div_lt_iff_lt_mul (by decide)];rw[V9] at h;exact h
   have:=Is k _ h3
   omega
theorem Jr(n:Nat)(h:n<10000000000000):(Lib.decDigits n).length<=13:=Is 12 n (by
 have:(10:Nat)^(12+1)=10000000000000:=by decide
 omega)
theorem rN{n:Int}(h0:0<=n)(h1:n<10000000000000):(Lib.itoa n).length<=13:=by
 rw[vZ h0]
 exact Jr _ (by omega)
theorem jD{w:Bs}{l:List Int}(h:∀ n∈l,0<=n∧n<10000000000000):(aY w l).length<=w.length+14*l.length:=by
 unfold aY
 rw[Zb]
 induction l with
 | nil=>exact Zf _
 | cons x l ih=>
  have h1:=ih fun n hn=>h n (Zh _ hn)
  have h2:=rN (h x (Zt ..)).1 (h x (Zt ..)).2
  rw[ZH,Zb,Zm,Zm]
  omega
theorem Ch(s:Bs)(b:UInt8):oT (s++[b])=10*oT s+(b.toNat - 48):=by simp[oT]
theorem Ed{s:Bs}{i:Nat}(h:i<s.length):oT (s.take (i+1))=10*oT (s.take i)+((Di.gt 0 s i).toNat - 48):=by
 rw[ZN h,Ch,Di.aC 0 i h]
theorem xH{b:UInt8}(h:qK b=true):48<=b.toNat∧b.toNat<=57:=by
 unfold qK at h;simpa using h
theorem Mh(s:Bs):∀ i,i<=s.length->(∀ j,j<i->qK (Di.gt 0 s j)=true)->oT (s.take i)<10^i
 | 0,_,_=>by rw[OH];decide
 | i+1,h,hd=>by
  rw[Ed (by omega),V9]
  have h1:=Mh s i (by omega) fun j hj=>hd j (by omega)
  have h2:=xH (hd i (by omega))
  omega
theorem BR{s:Bs}{i:Nat}(h:i<=s.length)(h13:s.length<=13)(hd:∀ j,j<i->qK (Di.gt 0 s j)=true):oT (s.take i)<10000000000000:=by
 have h1:=Mh s i h hd
 have h2:(10:Nat)^i<=10^13:=Zy (by decide) (by omega)
 have h3:(10:Nat)^13=10000000000000:=by decide
 omega
def gF(s:Bs):Int:=(uc s).getD 0
def xT(s:Bs):Bool:=(uc s).isSome
def hO(s:Bs):Prop:=s≠[]∧s.length<=13∧(s=[48]∨s.getD 0 0≠48)∧s.all qK=true
theorem uD{s:Bs}(h:hO s):uc s=some ((oT s:Nat):Int):=if_pos h
theorem NV{s:Bs}(h:¬ hO s):uc s=none:=if_neg h
theorem P4{s:Bs}{i:Nat}(h:i<s.length)(hd:qK (Di.gt 0 s i)=false):¬ hO s:=fun hc=>by
 have:=Zx.1 hc.2.2.2 _ (Di.bC 0 h)
 rw[hd] at this;cases this
theorem Uf{s:Bs}(h:s≠[]∧s.length<=13∧(s=[48]∨s.getD 0 0≠48))(hd:∀ j,j<s.length->qK (Di.gt 0 s j)=true):hO s:=by
 refine⟨h.1,h.2.1,h.2.2,Zx.2 fun b hb=> ?_⟩
 obtain⟨j,hj,rfl⟩:=Pv hb
 rw[Di.aC 0 j hj]
 exact hd j hj
theorem Z8(s:Bs):0<=gF s∧gF s<10000000000000:=by
 unfold gF
 by_cases h:hO s
 ·rw[uD h]
  have:=BR (s:=s) (i:=s.length) (Zf _) h.2.1 fun j hj=>Zx.1 h.2.2.2 _ (Di.bC 0 hj)
  rw[ZP] at this
  show 0<=((oT s:Nat):Int)∧((oT s:Nat):Int)<_
  omega
 ·rw[NV h];decide
theorem je(c:UInt8):∀(s cur:Bs),0<(eg c cur s).length∧(eg c cur s).length<=s.length+1
 | [],cur=>by rw[eg];exact⟨Nat.one_pos,Zf _⟩
 | b::s,cur=>by
  rw[eg]
  split
  ·have:=je c s []
   simp only[Zm];omega
  ·have:=je c s (cur++[b])
   simp only[Zm];omega
def lX(s:Bs):List PV:=[.str (sB s)]
def jV(l:List Bs):PV:= .is (l.flatMap lX) l.length
def manyN(s:Bs):Int:=match ju s with
 | some v=>(v.many:Nat)
 | none=> -1
def Xw(n k:Nat):List Int:=((List.range k).filter fun i=>n.testBit i).map fun(i:Nat)=>(i:Int)
theorem Mx(n i:Nat):(Xw n i).length<=i:=by
 unfold Xw
 exact Dz
theorem Ur(n:Nat):∀ x∈jb n,0<=x∧x<24:=fun x hx=>by
 obtain⟨k,hk,rfl⟩:=uE.1 hx
 have:=xJ.1 (List.mem_filter.1 hk).1
 omega
def Ge(w:List Bs)(g:Nat):List Int:=(w.tail.take g).map gF
def Mo(w:List Bs)(g:Nat):Bool:=decide (manyN (Di.gt [] w 0)=(w.length:Int) - 1)&&(w.tail.take g).all xT
theorem OD{w:List Bs}{g:Nat}(h:g+1<=w.length):(Ge w g).length=g:=by
 unfold Ge
 rw[Zp,ZU,List.length_tail]
 omega
theorem vT:∀ l:List Bs,l.all xT=true->l.mapM uc=some (l.map gF)
 | [],_=>rfl
 | x::l,h=>by
  rw[Qm,Zn] at h
  have h1:uc x=some (gF x):=by
   have h2:=h.1
   unfold xT at h2
   unfold gF
   cases hx:uc x with
   | none=>rw[hx] at h2;cases h2
   | some v=>rfl
  rw[List.mapM_cons,h1,vT l h.2]
  rfl
theorem mapM_none:∀ l:List Bs,l.all xT=false->l.mapM uc=none
 | [],h=>by cases h
 | x::l,h=>by
  rw[Qm,Bool.and_eq_false_iff] at h
  rw[List.mapM_cons]
  cases hx:uc x with
  | none=>rfl
  | some v=>
   rcases h with h | h
   ·unfold xT at h;rw[hx] at h;cases h
   ·rw[mapM_none l h];rfl
theorem oI(c:UInt8):∀(s cur x:Bs),x∈eg c cur s->x.length<=cur.length+s.length
 | [],cur,x,h=>by
  rw[eg,ZI] at h
  rw[h];exact Zf _
 | b::s,cur,x,h=>by
  rw[eg] at h
  split at h
  ·rcases Zr.1 h with rfl | h
   ·simp
   ·have:=oI c s [] x h
    simp only[KG,Zm] at this ⊢;omega
  ·have:=oI c s (cur++[b]) x h
   simp only[Zb,Zm,KG] at this ⊢;omega
theorem sG(s:Bs):0<(b7 s).length:=(je 32 s []).1
theorem OC(s:Bs):(Mo (b7 s) ((b7 s).length - 1)=true->∃ v,Di.gt [] (b7 s) 0=v.t∧(Ge (b7 s) ((b7 s).length - 1)).length=v.many∧cF s=some (v,Ge (b7 s) ((b7 s).length - 1)))∧
    (Mo (b7 s) ((b7 s).length - 1)=false->cF s=none):=by
 have hp:=sG s
 have hn:=OD (w:=b7 s) (g:=(b7 s).length - 1) (by omega)
 unfold cF
 generalize b7 s=w at hp hn ⊢
 cases w with
 | nil=>cases hp
 | cons x l=>
  have e1:(x::l).tail.take ((x::l).length - 1)=l:=by simp
  have e0:Di.gt [] (x::l) 0=x:=rfl
  have eN:Ge (x::l) ((x::l).length - 1)=l.map gF:=by unfold Ge;rw[e1]
  have eI:Mo (x::l) ((x::l).length - 1)=(decide (manyN x=(l.length:Int))&&l.all xT):=by
   unfold Mo
   rw[e1,e0,Zm]
   congr 2
   simp
  rw[eN,eI,e0]
  simp only
  cases hv:ju x with
  | none=>
   have:manyN x= -1:=by unfold manyN;rw[hv]
   rw[this]
   refine⟨fun h=> ?_,fun _=>rfl⟩
   rw[Zn,Zq] at h
   omega
  | some v=>
   have hm:manyN x=(v.many:Nat):=by unfold manyN;rw[hv]
   rw[hm]
   simp only
   constructor
   ·intro h
    rw[Zn,Zq] at h
    have hl:l.length=v.many:=by omega
    refine⟨v,(yt hv).symm,by rw[Zp];exact hl,?_⟩
    rw[if_pos hl,vT l h.2]
    rfl
   ·intro h
    by_cases hl:l.length=v.many
    ·rw[if_pos hl,mapM_none l (by rw[hl] at h;simpa using h)]
     rfl
    ·rw[if_neg hl]
theorem V4{n:Nat}(h:n<=24):2^n<=16777216:=by
 have:=Zy (show 0<2 by omega) h
 have h2:(2:Nat)^24=16777216:=by decide
 omega
section
variable {l:List Rx.cx} {bad good:Int}
theorem KZ(hC:Rx.cM l):(0<=(Rx.lS l bad good).1∧(Rx.lS l bad good).1<=33554432)∧0<=(Rx.lS l bad good).2∧(Rx.lS l bad good).2<=33554432:=by
 unfold Rx.lS
 split
 ·rename_i h
  have h3:=(Rx.zO h).2.2.2.2.2
  have h4:Rx.lE l bad good<2^32:=by
   have:=Zy (show 0<2 by omega) (ZW (Rx.dc hC) (show 24<=32 by decide))
   omega
  obtain⟨h5,h6⟩:=Rx.Jt (l:=l) h3.1 h4
  obtain⟨x,_,e1⟩:=uE.1 h5
  obtain⟨y,_,e2⟩:=uE.1 h6
  have b1:=Rx.LI hC x
  have b2:=Rx.LI hC y
  rw[e1] at b1
  rw[e2] at b2
  exact⟨b1,b2⟩
 ·exact⟨by decide,by decide⟩
end
theorem NN{b:bN}{set:Nat}{x:Int}(h:fJ b set x=0):x<(b.ai.length:Int)∧set.testBit x.toNat=false:=by
 unfold fJ at h
 split at h
 ·cases h
 ·rename_i h1
  split at h
  ·cases h
  ·rename_i h2
   exact⟨by omega,by simpa using h2⟩
theorem o8{a B:Int}(h1:0<=a∧a<B):∀ x∈[a],0<=x∧x<B:=fun x hx=>by
 rw[ZI.1 hx];exact h1
theorem Sd{a b B:Int}(h1:0<=a∧a<B)(h2:0<=b∧b<B):∀ x∈[a,b],0<=x∧x<B:=fun x hx=>by
 rcases Zr.1 hx with rfl | hx
 ·exact h1
 ·rw[ZI.1 hx];exact h2
theorem GW{a b c B:Int}(h1:0<=a∧a<B)(h2:0<=b∧b<B)(h3:0<=c∧c<B):∀ x∈[a,b,c],0<=x∧x<B:=fun x hx=>by
 rcases Zr.1 hx with rfl | hx
 ·exact h1
 ·exact Sd h2 h3 x hx
theorem gu(n:Nat):(jb n).length<=100:=ZW (Mx n 24) (by decide)
theorem si(n:Nat):∀ x∈jb n,0<=x∧x<10000000000000:=fun x hx=>by have:=Ur n x hx;omega
theorem qN{p:Di.bn}{l:List Di.aH}{plan:List Int}{u:List Int}{n:Int}(h:Di.eC p l plan=(some u,n,0)):Di.cL p=true∧Di.cG l=true:=by
 unfold Di.eC at h
 split at h
 ·cases h
 ·rename_i h1
  split at h
  ·cases h
  ·rename_i h2
   exact⟨by simpa using h1,by simpa using h2⟩
theorem HC{p:Di.bn}{plan:List Int}:∀(l:List Di.aH) (i:Nat) (u v:List Int) (n:Int),i<=plan.length->Di.eX p plan i u l=(some v,n,0)->plan.length=i+l.length
 | [],i,u,v,n,hi,h=>by
  rw[Di.eX] at h
  split at h
  ·cases h
  ·simp;omega
 | w::l,i,u,v,n,hi,h=>by
  rw[Di.eX] at h
  split at h
  ·cases h
  ·rename_i h1
   split at h
   ·cases h
   ·split at h
    ·cases h
    ·have:=HC l (i+1) _ v n (by omega) h
     rw[Zm];omega
theorem iP{p:Di.bn}{l:List Di.aH}{plan:List Int}{u:List Int}{n:Int}(h:Di.eC p l plan=(some u,n,0)):plan.length=l.length:=by
 obtain⟨h1,h2⟩:=qN h
 rw[Di.gG h1 h2] at h
 have:=HC l 0 _ u n (Zs _) h
 omega
theorem zI{b:bN}{d:Int}(hv:∀ w∈b.aq,Di.qY w=false)(hp:b.plan.length=b.aq.length):∀ g,g<=b.plan.length->0<=xk b d g∧xk b d g<=1000*(g:Int)
 | 0,_=>⟨tr _,by show(0:Int)<=1000*((0:Nat):Int);decide⟩
 | g+1,h=>by
  have h1:=zI (d:=d) hv hp g (by omega)
  have h2:=(Di.jh (hv _ (Di.bC Di.aH.d (show g<b.aq.length by omega)))).1
  rw[xk]
  split <;> omega
theorem Fi{p:Di.bn}{j u:Int}:(0<=(Di.bW p j u).1.1∧(Di.bW p j u).1.1<=1820000000)∧0<=(Di.bW p j u).1.2∧(Di.bW p j u).1.2<=1820000000:=by
 unfold Di.bW
 split
 ·decide
 ·rename_i h1
  split
  ·decide
  ·rename_i h2
   have hv:Di.cL p=true:=by simpa using h1
   obtain⟨⟨n1,n4⟩,_,hsh,Pz⟩:=Di.c9 hv
   have h3:Di.iq j 0 ((p.dies.length:Int) - 1)=true∧Di.iq u 0 8000=true:=by simpa using h2
   obtain⟨j0,j1⟩:=Di.fq h3.1
   obtain⟨u0,u1⟩:=Di.fq h3.2
   obtain⟨w1,w2,w3,w4⟩:=Di.oL (Pz _ (Di.bC Di.dw.d (show j.toNat<p.dies.length by omega)))
   obtain⟨_,_,e1,e2⟩:=Di.sN (a:=(Di.gt Di.dw.d p.dies j.toNat).wide) (b:=(Di.gt Di.dw.d p.dies j.toNat).lo) (u:=u) (s:=p.GK) w1 (by omega) (by omega) (by omega)
   obtain⟨_,_,e3,e4⟩:=Di.sN (a:=(Di.gt Di.dw.d p.dies j.toNat).wide) (b:=(Di.gt Di.dw.d p.dies j.toNat).hi) (u:=u) (s:=p.Fw) w1 (by omega) (by omega) (by omega)
   have e1:0<=Di.thin p (Di.gt Di.dw.d p.dies j.toNat) u:=e1
   have e2:Di.thin p (Di.gt Di.dw.d p.dies j.toNat) u<=1820000000:=e2
   have e3:0<=Di.jX p (Di.gt Di.dw.d p.dies j.toNat) u:=e3
   have e4:Di.jX p (Di.gt Di.dw.d p.dies j.toNat) u<=1820000000:=e4
   show(0<=Di.thin p _ u / 1000∧Di.thin p _ u / 1000<=_)∧0<=(Di.jX p _ u+999) / 1000∧(Di.jX p _ u+999) / 1000<=_
   omega
theorem FJ(s:Ck.Sk):Ck.iT [s] [bT 0 1]=Ck.dX [s]:=by
 unfold Ck.iT
 have:Ck.jw [s].length [bT 0 1]=true:=by
  show Ck.jw 1 [bT 0 1]=true
  decide
 rw[this,Bool.and_true]
theorem Ov(l:List Ck.Sk)(b:List Ck.Tk):(shr l b).2=if Ck.iT l b=true then 0 else 1:=by
 unfold shr
 split <;> rfl
theorem NY(l:List Ck.Sk)(b:List Ck.Tk):∀ n:Nat,0<=Ck.tZ l b n∧Ck.tZ l b n<=(n:Int)
 | 0=>by rw[Ck.tZ];exact⟨tr _,tr _⟩
 | n+1=>by
  have:=NY l b n
  rw[Ck.tZ];split <;> omega
theorem MZ(l:List Ck.Sk)(b:List Ck.Tk):∀ n:Nat,0<=Ck.l9 l b n∧Ck.l9 l b n<=1000
 | 0=>by rw[Ck.l9];exact⟨by decide,by decide⟩
 | n+1=>by
  have:=MZ l b n
  rw[Ck.l9];split <;> omega
theorem Si(l:List Ck.Sk)(b:List Ck.Tk):(0<=(shr l b).1.1∧(shr l b).1.1<10000000000000)∧0<=(shr l b).1.2∧(shr l b).1.2<10000000000000:=by
 unfold shr
 have h1:=NY l b 1001
 have h2:=MZ l b 1001
 split
 ·show(0<=Ck.tZ l b 1001∧Ck.tZ l b 1001<_)∧0<=Ck.l9 l b 1001∧Ck.l9 l b 1001<_
  omega
 ·exact⟨by decide,by decide⟩
theorem NT{l:List Ck.Sk}{a b c d:Int}(h:(shr l [bT a b,bT c d]).2=0):(0<=a∧a<(l.length:Int))∧0<=c∧c<(l.length:Int):=by
 rw[Ov] at h
 split at h
 ·rename_i hv
  unfold Ck.iT Ck.jw at hv
  simp only[Zn,List.any_cons,List.any_nil,Bool.or_false,F5,XC] at hv
  obtain⟨_,_,h1,h2⟩:=hv
  unfold Ck.Tk.bad at h1 h2
  simp only[XC,Wl,Zn,Zq] at h1 h2
  have h1:(0<=a∧a<=(l.length:Int) - 1):=h1.1
  have h2:(0<=c∧c<=(l.length:Int) - 1):=h2.1
  omega
 ·cases h
theorem TR{l:List Rx.cx}{x:Rx.cx}{j:Nat}(h:j<l.length):Rx.bt (l++[x]) j=Rx.bt l j:=by
 unfold Rx.bt
 rw[Ze,Zd h,<- Ze]
theorem TC(l:List Rx.cx)(x:Rx.cx):Rx.bt (l++[x]) l.length=x:=by
 unfold Rx.bt
 rw[Ze,Zj (Zf _),Rt];rfl
theorem N0{l:List Rx.cx}{f s:Int}(h:Rx.cM l)(hl:l.length<24)(hf:0<=f∧f<=Rx.pw l.length - 1)(hs:0<=s∧s<=1048576):Rx.cM (l++[⟨f,s⟩]):=fun j hj=>by
 rw[Zb,Sy] at hj
 unfold Rx.C7
 rcases ZS j l.length with h1 | h1
 ·rw[TR h1]
  exact h j h1
 ·obtain rfl:j=l.length:=by omega
  rw[TC]
  exact⟨hl,hf,hs⟩
theorem FH{l:List Ck.Sk}{x:Ck.Sk}(h:Ck.dX l=true)(hl:l.length<8)(hx:Ck.dX [x]=true):Ck.dX (l++[x])=true:=by
 unfold Ck.dX at*
 simp only[Zn,Zq,F5,List.any_append,XC] at*
 refine⟨by rw[Zb];show((_+1:Nat):Int)<=8;omega,h.2,hx.2⟩
theorem rY{a x:Nat}(h:a.testBit x=false):a+2^x=a||| 2^x:=by
 have e1:a / 2^x*2^x+a%2^x=a:=Nat.div_add_mod' a (2^x)
 have ha:=Nat.mod_lt a (P6 x)
 have hb:(a / 2^x).testBit 0=false:=by rw[Nat.testBit_div_two_pow];simpa using h
 have hb:a / 2^x%2=0:=by rw[XF] at hb;simp at hb;omega
 apply KH
 intro i
 have e2:a+2^x=2^x*(a / 2^x+1)+a%2^x:=by rw[Nat.mul_add,JW,Nat.mul_comm];omega
 have e3:a=2^x*(a / 2^x)+a%2^x:=by rw[Nat.mul_comm];omega
 rw[e2,TV _ ha,OY,Lo]
 conv=>rhs;rw[e3,TV _ ha]
 by_cases hi:i<x
 ·rw[if_pos hi,if_pos hi,decide_eq_false (by omega),Bool.or_false]
 ·rw[if_neg hi,if_neg hi]
  by_cases hx:x=i
  ·subst hx
   rw[Rt,XF,XF,decide_eq_true rfl,Bool.or_true]
   simp;omega
  ·rw[decide_eq_false hx,Bool.or_false]
   obtain⟨k,hk⟩:∃ k,i - x=k+1:=⟨i - x - 1,by omega⟩
   rw[hk,Nat.testBit_succ,Nat.testBit_succ]
   congr 1
   omega
theorem LS{a n:Nat}{x:Int}(h:a<2^n)(hx:a.testBit x.toNat=false)(h0:0<=x)(hn:x<(n:Int)):a+pow2 x<2^n:=by
 unfold pow2
 rw[rY hx]
 exact PJ h (Sl (by omega) (by omega))
theorem LA{a b:Int}{n:Nat}(ha:0<=a∧a<(n:Int))(hb:0<=b∧b<(n:Int)):0<=both a b∧both a b<=Rx.pw n - 1:=by
 unfold both Rx.pw pow2
 have pa:=P6 a.toNat
 have pb:=P6 b.toNat
 have ka:=Sl (show 1<2 by omega) (show a.toNat<n by omega)
 have kb:=Sl (show 1<2 by omega) (show b.toNat<n by omega)
 split
 ·omega
 ·rename_i hne
  have:(2^a.toNat).testBit b.toNat=false:=by rw[Lo];exact decide_eq_false (by omega)
  have h3:=PJ (Sl (show 1<2 by omega) (show a.toNat<n by omega)) (Sl (show 1<2 by omega) (show b.toNat<n by omega))
  rw[<- rY this] at h3
  omega
theorem K2{p:Di.bn}{plan:List Int}:∀(l:List Di.aH) (i:Nat) (u:List Int),(Di.eX p plan i u l).2.2=0->∃ v,Di.eX p plan i u l=(some v,((i+l.length:Nat):Int),0)
 | [],i,u,h=>by
  rw[Di.eX] at h ⊢
  split at h
  ·cases h
  ·rename_i h1;rw[if_neg h1];exact⟨u,rfl⟩
 | w::l,i,u,h=>by
  rw[Di.eX] at h ⊢
  split at h
  ·cases h
  ·rename_i h1
   split at h
   ·cases h
   ·rename_i h2
    split at h
    ·cases h
    ·rename_i h3
     rw[if_neg h1,if_neg h2,if_neg h3]
     obtain⟨v,hv⟩:=K2 l (i+1) _ h
     refine⟨v,?_⟩
     rw[hv,Zm]
     congr 2
     omega
theorem Iz{p:Di.bn}{l:List Di.aH}{plan:List Int}(h:(Di.eC p l plan).2.2=0):(∃ u,Di.eC p l plan=(some u,(l.length:Int),0))∧l.length<=8:=by
 have h0:=h
 unfold Di.eC at h
 split at h
 ·cases h
 ·rename_i h1
  split at h
  ·cases h
  ·rename_i h2
   have h1:Di.cL p=true:=by simpa using h1
   have h2:Di.cG l=true:=by simpa using h2
   obtain⟨v,hv⟩:=K2 l 0 _ h
   rw[Di.gG h1 h2,hv,uf]
   exact⟨⟨v,rfl⟩,(Di.dh h2).1⟩
theorem uJ{p:Di.bn}{b:bN}{f s:Int}(h:Xn p b)(hl:¬ 24<=b.ai.length)(hf:0<=f∧f<=Rx.pw b.ai.length - 1)(hs:0<=s∧s<=1048576):Xn p (b.fU ⟨f,s⟩):=by
 have e:(b.fU ⟨f,s⟩).ai.length=b.ai.length+1:=by show(b.ai++[_]).length=_;rw[Zb];rfl
 have h2:2^b.ai.length<2^(b.ai.length+1):=Sl (by omega) (by omega)
 have h3:=h.bad
 have h4:=h.good
 refine⟨h.sk,h.WQ,N0 h.cd (by omega) hf hs,h.dr,h.Kv,?_,?_,h.ck,fun c hc=> ?_⟩
 ·rw[e];show b.bad<_;omega
 ·rw[e];show b.good<_;omega
 ·have:=h.P8 c hc
  rw[e];omega
theorem XE(n:Nat):(0:Int)<=0∧(0:Int)<=Rx.pw n - 1:=by
 unfold Rx.pw
 have:=P6 n
 omega
theorem XU{F:cW}{v:Vb}{n:List Int}(hF:mJ F)(hl:n.length=v.many)(hn:∀ x∈n,0<=x∧x<10000000000000):mJ (bH F v n).1:=by
 have hb:=hF.b
 have hlen:=Rx.dc hb.cd
 have nth:∀ k,k<n.length->0<=nn n k∧nn n k<10000000000000:=fun k hk=>hn _ (Di.bC 0 hk)
 have stay:∀ b,Xn F.aV b->mJ {F with b:=b}:=fun b h=>⟨hF.p,h,hF.mm,hF.Xa⟩
 cases v
 case nN=>
  unfold bH;dsimp only
  split
  ·exact hF
  ·rename_i h1
   split
   ·exact hF
   ·rename_i h2
    refine stay _ ?_
    have hx:Ck.dX [iz n]=true:=by
     have h3:=Ov [iz n] [bT 0 1]
     rw[FJ] at h3
     rw[h3] at h2
     by_cases hh:Ck.dX [iz n]=true
     ·exact hh
     ·rw[if_neg hh] at h2;exact absurd (by decide) h2
    have hc:=uJ (f:=0) (s:=0) hb (by omega) (XE _) (by decide)
    refine⟨?_,FH hb.WQ (by omega) hx,hc.cd,hc.dr,hc.Kv,hc.bad,hc.good,?_,fun c hm=> ?_⟩
    ·show(F.b.au++[iz n]).length<=8
     rw[Zb];show _+1<=8;omega
    ·show(_++_:List Int).length=(_++_:List Ck.Sk).length
     rw[Zb,Zb,hb.ck];rfl
    ·have e:(F.b.fU ⟨0,0⟩).ai.length=F.b.ai.length+1:=by show(F.b.ai++[_]).length=_;rw[Zb];rfl
     show 0<=c∧c<((F.b.fU ⟨0,0⟩).ai.length:Int)
     rw[e]
     rcases Zo.1 hm with h | h
     ·have:=hb.P8 c h;omega
     ·rw[ZI.1 h];omega
 case slat=>
  unfold bH;dsimp only
  split
  ·exact hF
  ·rename_i h1
   exact stay _ (uJ hb h1 (XE _) (by decide))
 case lead=>
  unfold bH;dsimp only
  split
  ·exact hF
  ·rename_i h1
   split
   ·exact hF
   ·rename_i h2
    split
    ·exact hF
    ·rename_i h3
     split
     ·exact hF
     ·rename_i h4
      obtain⟨⟨i1,i2⟩,i3,i4⟩:=NT (Classical.not_not.1 h2)
      have hck:=hb.ck
      have ck1:=hb.P8 _ (Di.bC 0 (show(nn n 0).toNat<F.b.bZ.length by omega))
      have ck2:=hb.P8 _ (Di.bC 0 (show(nn n 2).toNat<F.b.bZ.length by omega))
      have hc:=uJ (s:=0) hb h1 (LA ck1 ck2) (by decide)
      obtain⟨hf,YK⟩:=Iz (Classical.not_not.1 h4)
      exact stay _ ⟨hc.sk,hc.WQ,hc.cd,YK,hf,hc.bad,hc.good,hc.ck,hc.P8⟩
 case pencil=>
  have q0:=nth 0 (by rw[hl];decide)
  have q1:=nth 1 (by rw[hl];decide)
  have q2:=nth 2 (by rw[hl];decide)
  unfold bH;dsimp only
  split
  ·exact hF
  ·rename_i h1
   split
   ·exact hF
   ·rename_i h2
    split
    ·exact hF
    ·rename_i h3
     exact stay _ (uJ hb h1 (LA (by omega) (by omega)) (by omega))
 case bad=>
  have q0:=nth 0 (by rw[hl];decide)
  unfold bH;dsimp only
  split
  ·exact hF
  ·rename_i h1
   split
   ·exact hF
   ·obtain⟨c1,c2⟩:=NN (Classical.not_not.1 h1)
    exact stay _ ⟨hb.sk,hb.WQ,hb.cd,hb.dr,hb.Kv,LS hb.bad c2 q0.1 c1,hb.good,hb.ck,hb.P8⟩
 case good=>
  have q0:=nth 0 (by rw[hl];decide)
  unfold bH;dsimp only
  split
  ·exact hF
  ·rename_i h1
   split
   ·exact hF
   ·obtain⟨c1,c2⟩:=NN (Classical.not_not.1 h1)
    exact stay _ ⟨hb.sk,hb.WQ,hb.cd,hb.dr,hb.Kv,hb.bad,LS hb.good c2 q0.1 c1,hb.ck,hb.P8⟩
 case blame=>
  unfold bH;dsimp only
  split <;> exact hF
 case call=>
  unfold bH;dsimp only
  split <;> exact hF
 case from_=>
  unfold bH;dsimp only
  split <;> exact hF
 case wear=>
  unfold bH;dsimp only
  split <;> exact hF
 case mark=>
  unfold bH;dsimp only
  split
  ·exact hF
  ·rename_i h1
   refine⟨hF.p,hF.b,?_,fun x hx=> ?_⟩
   ·show(_++_:List bN).length<=8
    rw[Zb];show _+1<=8;omega
   ·rcases Zo.1 hx with h | h
    ·exact hF.Xa x h
    ·rw[ZI.1 h];exact hF.b
 case back=>
  unfold bH;dsimp only
  cases hm:F.marks.getLast? with
  | none=>exact hF
  | some x=>
   have hx:x∈F.marks:=List.mem_of_getLast? hm
   refine⟨hF.p,hF.Xa x hx,?_,fun y hy=>hF.Xa y (List.dropLast_subset _ hy)⟩
   show F.marks.dropLast.length<=8
   rw[List.length_dropLast];have:=hF.mm;omega
 case keep=>
  unfold bH;dsimp only
  cases hm:F.marks.getLast? with
  | none=>exact hF
  | some x=>
   refine⟨hF.p,hF.b,?_,fun y hy=>hF.Xa y (List.dropLast_subset _ hy)⟩
   show F.marks.dropLast.length<=8
   rw[List.length_dropLast];have:=hF.mm;omega
theorem ve{s:Bs}{v:Vb}{n:List Int}(h:cF s=some (v,n)):n.length=v.many∧∀ x∈n,0<=x∧x<10000000000000:=by
 obtain⟨h1,h2⟩:=OC s
 cases hb:Mo (b7 s) ((b7 s).length - 1) with
 | false=>rw[h2 hb] at h;cases h
 | true=>
  obtain⟨v',_,hl,he⟩:=h1 hb
  rw[he] at h
  cases h
  refine⟨hl,fun x hx=> ?_⟩
  unfold Ge at hx
  obtain⟨y,_,rfl⟩:=uE.1 hx
  exact Z8 y
theorem z7{F:cW}{s:Bs}(hF:mJ F):mJ (aI F s).1:=by
 unfold aI
 split
 ·exact hF
 ·split
  ·exact hF
  ·rename_i v n h
   obtain⟨hl,hn⟩:=ve h
   exact XU hF hl hn
theorem zv{p:Di.bn}(h:Di.cL p=true):mJ (newF p):=by
 refine⟨h,⟨Zs _,rfl,fun j hj=>absurd hj (Nat.not_lt_zero j),Zs _,?_,by show 0<1;decide,by show 0<1;decide,rfl,fun c hc=>by cases hc⟩,Zs _,fun x hx=>by cases hx⟩
 refine⟨List.replicate p.dies.length 0,?_⟩
 show Di.eC p [] []=_
 rw[Di.gG h (by decide)]
 rfl
theorem Mf(v:Vb):v.t.length<=6:=by cases v <;> decide
theorem X3(l:List Rx.cx)(s:List Int):0<=Rx.jO l s∧Rx.jO l s<=2:=by
 unfold Rx.jO
 split
 ·split <;> decide
 ·decide
theorem Xo(l:List Rx.cx)(a b:Int):0<=Rx.iY l a b∧Rx.iY l a b<=6:=by
 unfold Rx.iY
 split
 ·have:=X3 l [a,b];omega
 ·split
  ·decide
  ·split <;> decide
theorem U1(l:List Rx.cx)(b:Int):0<=Rx.fY l b∧Rx.fY l b<=6:=by
 unfold Rx.fY
 split
 ·split <;> decide
 ·decide
theorem Lx(b:bN)(s:Nat)(x:Int):0<=fJ b s x∧fJ b s x<=6:=by
 unfold fJ
 split
 ·decide
 ·split <;> decide
theorem RT(l:List Ck.Sk)(b:List Ck.Tk):0<=(shr l b).2∧(shr l b).2<=1:=by
 rw[Ov]
 split <;> decide
theorem NP{p:Di.bn}{plan:List Int}:∀(l:List Di.aH) (i:Nat) (u:List Int),0<=(Di.eX p plan i u l).2.2∧(Di.eX p plan i u l).2.2<=11
 | [],i,u=>by
  rw[Di.eX]
  split <;> (dsimp only;omega)
 | w::l,i,u=>by
  rw[Di.eX]
  split
  ·dsimp only;omega
  ·split
   ·dsimp only;omega
   ·split
    ·dsimp only;omega
    ·exact NP l _ _
theorem Yo(p:Di.bn)(l:List Di.aH)(plan:List Int):0<=(Di.eC p l plan).2.2∧(Di.eC p l plan).2.2<=11:=by
 unfold Di.eC
 split
 ·decide
 ·split
  ·decide
  ·exact NP _ _ _
def Y4(x:cW×Bs×Int):Prop:=x.2.1.length<=3000∧0<=x.2.2∧x.2.2<=15
theorem jG{F:cW}{e:Int}(h:0<=e∧e<=15):Y4 (F,[],e):=⟨Zs _,h⟩
theorem jd{F:cW}{w:Bs}{l:List Int}(hw:w.length<=100)(hl:l.length<=102)(h:∀ n∈l,0<=n∧n<10000000000000):Y4 (F,aY w l,0):=by
 have:=jD (w:=w) h
 exact⟨by show(aY w l).length<=3000;omega,(by decide:(0:Int)<=0∧(0:Int)<=15)⟩
theorem ok_two{F:cW}{w v:Bs}{l m:List Int}(hw:w.length<=100)(hv:v.length<=100)(hl:l.length<=80)(hm:m.length<=80)(h1:∀ n∈l,0<=n∧n<10000000000000)(h2:∀ n∈m,0<=n∧n<10000000000000):Y4 (F,aY w l++32::aY v m,0):=by
 have a:=jD (w:=w) h1
 have b:=jD (w:=v) h2
 refine⟨?_,(by decide:(0:Int)<=0∧(0:Int)<=15)⟩
 show(aY w l++32::aY v m).length<=3000
 rw[Zb,Zm];omega
theorem XS{F:cW}{v:Vb}{n:List Int}(hF:mJ F)(hl:n.length=v.many)(hn:∀ x∈n,0<=x∧x<10000000000000):Y4 (bH F v n):=by
 have hb:=hF.b
 have hlen:=Rx.dc hb.cd
 have hsk:=hb.sk
 have Pb:=hF.mm
 have vl:=Mf v
 cases v
 case nN=>
  unfold bH;dsimp only
  split
  ·exact eZ
  ·split
   ·exact jG (by have:=RT [iz n] [bT 0 1];omega)
   ·exact ok_two (by omega) (by decide) (by show 1<=80;decide) (by show 1<=80;decide) (o8 (by omega)) (o8 (by omega))
 case slat=>
  unfold bH;dsimp only
  split
  ·exact eZ
  ·exact jd (by decide) (by show 1<=102;decide) (o8 (by omega))
 case lead=>
  unfold bH;dsimp only
  split
  ·exact eZ
  ·split
   ·exact jG (by have:=RT F.b.au [bT (nn n 0) (nn n 1),bT (nn n 2) (nn n 3)];omega)
   ·split
    ·exact eZ
    ·split
     ·exact jG (by have:=Yo F.aV (F.b.aq++[⟨nn n 5,nn n 6,nn n 7⟩]) (F.b.plan++[nn n 4]);omega)
     ·obtain⟨sb1,sb2⟩:=Si F.b.au [bT (nn n 0) (nn n 1),bT (nn n 2) (nn n 3)]
      exact ok_two (by decide) (by decide) (by show 1<=80;decide) (by show 2<=80;decide) (o8 (by omega)) (Sd sb1 sb2)
 case pencil=>
  unfold bH;dsimp only
  split
  ·exact eZ
  ·split
   ·exact eZ
   ·split
    ·exact eZ
    ·exact jd (by decide) (by show 1<=102;decide) (o8 (by omega))
 case bad=>
  unfold bH;dsimp only
  split
  ·exact jG (by have:=Lx F.b F.b.bad (nn n 0);omega)
  ·split
   ·exact eZ
   ·have:=gu (F.b.bad+pow2 (nn n 0))
    exact wS
 case good=>
  unfold bH;dsimp only
  split
  ·exact jG (by have:=Lx F.b F.b.good (nn n 0);omega)
  ·split
   ·exact eZ
   ·have:=gu (F.b.good+pow2 (nn n 0))
    exact wS
 case blame=>
  unfold bH;dsimp only
  split
  ·exact jG (by have:=Xo F.b.ai F.b.bad F.b.good;omega)
  ·exact jd (by omega) (ZW (gu _) (by decide)) (si _)
 case call=>
  unfold bH;dsimp only
  split
  ·exact jG (by have:=Xo F.b.ai F.b.bad F.b.good;omega)
  ·obtain⟨⟨s1,s2⟩,s3,s4⟩:=KZ (bad:=F.b.bad) (good:=F.b.good) hb.cd
   refine jd (by omega) ?_ ?_
   ·have:=gu (Rx.xU F.b.ai F.b.bad F.b.good)
    rw[Zm,Zm];omega
   ·intro x hx
    rcases Zr.1 hx with rfl | hx
    ·omega
    ·rcases Zr.1 hx with rfl | hx
     ·omega
     ·exact si _ x hx
 case from_=>
  unfold bH;dsimp only
  split
  ·exact jG (by have:=U1 F.b.ai (nn n 0);omega)
  ·exact jd (by omega) (ZW (gu _) (by decide)) (si _)
 case wear=>
  unfold bH;dsimp only
  split
  ·exact eZ
  ·obtain⟨uu,hfo⟩:=hb.Kv
   obtain⟨_,Pz⟩:=Di.dh (qN hfo).2
   have hpl:=iP hfo
   have hu:=zI (d:=nn n 0) Pz hpl F.b.plan.length (Zf _)
   have hu:0<=eB F.b (nn n 0)∧eB F.b (nn n 0)<=1000*(F.b.plan.length:Int):=hu
   have YK:=hb.dr
   obtain⟨⟨x1,x2⟩,x3,x4⟩:=Fi (p:=F.aV) (j:=nn n 0) (u:=eB F.b (nn n 0))
   exact jd (by omega) (by show 3<=102;decide) (GW (by omega) (by omega) (by omega))
 case mark=>
  unfold bH;dsimp only
  split
  ·exact eZ
  ·exact wS
 case back=>
  unfold bH;dsimp only
  cases hm:F.marks.getLast? with
  | none=>exact jG (by decide)
  | some x=>
   have hx:F.marks≠[]:=fun e=>by rw[e] at hm;cases hm
   have:=List.length_pos_iff.2 hx
   exact jd (by omega) (by show 1<=102;decide) (o8 (by omega))
 case keep=>
  unfold bH;dsimp only
  cases hm:F.marks.getLast? with
  | none=>exact jG (by decide)
  | some x=>
   have hx:F.marks≠[]:=fun e=>by rw[e] at hm;cases hm
   have:=List.length_pos_iff.2 hx
   exact jd (by omega) (by show 1<=102;decide) (o8 (by omega))
theorem G1{F:cW}{s:Bs}(hF:mJ F):Y4 (aI F s):=by
 unfold aI
 split
 ·exact eZ
 ·split
  ·exact eZ
  ·rename_i v n h
   obtain⟨hl,hn⟩:=ve h
   exact XS hF hl hn
def kC(F:cW)(L:List Bs):Nat->cW
 | 0=>F
 | g+1=>(aI (kC F L g) (Di.gt [] L g)).1
def pE(F:cW)(L:List Bs):Nat->Bs
 | 0=>[]
 | g+1=>pE F L g++AP (aI (kC F L g) (Di.gt [] L g)).2.1 (aI (kC F L g) (Di.gt [] L g)).2.2
def yG(F:cW):List Bs->cW
 | []=>F
 | l::ls=>yG (aI F l).1 ls
theorem Dd(F:cW):∀(a b:List Bs),xR F (a++b)=xR F a++xR (yG F a) b
 | [],b=>rfl
 | l::a,b=>by
  show _++xR _ (a++b)=(_++_)++_
  rw[Dd _ a b,ZK]
  rfl
theorem y7(F:cW):∀(a b:List Bs),yG F (a++b)=yG (yG F a) b
 | [],b=>rfl
 | l::a,b=>y7 _ a b
theorem IE{L:List Bs}{g:Nat}(h:g<L.length):L.take (g+1)=L.take g++[Di.gt [] L g]:=by
 rw[ZN h,Di.aC [] g h]
theorem Cx(F:cW)(L:List Bs):∀ g,g<=L.length->kC F L g=yG F (L.take g)
 | 0,_=>rfl
 | g+1,h=>by
  rw[IE h,y7,<- Cx F L g (by omega)]
  rfl
theorem yy(F:cW)(L:List Bs):∀ g,g<=L.length->pE F L g=xR F (L.take g)
 | 0,_=>by rw[OH];rfl
 | g+1,h=>by
  rw[IE h,Dd,<- yy F L g (by omega),<- Cx F L g (by omega)]
  show _++_=_++(_++[])
  rw[ZT]
theorem jc{F:cW}{L:List Bs}(hF:mJ F):∀ g,mJ (kC F L g)
 | 0=>hF
 | g+1=>z7 (jc hF g)
theorem Pe{e:Int}(h:0<=e∧e<=15):(aY F9 [e]).length<=19:=by
 have:=jD (w:=F9) (l:=[e]) (o8 (by omega))
 have h2:F9.length=5:=rfl
 have h3:[e].length=1:=rfl
 omega
theorem ur{r:Bs}{e:Int}(h:r.length<=3000∧0<=e∧e<=15):(AP r e).length<=3001:=by
 unfold AP
 rw[Zb]
 split
 ·show _+1<=_;omega
 ·have:=Pe h.2;show _+1<=_;omega
theorem sL{F:cW}{L:List Bs}(hF:mJ F):∀ g,(pE F L g).length<=3001*g
 | 0=>Zf _
 | g+1=>by
  have:=sL (L:=L) hF g
  have h2:=ur (G1 (s:=Di.gt [] L g) (jc (L:=L) hF g))
  rw[pE,Zb];omega
theorem zS{p t:Bs}{c:UInt8}:∀(x:Bs),(∀ b∈x,b≠c)->Lib.index (x++(c::p)++t) (c::p)=x.length
 | [],_=>by
  show Lib.index (c::(p++t)) (c::p)=_
  unfold Lib.index
  rw[if_pos (by rw[List.isPrefixOf_iff_prefix];exact⟨t,rfl⟩)];rfl
 | b::x,h=>by
  have ih:=zS (p:=p) (t:=t) x (fun b hb=>h b (Zh _ hb))
  show Lib.index (b::(x++(c::p)++t)) (c::p)=_
  unfold Lib.index
  rw[if_neg (by rw[List.isPrefixOf_iff_prefix];rintro⟨u,hu⟩;injection hu with h1 h2;exact h b (Zt ..) h1.symm),ih,if_neg (by simp)]
  simp
theorem M9{p:Bs}{c:UInt8}:∀(x:Bs),(∀ b∈x,b≠c)->Lib.index x (c::p)= -1
 | [],_=>rfl
 | b::x,h=>by
  unfold Lib.index
  rw[if_neg (by rw[List.isPrefixOf_iff_prefix];rintro⟨u,hu⟩;injection hu with h1 h2;exact h b (Zt ..) h1.symm),M9 x (fun b hb=>h b (Zh _ hb)),if_pos (by decide)]
def Fc(c:UInt8)(x:Bs):Prop:=∀ b∈x,b≠c
def cQ(c:UInt8):List Bs->Bs
 | []=>[]
 | w::r=>w++r.flatMap fun x=>c::x
theorem kQ(c:UInt8)(w y:Bs)(r:List Bs):cQ c (w::y::r)=w++[c]++cQ c (y::r):=by simp[cQ]
theorem IF{c:UInt8}:∀(r:List Bs) (w:Bs),Fc c w->(∀ x∈r,Fc c x)->Lib.splitK [c] 0 r.length (cQ c (w::r))=w::r
 | [],w,_,_=>by
  show[w++[]]=_
  rw[ZT]
 | y::r,w,hw,h=>by
  have hi:Lib.index (w++[c]++cQ c (y::r)) [c]=w.length:=zS w hw
  rw[Zm,Lib.splitK,kQ,hi,if_neg (by simp),show((w.length:Nat):Int).toNat=w.length from rfl,KC,ZK,List.take_left,<- ZK,show w.length+[c].length=(w++[c]).length by rw[Zb],List.drop_left,IF r y (h y (Zt ..)) fun x hx=>h x (Zh _ hx)]
theorem Hp{c:UInt8}:∀(r:List Bs) (w:Bs),Fc c w->(∀ x∈r,Fc c x)->Lib.count (cQ c (w::r)) [c]=r.length
 | [],w,hw,_=>by
  show Lib.count (w++[]) _=_
  rw[ZT]
  exact Lib.count_miss (M9 w hw)
 | y::r,w,hw,h=>by
  have hi:Lib.index (w++[c]++cQ c (y::r)) [c]=w.length:=zS w hw
  rw[kQ,Lib.count_hit (List.cons_ne_nil _ _) hi,show w.length+[c].length=(w++[c]).length by rw[Zb],List.drop_left,Hp r y (h y (Zt ..)) (fun x hx=>h x (Zh _ hx)),Zm]
  omega
theorem gz(x:Bs):(sB x).data.toList=x:=by unfold sB;simp
theorem Ys(y:ByteArray):y=sB y.data.toList:=by unfold sB;simp
theorem NR{c:UInt8}(ws:List Bs)(h0:0<ws.length)(h:∀ x∈ws,Fc c x):Lib.splitB (sB [c]) 0 (ws.length - 1) (sB (cQ c ws))=ws.map sB:=by
 cases ws with
 | nil=>cases h0
 | cons w r=>
  have e1:=Lib.splitB_data (sB [c]) 0 r.length (sB (cQ c (w::r)))
  rw[gz,gz,IF r w (h w (Zt ..)) fun x hx=>h x (Zh _ hx)] at e1
  have e2:∀ L:List ByteArray,L=(L.map fun x=>x.data.toList).map sB:=fun L=>by
   rw[Q1]
   conv=>lhs;rw[<- List.map_id L]
   exact V1 fun y _=>Ys y
  rw[Zm,Nat.add_sub_cancel,e2 (Lib.splitB _ _ _ _)]
  exact congrArg (List.map sB) e1
theorem Oi{c:UInt8}(ws:List Bs)(h0:0<ws.length)(h:∀ x∈ws,Fc c x):Lib.countB (sB (cQ c ws)) (sB [c])=ws.length - 1:=by
 cases ws with
 | nil=>cases h0
 | cons w r=>
  show Lib.count (sB _).data.toList (sB _).data.toList=_
  rw[gz,gz,Hp r w (h w (Zt ..)) fun x hx=>h x (Zh _ hx)]
  rfl
theorem Dc{c:UInt8}:∀(ws:List Bs),ws.length<=(cQ c ws).length+1
 | []=>Zs _
 | [w]=>by simp
 | w::y::r=>by
  have:=Dc (c:=c) (y::r)
  rw[kQ]
  simp only[Zb,Zm] at this ⊢
  omega
theorem Tt(c:UInt8)(s cur:Bs):∃ w r,eg c cur s=w::r:=by
 have:=(je c s cur).1
 cases h:eg c cur s with
 | nil=>rw[h] at this;cases this
 | cons w r=>exact⟨w,r,rfl⟩
theorem xF(c:UInt8):∀(s cur:Bs),cQ c (eg c cur s)=cur++s
 | [],cur=>by rw[eg];simp[cQ]
 | b::s,cur=>by
  rw[eg]
  split
  ·rename_i h
   obtain⟨w,r,e⟩:=Tt c s []
   have ih:=xF c s []
   rw[e] at ih ⊢
   rw[kQ,ih,h]
   simp
  ·rw[xF c s (cur++[b])];simp
theorem Ag(c:UInt8):∀(s cur:Bs),Fc c cur->∀ x∈eg c cur s,Fc c x
 | [],cur,h,x,hx=>by
  rw[eg,ZI] at hx
  rw[hx];exact h
 | b::s,cur,h,x,hx=>by
  rw[eg] at hx
  split at hx
  ·rcases Zr.1 hx with rfl | hx
   ·exact h
   ·exact Ag c s [] (fun y hy=>by cases hy) x hx
  ·rename_i hb
   refine Ag c s _ (fun y hy=> ?_) x hx
   rcases Zo.1 hy with h1 | h1
   ·exact h y h1
   ·rw[ZI.1 h1];exact hb
inductive iU where
 | str (w:Bs)
 | num (k:Int)
 | Gh (l:List Int)
def iU.w:iU->List Bs
 | .str w=>[w]
 | .num k=>[Lib.itoa k]
 | .Gh l=>l.map Lib.itoa
def iU.OT:iU->Bool
 | .str _=>true
 | _=>false
def iU.isN:iU->Bool
 | .num _=>true
 | _=>false
def iU.isL:iU->Bool
 | .Gh _=>true
 | _=>false
def iU.sV:iU->Bs
 | .str w=>w
 | _=>[]
def iU.nV:iU->Int
 | .num k=>k
 | _=>0
def iU.lV:iU->PV
 | .Gh l=>Di.bw l
 | _=> .nilSlice
def iU.ok:iU->Prop
 | .str w=>w.length<=100
 | .num k=>0<=k∧k<10000000000000
 | .Gh l=>l.length<=100∧∀ k∈l,0<=k∧k<10000000000000
def jJ(l:List iU):List Bs:=l.flatMap iU.w
theorem Ap{l:List iU}{k:Nat}(h:k<l.length):jJ (l.take (k+1))=jJ (l.take k)++(Di.gt (.str []) l k).w:=by
 unfold jJ
 rw[ZN h,IC,Di.aC (.str []) k h]
 simp
theorem Iw:∀{l:List iU},(∀ p∈l,p.ok)->(jJ l).length<=100*l.length
 | [],_=>Zs _
 | p::l,h=>by
  have ih:=Iw (l:=l) fun q hq=>h q (Zh _ hq)
  have hp:=h p (Zt ..)
  unfold jJ at ih ⊢
  rw[ZH,Zb,Zm]
  have:p.w.length<=100:=by
   cases p with
   | str w=>show 1<=100;decide
   | num k=>show 1<=100;decide
   | Gh l=>show(l.map Lib.itoa).length<=100;rw[Zp];exact hp.1
  omega
theorem MB(l:List iU)(k:Nat):(jJ (l.take k)).length<=(jJ l).length:=by
 unfold jJ
 conv=>rhs;rw[<- WV k l,IC,Zb]
 omega
theorem XY{l:List iU}(h:∀ p∈l,p.ok):∀ x∈jJ l,x.length<=100:=fun x hx=>by
 obtain⟨p,hp,hx⟩:=List.mem_flatMap.1 hx
 have hk:=h p hp
 cases p with
 | str w=>rw[ZI.1 hx];exact hk
 | num k=>
  rw[ZI.1 hx]
  have:=rN hk.1 hk.2;omega
 | Gh l=>
  obtain⟨k,hm,rfl⟩:=uE.1 hx
  have:=rN (hk.2 k hm).1 (hk.2 k hm).2;omega
theorem L0{c:UInt8}:∀(ws:List Bs),(∀ x∈ws,x.length<=100)->(cQ c ws).length<=101*ws.length
 | [],_=>Zs _
 | [w],h=>by
  have:=h w (Zt ..)
  simp[cQ];omega
 | w::y::r,h=>by
  have ih:=L0 (c:=c) (y::r) fun x hx=>h x (Zh _ hx)
  have:=h w (Zt ..)
  rw[kQ]
  simp only[Zb,Zm,KG] at ih ⊢
  omega
theorem eJ(w:Bs)(l:List Int):aY w l=cQ 32 (w::l.map Lib.itoa):=by
 show _=w++(l.map Lib.itoa).flatMap fun x=>32::x
 rw[List.flatMap_map]
 rfl
theorem Ll(ws:List Bs)(sep:UInt8):Lib.join ws [sep]=cQ sep ws:=by
 cases ws with
 | nil=>rfl
 | cons w r=>
  rw[Lib.join_cons]
  show w++(r.map ([sep]++ ·)).flatten=w++r.flatMap fun x=>sep::x
  rw[List.flatMap_def]
  rfl
theorem FW(k m:Nat)(h:2^k*(2*m+1)<2^64):2^k*(2*m+1)&&& (2^64 - 2^k*(2*m+1))=2^k:=by
 have hp:=P6 k
 have h1:1<=2^k*(2*m+1):=Nat.mul_pos hp (by omega)
 have hk:k<64:=by
  rcases ZS k 64 with h2 | h2
  ·exact h2
  ·exact wo
 apply KH
 intro i
 have e:2^64 - 2^k*(2*m+1)=2^64 - ((2^k*(2*m+1) - 1)+1):=by omega
 rw[e,KU,Nat.testBit_two_pow_sub_succ (by omega),Rx.uy,Rx.uS,Lo]
 by_cases h2:i<k
 ·simp[show ¬ k<=i by omega,show ¬ k=i by omega]
 ·exact C2
theorem WJ{x k:Nat}(h0:x≠0)(h:x<2^32)(hk:x&&& (2^32 - x)=2^k):x&&& (2^64 - x)=2^k:=by
 obtain⟨j,m,e⟩:=Rx.MJ x h0
 rw[e] at hk h ⊢
 rw[Rx.Bz j m h] at hk
 rw[FW j m (Nat.lt_trans h (by decide)),hk]
def DC:List Int:=[0,1,56,2,57,49,28,3,61,58,42,50,38,29,17,4,62,47,59,36,45,43,51,22,53,39,33,30,24,18,12,5,63,55,48,27,60,41,37,16,46,35,44,21,52,32,23,11,54,26,40,15,34,20,31,10,25,14,19,9,13,8,7,6]
theorem N7:∀ k:Nat,k<64->DC[2^k*285870213051353865%18446744073709551616 / 2^58]? =some (k:Int):=by decide
theorem GR(n:Int):IntKind.u64.wrap n=n%18446744073709551616:=by simp[IntKind.wrap,IntKind.bits,IntKind.signed]
theorem S3{n:Nat}(h:0<n)(h2:n<2^32):IntKind.u64.wrap (0 - (n:Int))=((2^64 - n:Nat):Int):=by
 rw[GR]
 omega
theorem Tg(k:Nat):IntKind.u64.wrap (((2^k:Nat):Int)*285870213051353865)=((2^k*285870213051353865%18446744073709551616:Nat):Int):=by
 rw[GR]
 omega
def bl(n p:Nat):List Int:=(Rx.aR n p).map fun(i:Nat)=>(i:Int)
theorem UG(n p:Nat):(bl n p).length<=p:=by
 unfold bl Rx.aR
 exact Dz
def byC(b:UInt8):List PV:=[.int .u8 b.toNat]
theorem Ij:∀ s:Bs,bP s=s.flatMap byC
 | []=>rfl
 | b::s=>by
  show PV.int .u8 b.toNat::bP s=_
  rw[ZH,<- Ij s]
  rfl
theorem WN{s:Bs}{b:Bool}(h:((!decide (s=[])&&decide (((sB s).size:Int)<=13))&&(decide (s=[48])|| !decide (((Di.gt 0 s 0).toNat:Int)=48)))=b):(b=true->s≠[]∧s.length<=13∧(s=[48]∨s.getD 0 0≠48))∧(b=false->¬ hO s):=by
 rw[gD] at h
 have e48:((Di.gt 0 s 0).toNat:Int)=48↔s.getD 0 0=48:=by
  show((s.getD 0 0).toNat:Int)=48↔_
  constructor
  ·intro h;exact UInt8.toNat_inj.1 (by have:(48:UInt8).toNat=48:=rfl;omega)
  ·intro h;rw[h];rfl
 subst h
 constructor
 ·intro h
  simp only[Zn,KV,F5,Zq,Wk,e48] at h
  exact⟨h.1.1,by omega,h.2⟩
 ·rintro h ⟨a,b,c,_⟩
  have:(((!decide (s=[])&&decide ((s.length:Int)<=13))&&(decide (s=[48])|| !decide (((Di.gt 0 s 0).toNat:Int)=48)))=true):=by
   simp only[Zn,KV,F5,Zq,Wk,e48]
   exact⟨⟨a,by omega⟩,c⟩
  rw[this] at h
  cases h
theorem LP{b:UInt8}{x:Bool}(h:(decide ((48:Int)<=(b.toNat:Int))&&decide ((b.toNat:Int)<=57))=x):qK b=x:=by
 rw[<- h]
 unfold qK
 congr 1
 ·exact decide_eq_decide.2 (by omega)
 ·exact decide_eq_decide.2 (by omega)
theorem HR{a b:Int}{j k:Nat}(ha:a=(j:Int))(hb:b=(k:Int)):both a b=((1*2^j||| 1*2^k:Nat):Int):=by
 subst ha hb
 unfold both pow2
 rw[AD,AD,ZO,ZO]
 by_cases h:j=k
 ·subst h
  rw[if_pos rfl,Nat.or_self]
 ·rw[if_neg (by omega),<- rY (by rw[Lo];exact decide_eq_false (by omega))]
theorem Y8{l:List Rx.cx}{bad good:Int}(hC:Rx.cM l):Rx.lE l bad good<2^24:=by
 have oO:=Zy (show 0<2 by omega) (Rx.dc hC)
 by_cases h:Rx.iY l bad good=0
 ·have:=(Rx.zO h).2.2.2.2.2.2
  omega
 ·unfold Rx.lE
  rw[if_neg h];decide
theorem Va{l:List Rx.cx}{bad good:Int}(hC:Rx.cM l):Rx.xU l bad good<2^24:=by
 have oO:=Zy (show 0<2 by omega) (Rx.dc hC)
 unfold Rx.xU
 split
 ·rename_i h
  have:=Rx.IK (Rx.dc hC) (Rx.zO h).2.2.2.2.2.2
  omega
 ·decide
theorem QB{l:List Rx.cx}(hC:Rx.cM l)(b:Int):Rx.mq l (Rx.b8 l) b<2^24:=by
 unfold Rx.mq
 split
 ·rename_i h
  have hb:b.toNat<24:=by
   have oO:=Rx.dc hC
   unfold Rx.fY at h
   rw[if_pos hC] at h
   split at h
   ·rename_i h2
    unfold Rx.iq at h2
    simp at h2
    omega
   ·cases h
  have h1:=Rx.G6 l b.toNat
  have h2:=Zy (show 0<2 by omega) (show b.toNat+1<=24 by omega)
  omega
 ·decide
theorem Jm{n:Nat}(h:n<2^24):jb n=(Rx.aR n 32).map fun(i:Nat)=>(i:Int):=by
 have e:Rx.aR n 32=Rx.aR n 24:=Rx.pI (by omega) fun i h1 _=>UI (ZQ h (Zy (by omega) h1))
 rw[e]
 rfl
end Go.Proofs.YtibffijhebobmaaGreatDoor
end
