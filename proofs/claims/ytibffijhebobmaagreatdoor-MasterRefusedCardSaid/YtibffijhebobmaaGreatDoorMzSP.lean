/-
 Chapter 15: the floor as plain data: the books, the marks; what a line says, and what it does.
 Chapter 15: numbers and words of a line, step by step.
 Chapter 15: the members of a set, one after the other.
 Chapter 15: how great what a floor answers can be.
 Chapter 15: a line leaves a floor that can be.
 Chapter 15: how long replies are; scripts.
 Chapter 15, the program: texts that are cut and joined; what a reply is put together of; lowest bits of 64; how many bits there are.
-/
import Derived.Test.YtibffijhebobmaaGreatDoorMzSD
import Derived.Test.YtibffijhebobmaaGreatDoorMzSC
import Derived.Test.YtibffijhebobmaaGreatDoorMzSR
import Derived.Lib.ItoaNum
import Derived.Test.YtibffijhebobmaaGreatDoorFaSF
import Derived.Lib.Split
import Derived.Lib.IndexMore
import Derived.Lib.CountLaws
import Derived.Lib.SplitLaws
import Derived.Lib.Join
import Derived.Test.YtibffijhebobmaaGreatDoorMzSZ
theorem eB{A:Prop}(h:A:=by
 exact jP (by decide)):A:=h
theorem vp{A:Prop}(h:A:=by
 exact jl (by omega) (by show 1<=102;decide) (rI (by omega))):A:=h
theorem CV{A:Prop}(h:A:=by
 rw[Zr]
 exact ZS (List.length_filter_le _ _) (by rw[Mi];exact Zf _)):A:=h
set_option linter.unusedSimpArgs false
set_option linter.unusedVariables false
section
namespace Go.Proofs.YtibffijhebobmaaGreatDoor
open Go.AF
abbrev Bs:=List UInt8
structure bI where
 aq:List Ck.Sk
 ag:List Rx.bY
 au:List Di.cO
 plan:List Int
 bad:Nat
 good:Nat
 b9:List Int
structure bT where
 aT:Di.bJ
 b:bI
 marks:List bI
def noB:bI:=⟨[],[],[],[],0,0,[]⟩
def newF(p:Di.bJ):bT:=⟨p,noB,[]⟩
inductive Vb where
 | kJ | slat | lead | pencil | bad | good | blame | call | from_ | wear | mark | back | keep
 deriving DecidableEq
def Vb.t:Vb->Bs
 | .kJ=>[115,97,99,107]
 | .slat=>[115,108,97,116]
 | .lead=>[108,101,97,100]
 | .pencil=>[112,101,110,99,105,108]
 | .bad=>[98,97,100]
 | .good=>[103,111,111,100]
 | .blame=>[98,108,97,109,101]
 | .call=>[99,97,108,108]
 | .from_=>[102,114,111,109]
 | .wear=>[119,101,97,114]
 | .mark=>[109,97,114,107]
 | .back=>[98,97,99,107]
 | .keep=>[107,101,101,112]
def Vb.many:Vb->Nat
 | .kJ=>6
 | .lead=>8
 | .pencil=>3
 | .bad=>1
 | .good=>1
 | .from_=>1
 | .wear=>1
 | _=>0
def Z0:List Vb:=[.kJ,.slat,.lead,.pencil,.bad,.good,.blame,.call,.from_,.wear,.mark,.back,.keep]
def jH(s:Bs):Option Vb:=Z0.find? fun v=>decide (v.t=s)
theorem oA{s:Bs}{v:Vb}(h:jH s=some v):v.t=s:=by
 have:=List.find?_some h
 simpa using this
theorem Il{s:Bs}(h:jH s=none)(v:Vb):v.t≠s:=by
 have:=List.find?_eq_none.1 h v (by cases v <;> decide)
 simpa using this
def nn(l:List Int)(k:Nat):Int:=Di.gt 0 l k
def bn(w:Bs)(l:List Int):Bs:=w++l.flatMap fun n=>32::Lib.itoa n
def jm(n:Nat):List Int:=((List.range 24).filter fun i=>n.testBit i).map fun(i:Nat)=>(i:Int)
def pow2(n:Int):Nat:=2^n.toNat
def both(a b:Int):Int:=if a=b then((pow2 a:Nat):Int) else((pow2 a+pow2 b:Nat):Int)
def shr(l:List Ck.Sk)(b:List Ck.Tk):(Int×Int)×Int:=if Ck.iB l b then((Ck.tV l b 1001,Ck.lM l b 1001),0) else((0,0),1)
theorem W2(l:List Ck.Sk)(b:List Ck.Tk):Ck.uJ l b=[.agg [.int .i64 (shr l b).1.1,.int .i64 (shr l b).1.2],.int .i64 (shr l b).2]:=by
 unfold Ck.uJ shr
 split <;> rfl
def bX(s m:Int):Ck.Tk:=⟨s,⟨m,m⟩⟩
def iQ(n:List Int):Ck.Sk:=⟨⟨nn n 0,nn n 1⟩,⟨nn n 2,nn n 3⟩,⟨nn n 4,nn n 5⟩⟩
def bI.gq(b:bI)(x:Rx.bY):bI:={b with ag:=b.ag++[x]}
def fS(b:bI)(set:Nat)(x:Int):Int:=if (b.ag.length:Int)<=x then 2 else if set.testBit x.toNat then 5 else 0
def gG:Bs:=[99,97,114,100]
def Gk:Bs:=[115,104,97,114,101]
def xH(b:bI)(die:Int):Nat->Int
 | 0=>0
 | g+1=>xH b die g+if Di.gt 0 b.plan g=die then(Di.gt Di.cO.d b.au g).len else 0
def eZ(b:bI)(die:Int):Int:=xH b die b.plan.length
def bp(F:bT)(v:Vb)(n:List Int):bT×Bs×Int:=
 let b:=F.b
 let next:Int:=b.ag.length
 match v with
 | .kJ=>if 8<=b.aq.length∨24<=b.ag.length then(F,[],9) else if (shr [iQ n] [bX 0 1]).2≠0 then(F,[],(shr [iQ n] [bX 0 1]).2) else
     ({F with b:={b.gq ⟨0,0⟩ with aq:=b.aq++[iQ n],b9:=b.b9++[next]}},bn v.t [(b.aq.length:Int)]++32::bn gG [next],0)
 | .slat=>if 24<=b.ag.length then(F,[],9) else({F with b:=b.gq ⟨0,0⟩},bn gG [next],0)
 | .lead=>if 24<=b.ag.length then(F,[],9) else
     let s:=shr b.aq [bX (nn n 0) (nn n 1),bX (nn n 2) (nn n 3)]
     if s.2≠0 then(F,[],s.2) else if 8<=b.au.length then(F,[],9) else
     let l:=b.au++[⟨nn n 5,nn n 6,nn n 7⟩]
     let plan:=b.plan++[nn n 4]
     if (Di.gN F.aT l plan).2.2≠0 then(F,[],(Di.gN F.aT l plan).2.2) else
     ({F with b:={b.gq ⟨both (nn b.b9 (nn n 0).toNat) (nn b.b9 (nn n 2).toNat),0⟩ with au:=l,plan:=plan}},bn gG [next]++32::bn Gk [s.1.1,s.1.2],0)
 | .pencil=>if 24<=b.ag.length then(F,[],9) else if next<=nn n 0∨next<=nn n 1 then(F,[],2) else if 1048576<nn n 2 then(F,[],1) else
     ({F with b:=b.gq ⟨both (nn n 0) (nn n 1),nn n 2⟩},bn gG [next],0)
 | .bad=>if fS b b.bad (nn n 0)≠0 then(F,[],fS b b.bad (nn n 0)) else if Rx.ji b.ag ((b.bad+pow2 (nn n 0):Nat):Int) b.good=6 then(F,[],6) else
     ({F with b:={b with bad:=b.bad+pow2 (nn n 0)}},bn v.t [((jm (b.bad+pow2 (nn n 0))).length:Int)],0)
 | .good=>if fS b b.good (nn n 0)≠0 then(F,[],fS b b.good (nn n 0)) else if Rx.ji b.ag b.bad ((b.good+pow2 (nn n 0):Nat):Int)=6 then(F,[],6) else
     ({F with b:={b with good:=b.good+pow2 (nn n 0)}},bn v.t [((jm (b.good+pow2 (nn n 0))).length:Int)],0)
 | .blame=>if Rx.ji b.ag b.bad b.good≠0 then(F,[],Rx.ji b.ag b.bad b.good) else(F,bn v.t (jm (Rx.lG b.ag b.bad b.good)),0)
 | .call=>if Rx.ji b.ag b.bad b.good≠0 then(F,[],Rx.ji b.ag b.bad b.good) else(F,bn v.t ((Rx.lS b.ag b.bad b.good).1::(Rx.lS b.ag b.bad b.good).2::jm (Rx.xY b.ag b.bad b.good)),0)
 | .from_=>if Rx.gf b.ag (nn n 0)≠0 then(F,[],Rx.gf b.ag (nn n 0)) else(F,bn v.t (jm (Rx.mB b.ag (Rx.b6 b.ag) (nn n 0))),0)
 | .wear=>if (F.aT.dies.length:Int)<=nn n 0 then(F,[],2) else
     let u:=eZ b (nn n 0)
     (F,bn v.t [u,(Di.dY F.aT (nn n 0) u).1.1,(Di.dY F.aT (nn n 0) u).1.2],0)
 | .mark=>if 8<=F.marks.length then(F,[],9) else({F with marks:=F.marks++[b]},bn v.t [(F.marks.length:Int)+1],0)
 | .back=>match F.marks.getLast? with
   | none=>(F,[],4)
   | some x=>({F with b:=x,marks:=F.marks.dropLast},bn v.t [(F.marks.length:Int) - 1],0)
 | .keep=>match F.marks.getLast? with
   | none=>(F,[],4)
   | some x=>({F with marks:=F.marks.dropLast},bn v.t [(F.marks.length:Int) - 1],0)
def pF(b:UInt8):Bool:=decide (48<=b.toNat)&&decide (b.toNat<=57)
def mj(s:Bs):Nat:=s.foldl (fun n b=>10*n+(b.toNat - 48)) 0
def xW(s:Bs):Option Int:=if s≠[]∧s.length<=13∧(s=[48]∨s.getD 0 0≠48)∧s.all pF=true then some (mj s:Nat) else none
def c5(c:UInt8):Bs->Bs->List Bs
 | cur,[]=>[cur]
 | cur,b::s=>if b=c then cur::c5 c [] s else c5 c (cur++[b]) s
def bf(s:Bs):List Bs:=c5 32 [] s
def bO(s:Bs):Option (Vb×List Int):=match bf s with
 | []=>none
 | w::l=>match jH w with
   | none=>none
   | some v=>if l.length=v.many then(l.mapM xW).map fun n=>(v,n) else none
def aD(F:bT)(s:Bs):bT×Bs×Int:=if 120<s.length then(F,[],3) else match bO s with
 | none=>(F,[],8)
 | some (v,n)=>bp F v n
def E4:Bs:=[101,114,114,111,114]
def zL(r:Bs)(e:Int):Bs:=(if e=0 then r else bn E4 [e])++[10]
def ya(F:bT):List Bs->Bs
 | []=>[]
 | l::ls=>zL (aD F l).2.1 (aD F l).2.2++ya (aD F l).1 ls
def vH(p:Di.bJ)(s:Bs):Bs×Int:=if 131072<s.length then([],3) else if s≠[]∧s.getLast?≠some 10 then([],8) else if Di.eF p=false then([],1) else
 (ya (newF p) (c5 10 [] s).dropLast,0)
def cH(b:bI):List PV:=[Ck.cM b.aq,Rx.fF b.ag,Di.eY b.au,Di.bh b.plan,.int .i64 (b.bad:Int),.int .i64 (b.good:Int)]
structure Xi (p:Di.bJ) (b:bI):Prop where
 sk:b.aq.length<=8
 X6:Ck.dM b.aq=true
 cd:Rx.cJ b.ag
 dr:b.au.length<=8
 ER:∃ u,Di.gN p b.au b.plan=(some u,(b.au.length:Int),0)
 bad:b.bad<2^b.ag.length
 good:b.good<2^b.ag.length
 ck:b.b9.length=b.aq.length
 Pp:∀ c∈b.b9,0<=c∧c<(b.ag.length:Int)
structure kO (F:bT):Prop where
 p:Di.eF F.aT=true
 b:Xi F.aT F.b
 mm:F.marks.length<=8
 We:∀ x∈F.marks,Xi F.aT x
theorem y9{u:Nat}(h:u<10):Lib.decDigits u=[UInt8.ofNat (48+u)]:=by rw[Lib.decDigits,dif_pos h]
theorem R1{u:Nat}(h:10<=u):Lib.decDigits u=Lib.decDigits (u / 10)++[UInt8.ofNat (48+u%10)]:=by rw[Lib.decDigits,dif_neg (by omega)]
theorem Mp{n:Int}(h:0<=n):Lib.itoa n=Lib.decDigits n.toNat:=by unfold Lib.itoa;rw[if_neg (by omega)]
theorem Gx:∀(k n:Nat),n<10^(k+1)->(Lib.decDigits n).length<=k+1
 | 0,n,h=>by
  rw[y9 (by simpa using h)];exact Zf _
 | k+1,n,h=>by
  by_cases h2:n<10
  ·rw[y9 h2];exact Nat.le_add_left _ _
  ·rw[R1 (by omega),Zc,Wo]
   have h3:n / 10<10^(k+1):=by rw[Nat.div_lt_iff_lt_mul (by decide)];rw[Wc] at h;exact h
   have:=Gx k _ h3
   omega
theorem JE(n:Nat)(h:n<10000000000000):(Lib.decDigits n).length<=13:=Gx 12 n (by
 have:(10:Nat)^(12+1)=10000000000000:=by decide
 omega)
theorem nq{n:Int}(h0:0<=n)(h1:n<10000000000000):(Lib.itoa n).length<=13:=by
 rw[Mp h0]
 exact JE _ (by omega)
theorem qH{w:Bs}{l:List Int}(h:∀ n∈l,0<=n∧n<10000000000000):(bn w l).length<=w.length+14*l.length:=by
 unfold bn
 rw[Zc]
 induction l with
 | nil=>exact Zf _
 | cons x l ih=>
  have h1:=ih fun n hn=>h n (Zl _ hn)
  have h2:=nq (h x (Zv ..)).1 (h x (Zv ..)).2
  rw[ZI,Zc,Zo,Zo]
  omega
theorem Ma(s:Bs)(b:UInt8):mj (s++[b])=10*mj s+(b.toNat - 48):=by simp[mj]
theorem xx{s:Bs}{i:Nat}(h:i<s.length):mj (s.take (i+1))=10*mj (s.take i)+((Di.gt 0 s i).toNat - 48):=by
 rw[ZT h,Ma,Di.aE 0 i h]
theorem vi{b:UInt8}(h:pF b=true):48<=b.toNat∧b.toNat<=57:=by
 unfold pF at h;simpa using h
theorem KW(s:Bs):∀ i,i<=s.length->(∀ j,j<i->pF (Di.gt 0 s j)=true)->mj (s.take i)<10^i
 | 0,_,_=>by rw[Mq];decide
 | i+1,h,hd=>by
  rw[xx (by omega),Wc]
  have h1:=KW s i (by omega) fun j hj=>hd j (by omega)
  have h2:=vi (hd i (by omega))
  omega
theorem wN{s:Bs}{i:Nat}(h:i<=s.length)(Wd:s.length<=13)(hd:∀ j,j<i->pF (Di.gt 0 s j)=true):mj (s.take i)<10000000000000:=by
 have h1:=KW s i h hd
 have h2:(10:Nat)^i<=10^13:=Zu (by decide) (by omega)
 have h3:(10:Nat)^13=10000000000000:=by decide
 omega
def fJ(s:Bs):Int:=(xW s).getD 0
def rB(s:Bs):Bool:=(xW s).isSome
def gV(s:Bs):Prop:=s≠[]∧s.length<=13∧(s=[48]∨s.getD 0 0≠48)∧s.all pF=true
theorem ux{s:Bs}(h:gV s):xW s=some ((mj s:Nat):Int):=if_pos h
theorem zZ{s:Bs}(h:¬ gV s):xW s=none:=if_neg h
theorem St{s:Bs}{b:Bool}(h:((decide ((s.length:Int)<1)||decide ((s.length:Int)>13))||(decide ((s.length:Int)>1)&&decide (((Di.gt 0 s 0).toNat:Int)=48)))=b):(b=true->¬ gV s)∧(b=false->s≠[]∧s.length<=13∧(s=[48]∨s.getD 0 0≠48)):=by
 subst h
 have hz:∀ x:UInt8,((x.toNat:Nat):Int)=48↔x=48:=fun x=>⟨fun e=>UInt8.toNat_inj.1 (by show x.toNat=48;omega),fun e=>by rw[e];rfl⟩
 constructor
 ·intro h hc
  obtain⟨h1,h2,h3,h4⟩:=hc
  have hl:0<s.length:=List.length_pos_iff.2 h1
  simp only[Fc,Zm,Zn] at h
  rcases h with(h | h) | ⟨h,k⟩
  ·omega
  ·omega
  ·rcases h3 with h3 | h3
   ·rw[h3] at h;simp at h
   ·exact h3 ((hz _).1 k)
 ·intro h
  simp only[PF,Yd,ZY] at h
  obtain⟨⟨h1,h2⟩,h3⟩:=h
  refine⟨fun e=>by rw[e] at h1;exact h1 (by decide),by omega,?_⟩
  by_cases hk:s.getD 0 0=48
  ·left
   rcases h3 with h3 | h3
   ·match s,h1,h3,hk with
    | [x],_,_,hk=>rw[show x=48 from hk]
    | [],h1,_,_=>exact absurd (by decide) h1
    | x::y::l,_,h3,_=>exact absurd (by simp only[Zo];omega) h3
   ·exact absurd ((hz _).2 hk) h3
  ·exact .inr hk
theorem GA{s:Bs}{i:Nat}(h:i<s.length)(hd:pF (Di.gt 0 s i)=false):¬ gV s:=fun hc=>by
 have:=Zz.1 hc.2.2.2 _ (Di.bN 0 h)
 rw[hd] at this;cases this
theorem K4{s:Bs}(h:s≠[]∧s.length<=13∧(s=[48]∨s.getD 0 0≠48))(hd:∀ j,j<s.length->pF (Di.gt 0 s j)=true):gV s:=by
 refine⟨h.1,h.2.1,h.2.2,Zz.2 fun b hb=> ?_⟩
 obtain⟨j,hj,rfl⟩:=Pu hb
 rw[Di.aE 0 j hj]
 exact hd j hj
theorem YP(s:Bs):0<=fJ s∧fJ s<10000000000000:=by
 unfold fJ
 by_cases h:gV s
 ·rw[ux h]
  have:=wN (s:=s) (i:=s.length) (Zf _) h.2.1 fun j hj=>Zz.1 h.2.2.2 _ (Di.bN 0 hj)
  rw[ZV] at this
  show 0<=((mj s:Nat):Int)∧((mj s:Nat):Int)<_
  omega
 ·rw[zZ h];decide
theorem RE{c:UInt8}{s:Bs}{i f:Nat}{out:List Bs}(hi:i<s.length)(hf:f<=i)(hb:Di.gt 0 s i=c)(h:c5 c [] s=out++c5 c ((s.drop f).take (i - f)) (s.drop i)):c5 c [] s=(out++[(s.drop f).take (i - f)])++c5 c ((s.drop (i+1)).take (i+1 - (i+1))) (s.drop (i+1)):=by
 rw[h,U3 hi,c5,Di.aE 0 i hi,if_pos hb,OX,Mq]
 simp
theorem UY{c:UInt8}{s:Bs}{i f:Nat}{out:List Bs}(hi:i<s.length)(hf:f<=i)(hb:Di.gt 0 s i≠c)(h:c5 c [] s=out++c5 c ((s.drop f).take (i - f)) (s.drop i)):c5 c [] s=out++c5 c ((s.drop f).take (i+1 - f)) (s.drop (i+1)):=by
 rw[h,U3 hi,c5,Di.aE 0 i hi,if_neg hb]
 congr 2
 rw[show i+1 - f=(i - f)+1 by omega,ZT (by rw[P1];omega),List.getElem_drop,<- Di.aE 0 i hi]
 congr 3
 omega
theorem WY{c:UInt8}{s:Bs}{i:Nat}(h:(decide ((i:Int)=(s.length:Int))||decide (((Di.gt 0 s i).toNat:Int)=(c.toNat:Int)))=true):i=s.length∨Di.gt 0 s i=c:=by
 simp only[Fc,Zn] at h
 rcases h with h | h
 ·exact .inl (by omega)
 ·exact .inr (UInt8.toNat_inj.1 (by omega))
theorem Th{c:UInt8}{s:Bs}{i:Nat}(h:(decide ((i:Int)=(s.length:Int))||decide (((Di.gt 0 s i).toNat:Int)=(c.toNat:Int)))=false):i≠s.length∧Di.gt 0 s i≠c:=by
 simp only[PF,ZY] at h
 exact⟨fun e=>h.1 (by omega),fun e=>h.2 (by rw[e])⟩
theorem Q5{c:UInt8}{s:Bs}{f:Nat}{out:List Bs}(h:c5 c [] s=out++c5 c ((s.drop f).take (s.length - f)) (s.drop s.length)):c5 c [] s=out++[(s.drop f).take (s.length - f)]:=by
 rw[h,List.drop_length,c5]
theorem iH(c:UInt8):∀(s cur:Bs),0<(c5 c cur s).length∧(c5 c cur s).length<=s.length+1
 | [],cur=>by rw[c5];exact⟨Nat.one_pos,Zf _⟩
 | b::s,cur=>by
  rw[c5]
  split
  ·have:=iH c s []
   simp only[Zo];omega
  ·have:=iH c s (cur++[b])
   simp only[Zo];omega
def je(s:Bs):List PV:=[.str (sB s)]
def cz(l:List Bs):PV:= .is (l.flatMap je) l.length
def manyN(s:Bs):Int:=match jH s with
 | some v=>(v.many:Nat)
 | none=> -1
theorem sR{s:Bs}(h:∀ v:Vb,v.t≠s):manyN s= -1:=by
 unfold manyN
 cases hv:jH s with
 | none=>rfl
 | some v=>exact absurd (oA hv) (h v)
def XH(n k:Nat):List Int:=((List.range k).filter fun i=>n.testBit i).map fun(i:Nat)=>(i:Int)
theorem KL(n i:Nat):(XH n i).length<=i:=by
 unfold XH
 exact CV
theorem Va(n:Nat):∀ x∈jm n,0<=x∧x<24:=fun x hx=>by
 obtain⟨k,hk,rfl⟩:=zl.1 hx
 have:=ZZ.1 (List.mem_filter.1 hk).1
 omega
def iX(w:List Bs)(g:Nat):List Int:=(w.tail.take g).map fJ
def mq(w:List Bs)(g:Nat):Bool:=decide (manyN (Di.gt [] w 0)=(w.length:Int) - 1)&&(w.tail.take g).all rB
theorem GD{w:List Bs}{g:Nat}(h:g+1<w.length):w.tail[g]'(by rw[List.length_tail];omega)=Di.gt [] w (g+1):=by
 rw[List.getElem_tail,Di.aE [] (g+1) h]
theorem yT{w:List Bs}{g:Nat}(h:g+1<w.length):iX w (g+1)=iX w g++[fJ (Di.gt [] w (g+1))]:=by
 unfold iX
 rw[ZT (by rw[List.length_tail];omega),GD h,ZC]
 rfl
theorem I6{w:List Bs}{g:Nat}(h:g+1<w.length):mq w (g+1)=(mq w g&&rB (Di.gt [] w (g+1))):=by
 unfold mq
 rw[ZT (by rw[List.length_tail];omega),GD h,List.all_append,Bool.and_assoc]
 simp
theorem Ct{w:List Bs}{g:Nat}(h:g+1<=w.length):(iX w g).length=g:=by
 unfold iX
 rw[Zr,EA,List.length_tail]
 omega
def Fp(w:List Bs):List PV:=[.str (sB (Di.gt [] w 0)),Di.bh (iX w (w.length - 1))]
theorem vv:∀ l:List Bs,l.all rB=true->l.mapM xW=some (l.map fJ)
 | [],_=>rfl
 | x::l,h=>by
  rw[Vp,Zm] at h
  have h1:xW x=some (fJ x):=by
   have h2:=h.1
   unfold rB at h2
   unfold fJ
   cases hx:xW x with
   | none=>rw[hx] at h2;cases h2
   | some v=>rfl
  rw[List.mapM_cons,h1,vv l h.2]
  rfl
theorem mapM_none:∀ l:List Bs,l.all rB=false->l.mapM xW=none
 | [],h=>by cases h
 | x::l,h=>by
  rw[Vp,Yd] at h
  rw[List.mapM_cons]
  cases hx:xW x with
  | none=>rfl
  | some v=>
   rcases h with h | h
   ·unfold rB at h;rw[hx] at h;cases h
   ·rw[mapM_none l h];rfl
theorem lY(c:UInt8):∀(s cur x:Bs),x∈c5 c cur s->x.length<=cur.length+s.length
 | [],cur,x,h=>by
  rw[c5,ZK] at h
  rw[h];exact Zf _
 | b::s,cur,x,h=>by
  rw[c5] at h
  split at h
  ·rcases Zw.1 h with rfl | h
   ·simp
   ·have:=lY c s [] x h
    simp only[Km,Zo] at this ⊢;omega
  ·have:=lY c s (cur++[b]) x h
   simp only[Zc,Zo,Km] at this ⊢;omega
theorem ou(s:Bs):0<(bf s).length:=(iH 32 s []).1
theorem xC(s:Bs):(mq (bf s) ((bf s).length - 1)=true->∃ v,Di.gt [] (bf s) 0=v.t∧(iX (bf s) ((bf s).length - 1)).length=v.many∧bO s=some (v,iX (bf s) ((bf s).length - 1)))∧
    (mq (bf s) ((bf s).length - 1)=false->bO s=none):=by
 have hp:=ou s
 have hn:=Ct (w:=bf s) (g:=(bf s).length - 1) (by omega)
 unfold bO
 generalize bf s=w at hp hn ⊢
 cases w with
 | nil=>cases hp
 | cons x l=>
  have e1:(x::l).tail.take ((x::l).length - 1)=l:=by simp
  have e0:Di.gt [] (x::l) 0=x:=rfl
  have eN:iX (x::l) ((x::l).length - 1)=l.map fJ:=by unfold iX;rw[e1]
  have eI:mq (x::l) ((x::l).length - 1)=(decide (manyN x=(l.length:Int))&&l.all rB):=by
   unfold mq
   rw[e1,e0,Zo]
   congr 2
   simp
  rw[eN,eI,e0]
  simp only
  cases hv:jH x with
  | none=>
   have:manyN x= -1:=by unfold manyN;rw[hv]
   rw[this]
   refine⟨fun h=> ?_,fun _=>rfl⟩
   rw[Zm,Zn] at h
   omega
  | some v=>
   have hm:manyN x=(v.many:Nat):=by unfold manyN;rw[hv]
   rw[hm]
   simp only
   constructor
   ·intro h
    rw[Zm,Zn] at h
    have hl:l.length=v.many:=by omega
    refine⟨v,(oA hv).symm,by rw[Zr];exact hl,?_⟩
    rw[if_pos hl,vv l h.2]
    rfl
   ·intro h
    by_cases hl:l.length=v.many
    ·rw[if_pos hl,mapM_none l (by rw[hl] at h;simpa using h)]
     rfl
    ·rw[if_neg hl]
theorem Wi{n:Nat}(h:n<=24):2^n<=16777216:=by
 have:=Zu (show 0<2 by omega) h
 have h2:(2:Nat)^24=16777216:=by decide
 omega
section
variable {l:List Rx.bY} {bad good:Int}
theorem OF(hC:Rx.cJ l):(0<=(Rx.lS l bad good).1∧(Rx.lS l bad good).1<=33554432)∧0<=(Rx.lS l bad good).2∧(Rx.lS l bad good).2<=33554432:=by
 unfold Rx.lS
 split
 ·rename_i h
  have h3:=(Rx.Ah h).2.2.2.2.2
  have h4:Rx.lG l bad good<2^32:=by
   have:=Zu (show 0<2 by omega) (ZS (Rx.cG hC) (show 24<=32 by decide))
   omega
  obtain⟨h5,h6⟩:=Rx.J4 (l:=l) h3.1 h4
  obtain⟨x,_,e1⟩:=zl.1 h5
  obtain⟨y,_,e2⟩:=zl.1 h6
  have b1:=Rx.Ob hC x
  have b2:=Rx.Ob hC y
  rw[e1] at b1
  rw[e2] at b2
  exact⟨b1,b2⟩
 ·exact⟨by decide,by decide⟩
end
theorem xb{b:bI}{set:Nat}{x:Int}(h:fS b set x=0):x<(b.ag.length:Int)∧set.testBit x.toNat=false:=by
 unfold fS at h
 split at h
 ·cases h
 ·rename_i h1
  split at h
  ·cases h
  ·rename_i h2
   exact⟨by omega,by simpa using h2⟩
theorem rI{a B:Int}(h1:0<=a∧a<B):∀ x∈[a],0<=x∧x<B:=fun x hx=>by
 rw[ZK.1 hx];exact h1
theorem S0{a b B:Int}(h1:0<=a∧a<B)(h2:0<=b∧b<B):∀ x∈[a,b],0<=x∧x<B:=fun x hx=>by
 rcases Zw.1 hx with rfl | hx
 ·exact h1
 ·rw[ZK.1 hx];exact h2
theorem RA{a b c B:Int}(h1:0<=a∧a<B)(h2:0<=b∧b<B)(h3:0<=c∧c<B):∀ x∈[a,b,c],0<=x∧x<B:=fun x hx=>by
 rcases Zw.1 hx with rfl | hx
 ·exact h1
 ·exact S0 h2 h3 x hx
theorem gD(n:Nat):(jm n).length<=100:=ZS (KL n 24) (by decide)
theorem s0(n:Nat):∀ x∈jm n,0<=x∧x<10000000000000:=fun x hx=>by have:=Va n x hx;omega
theorem uA{p:Di.bJ}{l:List Di.cO}{plan:List Int}{u:List Int}{n:Int}(h:Di.gN p l plan=(some u,n,0)):Di.eF p=true∧Di.mD l=true:=by
 unfold Di.gN at h
 split at h
 ·cases h
 ·rename_i h1
  split at h
  ·cases h
  ·rename_i h2
   exact⟨by simpa using h1,by simpa using h2⟩
theorem Hy{p:Di.bJ}{plan:List Int}:∀(l:List Di.cO) (i:Nat) (u v:List Int) (n:Int),i<=plan.length->Di.fW p plan i u l=(some v,n,0)->plan.length=i+l.length
 | [],i,u,v,n,hi,h=>by
  rw[Di.fW] at h
  split at h
  ·cases h
  ·simp;omega
 | w::l,i,u,v,n,hi,h=>by
  rw[Di.fW] at h
  split at h
  ·cases h
  ·rename_i h1
   split at h
   ·cases h
   ·split at h
    ·cases h
    ·have:=Hy l (i+1) _ v n (by omega) h
     rw[Zo];omega
theorem fy{p:Di.bJ}{l:List Di.cO}{plan:List Int}{u:List Int}{n:Int}(h:Di.gN p l plan=(some u,n,0)):plan.length=l.length:=by
 obtain⟨h1,h2⟩:=uA h
 rw[Di.gM h1 h2] at h
 have:=Hy l 0 _ u n (Zp _) h
 omega
theorem E1{b:bI}{d:Int}(hv:∀ w∈b.au,Di.xX w=false)(hp:b.plan.length=b.au.length):∀ g,g<=b.plan.length->0<=xH b d g∧xH b d g<=1000*(g:Int)
 | 0,_=>⟨Ge _,by show(0:Int)<=1000*((0:Nat):Int);decide⟩
 | g+1,h=>by
  have h1:=E1 (d:=d) hv hp g (by omega)
  have h2:=(Di.ov (hv _ (Di.bN Di.cO.d (show g<b.au.length by omega)))).1
  rw[xH]
  split <;> omega
theorem La{p:Di.bJ}{j u:Int}:(0<=(Di.dY p j u).1.1∧(Di.dY p j u).1.1<=1820000000)∧0<=(Di.dY p j u).1.2∧(Di.dY p j u).1.2<=1820000000:=by
 unfold Di.dY
 split
 ·decide
 ·rename_i h1
  split
  ·decide
  ·rename_i h2
   have hv:Di.eF p=true:=by simpa using h1
   obtain⟨⟨n1,n4⟩,_,hsh,Ri⟩:=Di.iD hv
   have h3:Di.jg j 0 ((p.dies.length:Int) - 1)=true∧Di.jg u 0 8000=true:=by simpa using h2
   obtain⟨j0,j1⟩:=Di.fP h3.1
   obtain⟨u0,u1⟩:=Di.fP h3.2
   obtain⟨w1,w2,w3,w4⟩:=Di.oe (Ri _ (Di.bN Di.eg.d (show j.toNat<p.dies.length by omega)))
   obtain⟨_,_,e1,e2⟩:=Di.tn (a:=(Di.gt Di.eg.d p.dies j.toNat).wide) (b:=(Di.gt Di.eg.d p.dies j.toNat).lo) (u:=u) (s:=p.F3) w1 (by omega) (by omega) (by omega)
   obtain⟨_,_,e3,e4⟩:=Di.tn (a:=(Di.gt Di.eg.d p.dies j.toNat).wide) (b:=(Di.gt Di.eg.d p.dies j.toNat).hi) (u:=u) (s:=p.Fa) w1 (by omega) (by omega) (by omega)
   have e1:0<=Di.thin p (Di.gt Di.eg.d p.dies j.toNat) u:=e1
   have e2:Di.thin p (Di.gt Di.eg.d p.dies j.toNat) u<=1820000000:=e2
   have e3:0<=Di.jX p (Di.gt Di.eg.d p.dies j.toNat) u:=e3
   have e4:Di.jX p (Di.gt Di.eg.d p.dies j.toNat) u<=1820000000:=e4
   show(0<=Di.thin p _ u / 1000∧Di.thin p _ u / 1000<=_)∧0<=(Di.jX p _ u+999) / 1000∧(Di.jX p _ u+999) / 1000<=_
   omega
theorem JK{α:Type}{f:α->List PV}{c:Nat}(hf:∀ x,(f x).length=c)(xs:List α)(k:Nat):((xs.flatMap f).drop (0*c)).take ((k - 0)*c)=(xs.take k).flatMap f:=by
 rw[Nat.zero_mul,Wh,Nat.sub_zero]
 induction xs generalizing k with
 | nil=>simp
 | cons x xs ih=>
  cases k with
  | zero=>simp
  | succ k=>
   rw[ZI,List.take_succ_cons,ZI,Nat.succ_mul,Wl,<- hf x,List.take_length_add_append,hf x,ih k]
theorem Gc(s:Ck.Sk):Ck.iB [s] [bX 0 1]=Ck.dM [s]:=by
 unfold Ck.iB
 have:Ck.jw [s].length [bX 0 1]=true:=by
  show Ck.jw 1 [bX 0 1]=true
  decide
 rw[this,Bool.and_true]
theorem Nd(l:List Ck.Sk)(b:List Ck.Tk):(shr l b).2=if Ck.iB l b=true then 0 else 1:=by
 unfold shr
 split <;> rfl
theorem Lo(l:List Ck.Sk)(b:List Ck.Tk):∀ n:Nat,0<=Ck.tV l b n∧Ck.tV l b n<=(n:Int)
 | 0=>by rw[Ck.tV];exact⟨Ge _,Ge _⟩
 | n+1=>by
  have:=Lo l b n
  rw[Ck.tV];split <;> omega
theorem M5(l:List Ck.Sk)(b:List Ck.Tk):∀ n:Nat,0<=Ck.lM l b n∧Ck.lM l b n<=1000
 | 0=>by rw[Ck.lM];exact⟨by decide,by decide⟩
 | n+1=>by
  have:=M5 l b n
  rw[Ck.lM];split <;> omega
theorem Tc(l:List Ck.Sk)(b:List Ck.Tk):(0<=(shr l b).1.1∧(shr l b).1.1<10000000000000)∧0<=(shr l b).1.2∧(shr l b).1.2<10000000000000:=by
 unfold shr
 have h1:=Lo l b 1001
 have h2:=M5 l b 1001
 split
 ·show(0<=Ck.tV l b 1001∧Ck.tV l b 1001<_)∧0<=Ck.lM l b 1001∧Ck.lM l b 1001<_
  omega
 ·exact⟨by decide,by decide⟩
theorem MF{l:List Ck.Sk}{a b c d:Int}(h:(shr l [bX a b,bX c d]).2=0):(0<=a∧a<(l.length:Int))∧0<=c∧c<(l.length:Int):=by
 rw[Nd] at h
 split at h
 ·rename_i hv
  unfold Ck.iB Ck.jw at hv
  simp only[Zm,List.any_cons,List.any_nil,Bool.or_false,Ku,PF] at hv
  obtain⟨_,_,h1,h2⟩:=hv
  unfold Ck.Tk.bad at h1 h2
  simp only[PF,Bool.not_eq_false',Zm,Zn] at h1 h2
  have h1:(0<=a∧a<=(l.length:Int) - 1):=h1.1
  have h2:(0<=c∧c<=(l.length:Int) - 1):=h2.1
  omega
 ·cases h
theorem TO{l:List Rx.bY}{x:Rx.bY}{j:Nat}(h:j<l.length):Rx.bt (l++[x]) j=Rx.bt l j:=by
 unfold Rx.bt
 rw[Ze,Zd h,<- Ze]
theorem UI(l:List Rx.bY)(x:Rx.bY):Rx.bt (l++[x]) l.length=x:=by
 unfold Rx.bt
 rw[Ze,Zj (Zf _),OX];rfl
theorem L2{l:List Rx.bY}{f s:Int}(h:Rx.cJ l)(hl:l.length<24)(hf:0<=f∧f<=Rx.pw l.length - 1)(hs:0<=s∧s<=1048576):Rx.cJ (l++[⟨f,s⟩]):=fun j hj=>by
 rw[Zc,Wo] at hj
 unfold Rx.CD
 rcases ZM j l.length with h1 | h1
 ·rw[TO h1]
  exact h j h1
 ·obtain rfl:j=l.length:=by omega
  rw[UI]
  exact⟨hl,hf,hs⟩
theorem Fk{l:List Ck.Sk}{x:Ck.Sk}(h:Ck.dM l=true)(hl:l.length<8)(hx:Ck.dM [x]=true):Ck.dM (l++[x])=true:=by
 unfold Ck.dM at*
 simp only[Zm,Zn,Ku,List.any_append,PF] at*
 refine⟨by rw[Zc];show((_+1:Nat):Int)<=8;omega,h.2,hx.2⟩
theorem nF{a x:Nat}(h:a.testBit x=false):a+2^x=a||| 2^x:=by
 have e1:a / 2^x*2^x+a%2^x=a:=Nat.div_add_mod' a (2^x)
 have ha:=Nat.mod_lt a (RM x)
 have hb:(a / 2^x).testBit 0=false:=by rw[Nat.testBit_div_two_pow];simpa using h
 have hb:a / 2^x%2=0:=by rw[Yh] at hb;simp at hb;omega
 apply Kt
 intro i
 have e2:a+2^x=2^x*(a / 2^x+1)+a%2^x:=by rw[Nat.mul_add,Ks,Nat.mul_comm];omega
 have e3:a=2^x*(a / 2^x)+a%2^x:=by rw[Nat.mul_comm];omega
 rw[e2,V5 _ ha,O9,LN]
 conv=>rhs;rw[e3,V5 _ ha]
 by_cases hi:i<x
 ·rw[if_pos hi,if_pos hi,decide_eq_false (by omega),Bool.or_false]
 ·rw[if_neg hi,if_neg hi]
  by_cases hx:x=i
  ·subst hx
   rw[OX,Yh,Yh,decide_eq_true rfl,Bool.or_true]
   simp;omega
  ·rw[decide_eq_false hx,Bool.or_false]
   obtain⟨k,hk⟩:∃ k,i - x=k+1:=⟨i - x - 1,by omega⟩
   rw[hk,Nat.testBit_succ,Nat.testBit_succ]
   congr 1
   omega
theorem KC{a n:Nat}{x:Int}(h:a<2^n)(hx:a.testBit x.toNat=false)(h0:0<=x)(hn:x<(n:Int)):a+pow2 x<2^n:=by
 unfold pow2
 rw[nF hx]
 exact NI h (SP (by omega) (by omega))
theorem OA{a b:Int}{n:Nat}(ha:0<=a∧a<(n:Int))(hb:0<=b∧b<(n:Int)):0<=both a b∧both a b<=Rx.pw n - 1:=by
 unfold both Rx.pw pow2
 have pa:=RM a.toNat
 have pb:=RM b.toNat
 have ka:=SP (show 1<2 by omega) (show a.toNat<n by omega)
 have kb:=SP (show 1<2 by omega) (show b.toNat<n by omega)
 split
 ·omega
 ·rename_i hne
  have:(2^a.toNat).testBit b.toNat=false:=by rw[LN];exact decide_eq_false (by omega)
  have h3:=NI (SP (show 1<2 by omega) (show a.toNat<n by omega)) (SP (show 1<2 by omega) (show b.toNat<n by omega))
  rw[<- nF this] at h3
  omega
theorem My{p:Di.bJ}{plan:List Int}:∀(l:List Di.cO) (i:Nat) (u:List Int),(Di.fW p plan i u l).2.2=0->∃ v,Di.fW p plan i u l=(some v,((i+l.length:Nat):Int),0)
 | [],i,u,h=>by
  rw[Di.fW] at h ⊢
  split at h
  ·cases h
  ·rename_i h1;rw[if_neg h1];exact⟨u,rfl⟩
 | w::l,i,u,h=>by
  rw[Di.fW] at h ⊢
  split at h
  ·cases h
  ·rename_i h1
   split at h
   ·cases h
   ·rename_i h2
    split at h
    ·cases h
    ·rename_i h3
     rw[if_neg h1,if_neg h2,if_neg h3]
     obtain⟨v,hv⟩:=My l (i+1) _ h
     refine⟨v,?_⟩
     rw[hv,Zo]
     congr 2
     omega
theorem Rg{p:Di.bJ}{l:List Di.cO}{plan:List Int}(h:(Di.gN p l plan).2.2=0):(∃ u,Di.gN p l plan=(some u,(l.length:Int),0))∧l.length<=8:=by
 have h0:=h
 unfold Di.gN at h
 split at h
 ·cases h
 ·rename_i h1
  split at h
  ·cases h
  ·rename_i h2
   have h1:Di.eF p=true:=by simpa using h1
   have h2:Di.mD l=true:=by simpa using h2
   obtain⟨v,hv⟩:=My l 0 _ h
   rw[Di.gM h1 h2,hv,zq]
   exact⟨⟨v,rfl⟩,(Di.jE h2).1⟩
theorem uy{p:Di.bJ}{b:bI}{f s:Int}(h:Xi p b)(hl:¬ 24<=b.ag.length)(hf:0<=f∧f<=Rx.pw b.ag.length - 1)(hs:0<=s∧s<=1048576):Xi p (b.gq ⟨f,s⟩):=by
 have e:(b.gq ⟨f,s⟩).ag.length=b.ag.length+1:=by show(b.ag++[_]).length=_;rw[Zc];rfl
 have h2:2^b.ag.length<2^(b.ag.length+1):=SP (by omega) (by omega)
 have h3:=h.bad
 have h4:=h.good
 refine⟨h.sk,h.X6,L2 h.cd (by omega) hf hs,h.dr,h.ER,?_,?_,h.ck,fun c hc=> ?_⟩
 ·rw[e];show b.bad<_;omega
 ·rw[e];show b.good<_;omega
 ·have:=h.Pp c hc
  rw[e];omega
theorem Y2(n:Nat):(0:Int)<=0∧(0:Int)<=Rx.pw n - 1:=by
 unfold Rx.pw
 have:=RM n
 omega
theorem W4{F:bT}{v:Vb}{n:List Int}(hF:kO F)(hl:n.length=v.many)(hn:∀ x∈n,0<=x∧x<10000000000000):kO (bp F v n).1:=by
 have hb:=hF.b
 have hlen:=Rx.cG hb.cd
 have nth:∀ k,k<n.length->0<=nn n k∧nn n k<10000000000000:=fun k hk=>hn _ (Di.bN 0 hk)
 have stay:∀ b,Xi F.aT b->kO {F with b:=b}:=fun b h=>⟨hF.p,h,hF.mm,hF.We⟩
 cases v
 case kJ=>
  unfold bp;dsimp only
  split
  ·exact hF
  ·rename_i h1
   split
   ·exact hF
   ·rename_i h2
    refine stay _ ?_
    have hx:Ck.dM [iQ n]=true:=by
     have h3:=Nd [iQ n] [bX 0 1]
     rw[Gc] at h3
     rw[h3] at h2
     by_cases hh:Ck.dM [iQ n]=true
     ·exact hh
     ·rw[if_neg hh] at h2;exact absurd (by decide) h2
    have hc:=uy (f:=0) (s:=0) hb (by omega) (Y2 _) (by decide)
    refine⟨?_,Fk hb.X6 (by omega) hx,hc.cd,hc.dr,hc.ER,hc.bad,hc.good,?_,fun c hm=> ?_⟩
    ·show(F.b.aq++[iQ n]).length<=8
     rw[Zc];show _+1<=8;omega
    ·show(_++_:List Int).length=(_++_:List Ck.Sk).length
     rw[Zc,Zc,hb.ck];rfl
    ·have e:(F.b.gq ⟨0,0⟩).ag.length=F.b.ag.length+1:=by show(F.b.ag++[_]).length=_;rw[Zc];rfl
     show 0<=c∧c<((F.b.gq ⟨0,0⟩).ag.length:Int)
     rw[e]
     rcases Zq.1 hm with h | h
     ·have:=hb.Pp c h;omega
     ·rw[ZK.1 h];omega
 case slat=>
  unfold bp;dsimp only
  split
  ·exact hF
  ·rename_i h1
   exact stay _ (uy hb h1 (Y2 _) (by decide))
 case lead=>
  unfold bp;dsimp only
  split
  ·exact hF
  ·rename_i h1
   split
   ·exact hF
   ·rename_i h2
    split
    ·exact hF
    ·rename_i h3
     split
     ·exact hF
     ·rename_i h4
      obtain⟨⟨i1,i2⟩,i3,i4⟩:=MF (Vd.1 h2)
      have hck:=hb.ck
      have ck1:=hb.Pp _ (Di.bN 0 (show(nn n 0).toNat<F.b.b9.length by omega))
      have ck2:=hb.Pp _ (Di.bN 0 (show(nn n 2).toNat<F.b.b9.length by omega))
      have hc:=uy (s:=0) hb h1 (OA ck1 ck2) (by decide)
      obtain⟨hf,XN⟩:=Rg (Vd.1 h4)
      exact stay _ ⟨hc.sk,hc.X6,hc.cd,XN,hf,hc.bad,hc.good,hc.ck,hc.Pp⟩
 case pencil=>
  have q0:=nth 0 (by rw[hl];decide)
  have q1:=nth 1 (by rw[hl];decide)
  have q2:=nth 2 (by rw[hl];decide)
  unfold bp;dsimp only
  split
  ·exact hF
  ·rename_i h1
   split
   ·exact hF
   ·rename_i h2
    split
    ·exact hF
    ·rename_i h3
     exact stay _ (uy hb h1 (OA (by omega) (by omega)) (by omega))
 case bad=>
  have q0:=nth 0 (by rw[hl];decide)
  unfold bp;dsimp only
  split
  ·exact hF
  ·rename_i h1
   split
   ·exact hF
   ·obtain⟨c1,c2⟩:=xb (Vd.1 h1)
    exact stay _ ⟨hb.sk,hb.X6,hb.cd,hb.dr,hb.ER,KC hb.bad c2 q0.1 c1,hb.good,hb.ck,hb.Pp⟩
 case good=>
  have q0:=nth 0 (by rw[hl];decide)
  unfold bp;dsimp only
  split
  ·exact hF
  ·rename_i h1
   split
   ·exact hF
   ·obtain⟨c1,c2⟩:=xb (Vd.1 h1)
    exact stay _ ⟨hb.sk,hb.X6,hb.cd,hb.dr,hb.ER,hb.bad,KC hb.good c2 q0.1 c1,hb.ck,hb.Pp⟩
 case blame=>
  unfold bp;dsimp only
  split <;> exact hF
 case call=>
  unfold bp;dsimp only
  split <;> exact hF
 case from_=>
  unfold bp;dsimp only
  split <;> exact hF
 case wear=>
  unfold bp;dsimp only
  split <;> exact hF
 case mark=>
  unfold bp;dsimp only
  split
  ·exact hF
  ·rename_i h1
   refine⟨hF.p,hF.b,?_,fun x hx=> ?_⟩
   ·show(_++_:List bI).length<=8
    rw[Zc];show _+1<=8;omega
   ·rcases Zq.1 hx with h | h
    ·exact hF.We x h
    ·rw[ZK.1 h];exact hF.b
 case back=>
  unfold bp;dsimp only
  cases hm:F.marks.getLast? with
  | none=>exact hF
  | some x=>
   have hx:x∈F.marks:=List.mem_of_getLast? hm
   refine⟨hF.p,hF.We x hx,?_,fun y hy=>hF.We y (List.dropLast_subset _ hy)⟩
   show F.marks.dropLast.length<=8
   rw[List.length_dropLast];have:=hF.mm;omega
 case keep=>
  unfold bp;dsimp only
  cases hm:F.marks.getLast? with
  | none=>exact hF
  | some x=>
   refine⟨hF.p,hF.b,?_,fun y hy=>hF.We y (List.dropLast_subset _ hy)⟩
   show F.marks.dropLast.length<=8
   rw[List.length_dropLast];have:=hF.mm;omega
theorem nt{s:Bs}{v:Vb}{n:List Int}(h:bO s=some (v,n)):n.length=v.many∧∀ x∈n,0<=x∧x<10000000000000:=by
 obtain⟨h1,h2⟩:=xC s
 cases hb:mq (bf s) ((bf s).length - 1) with
 | false=>rw[h2 hb] at h;cases h
 | true=>
  obtain⟨v',_,hl,he⟩:=h1 hb
  rw[he] at h
  cases h
  refine⟨hl,fun x hx=> ?_⟩
  unfold iX at hx
  obtain⟨y,_,rfl⟩:=zl.1 hx
  exact YP y
theorem zp{F:bT}{s:Bs}(hF:kO F):kO (aD F s).1:=by
 unfold aD
 split
 ·exact hF
 ·split
  ·exact hF
  ·rename_i v n h
   obtain⟨hl,hn⟩:=nt h
   exact W4 hF hl hn
theorem vE{p:Di.bJ}(h:Di.eF p=true):kO (newF p):=by
 refine⟨h,⟨Zp _,rfl,fun j hj=>absurd hj (Nat.not_lt_zero j),Zp _,?_,by show 0<1;decide,by show 0<1;decide,rfl,fun c hc=>by cases hc⟩,Zp _,fun x hx=>by cases hx⟩
 refine⟨List.replicate p.dies.length 0,?_⟩
 show Di.gN p [] []=_
 rw[Di.gM h (by decide)]
 rfl
theorem UA(v:Vb):v.t.length<=6:=by cases v <;> decide
theorem Y5(l:List Rx.bY)(s:List Int):0<=Rx.jA l s∧Rx.jA l s<=2:=by
 unfold Rx.jA
 split
 ·split <;> decide
 ·decide
theorem YG(l:List Rx.bY)(a b:Int):0<=Rx.ji l a b∧Rx.ji l a b<=6:=by
 unfold Rx.ji
 split
 ·have:=Y5 l [a,b];omega
 ·split
  ·decide
  ·split <;> decide
theorem V0(l:List Rx.bY)(b:Int):0<=Rx.gf l b∧Rx.gf l b<=6:=by
 unfold Rx.gf
 split
 ·split <;> decide
 ·decide
theorem KO(b:bI)(s:Nat)(x:Int):0<=fS b s x∧fS b s x<=6:=by
 unfold fS
 split
 ·decide
 ·split <;> decide
theorem S7(l:List Ck.Sk)(b:List Ck.Tk):0<=(shr l b).2∧(shr l b).2<=1:=by
 rw[Nd]
 split <;> decide
theorem Og{p:Di.bJ}{plan:List Int}:∀(l:List Di.cO) (i:Nat) (u:List Int),0<=(Di.fW p plan i u l).2.2∧(Di.fW p plan i u l).2.2<=11
 | [],i,u=>by
  rw[Di.fW]
  split <;> (dsimp only;omega)
 | w::l,i,u=>by
  rw[Di.fW]
  split
  ·dsimp only;omega
  ·split
   ·dsimp only;omega
   ·split
    ·dsimp only;omega
    ·exact Og l _ _
theorem W1(p:Di.bJ)(l:List Di.cO)(plan:List Int):0<=(Di.gN p l plan).2.2∧(Di.gN p l plan).2.2<=11:=by
 unfold Di.gN
 split
 ·decide
 ·split
  ·decide
  ·exact Og _ _ _
def Yz(x:bT×Bs×Int):Prop:=x.2.1.length<=3000∧0<=x.2.2∧x.2.2<=15
theorem jP{F:bT}{e:Int}(h:0<=e∧e<=15):Yz (F,[],e):=⟨Zp _,h⟩
theorem jl{F:bT}{w:Bs}{l:List Int}(hw:w.length<=100)(hl:l.length<=102)(h:∀ n∈l,0<=n∧n<10000000000000):Yz (F,bn w l,0):=by
 have:=qH (w:=w) h
 exact⟨by show(bn w l).length<=3000;omega,(by decide:(0:Int)<=0∧(0:Int)<=15)⟩
theorem ok_two{F:bT}{w v:Bs}{l m:List Int}(hw:w.length<=100)(hv:v.length<=100)(hl:l.length<=80)(hm:m.length<=80)(h1:∀ n∈l,0<=n∧n<10000000000000)(h2:∀ n∈m,0<=n∧n<10000000000000):Yz (F,bn w l++32::bn v m,0):=by
 have a:=qH (w:=w) h1
 have b:=qH (w:=v) h2
 refine⟨?_,(by decide:(0:Int)<=0∧(0:Int)<=15)⟩
 show(bn w l++32::bn v m).length<=3000
 rw[Zc,Zo];omega
theorem XD{F:bT}{v:Vb}{n:List Int}(hF:kO F)(hl:n.length=v.many)(hn:∀ x∈n,0<=x∧x<10000000000000):Yz (bp F v n):=by
 have hb:=hF.b
 have hlen:=Rx.cG hb.cd
 have Z9:=hb.sk
 have QZ:=hF.mm
 have vl:=UA v
 cases v
 case kJ=>
  unfold bp;dsimp only
  split
  ·exact eB
  ·split
   ·exact jP (by have:=S7 [iQ n] [bX 0 1];omega)
   ·exact ok_two (by omega) (by decide) (by show 1<=80;decide) (by show 1<=80;decide) (rI (by omega)) (rI (by omega))
 case slat=>
  unfold bp;dsimp only
  split
  ·exact eB
  ·exact jl (by decide) (by show 1<=102;decide) (rI (by omega))
 case lead=>
  unfold bp;dsimp only
  split
  ·exact eB
  ·split
   ·exact jP (by have:=S7 F.b.aq [bX (nn n 0) (nn n 1),bX (nn n 2) (nn n 3)];omega)
   ·split
    ·exact eB
    ·split
     ·exact jP (by have:=W1 F.aT (F.b.au++[⟨nn n 5,nn n 6,nn n 7⟩]) (F.b.plan++[nn n 4]);omega)
     ·obtain⟨sb1,sb2⟩:=Tc F.b.aq [bX (nn n 0) (nn n 1),bX (nn n 2) (nn n 3)]
      exact ok_two (by decide) (by decide) (by show 1<=80;decide) (by show 2<=80;decide) (rI (by omega)) (S0 sb1 sb2)
 case pencil=>
  unfold bp;dsimp only
  split
  ·exact eB
  ·split
   ·exact eB
   ·split
    ·exact eB
    ·exact jl (by decide) (by show 1<=102;decide) (rI (by omega))
 case bad=>
  unfold bp;dsimp only
  split
  ·exact jP (by have:=KO F.b F.b.bad (nn n 0);omega)
  ·split
   ·exact eB
   ·have:=gD (F.b.bad+pow2 (nn n 0))
    exact vp
 case good=>
  unfold bp;dsimp only
  split
  ·exact jP (by have:=KO F.b F.b.good (nn n 0);omega)
  ·split
   ·exact eB
   ·have:=gD (F.b.good+pow2 (nn n 0))
    exact vp
 case blame=>
  unfold bp;dsimp only
  split
  ·exact jP (by have:=YG F.b.ag F.b.bad F.b.good;omega)
  ·exact jl (by omega) (ZS (gD _) (by decide)) (s0 _)
 case call=>
  unfold bp;dsimp only
  split
  ·exact jP (by have:=YG F.b.ag F.b.bad F.b.good;omega)
  ·obtain⟨⟨s1,s2⟩,s3,s4⟩:=OF (bad:=F.b.bad) (good:=F.b.good) hb.cd
   refine jl (by omega) ?_ ?_
   ·have:=gD (Rx.xY F.b.ag F.b.bad F.b.good)
    rw[Zo,Zo];omega
   ·intro x hx
    rcases Zw.1 hx with rfl | hx
    ·omega
    ·rcases Zw.1 hx with rfl | hx
     ·omega
     ·exact s0 _ x hx
 case from_=>
  unfold bp;dsimp only
  split
  ·exact jP (by have:=V0 F.b.ag (nn n 0);omega)
  ·exact jl (by omega) (ZS (gD _) (by decide)) (s0 _)
 case wear=>
  unfold bp;dsimp only
  split
  ·exact eB
  ·obtain⟨uu,hfo⟩:=hb.ER
   obtain⟨_,Ri⟩:=Di.jE (uA hfo).2
   have hpl:=fy hfo
   have hu:=E1 (d:=nn n 0) Ri hpl F.b.plan.length (Zf _)
   have hu:0<=eZ F.b (nn n 0)∧eZ F.b (nn n 0)<=1000*(F.b.plan.length:Int):=hu
   have XN:=hb.dr
   obtain⟨⟨x1,x2⟩,x3,x4⟩:=La (p:=F.aT) (j:=nn n 0) (u:=eZ F.b (nn n 0))
   exact jl (by omega) (by show 3<=102;decide) (RA (by omega) (by omega) (by omega))
 case mark=>
  unfold bp;dsimp only
  split
  ·exact eB
  ·exact vp
 case back=>
  unfold bp;dsimp only
  cases hm:F.marks.getLast? with
  | none=>exact jP (by decide)
  | some x=>
   have hx:F.marks≠[]:=fun e=>by rw[e] at hm;cases hm
   have:=List.length_pos_iff.2 hx
   exact jl (by omega) (by show 1<=102;decide) (rI (by omega))
 case keep=>
  unfold bp;dsimp only
  cases hm:F.marks.getLast? with
  | none=>exact jP (by decide)
  | some x=>
   have hx:F.marks≠[]:=fun e=>by rw[e] at hm;cases hm
   have:=List.length_pos_iff.2 hx
   exact jl (by omega) (by show 1<=102;decide) (rI (by omega))
theorem zJ{F:bT}{s:Bs}(hF:kO F):Yz (aD F s):=by
 unfold aD
 split
 ·exact eB
 ·split
  ·exact eB
  ·rename_i v n h
   obtain⟨hl,hn⟩:=nt h
   exact XD hF hl hn
theorem TM{s:Bs}(h:mq (bf s) ((bf s).length - 1)=true):∃ v n,Fp (bf s)=[.str (sB (Vb.t v)),Di.bh n]∧bO s=some (v,n)∧n.length=v.many∧∀ x∈n,0<=x∧x<10000000000000:=by
 obtain⟨v,hv,hl,he⟩:=(xC s).1 h
 obtain⟨h1,h2⟩:=nt he
 refine⟨v,_,?_,he,h1,h2⟩
 unfold Fp
 rw[hv]
def gh(F:bT)(L:List Bs):Nat->bT
 | 0=>F
 | g+1=>(aD (gh F L g) (Di.gt [] L g)).1
def o5(F:bT)(L:List Bs):Nat->Bs
 | 0=>[]
 | g+1=>o5 F L g++zL (aD (gh F L g) (Di.gt [] L g)).2.1 (aD (gh F L g) (Di.gt [] L g)).2.2
def zf(F:bT):List Bs->bT
 | []=>F
 | l::ls=>zf (aD F l).1 ls
theorem EL(F:bT):∀(a b:List Bs),ya F (a++b)=ya F a++ya (zf F a) b
 | [],b=>rfl
 | l::a,b=>by
  show _++ya _ (a++b)=(_++_)++_
  rw[EL _ a b,ZQ]
  rfl
theorem yz(F:bT):∀(a b:List Bs),zf F (a++b)=zf (zf F a) b
 | [],b=>rfl
 | l::a,b=>yz _ a b
theorem Gw{L:List Bs}{g:Nat}(h:g<L.length):L.take (g+1)=L.take g++[Di.gt [] L g]:=by
 rw[ZT h,Di.aE [] g h]
theorem BN(F:bT)(L:List Bs):∀ g,g<=L.length->gh F L g=zf F (L.take g)
 | 0,_=>rfl
 | g+1,h=>by
  rw[Gw h,yz,<- BN F L g (by omega)]
  rfl
theorem yK(F:bT)(L:List Bs):∀ g,g<=L.length->o5 F L g=ya F (L.take g)
 | 0,_=>by rw[Mq];rfl
 | g+1,h=>by
  rw[Gw h,EL,<- yK F L g (by omega),<- BN F L g (by omega)]
  show _++_=_++(_++[])
  rw[ZX]
theorem fU{F:bT}{L:List Bs}(hF:kO F):∀ g,kO (gh F L g)
 | 0=>hF
 | g+1=>zp (fU hF g)
theorem Q8{e:Int}(h:0<=e∧e<=15):(bn E4 [e]).length<=19:=by
 have:=qH (w:=E4) (l:=[e]) (rI (by omega))
 have h2:E4.length=5:=rfl
 have h3:[e].length=1:=rfl
 omega
theorem uo{r:Bs}{e:Int}(h:r.length<=3000∧0<=e∧e<=15):(zL r e).length<=3001:=by
 unfold zL
 rw[Zc]
 split
 ·show _+1<=_;omega
 ·have:=Q8 h.2;show _+1<=_;omega
theorem sy{F:bT}{L:List Bs}(hF:kO F):∀ g,(o5 F L g).length<=3001*g
 | 0=>Zf _
 | g+1=>by
  have:=sy (L:=L) hF g
  have h2:=uo (zJ (s:=Di.gt [] L g) (fU (L:=L) hF g))
  rw[o5,Zc];omega
theorem Ad{p t:Bs}{c:UInt8}:∀(x:Bs),(∀ b∈x,b≠c)->Lib.index (x++(c::p)++t) (c::p)=x.length
 | [],_=>by
  show Lib.index (c::(p++t)) (c::p)=_
  unfold Lib.index
  rw[if_pos (by rw[Zbu];exact⟨t,rfl⟩)];rfl
 | b::x,h=>by
  have ih:=Ad (p:=p) (t:=t) x (fun b hb=>h b (Zl _ hb))
  show Lib.index (b::(x++(c::p)++t)) (c::p)=_
  unfold Lib.index
  rw[if_neg (by rw[Zbu];rintro⟨u,hu⟩;injection hu with h1 h2;exact h b (Zv ..) h1.symm),ih,if_neg (by simp)]
  simp
theorem Na{p:Bs}{c:UInt8}:∀(x:Bs),(∀ b∈x,b≠c)->Lib.index x (c::p)= -1
 | [],_=>rfl
 | b::x,h=>by
  unfold Lib.index
  rw[if_neg (by rw[Zbu];rintro⟨u,hu⟩;injection hu with h1 h2;exact h b (Zv ..) h1.symm),Na x (fun b hb=>h b (Zl _ hb)),if_pos (by decide)]
def OY(c:UInt8)(x:Bs):Prop:=∀ b∈x,b≠c
def cQ(c:UInt8):List Bs->Bs
 | []=>[]
 | w::r=>w++r.flatMap fun x=>c::x
theorem nS(c:UInt8)(w y:Bs)(r:List Bs):cQ c (w::y::r)=w++[c]++cQ c (y::r):=by simp[cQ]
theorem GF{c:UInt8}:∀(r:List Bs) (w:Bs),OY c w->(∀ x∈r,OY c x)->Lib.splitK [c] 0 r.length (cQ c (w::r))=w::r
 | [],w,_,_=>by
  show[w++[]]=_
  rw[ZX]
 | y::r,w,hw,h=>by
  have hi:Lib.index (w++[c]++cQ c (y::r)) [c]=w.length:=Ad w hw
  rw[Zo,Lib.splitK,nS,hi,if_neg (by simp),show((w.length:Nat):Int).toNat=w.length from rfl,Kb,ZQ,List.take_left,<- ZQ,show w.length+[c].length=(w++[c]).length by rw[Zc],List.drop_left,GF r y (h y (Zv ..)) fun x hx=>h x (Zl _ hx)]
theorem HW{c:UInt8}:∀(r:List Bs) (w:Bs),OY c w->(∀ x∈r,OY c x)->Lib.count (cQ c (w::r)) [c]=r.length
 | [],w,hw,_=>by
  show Lib.count (w++[]) _=_
  rw[ZX]
  exact Lib.count_miss (Na w hw)
 | y::r,w,hw,h=>by
  have hi:Lib.index (w++[c]++cQ c (y::r)) [c]=w.length:=Ad w hw
  rw[nS,Lib.count_hit (List.cons_ne_nil _ _) hi,show w.length+[c].length=(w++[c]).length by rw[Zc],List.drop_left,HW r y (h y (Zv ..)) (fun x hx=>h x (Zl _ hx)),Zo]
  omega
theorem dQ(x:Bs):(sB x).data.toList=x:=by unfold sB;simp
theorem Xu(y:ByteArray):y=sB y.data.toList:=by unfold sB;simp
theorem M1{c:UInt8}(ws:List Bs)(h0:0<ws.length)(h:∀ x∈ws,OY c x):Lib.splitB (sB [c]) 0 (ws.length - 1) (sB (cQ c ws))=ws.map sB:=by
 cases ws with
 | nil=>cases h0
 | cons w r=>
  have e1:=Lib.splitB_data (sB [c]) 0 r.length (sB (cQ c (w::r)))
  rw[dQ,dQ,GF r w (h w (Zv ..)) fun x hx=>h x (Zl _ hx)] at e1
  have e2:∀ L:List ByteArray,L=(L.map fun x=>x.data.toList).map sB:=fun L=>by
   rw[Re]
   conv=>lhs;rw[<- List.map_id L]
   exact Wk fun y _=>Xu y
  rw[Zo,Nat.add_sub_cancel,e2 (Lib.splitB _ _ _ _)]
  exact congrArg (List.map sB) e1
theorem KV{c:UInt8}(ws:List Bs)(h0:0<ws.length)(h:∀ x∈ws,OY c x):Lib.countB (sB (cQ c ws)) (sB [c])=ws.length - 1:=by
 cases ws with
 | nil=>cases h0
 | cons w r=>
  show Lib.count (sB _).data.toList (sB _).data.toList=_
  rw[dQ,dQ,HW r w (h w (Zv ..)) fun x hx=>h x (Zl _ hx)]
  rfl
theorem Ci{c:UInt8}:∀(ws:List Bs),ws.length<=(cQ c ws).length+1
 | []=>Zp _
 | [w]=>by simp
 | w::y::r=>by
  have:=Ci (c:=c) (y::r)
  rw[nS]
  simp only[Zc,Zo] at this ⊢
  omega
theorem UZ(c:UInt8)(s cur:Bs):∃ w r,c5 c cur s=w::r:=by
 have:=(iH c s cur).1
 cases h:c5 c cur s with
 | nil=>rw[h] at this;cases this
 | cons w r=>exact⟨w,r,rfl⟩
theorem qB(c:UInt8):∀(s cur:Bs),cQ c (c5 c cur s)=cur++s
 | [],cur=>by rw[c5];simp[cQ]
 | b::s,cur=>by
  rw[c5]
  split
  ·rename_i h
   obtain⟨w,r,e⟩:=UZ c s []
   have ih:=qB c s []
   rw[e] at ih ⊢
   rw[nS,ih,h]
   simp
  ·rw[qB c s (cur++[b])];simp
theorem Ag(c:UInt8):∀(s cur:Bs),OY c cur->∀ x∈c5 c cur s,OY c x
 | [],cur,h,x,hx=>by
  rw[c5,ZK] at hx
  rw[hx];exact h
 | b::s,cur,h,x,hx=>by
  rw[c5] at hx
  split at hx
  ·rcases Zw.1 hx with rfl | hx
   ·exact h
   ·exact Ag c s [] (fun y hy=>by cases hy) x hx
  ·rename_i hb
   refine Ag c s _ (fun y hy=> ?_) x hx
   rcases Zq.1 hy with h1 | h1
   ·exact h y h1
   ·rw[ZK.1 h1];exact hb
inductive jd where
 | str (w:Bs)
 | num (k:Int)
 | FW (l:List Int)
def jd.w:jd->List Bs
 | .str w=>[w]
 | .num k=>[Lib.itoa k]
 | .FW l=>l.map Lib.itoa
def jd.O6:jd->Bool
 | .str _=>true
 | _=>false
def jd.isN:jd->Bool
 | .num _=>true
 | _=>false
def jd.Z6:jd->Bool
 | .FW _=>true
 | _=>false
def jd.sV:jd->Bs
 | .str w=>w
 | _=>[]
def jd.nV:jd->Int
 | .num k=>k
 | _=>0
def jd.lV:jd->PV
 | .FW l=>Di.bh l
 | _=> .nilSlice
def jd.ok:jd->Prop
 | .str w=>w.length<=100
 | .num k=>0<=k∧k<10000000000000
 | .FW l=>l.length<=100∧∀ k∈l,0<=k∧k<10000000000000
def jJ(l:List jd):List Bs:=l.flatMap jd.w
theorem Ab{l:List jd}{k:Nat}(h:k<l.length):jJ (l.take (k+1))=jJ (l.take k)++(Di.gt (.str []) l k).w:=by
 unfold jJ
 rw[ZT h,Hp,Di.aE (.str []) k h]
 simp
theorem GL:∀{l:List jd},(∀ p∈l,p.ok)->(jJ l).length<=100*l.length
 | [],_=>Zp _
 | p::l,h=>by
  have ih:=GL (l:=l) fun q hq=>h q (Zl _ hq)
  have hp:=h p (Zv ..)
  unfold jJ at ih ⊢
  rw[ZI,Zc,Zo]
  have:p.w.length<=100:=by
   cases p with
   | str w=>show 1<=100;decide
   | num k=>show 1<=100;decide
   | FW l=>show(l.map Lib.itoa).length<=100;rw[Zr];exact hp.1
  omega
theorem Nl(l:List jd)(k:Nat):(jJ (l.take k)).length<=(jJ l).length:=by
 unfold jJ
 conv=>rhs;rw[<- YV k l,Hp,Zc]
 omega
theorem YZ{l:List jd}(h:∀ p∈l,p.ok):∀ x∈jJ l,x.length<=100:=fun x hx=>by
 obtain⟨p,hp,hx⟩:=List.mem_flatMap.1 hx
 have hk:=h p hp
 cases p with
 | str w=>rw[ZK.1 hx];exact hk
 | num k=>
  rw[ZK.1 hx]
  have:=nq hk.1 hk.2;omega
 | FW l=>
  obtain⟨k,hm,rfl⟩:=zl.1 hx
  have:=nq (hk.2 k hm).1 (hk.2 k hm).2;omega
theorem N3{c:UInt8}:∀(ws:List Bs),(∀ x∈ws,x.length<=100)->(cQ c ws).length<=101*ws.length
 | [],_=>Zp _
 | [w],h=>by
  have:=h w (Zv ..)
  simp[cQ];omega
 | w::y::r,h=>by
  have ih:=N3 (c:=c) (y::r) fun x hx=>h x (Zl _ hx)
  have:=h w (Zv ..)
  rw[nS]
  simp only[Zc,Zo,Km] at ih ⊢
  omega
theorem fC(w:Bs)(l:List Int):bn w l=cQ 32 (w::l.map Lib.itoa):=by
 show _=w++(l.map Lib.itoa).flatMap fun x=>32::x
 rw[List.flatMap_map]
 rfl
theorem L7(ws:List Bs)(sep:UInt8):Lib.join ws [sep]=cQ sep ws:=by
 cases ws with
 | nil=>rfl
 | cons w r=>
  rw[Lib.join_cons]
  show w++(r.map ([sep]++ ·)).flatten=w++r.flatMap fun x=>sep::x
  rw[List.flatMap_def]
  rfl
theorem Gm(k m:Nat)(h:2^k*(2*m+1)<2^64):2^k*(2*m+1)&&& (2^64 - 2^k*(2*m+1))=2^k:=by
 have hp:=RM k
 have h1:1<=2^k*(2*m+1):=Nat.mul_pos hp (by omega)
 have hk:k<64:=by
  rcases ZM k 64 with h2 | h2
  ·exact h2
  ·exact u7
 apply Kt
 intro i
 have e:2^64 - 2^k*(2*m+1)=2^64 - ((2^k*(2*m+1) - 1)+1):=by omega
 rw[e,MN,Nat.testBit_two_pow_sub_succ (by omega),Rx.ue,Rx.wE,LN]
 by_cases h2:i<k
 ·simp[show ¬ k<=i by omega,show ¬ k=i by omega]
 ·exact B1
theorem YK{x k:Nat}(h0:x≠0)(h:x<2^32)(hk:x&&& (2^32 - x)=2^k):x&&& (2^64 - x)=2^k:=by
 obtain⟨j,m,e⟩:=Rx.MV x h0
 rw[e] at hk h ⊢
 rw[Rx.C7 j m h] at hk
 rw[Gm j m (Nat.lt_trans h (by decide)),hk]
def Bc:List Int:=[0,1,56,2,57,49,28,3,61,58,42,50,38,29,17,4,62,47,59,36,45,43,51,22,53,39,33,30,24,18,12,5,63,55,48,27,60,41,37,16,46,35,44,21,52,32,23,11,54,26,40,15,34,20,31,10,25,14,19,9,13,8,7,6]
theorem K5:∀ k:Nat,k<64->Bc[2^k*285870213051353865%18446744073709551616 / 2^58]? =some (k:Int):=by decide
theorem GX(n:Int):IntKind.u64.wrap n=n%18446744073709551616:=by simp[IntKind.wrap,IntKind.bits,IntKind.signed]
theorem VP{n:Nat}(h:0<n)(h2:n<2^32):IntKind.u64.wrap (0 - (n:Int))=((2^64 - n:Nat):Int):=by
 rw[GX]
 omega
theorem Vw(k:Nat):IntKind.u64.wrap (((2^k:Nat):Int)*285870213051353865)=((2^k*285870213051353865%18446744073709551616:Nat):Int):=by
 rw[GX]
 omega
def bl(n p:Nat):List Int:=(Rx.aM n p).map fun(i:Nat)=>(i:Int)
theorem Uv(n p:Nat):(bl n p).length<=p:=by
 unfold bl Rx.aM
 exact CV
def byC(b:UInt8):List PV:=[.int .u8 b.toNat]
theorem HN:∀ s:Bs,bP s=s.flatMap byC
 | []=>rfl
 | b::s=>by
  show PV.int .u8 b.toNat::bP s=_
  rw[ZI,<- HN s]
  rfl
theorem Yf{s:Bs}{b:Bool}(h:((!decide (s=[])&&decide (((sB s).size:Int)<=13))&&(decide (s=[48])|| !decide (((Di.gt 0 s 0).toNat:Int)=48)))=b):(b=true->s≠[]∧s.length<=13∧(s=[48]∨s.getD 0 0≠48))∧(b=false->¬ gV s):=by
 rw[cU] at h
 have e48:((Di.gt 0 s 0).toNat:Int)=48↔s.getD 0 0=48:=by
  show((s.getD 0 0).toNat:Int)=48↔_
  constructor
  ·intro h;exact UInt8.toNat_inj.1 (by have:(48:UInt8).toNat=48:=rfl;omega)
  ·intro h;rw[h];rfl
 subst h
 constructor
 ·intro h
  simp only[Zm,Fc,Ku,Zn,ZY,e48] at h
  exact⟨h.1.1,by omega,h.2⟩
 ·rintro h ⟨a,b,c,_⟩
  have:(((!decide (s=[])&&decide ((s.length:Int)<=13))&&(decide (s=[48])|| !decide (((Di.gt 0 s 0).toNat:Int)=48)))=true):=by
   simp only[Zm,Fc,Ku,Zn,ZY,e48]
   exact⟨⟨a,by omega⟩,c⟩
  rw[this] at h
  cases h
theorem MW{b:UInt8}{x:Bool}(h:(decide ((48:Int)<=(b.toNat:Int))&&decide ((b.toNat:Int)<=57))=x):pF b=x:=by
 rw[<- h]
 unfold pF
 congr 1
 ·exact decide_eq_decide.2 (by omega)
 ·exact decide_eq_decide.2 (by omega)
theorem H6{a b:Int}{j k:Nat}(ha:a=(j:Int))(hb:b=(k:Int)):both a b=((1*2^j||| 1*2^k:Nat):Int):=by
 subst ha hb
 unfold both pow2
 rw[G7,G7,ZL,ZL]
 by_cases h:j=k
 ·subst h
  rw[if_pos rfl,Nat.or_self]
 ·rw[if_neg (by omega),<- nF (by rw[LN];exact decide_eq_false (by omega))]
theorem Ys{l:List Rx.bY}{bad good:Int}(hC:Rx.cJ l):Rx.lG l bad good<2^24:=by
 have nK:=Zu (show 0<2 by omega) (Rx.cG hC)
 by_cases h:Rx.ji l bad good=0
 ·have:=(Rx.Ah h).2.2.2.2.2.2
  omega
 ·unfold Rx.lG
  rw[if_neg h];decide
theorem TQ{l:List Rx.bY}{bad good:Int}(hC:Rx.cJ l):Rx.xY l bad good<2^24:=by
 have nK:=Zu (show 0<2 by omega) (Rx.cG hC)
 unfold Rx.xY
 split
 ·rename_i h
  have:=Rx.GH (Rx.cG hC) (Rx.Ah h).2.2.2.2.2.2
  omega
 ·decide
theorem Rk{l:List Rx.bY}(hC:Rx.cJ l)(b:Int):Rx.mB l (Rx.b6 l) b<2^24:=by
 unfold Rx.mB
 split
 ·rename_i h
  have hb:b.toNat<24:=by
   have nK:=Rx.cG hC
   unfold Rx.gf at h
   rw[if_pos hC] at h
   split at h
   ·rename_i h2
    unfold Rx.jg at h2
    simp at h2
    omega
   ·cases h
  have h1:=Rx.Hl l b.toNat
  have h2:=Zu (show 0<2 by omega) (show b.toNat+1<=24 by omega)
  omega
 ·decide
theorem Jq{n:Nat}(h:n<2^24):jm n=(Rx.aM n 32).map fun(i:Nat)=>(i:Int):=by
 have e:Rx.aM n 32=Rx.aM n 24:=Rx.pP (by omega) fun i h1 _=>VH (ZJ h (Zu (by omega) h1))
 rw[e]
 rfl
end Go.Proofs.YtibffijhebobmaaGreatDoor
end
