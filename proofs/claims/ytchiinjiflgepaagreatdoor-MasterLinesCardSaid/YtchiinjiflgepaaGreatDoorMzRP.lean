/-
 Chapter 15: the floor as plain data: the books, the marks; what a line says, and what it does.
 Chapter 15: numbers and words of a line, step by step.
 Chapter 15: the members of a set, one after the other.
 Chapter 15: how great what a floor answers can be.
 Chapter 15: a line leaves a floor that can be.
 Chapter 15: how long replies are; scripts.
 Chapter 15, the program: texts that are cut and joined; what a reply is put together of; lowest bits of 64; how many bits there are.
-/
import Derived.Test.YtchiinjiflgepaaGreatDoorMzRD
import Derived.Test.YtchiinjiflgepaaGreatDoorMzRC
import Derived.Test.YtchiinjiflgepaaGreatDoorMzRR
import Derived.Lib.ItoaNum
import Derived.Test.YtchiinjiflgepaaGreatDoorFaRF
import Derived.Lib.Split
import Derived.Lib.IndexMore
import Derived.Lib.CountLaws
import Derived.Lib.SplitLaws
import Derived.Lib.Join
import Derived.Test.YtchiinjiflgepaaGreatDoorMzRZ
theorem Tb{A:Prop}(h:A:=by
 have ja:=Rx.bM hC
 unfold Rx.fH at h
 rw[if_pos hC] at h
 split at h
 ·rename_i h2
  unfold Rx.gO at h2
  simp at h2
  omega
 ·cases h):A:=h
theorem pF{A:Prop}(h:A:=by
 exact j9 (by decide)):A:=h
theorem Rq{A:Prop}(h:A:=by
 exact jP (by omega) (by show 1<=102;decide) (nr (by omega))):A:=h
theorem aaf{A:Prop}(h:A:=by
 rw[Zr]
 exact Zz (List.length_filter_le _ _) (by rw[L0];exact Zg _)):A:=h
set_option linter.unusedSimpArgs false
set_option linter.unusedVariables false
section
namespace Go.Proofs.YtchiinjiflgepaaGreatDoor
open Go.AF
abbrev Bs:=List UInt8
structure bU where
 au:List Ck.Sk
 ag:List Rx.bF
 ax:List Di.b7
 plan:List Int
 bad:Nat
 good:Nat
 bH:List Int
structure c7 where
 aT:Di.bX
 b:bU
 marks:List bU
def xk:bU:=⟨[],[],[],[],0,0,[]⟩
def newF(p:Di.bX):c7:=⟨p,xk,[]⟩
inductive Vb where
 | lF | slat | lead | pencil | bad | good | blame | call | from_ | wear | mark | back | keep
 deriving DecidableEq
def Vb.t:Vb->Bs
 | .lF=>[115,97,99,107]
 | .slat=>[115,108,97,116]
 | .lead=>[108,101,97,100]
 | .pencil=>[112,101,110,99,105,108]
 | .bad=>[98,97,100]
 | .good=>[103,111,111,100]
 | .blame=>[98,108,97,109,101]
 | .call=>[99,97,108,108]
 | .from_=>[102,114,111,109]
 | .wear=>[119,101,97,114]
 | .mark=>[109,97,114,107]
 | .back=>[98,97,99,107]
 | .keep=>[107,101,101,112]
def Vb.many:Vb->Nat
 | .lF=>6
 | .lead=>8
 | .pencil=>3
 | .bad=>1
 | .good=>1
 | .from_=>1
 | .wear=>1
 | _=>0
def aab:List Vb:=[.lF,.slat,.lead,.pencil,.bad,.good,.blame,.call,.from_,.wear,.mark,.back,.keep]
def kD(s:Bs):Option Vb:=aab.find? fun v=>decide (v.t=s)
theorem sQ{s:Bs}{v:Vb}(h:kD s=some v):v.t=s:=by
 have:=List.find?_some h
 simpa using this
theorem HE{s:Bs}(h:kD s=none)(v:Vb):v.t≠s:=by
 have:=List.find?_eq_none.1 h v (by cases v <;> decide)
 simpa using this
def nn(l:List Int)(k:Nat):Int:=Di.gt 0 l k
def br(w:Bs)(l:List Int):Bs:=w++l.flatMap fun n=>32::Lib.itoa n
def gw(n:Nat):List Int:=((List.range 24).filter fun i=>n.testBit i).map fun(i:Nat)=>(i:Int)
def pow2(n:Int):Nat:=2^n.toNat
def both(a b:Int):Int:=if a=b then((pow2 a:Nat):Int) else((pow2 a+pow2 b:Nat):Int)
def shr(l:List Ck.Sk)(b:List Ck.Tk):(Int×Int)×Int:=if Ck.gT l b then((Ck.pZ l b 1001,Ck.kL l b 1001),0) else((0,0),1)
theorem T7(l:List Ck.Sk)(b:List Ck.Tk):Ck.qn l b=[.agg [.int .i64 (shr l b).1.1,.int .i64 (shr l b).1.2],.int .i64 (shr l b).2]:=by
 unfold Ck.qn shr
 split <;> rfl
def bf(s m:Int):Ck.Tk:=⟨s,⟨m,m⟩⟩
def fF(n:List Int):Ck.Sk:=⟨⟨nn n 0,nn n 1⟩,⟨nn n 2,nn n 3⟩,⟨nn n 4,nn n 5⟩⟩
def bU.gz(b:bU)(x:Rx.bF):bU:={b with ag:=b.ag++[x]}
def dL(b:bU)(set:Nat)(x:Int):Int:=if (b.ag.length:Int)<=x then 2 else if set.testBit x.toNat then 5 else 0
def ic:Bs:=[99,97,114,100]
def vh:Bs:=[115,104,97,114,101]
def kj(b:bU)(die:Int):Nat->Int
 | 0=>0
 | g+1=>kj b die g+if Di.gt 0 b.plan g=die then(Di.gt Di.b7.d b.ax g).len else 0
def cH(b:bU)(die:Int):Int:=kj b die b.plan.length
def bp(F:c7)(v:Vb)(n:List Int):c7×Bs×Int:=
 let b:=F.b
 let next:Int:=b.ag.length
 match v with
 | .lF=>if 8<=b.au.length∨24<=b.ag.length then(F,[],9) else if (shr [fF n] [bf 0 1]).2≠0 then(F,[],(shr [fF n] [bf 0 1]).2) else
     ({F with b:={b.gz ⟨0,0⟩ with au:=b.au++[fF n],bH:=b.bH++[next]}},br v.t [(b.au.length:Int)]++32::br ic [next],0)
 | .slat=>if 24<=b.ag.length then(F,[],9) else({F with b:=b.gz ⟨0,0⟩},br ic [next],0)
 | .lead=>if 24<=b.ag.length then(F,[],9) else
     let s:=shr b.au [bf (nn n 0) (nn n 1),bf (nn n 2) (nn n 3)]
     if s.2≠0 then(F,[],s.2) else if 8<=b.ax.length then(F,[],9) else
     let l:=b.ax++[⟨nn n 5,nn n 6,nn n 7⟩]
     let plan:=b.plan++[nn n 4]
     if (Di.gf F.aT l plan).2.2≠0 then(F,[],(Di.gf F.aT l plan).2.2) else
     ({F with b:={b.gz ⟨both (nn b.bH (nn n 0).toNat) (nn b.bH (nn n 2).toNat),0⟩ with ax:=l,plan:=plan}},br ic [next]++32::br vh [s.1.1,s.1.2],0)
 | .pencil=>if 24<=b.ag.length then(F,[],9) else if next<=nn n 0∨next<=nn n 1 then(F,[],2) else if 1048576<nn n 2 then(F,[],1) else
     ({F with b:=b.gz ⟨both (nn n 0) (nn n 1),nn n 2⟩},br ic [next],0)
 | .bad=>if dL b b.bad (nn n 0)≠0 then(F,[],dL b b.bad (nn n 0)) else if Rx.hY b.ag ((b.bad+pow2 (nn n 0):Nat):Int) b.good=6 then(F,[],6) else
     ({F with b:={b with bad:=b.bad+pow2 (nn n 0)}},br v.t [((gw (b.bad+pow2 (nn n 0))).length:Int)],0)
 | .good=>if dL b b.good (nn n 0)≠0 then(F,[],dL b b.good (nn n 0)) else if Rx.hY b.ag b.bad ((b.good+pow2 (nn n 0):Nat):Int)=6 then(F,[],6) else
     ({F with b:={b with good:=b.good+pow2 (nn n 0)}},br v.t [((gw (b.good+pow2 (nn n 0))).length:Int)],0)
 | .blame=>if Rx.hY b.ag b.bad b.good≠0 then(F,[],Rx.hY b.ag b.bad b.good) else(F,br v.t (gw (Rx.kB b.ag b.bad b.good)),0)
 | .call=>if Rx.hY b.ag b.bad b.good≠0 then(F,[],Rx.hY b.ag b.bad b.good) else(F,br v.t ((Rx.iZ b.ag b.bad b.good).1::(Rx.iZ b.ag b.bad b.good).2::gw (Rx.oz b.ag b.bad b.good)),0)
 | .from_=>if Rx.fH b.ag (nn n 0)≠0 then(F,[],Rx.fH b.ag (nn n 0)) else(F,br v.t (gw (Rx.jb b.ag (Rx.bn b.ag) (nn n 0))),0)
 | .wear=>if (F.aT.dies.length:Int)<=nn n 0 then(F,[],2) else
     let u:=cH b (nn n 0)
     (F,br v.t [u,(Di.dh F.aT (nn n 0) u).1.1,(Di.dh F.aT (nn n 0) u).1.2],0)
 | .mark=>if 8<=F.marks.length then(F,[],9) else({F with marks:=F.marks++[b]},br v.t [(F.marks.length:Int)+1],0)
 | .back=>match F.marks.getLast? with
   | none=>(F,[],4)
   | some x=>({F with b:=x,marks:=F.marks.dropLast},br v.t [(F.marks.length:Int) - 1],0)
 | .keep=>match F.marks.getLast? with
   | none=>(F,[],4)
   | some x=>({F with marks:=F.marks.dropLast},br v.t [(F.marks.length:Int) - 1],0)
def qw(b:UInt8):Bool:=decide (48<=b.toNat)&&decide (b.toNat<=57)
def mQ(s:Bs):Nat:=s.foldl (fun n b=>10*n+(b.toNat - 48)) 0
def xz(s:Bs):Option Int:=if s≠[]∧s.length<=13∧(s=[48]∨s.getD 0 0≠48)∧s.all qw=true then some (mQ s:Nat) else none
def cU(c:UInt8):Bs->Bs->List Bs
 | cur,[]=>[cur]
 | cur,b::s=>if b=c then cur::cU c [] s else cU c (cur++[b]) s
def bW(s:Bs):List Bs:=cU 32 [] s
def cV(s:Bs):Option (Vb×List Int):=match bW s with
 | []=>none
 | w::l=>match kD w with
   | none=>none
   | some v=>if l.length=v.many then(l.mapM xz).map fun n=>(v,n) else none
def aO(F:c7)(s:Bs):c7×Bs×Int:=if 120<s.length then(F,[],3) else match cV s with
 | none=>(F,[],8)
 | some (v,n)=>bp F v n
def Bl:Bs:=[101,114,114,111,114]
def tY(r:Bs)(e:Int):Bs:=(if e=0 then r else br Bl [e])++[10]
def xF(F:c7):List Bs->Bs
 | []=>[]
 | l::ls=>tY (aO F l).2.1 (aO F l).2.2++xF (aO F l).1 ls
def ku(p:Di.bX)(s:Bs):Bs×Int:=if 131072<s.length then([],3) else if s≠[]∧s.getLast?≠some 10 then([],8) else if Di.dY p=false then([],1) else
 (xF (newF p) (cU 10 [] s).dropLast,0)
def cg(b:bU):List PV:=[Ck.b8 b.au,Rx.cz b.ag,Di.dn b.ax,Di.aQ b.plan,.int .i64 (b.bad:Int),.int .i64 (b.good:Int)]
def gK(b:bU):List PV:=[.nilSlice,.int .i64 0,.int .i64 0,.int .i64 0]++cg b++[Di.aQ b.bH,.nilSlice]
def de(F:c7):List PV:=F.aT.cells++cg F.b++[Di.aQ F.b.bH,.is (F.marks.flatMap gK) F.marks.length]
structure WfB (p:Di.bX) (b:bU):Prop where
 sk:b.au.length<=8
 skv:Ck.c8 b.au=true
 cd:Rx.cv b.ag
 dr:b.ax.length<=8
 EI:∃ u,Di.gf p b.ax b.plan=(some u,(b.ax.length:Int),0)
 bad:b.bad<2^b.ag.length
 good:b.good<2^b.ag.length
 ck:b.bH.length=b.au.length
 Nq:∀ c∈b.bH,0<=c∧c<(b.ag.length:Int)
structure kK (F:c7):Prop where
 p:Di.dY F.aT=true
 b:WfB F.aT F.b
 mm:F.marks.length<=8
 mmb:∀ x∈F.marks,WfB F.aT x
theorem sG{u:Nat}(h:u<10):Lib.decDigits u=[UInt8.ofNat (48+u)]:=by rw[Lib.decDigits,dif_pos h]
theorem E8{u:Nat}(h:10<=u):Lib.decDigits u=Lib.decDigits (u / 10)++[UInt8.ofNat (48+u%10)]:=by rw[Lib.decDigits,dif_neg (by omega)]
theorem Bh{n:Int}(h:0<=n):Lib.itoa n=Lib.decDigits n.toNat:=by unfold Lib.itoa;rw[if_neg (by omega)]
theorem G4(n:Nat):Lib.itoa (n:Int)=Lib.decDigits n:=by rw[Bh (by omega),CR]
theorem Fc:∀(k n:Nat),n<10^(k+1)->(Lib.decDigits n).length<=k+1
 | 0,n,h=>by
  rw[sG (by simpa using h)];exact Zg _
 | k+1,n,h=>by
  by_cases h2:n<10
  ·rw[sG h2];exact Nat.le_add_left _ _
  ·rw[E8 (by omega),Zc,ZbN]
   have h3:n / 10<10^(k+1):=by rw[Nat.div_lt_iff_lt_mul (by decide)];rw[P8] at h;exact h
   have:=Fc k _ h3
   omega
theorem xT(n:Nat)(h:n<10000000000000):(Lib.decDigits n).length<=13:=Fc 12 n (by
 have:(10:Nat)^(12+1)=10000000000000:=by decide
 omega)
theorem lT{n:Int}(h0:0<=n)(h1:n<10000000000000):(Lib.itoa n).length<=13:=by
 rw[Bh h0]
 exact xT _ (by omega)
theorem kg{w:Bs}{l:List Int}(h:∀ n∈l,0<=n∧n<10000000000000):(br w l).length<=w.length+14*l.length:=by
 unfold br
 rw[Zc]
 induction l with
 | nil=>exact Zg _
 | cons x l ih=>
  have h1:=ih fun n hn=>h n (Zk _ hn)
  have h2:=lT (h x (Zx ..)).1 (h x (Zx ..)).2
  rw[ZJ,Zc,Zp,Zp]
  omega
theorem GX(w:Bs)(l:List Int)(i:Nat)(h:i<l.length):br w (l.take i)++[32]++Lib.itoa (Di.gt 0 l i)=br w (l.take (i+1)):=by
 unfold br
 rw[ZV h,ZX,Di.av 0 i h]
 simp
theorem Mw(s:Bs)(b:UInt8):mQ (s++[b])=10*mQ s+(b.toNat - 48):=by simp[mQ]
theorem vJ{s:Bs}{i:Nat}(h:i<s.length):mQ (s.take (i+1))=10*mQ (s.take i)+((Di.gt 0 s i).toNat - 48):=by
 rw[ZV h,Mw,Di.av 0 i h]
theorem vW{b:UInt8}(h:qw b=true):48<=b.toNat∧b.toNat<=57:=by
 unfold qw at h;simpa using h
theorem Lb(s:Bs):∀ i,i<=s.length->(∀ j,j<i->qw (Di.gt 0 s j)=true)->mQ (s.take i)<10^i
 | 0,_,_=>by rw[JP];decide
 | i+1,h,hd=>by
  rw[vJ (by omega),P8]
  have h1:=Lb s i (by omega) fun j hj=>hd j (by omega)
  have h2:=vW (hd i (by omega))
  omega
theorem vN{s:Bs}{i:Nat}(h:i<=s.length)(Xm:s.length<=13)(hd:∀ j,j<i->qw (Di.gt 0 s j)=true):mQ (s.take i)<10000000000000:=by
 have h1:=Lb s i h hd
 have h2:(10:Nat)^i<=10^13:=Zq (by decide) (by omega)
 have h3:(10:Nat)^13=10000000000000:=by decide
 omega
def gh(s:Bs):Int:=(xz s).getD 0
def rP(s:Bs):Bool:=(xz s).isSome
def iK(s:Bs):Prop:=s≠[]∧s.length<=13∧(s=[48]∨s.getD 0 0≠48)∧s.all qw=true
theorem uh{s:Bs}(h:iK s):xz s=some ((mQ s:Nat):Int):=if_pos h
theorem Aj{s:Bs}(h:¬ iK s):xz s=none:=if_neg h
theorem RL{s:Bs}{b:Bool}(h:((decide ((s.length:Int)<1)||decide ((s.length:Int)>13))||(decide ((s.length:Int)>1)&&decide (((Di.gt 0 s 0).toNat:Int)=48)))=b):(b=true->¬ iK s)∧(b=false->s≠[]∧s.length<=13∧(s=[48]∨s.getD 0 0≠48)):=by
 subst h
 have hz:∀ x:UInt8,((x.toNat:Nat):Int)=48↔x=48:=fun x=>⟨fun e=>UInt8.toNat_inj.1 (by show x.toNat=48;omega),fun e=>by rw[e];rfl⟩
 constructor
 ·intro h hc
  obtain⟨h1,h2,h3,h4⟩:=hc
  have hl:0<s.length:=XE.2 h1
  simp only[CK,Zo,Zl] at h
  rcases h with(h | h) | ⟨h,k⟩
  ·omega
  ·omega
  ·rcases h3 with h3 | h3
   ·rw[h3] at h;simp at h
   ·exact h3 ((hz _).1 k)
 ·intro h
  simp only[OG,YQ,ZP] at h
  obtain⟨⟨h1,h2⟩,h3⟩:=h
  refine⟨fun e=>by rw[e] at h1;exact h1 (by decide),by omega,?_⟩
  by_cases hk:s.getD 0 0=48
  ·left
   rcases h3 with h3 | h3
   ·match s,h1,h3,hk with
    | [x],_,_,hk=>rw[show x=48 from hk]
    | [],h1,_,_=>exact absurd (by decide) h1
    | x::y::l,_,h3,_=>exact absurd (by simp only[Zp];omega) h3
   ·exact absurd ((hz _).2 hk) h3
  ·exact .inr hk
theorem EC{s:Bs}{i:Nat}(h:i<s.length)(hd:qw (Di.gt 0 s i)=false):¬ iK s:=fun hc=>by
 have:=ZC.1 hc.2.2.2 _ (Di.aV 0 h)
 rw[hd] at this;cases this
theorem Ma{s:Bs}(h:s≠[]∧s.length<=13∧(s=[48]∨s.getD 0 0≠48))(hd:∀ j,j<s.length->qw (Di.gt 0 s j)=true):iK s:=by
 refine⟨h.1,h.2.1,h.2.2,ZC.2 fun b hb=> ?_⟩
 obtain⟨j,hj,rfl⟩:=OX hb
 rw[Di.av 0 j hj]
 exact hd j hj
theorem Z7(s:Bs):0<=gh s∧gh s<10000000000000:=by
 unfold gh
 by_cases h:iK s
 ·rw[uh h]
  have:=vN (s:=s) (i:=s.length) (Zg _) h.2.1 fun j hj=>ZC.1 h.2.2.2 _ (Di.aV 0 hj)
  rw[ZT] at this
  show 0<=((mQ s:Nat):Int)∧((mQ s:Nat):Int)<_
  omega
 ·rw[Aj h];decide
theorem PN{c:UInt8}{s:Bs}{i f:Nat}{out:List Bs}(hi:i<s.length)(hf:f<=i)(hb:Di.gt 0 s i=c)(h:cU c [] s=out++cU c ((s.drop f).take (i - f)) (s.drop i)):cU c [] s=(out++[(s.drop f).take (i - f)])++cU c ((s.drop (i+1)).take (i+1 - (i+1))) (s.drop (i+1)):=by
 rw[h,VI hi,cU,Di.av 0 i hi,if_pos hb,NQ,JP]
 simp
theorem WS{c:UInt8}{s:Bs}{i f:Nat}{out:List Bs}(hi:i<s.length)(hf:f<=i)(hb:Di.gt 0 s i≠c)(h:cU c [] s=out++cU c ((s.drop f).take (i - f)) (s.drop i)):cU c [] s=out++cU c ((s.drop f).take (i+1 - f)) (s.drop (i+1)):=by
 rw[h,VI hi,cU,Di.av 0 i hi,if_neg hb]
 congr 2
 rw[show i+1 - f=(i - f)+1 by omega,ZV (by rw[OS];omega),List.getElem_drop,<- Di.av 0 i hi]
 congr 3
 omega
theorem Yt{c:UInt8}{s:Bs}{i:Nat}(h:(decide ((i:Int)=(s.length:Int))||decide (((Di.gt 0 s i).toNat:Int)=(c.toNat:Int)))=true):i=s.length∨Di.gt 0 s i=c:=by
 simp only[CK,Zl] at h
 rcases h with h | h
 ·exact .inl (by omega)
 ·exact .inr (UInt8.toNat_inj.1 (by omega))
theorem Xa{c:UInt8}{s:Bs}{i:Nat}(h:(decide ((i:Int)=(s.length:Int))||decide (((Di.gt 0 s i).toNat:Int)=(c.toNat:Int)))=false):i≠s.length∧Di.gt 0 s i≠c:=by
 simp only[OG,ZP] at h
 exact⟨fun e=>h.1 (by omega),fun e=>h.2 (by rw[e])⟩
theorem NZ{c:UInt8}{s:Bs}{f:Nat}{out:List Bs}(h:cU c [] s=out++cU c ((s.drop f).take (s.length - f)) (s.drop s.length)):cU c [] s=out++[(s.drop f).take (s.length - f)]:=by
 rw[h,List.drop_length,cU]
theorem ig(c:UInt8):∀(s cur:Bs),0<(cU c cur s).length∧(cU c cur s).length<=s.length+1
 | [],cur=>by rw[cU];exact⟨Nat.one_pos,Zg _⟩
 | b::s,cur=>by
  rw[cU]
  split
  ·have:=ig c s []
   simp only[Zp];omega
  ·have:=ig c s (cur++[b])
   simp only[Zp];omega
def jB(s:Bs):List PV:=[.str (sB s)]
def fS(l:List Bs):PV:= .is (l.flatMap jB) l.length
def manyN(s:Bs):Int:=match kD s with
 | some v=>(v.many:Nat)
 | none=> -1
theorem tn{s:Bs}(h:∀ v:Vb,v.t≠s):manyN s= -1:=by
 unfold manyN
 cases hv:kD s with
 | none=>rfl
 | some v=>exact absurd (sQ hv) (h v)
def mH(n k:Nat):List Int:=((List.range k).filter fun i=>n.testBit i).map fun(i:Nat)=>(i:Int)
theorem Lw(n:Nat):mH n 24=gw n:=rfl
theorem Lv{n i:Nat}(h:n.testBit i=true):mH n (i+1)=mH n i++[(i:Int)]:=by
 unfold mH
 rw[Xt,ZbJ,Zy]
 simp[h]
theorem QE{n i:Nat}(h:n.testBit i=false):mH n (i+1)=mH n i:=by
 unfold mH
 rw[Xt,ZbJ,Zy]
 simp[h]
theorem nS(n i:Nat):(mH n i).length<=i:=by
 unfold mH
 exact aaf
theorem Aa(n:Nat):∀ x∈gw n,0<=x∧x<24:=fun x hx=>by
 obtain⟨k,hk,rfl⟩:=xS.1 hx
 have:=wX.1 (List.mem_filter.1 hk).1
 omega
def jG(w:List Bs)(g:Nat):List Int:=(w.tail.take g).map gh
def ri(w:List Bs)(g:Nat):Bool:=decide (manyN (Di.gt [] w 0)=(w.length:Int) - 1)&&(w.tail.take g).all rP
theorem E1{w:List Bs}{g:Nat}(h:g+1<w.length):w.tail[g]'(by rw[List.length_tail];omega)=Di.gt [] w (g+1):=by
 rw[List.getElem_tail,Di.av [] (g+1) h]
theorem yh{w:List Bs}{g:Nat}(h:g+1<w.length):jG w (g+1)=jG w g++[gh (Di.gt [] w (g+1))]:=by
 unfold jG
 rw[ZV (by rw[List.length_tail];omega),E1 h,Zy]
 rfl
theorem Hi{w:List Bs}{g:Nat}(h:g+1<w.length):ri w (g+1)=(ri w g&&rP (Di.gt [] w (g+1))):=by
 unfold ri
 rw[ZV (by rw[List.length_tail];omega),E1 h,List.all_append,Bool.and_assoc]
 simp
theorem AE{w:List Bs}{g:Nat}(h:g+1<=w.length):(jG w g).length=g:=by
 unfold jG
 rw[Zr,zC,List.length_tail]
 omega
def Nk(w:List Bs):List PV:=[.str (sB (Di.gt [] w 0)),Di.aQ (jG w (w.length - 1))]
theorem wM:∀ l:List Bs,l.all rP=true->l.mapM xz=some (l.map gh)
 | [],_=>rfl
 | x::l,h=>by
  rw[P1,Zo] at h
  have h1:xz x=some (gh x):=by
   have h2:=h.1
   unfold rP at h2
   unfold gh
   cases hx:xz x with
   | none=>rw[hx] at h2;cases h2
   | some v=>rfl
  rw[List.mapM_cons,h1,wM l h.2]
  rfl
theorem mapM_none:∀ l:List Bs,l.all rP=false->l.mapM xz=none
 | [],h=>by cases h
 | x::l,h=>by
  rw[P1,YQ] at h
  rw[List.mapM_cons]
  cases hx:xz x with
  | none=>rfl
  | some v=>
   rcases h with h | h
   ·unfold rP at h;rw[hx] at h;cases h
   ·rw[mapM_none l h];rfl
theorem nc(c:UInt8):∀(s cur x:Bs),x∈cU c cur s->x.length<=cur.length+s.length
 | [],cur,x,h=>by
  rw[cU,Zw] at h
  rw[h];exact Zg _
 | b::s,cur,x,h=>by
  rw[cU] at h
  split at h
  ·rcases Zv.1 h with rfl | h
   ·simp
   ·have:=nc c s [] x h
    simp only[CP,Zp] at this ⊢;omega
  ·have:=nc c s (cur++[b]) x h
   simp only[Zc,Zp,CP] at this ⊢;omega
theorem o7(s:Bs):0<(bW s).length:=(ig 32 s []).1
theorem wR(s:Bs):(ri (bW s) ((bW s).length - 1)=true->∃ v,Di.gt [] (bW s) 0=v.t∧(jG (bW s) ((bW s).length - 1)).length=v.many∧cV s=some (v,jG (bW s) ((bW s).length - 1)))∧
    (ri (bW s) ((bW s).length - 1)=false->cV s=none):=by
 have hp:=o7 s
 have hn:=AE (w:=bW s) (g:=(bW s).length - 1) (by omega)
 unfold cV
 generalize bW s=w at hp hn ⊢
 cases w with
 | nil=>cases hp
 | cons x l=>
  have e1:(x::l).tail.take ((x::l).length - 1)=l:=by simp
  have e0:Di.gt [] (x::l) 0=x:=rfl
  have eN:jG (x::l) ((x::l).length - 1)=l.map gh:=by unfold jG;rw[e1]
  have eI:ri (x::l) ((x::l).length - 1)=(decide (manyN x=(l.length:Int))&&l.all rP):=by
   unfold ri
   rw[e1,e0,Zp]
   congr 2
   simp
  rw[eN,eI,e0]
  simp only
  cases hv:kD x with
  | none=>
   have:manyN x= -1:=by unfold manyN;rw[hv]
   rw[this]
   refine⟨fun h=> ?_,fun _=>rfl⟩
   rw[Zo,Zl] at h
   omega
  | some v=>
   have hm:manyN x=(v.many:Nat):=by unfold manyN;rw[hv]
   rw[hm]
   simp only
   constructor
   ·intro h
    rw[Zo,Zl] at h
    have hl:l.length=v.many:=by omega
    refine⟨v,(sQ hv).symm,by rw[Zr];exact hl,?_⟩
    rw[if_pos hl,wM l h.2]
    rfl
   ·intro h
    by_cases hl:l.length=v.many
    ·rw[if_pos hl,mapM_none l (by rw[hl] at h;simpa using h)]
     rfl
    ·rw[if_neg hl]
theorem CW{n:Nat}(h:n<=24):2^n<=16777216:=by
 have:=Zq (show 0<2 by omega) h
 have h2:(2:Nat)^24=16777216:=by decide
 omega
section
variable {l:List Rx.bF} {bad good:Int}
theorem abV(hC:Rx.cv l):Rx.kB l bad good<=16777216:=by
 have ja:=CW (Rx.bM hC)
 by_cases h:Rx.hY l bad good=0
 ·have:=(Rx.qo h).2.2.2.2.2.2
  omega
 ·unfold Rx.kB
  rw[if_neg h];omega
theorem Z4(hC:Rx.cv l):Rx.oz l bad good<=16777216:=by
 have ja:=CW (Rx.bM hC)
 unfold Rx.oz
 split
 ·rename_i h
  have:=Rx.zd (Rx.bM hC) (Rx.qo h).2.2.2.2.2.2
  omega
 ·omega
theorem DH(hC:Rx.cv l):(0<=(Rx.iZ l bad good).1∧(Rx.iZ l bad good).1<=33554432)∧0<=(Rx.iZ l bad good).2∧(Rx.iZ l bad good).2<=33554432:=by
 unfold Rx.iZ
 split
 ·rename_i h
  have h3:=(Rx.qo h).2.2.2.2.2
  have h4:Rx.kB l bad good<2^32:=by
   have:=Zq (show 0<2 by omega) (Zz (Rx.bM hC) (show 24<=32 by decide))
   omega
  obtain⟨h5,h6⟩:=Rx.Gp (l:=l) h3.1 h4
  obtain⟨x,_,e1⟩:=xS.1 h5
  obtain⟨y,_,e2⟩:=xS.1 h6
  have b1:=Rx.MZ hC x
  have b2:=Rx.MZ hC y
  rw[e1] at b1
  rw[e2] at b2
  exact⟨b1,b2⟩
 ·exact⟨by decide,by decide⟩
theorem UH(hC:Rx.cv l)(b:Int):Rx.jb l (Rx.bn l) b<=33554432:=by
 unfold Rx.jb
 split
 ·rename_i h
  have hb:b.toNat<24:=by
   exact Tb
  have h1:=Rx.oO l b.toNat
  have h2:=Zq (show 0<2 by omega) (show b.toNat+1<=25 by omega)
  have h3:(2:Nat)^25=33554432:=by decide
  omega
 ·omega
end
theorem zZ{b:bU}{set:Nat}{x:Int}(h:dL b set x=0):x<(b.ag.length:Int)∧set.testBit x.toNat=false:=by
 unfold dL at h
 split at h
 ·cases h
 ·rename_i h1
  split at h
  ·cases h
  ·rename_i h2
   exact⟨by omega,by simpa using h2⟩
theorem Nn{x:Int}(h:x<24):pow2 x<=16777216:=CW (by omega)
theorem Km(w:Bs)(a b:List Int):br w a++br [] b=br w (a++b):=by
 unfold br
 rw[ZX]
 simp
theorem nr{a B:Int}(h1:0<=a∧a<B):∀ x∈[a],0<=x∧x<B:=fun x hx=>by
 rw[Zw.1 hx];exact h1
theorem Bq{a b B:Int}(h1:0<=a∧a<B)(h2:0<=b∧b<B):∀ x∈[a,b],0<=x∧x<B:=fun x hx=>by
 rcases Zv.1 hx with rfl | hx
 ·exact h1
 ·rw[Zw.1 hx];exact h2
theorem ET{a b c B:Int}(h1:0<=a∧a<B)(h2:0<=b∧b<B)(h3:0<=c∧c<B):∀ x∈[a,b,c],0<=x∧x<B:=fun x hx=>by
 rcases Zv.1 hx with rfl | hx
 ·exact h1
 ·exact Bq h2 h3 x hx
theorem zy{w v:Bs}{l m:List Int}(hw:w.length<=100)(hv:v.length<=100)(hl:l.length<=100)(hm:m.length<=100)(h1:∀ n∈l,0<=n∧n<10000000000000)(h2:∀ n∈m,0<=n∧n<10000000000000):(br w l).length+(br v m).length<9223372036854775808:=by
 have a:=kg (w:=w) h1
 have b:=kg (w:=v) h2
 omega
theorem fj(n:Nat):(gw n).length<=100:=Zz (nS n 24) (by decide)
theorem qk(n:Nat):∀ x∈gw n,0<=x∧x<10000000000000:=fun x hx=>by have:=Aa n x hx;omega
theorem qM{p:Di.bX}{l:List Di.b7}{plan:List Int}{u:List Int}{n:Int}(h:Di.gf p l plan=(some u,n,0)):Di.dY p=true∧Di.jN l=true:=by
 unfold Di.gf at h
 split at h
 ·cases h
 ·rename_i h1
  split at h
  ·cases h
  ·rename_i h2
   exact⟨by simpa using h1,by simpa using h2⟩
theorem FX{p:Di.bX}{plan:List Int}:∀(l:List Di.b7) (i:Nat) (u v:List Int) (n:Int),i<=plan.length->Di.gB p plan i u l=(some v,n,0)->plan.length=i+l.length
 | [],i,u,v,n,hi,h=>by
  rw[Di.gB] at h
  split at h
  ·cases h
  ·simp;omega
 | w::l,i,u,v,n,hi,h=>by
  rw[Di.gB] at h
  split at h
  ·cases h
  ·rename_i h1
   split at h
   ·cases h
   ·split at h
    ·cases h
    ·have:=FX l (i+1) _ v n (by omega) h
     rw[Zp];omega
theorem ia{p:Di.bX}{l:List Di.b7}{plan:List Int}{u:List Int}{n:Int}(h:Di.gf p l plan=(some u,n,0)):plan.length=l.length:=by
 obtain⟨h1,h2⟩:=qM h
 rw[Di.iy h1 h2] at h
 have:=FX l 0 _ u n (Zn _) h
 omega
theorem sD{b:bU}{d:Int}(hv:∀ w∈b.ax,Di.pH w=false)(hp:b.plan.length=b.ax.length):∀ g,g<=b.plan.length->0<=kj b d g∧kj b d g<=1000*(g:Int)
 | 0,_=>⟨Dy _,by show(0:Int)<=1000*((0:Nat):Int);decide⟩
 | g+1,h=>by
  have h1:=sD (d:=d) hv hp g (by omega)
  have h2:=(Di.jU (hv _ (Di.aV Di.b7.d (show g<b.ax.length by omega)))).1
  rw[kj]
  split <;> omega
theorem C2{p:Di.bX}{j u:Int}:(0<=(Di.dh p j u).1.1∧(Di.dh p j u).1.1<=1820000000)∧0<=(Di.dh p j u).1.2∧(Di.dh p j u).1.2<=1820000000:=by
 unfold Di.dh
 split
 ·decide
 ·rename_i h1
  split
  ·decide
  ·rename_i h2
   have hv:Di.dY p=true:=by simpa using h1
   obtain⟨⟨n1,n4⟩,_,hsh,CO⟩:=Di.fy hv
   have h3:Di.gO j 0 ((p.dies.length:Int) - 1)=true∧Di.gO u 0 8000=true:=by simpa using h2
   obtain⟨j0,j1⟩:=Di.eX h3.1
   obtain⟨u0,u1⟩:=Di.eX h3.2
   obtain⟨w1,w2,w3,w4⟩:=Di.jh (CO _ (Di.aV Di.cJ.d (show j.toNat<p.dies.length by omega)))
   obtain⟨_,_,e1,e2⟩:=Di.lg (a:=(Di.gt Di.cJ.d p.dies j.toNat).wide) (b:=(Di.gt Di.cJ.d p.dies j.toNat).lo) (u:=u) (s:=p.uL) w1 (by omega) (by omega) (by omega)
   obtain⟨_,_,e3,e4⟩:=Di.lg (a:=(Di.gt Di.cJ.d p.dies j.toNat).wide) (b:=(Di.gt Di.cJ.d p.dies j.toNat).hi) (u:=u) (s:=p.uJ) w1 (by omega) (by omega) (by omega)
   have e1:0<=Di.thin p (Di.gt Di.cJ.d p.dies j.toNat) u:=e1
   have e2:Di.thin p (Di.gt Di.cJ.d p.dies j.toNat) u<=1820000000:=e2
   have e3:0<=Di.iA p (Di.gt Di.cJ.d p.dies j.toNat) u:=e3
   have e4:Di.iA p (Di.gt Di.cJ.d p.dies j.toNat) u<=1820000000:=e4
   show(0<=Di.thin p _ u / 1000∧Di.thin p _ u / 1000<=_)∧0<=(Di.iA p _ u+999) / 1000∧(Di.iA p _ u+999) / 1000<=_
   omega
theorem YH{α:Type}{f:α->List PV}{c:Nat}(hf:∀ x,(f x).length=c)(xs:List α)(k:Nat):((xs.flatMap f).drop (0*c)).take ((k - 0)*c)=(xs.take k).flatMap f:=by
 rw[Nat.zero_mul,Xj,Nat.sub_zero]
 induction xs generalizing k with
 | nil=>simp
 | cons x xs ih=>
  cases k with
  | zero=>simp
  | succ k=>
   rw[ZJ,List.take_succ_cons,ZJ,Nat.succ_mul,XK,<- hf x,List.take_length_add_append,hf x,ih k]
theorem qt(s:Ck.Sk):Ck.gT [s] [bf 0 1]=Ck.c8 [s]:=by
 unfold Ck.gT
 have:Ck.hO [s].length [bf 0 1]=true:=by
  show Ck.hO 1 [bf 0 1]=true
  decide
 rw[this,Bool.and_true]
theorem AB(l:List Ck.Sk)(b:List Ck.Tk):(shr l b).2=if Ck.gT l b=true then 0 else 1:=by
 unfold shr
 split <;> rfl
def At(p:Di.bX)(b:bU)(mv:PV):List PV:=p.cells++cg b++[Di.aQ b.bH,mv]
theorem HV(p:Di.bX)(b x:bU)(m:List bU):At p b (.is (m.flatMap gK++gK x) (0+m.length+1))=de ⟨p,b,m++[x]⟩:=by
 unfold de At
 dsimp only
 exact EK
theorem Gf(p:Di.bX)(b:bU)(m:List bU):At p b (.is ((m.take (m.length - 1)).flatMap gK) (m.length - 1 - 0))=de ⟨p,b,m.dropLast⟩:=by
 unfold de At
 dsimp only
 rw[List.dropLast_eq_take,zC,Hl (by omega),Nat.sub_zero]
theorem Ft{m:List bU}(h:¬ m.length=0):m.getLast?=some (Di.gt xk m (m.length - 1)):=by
 rw[List.getLast?_eq_getElem?,Zb (by omega),Di.av xk _ (by omega)]
theorem HM(l:List Ck.Sk)(x:Ck.Sk):PV.is (l.flatMap Ck.Sk.cells++x.cells) (0+l.length+1)=Ck.b8 (l++[x]):=by
 unfold Ck.b8
 exact EK
theorem KP(l:List Di.b7)(x:Di.b7):PV.is (l.flatMap Di.b7.cells++x.cells) (0+l.length+1)=Di.dn (l++[x]):=by
 unfold Di.dn
 exact EK
theorem Cd(l:List Int)(x:Int):PV.is (l.flatMap Di.bG++Di.bG x) (0+l.length+1)=Di.aQ (l++[x]):=by
 unfold Di.aQ
 exact EK
theorem JK(l:List Ck.Sk)(b:List Ck.Tk):∀ n:Nat,0<=Ck.pZ l b n∧Ck.pZ l b n<=(n:Int)
 | 0=>by rw[Ck.pZ];exact⟨Dy _,Dy _⟩
 | n+1=>by
  have:=JK l b n
  rw[Ck.pZ];split <;> omega
theorem IX(l:List Ck.Sk)(b:List Ck.Tk):∀ n:Nat,0<=Ck.kL l b n∧Ck.kL l b n<=1000
 | 0=>by rw[Ck.kL];exact⟨by decide,by decide⟩
 | n+1=>by
  have:=IX l b n
  rw[Ck.kL];split <;> omega
theorem Ku(l:List Ck.Sk)(b:List Ck.Tk):(0<=(shr l b).1.1∧(shr l b).1.1<10000000000000)∧0<=(shr l b).1.2∧(shr l b).1.2<10000000000000:=by
 unfold shr
 have h1:=JK l b 1001
 have h2:=IX l b 1001
 split
 ·show(0<=Ck.pZ l b 1001∧Ck.pZ l b 1001<_)∧0<=Ck.kL l b 1001∧Ck.kL l b 1001<_
  omega
 ·exact⟨by decide,by decide⟩
theorem DP{l:List Ck.Sk}{a b c d:Int}(h:(shr l [bf a b,bf c d]).2=0):(0<=a∧a<(l.length:Int))∧0<=c∧c<(l.length:Int):=by
 rw[AB] at h
 split at h
 ·rename_i hv
  unfold Ck.gT Ck.hO at hv
  simp only[Zo,Xf,List.any_nil,Xq,HX,OG] at hv
  obtain⟨_,_,h1,h2⟩:=hv
  unfold Ck.Tk.bad at h1 h2
  simp only[OG,Vn,Zo,Zl] at h1 h2
  have h1:(0<=a∧a<=(l.length:Int) - 1):=h1.1
  have h2:(0<=c∧c<=(l.length:Int) - 1):=h2.1
  omega
 ·cases h
theorem VF{l:List Rx.bF}{x:Rx.bF}{j:Nat}(h:j<l.length):Rx.bt (l++[x]) j=Rx.bt l j:=by
 unfold Rx.bt
 rw[Zh,Zd h,<- Zh]
theorem Uu(l:List Rx.bF)(x:Rx.bF):Rx.bt (l++[x]) l.length=x:=by
 unfold Rx.bt
 rw[Zh,Zj (Zg _),NQ];rfl
theorem IE{l:List Rx.bF}{f s:Int}(h:Rx.cv l)(hl:l.length<24)(hf:0<=f∧f<=Rx.pw l.length - 1)(hs:0<=s∧s<=1048576):Rx.cv (l++[⟨f,s⟩]):=fun j hj=>by
 rw[Zc,ZbN] at hj
 unfold Rx.vt
 rcases ZS j l.length with h1 | h1
 ·rw[VF h1]
  exact h j h1
 ·obtain rfl:j=l.length:=by omega
  rw[Uu]
  exact⟨hl,hf,hs⟩
theorem CU{l:List Ck.Sk}{x:Ck.Sk}(h:Ck.c8 l=true)(hl:l.length<8)(hx:Ck.c8 [x]=true):Ck.c8 (l++[x])=true:=by
 unfold Ck.c8 at*
 simp only[Zo,Zl,HX,List.any_append,OG] at*
 refine⟨by rw[Zc];show((_+1:Nat):Int)<=8;omega,h.2,hx.2⟩
theorem s9{a x:Nat}(h:a.testBit x=false):a+2^x=a||| 2^x:=by
 have e1:a / 2^x*2^x+a%2^x=a:=Nat.div_add_mod' a (2^x)
 have ha:=Nat.mod_lt a (Oi x)
 have hb:(a / 2^x).testBit 0=false:=by rw[Nat.testBit_div_two_pow];simpa using h
 have hb:a / 2^x%2=0:=by rw[X0] at hb;simp at hb;omega
 apply Ie
 intro i
 have e2:a+2^x=2^x*(a / 2^x+1)+a%2^x:=by rw[Nat.mul_add,Ig,Nat.mul_comm];omega
 have e3:a=2^x*(a / 2^x)+a%2^x:=by rw[Nat.mul_comm];omega
 rw[e2,Vy _ ha,Ij,H8]
 conv=>rhs;rw[e3,Vy _ ha]
 by_cases hi:i<x
 ·rw[if_pos hi,if_pos hi,decide_eq_false (by omega),Xq]
 ·rw[if_neg hi,if_neg hi]
  by_cases hx:x=i
  ·subst hx
   rw[NQ,X0,X0,decide_eq_true rfl,Bool.or_true]
   simp;omega
  ·rw[decide_eq_false hx,Xq]
   obtain⟨k,hk⟩:∃ k,i - x=k+1:=⟨i - x - 1,by omega⟩
   rw[hk,Nat.testBit_succ,Nat.testBit_succ]
   congr 1
   omega
theorem JR{a n:Nat}{x:Int}(h:a<2^n)(hx:a.testBit x.toNat=false)(h0:0<=x)(hn:x<(n:Int)):a+pow2 x<2^n:=by
 unfold pow2
 rw[s9 hx]
 exact LO h (Qe (by omega) (by omega))
theorem Je{a b:Int}{n:Nat}(ha:0<=a∧a<(n:Int))(hb:0<=b∧b<(n:Int)):0<=both a b∧both a b<=Rx.pw n - 1:=by
 unfold both Rx.pw pow2
 have pa:=Oi a.toNat
 have pb:=Oi b.toNat
 have ka:=Qe (show 1<2 by omega) (show a.toNat<n by omega)
 have kb:=Qe (show 1<2 by omega) (show b.toNat<n by omega)
 split
 ·omega
 ·rename_i hne
  have:(2^a.toNat).testBit b.toNat=false:=by rw[H8];exact decide_eq_false (by omega)
  have h3:=LO (Qe (show 1<2 by omega) (show a.toNat<n by omega)) (Qe (show 1<2 by omega) (show b.toNat<n by omega))
  rw[<- s9 this] at h3
  omega
theorem K8{p:Di.bX}{plan:List Int}:∀(l:List Di.b7) (i:Nat) (u:List Int),(Di.gB p plan i u l).2.2=0->∃ v,Di.gB p plan i u l=(some v,((i+l.length:Nat):Int),0)
 | [],i,u,h=>by
  rw[Di.gB] at h ⊢
  split at h
  ·cases h
  ·rename_i h1;rw[if_neg h1];exact⟨u,rfl⟩
 | w::l,i,u,h=>by
  rw[Di.gB] at h ⊢
  split at h
  ·cases h
  ·rename_i h1
   split at h
   ·cases h
   ·rename_i h2
    split at h
    ·cases h
    ·rename_i h3
     rw[if_neg h1,if_neg h2,if_neg h3]
     obtain⟨v,hv⟩:=K8 l (i+1) _ h
     refine⟨v,?_⟩
     rw[hv,Zp]
     congr 2
     omega
theorem Qm{p:Di.bX}{l:List Di.b7}{plan:List Int}(h:(Di.gf p l plan).2.2=0):(∃ u,Di.gf p l plan=(some u,(l.length:Int),0))∧l.length<=8:=by
 have h0:=h
 unfold Di.gf at h
 split at h
 ·cases h
 ·rename_i h1
  split at h
  ·cases h
  ·rename_i h2
   have h1:Di.dY p=true:=by simpa using h1
   have h2:Di.jN l=true:=by simpa using h2
   obtain⟨v,hv⟩:=K8 l 0 _ h
   rw[Di.iy h1 h2,hv,tZ]
   exact⟨⟨v,rfl⟩,(Di.iz h2).1⟩
theorem uk{p:Di.bX}{b:bU}{f s:Int}(h:WfB p b)(hl:¬ 24<=b.ag.length)(hf:0<=f∧f<=Rx.pw b.ag.length - 1)(hs:0<=s∧s<=1048576):WfB p (b.gz ⟨f,s⟩):=by
 have e:(b.gz ⟨f,s⟩).ag.length=b.ag.length+1:=by show(b.ag++[_]).length=_;rw[Zc];rfl
 have h2:2^b.ag.length<2^(b.ag.length+1):=Qe (by omega) (by omega)
 have h3:=h.bad
 have h4:=h.good
 refine⟨h.sk,h.skv,IE h.cd (by omega) hf hs,h.dr,h.EI,?_,?_,h.ck,fun c hc=> ?_⟩
 ·rw[e];show b.bad<_;omega
 ·rw[e];show b.good<_;omega
 ·have:=h.Nq c hc
  rw[e];omega
theorem aaA(n:Nat):(0:Int)<=0∧(0:Int)<=Rx.pw n - 1:=by
 unfold Rx.pw
 have:=Oi n
 omega
theorem aa9{F:c7}{v:Vb}{n:List Int}(hF:kK F)(hl:n.length=v.many)(hn:∀ x∈n,0<=x∧x<10000000000000):kK (bp F v n).1:=by
 have hb:=hF.b
 have hlen:=Rx.bM hb.cd
 have nth:∀ k,k<n.length->0<=nn n k∧nn n k<10000000000000:=fun k hk=>hn _ (Di.aV 0 hk)
 have stay:∀ b,WfB F.aT b->kK {F with b:=b}:=fun b h=>⟨hF.p,h,hF.mm,hF.mmb⟩
 cases v
 case lF=>
  unfold bp;dsimp only
  split
  ·exact hF
  ·rename_i h1
   split
   ·exact hF
   ·rename_i h2
    refine stay _ ?_
    have hx:Ck.c8 [fF n]=true:=by
     have h3:=AB [fF n] [bf 0 1]
     rw[qt] at h3
     rw[h3] at h2
     by_cases hh:Ck.c8 [fF n]=true
     ·exact hh
     ·rw[if_neg hh] at h2;exact absurd (by decide) h2
    have hc:=uk (f:=0) (s:=0) hb (by omega) (aaA _) (by decide)
    refine⟨?_,CU hb.skv (by omega) hx,hc.cd,hc.dr,hc.EI,hc.bad,hc.good,?_,fun c hm=> ?_⟩
    ·show(F.b.au++[fF n]).length<=8
     rw[Zc];show _+1<=8;omega
    ·show(_++_:List Int).length=(_++_:List Ck.Sk).length
     rw[Zc,Zc,hb.ck];rfl
    ·have e:(F.b.gz ⟨0,0⟩).ag.length=F.b.ag.length+1:=by show(F.b.ag++[_]).length=_;rw[Zc];rfl
     show 0<=c∧c<((F.b.gz ⟨0,0⟩).ag.length:Int)
     rw[e]
     rcases Zs.1 hm with h | h
     ·have:=hb.Nq c h;omega
     ·rw[Zw.1 h];omega
 case slat=>
  unfold bp;dsimp only
  split
  ·exact hF
  ·rename_i h1
   exact stay _ (uk hb h1 (aaA _) (by decide))
 case lead=>
  unfold bp;dsimp only
  split
  ·exact hF
  ·rename_i h1
   split
   ·exact hF
   ·rename_i h2
    split
    ·exact hF
    ·rename_i h3
     split
     ·exact hF
     ·rename_i h4
      obtain⟨⟨i1,i2⟩,i3,i4⟩:=DP (V7.1 h2)
      have Z0:=hb.ck
      have Xe:=hb.Nq _ (Di.aV 0 (show(nn n 0).toNat<F.b.bH.length by omega))
      have XC:=hb.Nq _ (Di.aV 0 (show(nn n 2).toNat<F.b.bH.length by omega))
      have hc:=uk (s:=0) hb h1 (Je Xe XC) (by decide)
      obtain⟨hf,UC⟩:=Qm (V7.1 h4)
      exact stay _ ⟨hc.sk,hc.skv,hc.cd,UC,hf,hc.bad,hc.good,hc.ck,hc.Nq⟩
 case pencil=>
  have q0:=nth 0 (by rw[hl];decide)
  have q1:=nth 1 (by rw[hl];decide)
  have q2:=nth 2 (by rw[hl];decide)
  unfold bp;dsimp only
  split
  ·exact hF
  ·rename_i h1
   split
   ·exact hF
   ·rename_i h2
    split
    ·exact hF
    ·rename_i h3
     exact stay _ (uk hb h1 (Je (by omega) (by omega)) (by omega))
 case bad=>
  have q0:=nth 0 (by rw[hl];decide)
  unfold bp;dsimp only
  split
  ·exact hF
  ·rename_i h1
   split
   ·exact hF
   ·obtain⟨c1,c2⟩:=zZ (V7.1 h1)
    exact stay _ ⟨hb.sk,hb.skv,hb.cd,hb.dr,hb.EI,JR hb.bad c2 q0.1 c1,hb.good,hb.ck,hb.Nq⟩
 case good=>
  have q0:=nth 0 (by rw[hl];decide)
  unfold bp;dsimp only
  split
  ·exact hF
  ·rename_i h1
   split
   ·exact hF
   ·obtain⟨c1,c2⟩:=zZ (V7.1 h1)
    exact stay _ ⟨hb.sk,hb.skv,hb.cd,hb.dr,hb.EI,hb.bad,JR hb.good c2 q0.1 c1,hb.ck,hb.Nq⟩
 case blame=>
  unfold bp;dsimp only
  split <;> exact hF
 case call=>
  unfold bp;dsimp only
  split <;> exact hF
 case from_=>
  unfold bp;dsimp only
  split <;> exact hF
 case wear=>
  unfold bp;dsimp only
  split <;> exact hF
 case mark=>
  unfold bp;dsimp only
  split
  ·exact hF
  ·rename_i h1
   refine⟨hF.p,hF.b,?_,fun x hx=> ?_⟩
   ·show(_++_:List bU).length<=8
    rw[Zc];show _+1<=8;omega
   ·rcases Zs.1 hx with h | h
    ·exact hF.mmb x h
    ·rw[Zw.1 h];exact hF.b
 case back=>
  unfold bp;dsimp only
  cases hm:F.marks.getLast? with
  | none=>exact hF
  | some x=>
   have hx:x∈F.marks:=List.mem_of_getLast? hm
   refine⟨hF.p,hF.mmb x hx,?_,fun y hy=>hF.mmb y (List.dropLast_subset _ hy)⟩
   show F.marks.dropLast.length<=8
   rw[List.length_dropLast];have:=hF.mm;omega
 case keep=>
  unfold bp;dsimp only
  cases hm:F.marks.getLast? with
  | none=>exact hF
  | some x=>
   refine⟨hF.p,hF.b,?_,fun y hy=>hF.mmb y (List.dropLast_subset _ hy)⟩
   show F.marks.dropLast.length<=8
   rw[List.length_dropLast];have:=hF.mm;omega
theorem rJ{s:Bs}{v:Vb}{n:List Int}(h:cV s=some (v,n)):n.length=v.many∧∀ x∈n,0<=x∧x<10000000000000:=by
 obtain⟨h1,h2⟩:=wR s
 cases hb:ri (bW s) ((bW s).length - 1) with
 | false=>rw[h2 hb] at h;cases h
 | true=>
  obtain⟨v',_,hl,he⟩:=h1 hb
  rw[he] at h
  cases h
  refine⟨hl,fun x hx=> ?_⟩
  unfold jG at hx
  obtain⟨y,_,rfl⟩:=xS.1 hx
  exact Z7 y
theorem PF{F:c7}{s:Bs}(hF:kK F):kK (aO F s).1:=by
 unfold aO
 split
 ·exact hF
 ·split
  ·exact hF
  ·rename_i v n h
   obtain⟨hl,hn⟩:=rJ h
   exact aa9 hF hl hn
theorem zM{p:Di.bX}(h:Di.dY p=true):kK (newF p):=by
 refine⟨h,⟨Zn _,rfl,fun j hj=>absurd hj (Nat.not_lt_zero j),Zn _,?_,by show 0<1;decide,by show 0<1;decide,rfl,fun c hc=>by cases hc⟩,Zn _,fun x hx=>by cases hx⟩
 refine⟨List.replicate p.dies.length 0,?_⟩
 show Di.gf p [] []=_
 rw[Di.iy h (by decide)]
 rfl
theorem UX(v:Vb):v.t.length<=6:=by cases v <;> decide
theorem aal(l:List Rx.bF)(s:List Int):0<=Rx.iL l s∧Rx.iL l s<=2:=by
 unfold Rx.iL
 split
 ·split <;> decide
 ·decide
theorem abc(l:List Rx.bF)(a b:Int):0<=Rx.hY l a b∧Rx.hY l a b<=6:=by
 unfold Rx.hY
 split
 ·have:=aal l [a,b];omega
 ·split
  ·decide
  ·split <;> decide
theorem UA(l:List Rx.bF)(b:Int):0<=Rx.fH l b∧Rx.fH l b<=6:=by
 unfold Rx.fH
 split
 ·split <;> decide
 ·decide
theorem Jt(b:bU)(s:Nat)(x:Int):0<=dL b s x∧dL b s x<=6:=by
 unfold dL
 split
 ·decide
 ·split <;> decide
theorem SC(l:List Ck.Sk)(b:List Ck.Tk):0<=(shr l b).2∧(shr l b).2<=1:=by
 rw[AB]
 split <;> decide
theorem IG{p:Di.bX}{plan:List Int}:∀(l:List Di.b7) (i:Nat) (u:List Int),0<=(Di.gB p plan i u l).2.2∧(Di.gB p plan i u l).2.2<=11
 | [],i,u=>by
  rw[Di.gB]
  split <;> (dsimp only;omega)
 | w::l,i,u=>by
  rw[Di.gB]
  split
  ·dsimp only;omega
  ·split
   ·dsimp only;omega
   ·split
    ·dsimp only;omega
    ·exact IG l _ _
theorem aaa(p:Di.bX)(l:List Di.b7)(plan:List Int):0<=(Di.gf p l plan).2.2∧(Di.gf p l plan).2.2<=11:=by
 unfold Di.gf
 split
 ·decide
 ·split
  ·decide
  ·exact IG _ _ _
def YK(x:c7×Bs×Int):Prop:=x.2.1.length<=3000∧0<=x.2.2∧x.2.2<=15
theorem j9{F:c7}{e:Int}(h:0<=e∧e<=15):YK (F,[],e):=⟨Zn _,h⟩
theorem jP{F:c7}{w:Bs}{l:List Int}(hw:w.length<=100)(hl:l.length<=102)(h:∀ n∈l,0<=n∧n<10000000000000):YK (F,br w l,0):=by
 have:=kg (w:=w) h
 exact⟨by show(br w l).length<=3000;omega,(by decide:(0:Int)<=0∧(0:Int)<=15)⟩
theorem ok_two{F:c7}{w v:Bs}{l m:List Int}(hw:w.length<=100)(hv:v.length<=100)(hl:l.length<=80)(hm:m.length<=80)(h1:∀ n∈l,0<=n∧n<10000000000000)(h2:∀ n∈m,0<=n∧n<10000000000000):YK (F,br w l++32::br v m,0):=by
 have a:=kg (w:=w) h1
 have b:=kg (w:=v) h2
 refine⟨?_,(by decide:(0:Int)<=0∧(0:Int)<=15)⟩
 show(br w l++32::br v m).length<=3000
 rw[Zc,Zp];omega
theorem aaV{F:c7}{v:Vb}{n:List Int}(hF:kK F)(hl:n.length=v.many)(hn:∀ x∈n,0<=x∧x<10000000000000):YK (bp F v n):=by
 have hb:=hF.b
 have hlen:=Rx.bM hb.cd
 have hsk:=hb.sk
 have OI:=hF.mm
 have vl:=UX v
 cases v
 case lF=>
  unfold bp;dsimp only
  split
  ·exact pF
  ·split
   ·exact j9 (by have:=SC [fF n] [bf 0 1];omega)
   ·exact ok_two (by omega) (by decide) (by show 1<=80;decide) (by show 1<=80;decide) (nr (by omega)) (nr (by omega))
 case slat=>
  unfold bp;dsimp only
  split
  ·exact pF
  ·exact jP (by decide) (by show 1<=102;decide) (nr (by omega))
 case lead=>
  unfold bp;dsimp only
  split
  ·exact pF
  ·split
   ·exact j9 (by have:=SC F.b.au [bf (nn n 0) (nn n 1),bf (nn n 2) (nn n 3)];omega)
   ·split
    ·exact pF
    ·split
     ·exact j9 (by have:=aaa F.aT (F.b.ax++[⟨nn n 5,nn n 6,nn n 7⟩]) (F.b.plan++[nn n 4]);omega)
     ·obtain⟨sb1,sb2⟩:=Ku F.b.au [bf (nn n 0) (nn n 1),bf (nn n 2) (nn n 3)]
      exact ok_two (by decide) (by decide) (by show 1<=80;decide) (by show 2<=80;decide) (nr (by omega)) (Bq sb1 sb2)
 case pencil=>
  unfold bp;dsimp only
  split
  ·exact pF
  ·split
   ·exact pF
   ·split
    ·exact pF
    ·exact jP (by decide) (by show 1<=102;decide) (nr (by omega))
 case bad=>
  unfold bp;dsimp only
  split
  ·exact j9 (by have:=Jt F.b F.b.bad (nn n 0);omega)
  ·split
   ·exact pF
   ·have:=fj (F.b.bad+pow2 (nn n 0))
    exact Rq
 case good=>
  unfold bp;dsimp only
  split
  ·exact j9 (by have:=Jt F.b F.b.good (nn n 0);omega)
  ·split
   ·exact pF
   ·have:=fj (F.b.good+pow2 (nn n 0))
    exact Rq
 case blame=>
  unfold bp;dsimp only
  split
  ·exact j9 (by have:=abc F.b.ag F.b.bad F.b.good;omega)
  ·exact jP (by omega) (Zz (fj _) (by decide)) (qk _)
 case call=>
  unfold bp;dsimp only
  split
  ·exact j9 (by have:=abc F.b.ag F.b.bad F.b.good;omega)
  ·obtain⟨⟨s1,s2⟩,s3,s4⟩:=DH (bad:=F.b.bad) (good:=F.b.good) hb.cd
   refine jP (by omega) ?_ ?_
   ·have:=fj (Rx.oz F.b.ag F.b.bad F.b.good)
    rw[Zp,Zp];omega
   ·intro x hx
    rcases Zv.1 hx with rfl | hx
    ·omega
    ·rcases Zv.1 hx with rfl | hx
     ·omega
     ·exact qk _ x hx
 case from_=>
  unfold bp;dsimp only
  split
  ·exact j9 (by have:=UA F.b.ag (nn n 0);omega)
  ·exact jP (by omega) (Zz (fj _) (by decide)) (qk _)
 case wear=>
  unfold bp;dsimp only
  split
  ·exact pF
  ·obtain⟨uu,hfo⟩:=hb.EI
   obtain⟨_,CO⟩:=Di.iz (qM hfo).2
   have hpl:=ia hfo
   have hu:=sD (d:=nn n 0) CO hpl F.b.plan.length (Zg _)
   have hu:0<=cH F.b (nn n 0)∧cH F.b (nn n 0)<=1000*(F.b.plan.length:Int):=hu
   have UC:=hb.dr
   obtain⟨⟨x1,x2⟩,x3,x4⟩:=C2 (p:=F.aT) (j:=nn n 0) (u:=cH F.b (nn n 0))
   exact jP (by omega) (by show 3<=102;decide) (ET (by omega) (by omega) (by omega))
 case mark=>
  unfold bp;dsimp only
  split
  ·exact pF
  ·exact Rq
 case back=>
  unfold bp;dsimp only
  cases hm:F.marks.getLast? with
  | none=>exact j9 (by decide)
  | some x=>
   have hx:F.marks≠[]:=fun e=>by rw[e] at hm;cases hm
   have:=XE.2 hx
   exact jP (by omega) (by show 1<=102;decide) (nr (by omega))
 case keep=>
  unfold bp;dsimp only
  cases hm:F.marks.getLast? with
  | none=>exact j9 (by decide)
  | some x=>
   have hx:F.marks≠[]:=fun e=>by rw[e] at hm;cases hm
   have:=XE.2 hx
   exact jP (by omega) (by show 1<=102;decide) (nr (by omega))
theorem zS{F:c7}{s:Bs}(hF:kK F):YK (aO F s):=by
 unfold aO
 split
 ·exact pF
 ·split
  ·exact pF
  ·rename_i v n h
   obtain⟨hl,hn⟩:=rJ h
   exact aaV hF hl hn
theorem VZ{s:Bs}(h:ri (bW s) ((bW s).length - 1)=true):∃ v n,Nk (bW s)=[.str (sB (Vb.t v)),Di.aQ n]∧cV s=some (v,n)∧n.length=v.many∧∀ x∈n,0<=x∧x<10000000000000:=by
 obtain⟨v,hv,hl,he⟩:=(wR s).1 h
 obtain⟨h1,h2⟩:=rJ he
 refine⟨v,_,?_,he,h1,h2⟩
 unfold Nk
 rw[hv]
def cE(F:c7)(L:List Bs):Nat->c7
 | 0=>F
 | g+1=>(aO (cE F L g) (Di.gt [] L g)).1
def iV(F:c7)(L:List Bs):Nat->Bs
 | 0=>[]
 | g+1=>iV F L g++tY (aO (cE F L g) (Di.gt [] L g)).2.1 (aO (cE F L g) (Di.gt [] L g)).2.2
def xI(F:c7):List Bs->c7
 | []=>F
 | l::ls=>xI (aO F l).1 ls
theorem B7(F:c7):∀(a b:List Bs),xF F (a++b)=xF F a++xF (xI F a) b
 | [],b=>rfl
 | l::a,b=>by
  show _++xF _ (a++b)=(_++_)++_
  rw[B7 _ a b,ZM]
  rfl
theorem yo(F:c7):∀(a b:List Bs),xI F (a++b)=xI (xI F a) b
 | [],b=>rfl
 | l::a,b=>yo _ a b
theorem EJ{L:List Bs}{g:Nat}(h:g<L.length):L.take (g+1)=L.take g++[Di.gt [] L g]:=by
 rw[ZV h,Di.av [] g h]
theorem CJ(F:c7)(L:List Bs):∀ g,g<=L.length->cE F L g=xI F (L.take g)
 | 0,_=>rfl
 | g+1,h=>by
  rw[EJ h,yo,<- CJ F L g (by omega)]
  rfl
theorem sX(F:c7)(L:List Bs):∀ g,g<=L.length->iV F L g=xF F (L.take g)
 | 0,_=>by rw[JP];rfl
 | g+1,h=>by
  rw[EJ h,B7,<- sX F L g (by omega),<- CJ F L g (by omega)]
  show _++_=_++(_++[])
  rw[ZY]
theorem gu{F:c7}{L:List Bs}(hF:kK F):∀ g,kK (cE F L g)
 | 0=>hF
 | g+1=>PF (gu hF g)
theorem Pz{e:Int}(h:0<=e∧e<=15):(br Bl [e]).length<=19:=by
 have:=kg (w:=Bl) (l:=[e]) (nr (by omega))
 have h2:Bl.length=5:=rfl
 have h3:[e].length=1:=rfl
 omega
theorem uC{r:Bs}{e:Int}(h:r.length<=3000∧0<=e∧e<=15):(tY r e).length<=3001:=by
 unfold tY
 rw[Zc]
 split
 ·show _+1<=_;omega
 ·have:=Pz h.2;show _+1<=_;omega
theorem oJ{F:c7}{L:List Bs}(hF:kK F):∀ g,(iV F L g).length<=3001*g
 | 0=>Zg _
 | g+1=>by
  have:=oJ (L:=L) hF g
  have h2:=uC (zS (s:=Di.gt [] L g) (gu (L:=L) hF g))
  rw[iV,Zc];omega
theorem LN{s:Bs}(h:0<s.length):s.getLast?=some (Di.gt 0 s (s.length - 1)):=by
 rw[List.getLast?_eq_getElem?,Zb (by omega),Di.av 0 _ (by omega)]
theorem Mp{p:Di.bX}{s:Bs}(h:131072<s.length):ku p s=([],3):=by unfold ku;rw[if_pos h]
theorem Lc{p:Di.bX}{s:Bs}(h:¬ 131072<s.length)(h0:0<s.length)(h2:Di.gt 0 s (s.length - 1)≠10):ku p s=([],8):=by
 unfold ku
 rw[if_neg h,if_pos ⟨XE.1 h0,by rw[LN h0];intro e;exact h2 (ZB e)⟩]
theorem yw{s:Bs}(h2:0<s.length->Di.gt 0 s (s.length - 1)=10):¬ (s≠[]∧s.getLast?≠some 10):=fun⟨a,b⟩=>by
 have h0:=XE.2 a
 rw[LN h0,h2 h0] at b
 exact b rfl
theorem Oa{p:Di.bX}{s:Bs}(h:¬ 131072<s.length)(h2:0<s.length->Di.gt 0 s (s.length - 1)=10)(h3:Di.dY p=false):ku p s=([],1):=by
 unfold ku
 rw[if_neg h,if_neg (yw h2),if_pos h3]
theorem VW{p:Di.bX}{s:Bs}(h:¬ 131072<s.length)(h2:0<s.length->Di.gt 0 s (s.length - 1)=10)(h3:Di.dY p=true):ku p s=(iV (newF p) (cU 10 [] s) ((cU 10 [] s).length - 1),0):=by
 unfold ku
 rw[if_neg h,if_neg (yw h2),if_neg (by rw[h3];decide),sX _ _ _ (by omega),List.dropLast_eq_take]
theorem SE{s:Bs}{b:UInt8}{x:Bool}(h:(decide ((0:Int)<((sB s).size:Int))&& !decide ((b.toNat:Int)=10))=x):(x=true->0<s.length∧b≠10)∧(x=false->0<s.length->b=10):=by
 rw[cF] at h
 subst h
 constructor
 ·intro h
  simp only[Zo,HX,Zl,ZP] at h
  exact⟨by omega,fun e=>h.2 (by rw[e];rfl)⟩
 ·intro h h0
  simp only[YQ,Vn,Zl,ZP] at h
  rcases h with h | h
  ·omega
  ·exact UInt8.toNat_inj.1 (by have:(10:UInt8).toNat=10:=rfl;omega)
theorem Se{b:Bool}{x:Bool}(h:(!decide ((if b=true then(0:Int) else 1)=0))=x):b= !x:=by
 subst h;cases b <;> rfl
theorem VE{r:Bs}:tY r 0=r++[10]:=rfl
theorem Uh{r:Bs}{e:Int}(h:e≠0):tY r e=(101::114::114::111::114::32::Lib.itoa e)++[10]:=by
 unfold tY
 rw[if_neg h]
 unfold br Bl
 simp
theorem Ac{p t:Bs}{c:UInt8}:∀(x:Bs),(∀ b∈x,b≠c)->Lib.index (x++(c::p)++t) (c::p)=x.length
 | [],_=>by
  show Lib.index (c::(p++t)) (c::p)=_
  unfold Lib.index
  rw[if_pos (by rw[List.isPrefixOf_iff_prefix];exact⟨t,rfl⟩)];rfl
 | b::x,h=>by
  have ih:=Ac (p:=p) (t:=t) x (fun b hb=>h b (Zk _ hb))
  show Lib.index (b::(x++(c::p)++t)) (c::p)=_
  unfold Lib.index
  rw[if_neg (by rw[List.isPrefixOf_iff_prefix];rintro⟨u,hu⟩;injection hu with h1 h2;exact h b (Zx ..) h1.symm),ih,if_neg (by simp)]
  simp
theorem Jn{p:Bs}{c:UInt8}:∀(x:Bs),(∀ b∈x,b≠c)->Lib.index x (c::p)= -1
 | [],_=>rfl
 | b::x,h=>by
  unfold Lib.index
  rw[if_neg (by rw[List.isPrefixOf_iff_prefix];rintro⟨u,hu⟩;injection hu with h1 h2;exact h b (Zx ..) h1.symm),Jn x (fun b hb=>h b (Zk _ hb)),if_pos (by decide)]
def NT(c:UInt8)(x:Bs):Prop:=∀ b∈x,b≠c
def dA(c:UInt8):List Bs->Bs
 | []=>[]
 | w::r=>w++r.flatMap fun x=>c::x
theorem nR(c:UInt8)(w y:Bs)(r:List Bs):dA c (w::y::r)=w++[c]++dA c (y::r):=by simp[dA]
theorem EY{c:UInt8}:∀(r:List Bs) (w:Bs),NT c w->(∀ x∈r,NT c x)->Lib.splitK [c] 0 r.length (dA c (w::r))=w::r
 | [],w,_,_=>by
  show[w++[]]=_
  rw[ZY]
 | y::r,w,hw,h=>by
  have hi:Lib.index (w++[c]++dA c (y::r)) [c]=w.length:=Ac w hw
  rw[Zp,Lib.splitK,nR,hi,if_neg (by simp),show((w.length:Nat):Int).toNat=w.length from rfl,Il,ZM,List.take_left,<- ZM,show w.length+[c].length=(w++[c]).length by rw[Zc],List.drop_left,EY r y (h y (Zx ..)) fun x hx=>h x (Zk _ hx)]
theorem En{c:UInt8}:∀(r:List Bs) (w:Bs),NT c w->(∀ x∈r,NT c x)->Lib.count (dA c (w::r)) [c]=r.length
 | [],w,hw,_=>by
  show Lib.count (w++[]) _=_
  rw[ZY]
  exact Lib.count_miss (Jn w hw)
 | y::r,w,hw,h=>by
  have hi:Lib.index (w++[c]++dA c (y::r)) [c]=w.length:=Ac w hw
  rw[nR,Lib.count_hit (List.cons_ne_nil _ _) hi,show w.length+[c].length=(w++[c]).length by rw[Zc],List.drop_left,En r y (h y (Zx ..)) (fun x hx=>h x (Zk _ hx)),Zp]
  omega
theorem iu(x:Bs):(sB x).data.toList=x:=by unfold sB;simp
theorem Yy(y:ByteArray):y=sB y.data.toList:=by unfold sB;simp
theorem Lt{c:UInt8}(ws:List Bs)(h0:0<ws.length)(h:∀ x∈ws,NT c x):Lib.splitB (sB [c]) 0 (ws.length - 1) (sB (dA c ws))=ws.map sB:=by
 cases ws with
 | nil=>cases h0
 | cons w r=>
  have e1:=Lib.splitB_data (sB [c]) 0 r.length (sB (dA c (w::r)))
  rw[iu,iu,EY r w (h w (Zx ..)) fun x hx=>h x (Zk _ hx)] at e1
  have e2:∀ L:List ByteArray,L=(L.map fun x=>x.data.toList).map sB:=fun L=>by
   rw[QI]
   conv=>lhs;rw[<- List.map_id L]
   exact Xx fun y _=>Yy y
  rw[Zp,Nat.add_sub_cancel,e2 (Lib.splitB _ _ _ _)]
  exact congrArg (List.map sB) e1
theorem KF{c:UInt8}(ws:List Bs)(h0:0<ws.length)(h:∀ x∈ws,NT c x):Lib.countB (sB (dA c ws)) (sB [c])=ws.length - 1:=by
 cases ws with
 | nil=>cases h0
 | cons w r=>
  show Lib.count (sB _).data.toList (sB _).data.toList=_
  rw[iu,iu,En r w (h w (Zx ..)) fun x hx=>h x (Zk _ hx)]
  rfl
theorem Cm{c:UInt8}:∀(ws:List Bs),ws.length<=(dA c ws).length+1
 | []=>Zn _
 | [w]=>by simp
 | w::y::r=>by
  have:=Cm (c:=c) (y::r)
  rw[nR]
  simp only[Zc,Zp] at this ⊢
  omega
theorem Wb(c:UInt8)(s cur:Bs):∃ w r,cU c cur s=w::r:=by
 have:=(ig c s cur).1
 cases h:cU c cur s with
 | nil=>rw[h] at this;cases this
 | cons w r=>exact⟨w,r,rfl⟩
theorem wo(c:UInt8):∀(s cur:Bs),dA c (cU c cur s)=cur++s
 | [],cur=>by rw[cU];simp[dA]
 | b::s,cur=>by
  rw[cU]
  split
  ·rename_i h
   obtain⟨w,r,e⟩:=Wb c s []
   have ih:=wo c s []
   rw[e] at ih ⊢
   rw[nR,ih,h]
   simp
  ·rw[wo c s (cur++[b])];simp
theorem Ar(c:UInt8):∀(s cur:Bs),NT c cur->∀ x∈cU c cur s,NT c x
 | [],cur,h,x,hx=>by
  rw[cU,Zw] at hx
  rw[hx];exact h
 | b::s,cur,h,x,hx=>by
  rw[cU] at hx
  split at hx
  ·rcases Zv.1 hx with rfl | hx
   ·exact h
   ·exact Ar c s [] (fun y hy=>by cases hy) x hx
  ·rename_i hb
   refine Ar c s _ (fun y hy=> ?_) x hx
   rcases Zs.1 hy with h1 | h1
   ·exact h y h1
   ·rw[Zw.1 h1];exact hb
inductive jD where
 | str (w:Bs)
 | num (k:Int)
 | DT (l:List Int)
def jD.w:jD->List Bs
 | .str w=>[w]
 | .num k=>[Lib.itoa k]
 | .DT l=>l.map Lib.itoa
def jD.NV:jD->Bool
 | .str _=>true
 | _=>false
def jD.isN:jD->Bool
 | .num _=>true
 | _=>false
def jD.isL:jD->Bool
 | .DT _=>true
 | _=>false
def jD.sV:jD->Bs
 | .str w=>w
 | _=>[]
def jD.nV:jD->Int
 | .num k=>k
 | _=>0
def jD.lV:jD->PV
 | .DT l=>Di.aQ l
 | _=> .nilSlice
def jD.ok:jD->Prop
 | .str w=>w.length<=100
 | .num k=>0<=k∧k<10000000000000
 | .DT l=>l.length<=100∧∀ k∈l,0<=k∧k<10000000000000
def j7(l:List jD):List Bs:=l.flatMap jD.w
theorem zJ{l:List jD}{k:Nat}(h:k<l.length):j7 (l.take (k+1))=j7 (l.take k)++(Di.gt (.str []) l k).w:=by
 unfold j7
 rw[ZV h,ZX,Di.av (.str []) k h]
 simp
theorem Ed:∀{l:List jD},(∀ p∈l,p.ok)->(j7 l).length<=100*l.length
 | [],_=>Zn _
 | p::l,h=>by
  have ih:=Ed (l:=l) fun q hq=>h q (Zk _ hq)
  have hp:=h p (Zx ..)
  unfold j7 at ih ⊢
  rw[ZJ,Zc,Zp]
  have:p.w.length<=100:=by
   cases p with
   | str w=>show 1<=100;decide
   | num k=>show 1<=100;decide
   | DT l=>show(l.map Lib.itoa).length<=100;rw[Zr];exact hp.1
  omega
theorem KY(l:List jD)(k:Nat):(j7 (l.take k)).length<=(j7 l).length:=by
 unfold j7
 conv=>rhs;rw[<- Zbz k l,ZX,Zc]
 omega
theorem aba{l:List jD}(h:∀ p∈l,p.ok):∀ x∈j7 l,x.length<=100:=fun x hx=>by
 obtain⟨p,hp,hx⟩:=List.mem_flatMap.1 hx
 have hk:=h p hp
 cases p with
 | str w=>rw[Zw.1 hx];exact hk
 | num k=>
  rw[Zw.1 hx]
  have:=lT hk.1 hk.2;omega
 | DT l=>
  obtain⟨k,hm,rfl⟩:=xS.1 hx
  have:=lT (hk.2 k hm).1 (hk.2 k hm).2;omega
theorem MD{c:UInt8}:∀(ws:List Bs),(∀ x∈ws,x.length<=100)->(dA c ws).length<=101*ws.length
 | [],_=>Zn _
 | [w],h=>by
  have:=h w (Zx ..)
  simp[dA];omega
 | w::y::r,h=>by
  have ih:=MD (c:=c) (y::r) fun x hx=>h x (Zk _ hx)
  have:=h w (Zx ..)
  rw[nR]
  simp only[Zc,Zp,CP] at ih ⊢
  omega
theorem fW(w:Bs)(l:List Int):br w l=dA 32 (w::l.map Lib.itoa):=by
 show _=w++(l.map Lib.itoa).flatMap fun x=>32::x
 rw[List.flatMap_map]
 rfl
theorem ID(ws:List Bs)(sep:UInt8):Lib.join ws [sep]=dA sep ws:=by
 cases ws with
 | nil=>rfl
 | cons w r=>
  rw[Lib.join_cons]
  show w++(r.map ([sep]++ ·)).flatten=w++r.flatMap fun x=>sep::x
  rw[List.flatMap_def]
  rfl
theorem Dc(k m:Nat)(h:2^k*(2*m+1)<2^64):2^k*(2*m+1)&&& (2^64 - 2^k*(2*m+1))=2^k:=by
 have hp:=Oi k
 have h1:1<=2^k*(2*m+1):=Nat.mul_pos hp (by omega)
 have hk:k<64:=by
  rcases ZS k 64 with h2 | h2
  ·exact h2
  ·exact OL
 apply Ie
 intro i
 have e:2^64 - 2^k*(2*m+1)=2^64 - ((2^k*(2*m+1) - 1)+1):=by omega
 rw[e,J0,Nat.testBit_two_pow_sub_succ (by omega),Rx.uB,Rx.vj,H8]
 by_cases h2:i<k
 ·simp[show ¬ k<=i by omega,show ¬ k=i by omega]
 ·exact RU
theorem X9{x k:Nat}(h0:x≠0)(h:x<2^32)(hk:x&&& (2^32 - x)=2^k):x&&& (2^64 - x)=2^k:=by
 obtain⟨j,m,e⟩:=Rx.M4 x h0
 rw[e] at hk h ⊢
 rw[Rx.A3 j m h] at hk
 rw[Dc j m (Nat.lt_trans h (by decide)),hk]
def BO:List Int:=[0,1,56,2,57,49,28,3,61,58,42,50,38,29,17,4,62,47,59,36,45,43,51,22,53,39,33,30,24,18,12,5,63,55,48,27,60,41,37,16,46,35,44,21,52,32,23,11,54,26,40,15,34,20,31,10,25,14,19,9,13,8,7,6]
theorem J8:∀ k:Nat,k<64->BO[2^k*285870213051353865%18446744073709551616 / 2^58]? =some (k:Int):=by decide
theorem FI(n:Int):IntKind.u64.wrap n=n%18446744073709551616:=by simp[IntKind.wrap,IntKind.bits,IntKind.signed]
theorem Wf{n:Nat}(h:0<n)(h2:n<2^32):IntKind.u64.wrap (0 - (n:Int))=((2^64 - n:Nat):Int):=by
 rw[FI]
 omega
theorem UF(k:Nat):IntKind.u64.wrap (((2^k:Nat):Int)*285870213051353865)=((2^k*285870213051353865%18446744073709551616:Nat):Int):=by
 rw[FI]
 omega
def bl(n p:Nat):List Int:=(Rx.aL n p).map fun(i:Nat)=>(i:Int)
theorem Wk(n p:Nat):(bl n p).length<=p:=by
 unfold bl Rx.aL
 exact aaf
def byC(b:UInt8):List PV:=[.int .u8 b.toNat]
theorem Fl:∀ s:Bs,bP s=s.flatMap byC
 | []=>rfl
 | b::s=>by
  show PV.int .u8 b.toNat::bP s=_
  rw[ZJ,<- Fl s]
  rfl
theorem Z1{s:Bs}{b:Bool}(h:((!decide (s=[])&&decide (((sB s).size:Int)<=13))&&(decide (s=[48])|| !decide (((Di.gt 0 s 0).toNat:Int)=48)))=b):(b=true->s≠[]∧s.length<=13∧(s=[48]∨s.getD 0 0≠48))∧(b=false->¬ iK s):=by
 rw[cF] at h
 have e48:((Di.gt 0 s 0).toNat:Int)=48↔s.getD 0 0=48:=by
  show((s.getD 0 0).toNat:Int)=48↔_
  constructor
  ·intro h;exact UInt8.toNat_inj.1 (by have:(48:UInt8).toNat=48:=rfl;omega)
  ·intro h;rw[h];rfl
 subst h
 constructor
 ·intro h
  simp only[Zo,CK,HX,Zl,ZP,e48] at h
  exact⟨h.1.1,by omega,h.2⟩
 ·rintro h ⟨a,b,c,_⟩
  have:(((!decide (s=[])&&decide ((s.length:Int)<=13))&&(decide (s=[48])|| !decide (((Di.gt 0 s 0).toNat:Int)=48)))=true):=by
   simp only[Zo,CK,HX,Zl,ZP,e48]
   exact⟨⟨a,by omega⟩,c⟩
  rw[this] at h
  cases h
theorem JY{b:UInt8}{x:Bool}(h:(decide ((48:Int)<=(b.toNat:Int))&&decide ((b.toNat:Int)<=57))=x):qw b=x:=by
 rw[<- h]
 unfold qw
 congr 1
 ·exact decide_eq_decide.2 (by omega)
 ·exact decide_eq_decide.2 (by omega)
theorem Ex{a b:Int}{j k:Nat}(ha:a=(j:Int))(hb:b=(k:Int)):both a b=((1*2^j||| 1*2^k:Nat):Int):=by
 subst ha hb
 unfold both pow2
 rw[CR,CR,ZN,ZN]
 by_cases h:j=k
 ·subst h
  rw[if_pos rfl,Nat.or_self]
 ·rw[if_neg (by omega),<- s9 (by rw[H8];exact decide_eq_false (by omega))]
theorem aaS{l:List Rx.bF}{bad good:Int}(hC:Rx.cv l):Rx.kB l bad good<2^24:=by
 have ja:=Zq (show 0<2 by omega) (Rx.bM hC)
 by_cases h:Rx.hY l bad good=0
 ·have:=(Rx.qo h).2.2.2.2.2.2
  omega
 ·unfold Rx.kB
  rw[if_neg h];decide
theorem Vk{l:List Rx.bF}{bad good:Int}(hC:Rx.cv l):Rx.oz l bad good<2^24:=by
 have ja:=Zq (show 0<2 by omega) (Rx.bM hC)
 unfold Rx.oz
 split
 ·rename_i h
  have:=Rx.zd (Rx.bM hC) (Rx.qo h).2.2.2.2.2.2
  omega
 ·decide
theorem Pq{l:List Rx.bF}(hC:Rx.cv l)(b:Int):Rx.jb l (Rx.bn l) b<2^24:=by
 unfold Rx.jb
 split
 ·rename_i h
  have hb:b.toNat<24:=by
   exact Tb
  have h1:=Rx.oO l b.toNat
  have h2:=Zq (show 0<2 by omega) (show b.toNat+1<=24 by omega)
  omega
 ·decide
theorem Hu{n:Nat}(h:n<2^24):gw n=(Rx.aL n 32).map fun(i:Nat)=>(i:Int):=by
 have e:Rx.aL n 32=Rx.aL n 24:=Rx.mD (by omega) fun i h1 _=>WL (ZQ h (Zq (by omega) h1))
 rw[e]
 rfl
end Go.Proofs.YtchiinjiflgepaaGreatDoor
end
