/-
 Chapter 15: the floor as plain data: the books, the marks; what a line says, and what it does.
 Chapter 15: numbers and words of a line, step by step.
 Chapter 15: the members of a set, one after the other.
 Chapter 15: how great what a floor answers can be.
 Chapter 15: a line leaves a floor that can be.
 Chapter 15: how long replies are; scripts.
 Chapter 15, the program: texts that are cut and joined; what a reply is put together of; lowest bits of 64; how many bits there are.
-/
import Derived.Test.YtchiinjiflgepaaGreatDoorMzQD
import Derived.Test.YtchiinjiflgepaaGreatDoorMzQC
import Derived.Test.YtchiinjiflgepaaGreatDoorMzQR
import Derived.Lib.ItoaNum
import Derived.Test.YtchiinjiflgepaaGreatDoorFaQF
import Derived.Lib.Split
import Derived.Lib.IndexMore
import Derived.Lib.CountLaws
import Derived.Lib.SplitLaws
import Derived.Lib.Join
import Derived.Test.YtchiinjiflgepaaGreatDoorMzQZ
theorem PN{A:Prop}(h:A:=by
 have mC:=Rx.cx hC
 unfold Rx.dV at h
 rw[if_pos hC] at h
 split at h
 ·rename_i h2
  unfold Rx.iL at h2
  simp at h2
  omega
 ·cases h):A:=h
theorem oq{A:Prop}(h:A:=by
 exact jt (by decide)):A:=h
theorem O6{A:Prop}(h:A:=by
 exact iY (by omega) (by show 1<=102;decide) (pH (by omega))):A:=h
theorem Wt{A:Prop}(h:A:=by
 rw[Zq]
 exact Zz (List.length_filter_le _ _) (by rw[GI];exact Zg _)):A:=h
set_option linter.unusedSimpArgs false
set_option linter.unusedVariables false
section
namespace Go.Proofs.YtchiinjiflgepaaGreatDoor
open Go.AF
abbrev Bs:=List UInt8
structure bG where
 au:List Ck.Sk
 ag:List Rx.bM
 aq:List Di.cO
 plan:List Int
 bad:Nat
 good:Nat
 b6:List Int
structure cK where
 aP:Di.bB
 b:bG
 marks:List bG
def noB:bG:=⟨[],[],[],[],0,0,[]⟩
def newF(p:Di.bB):cK:=⟨p,noB,[]⟩
inductive Vb where
 | oS | slat | lead | pencil | bad | good | blame | call | from_ | wear | mark | back | keep
 deriving DecidableEq
def Vb.t:Vb->Bs
 | .oS=>[115,97,99,107]
 | .slat=>[115,108,97,116]
 | .lead=>[108,101,97,100]
 | .pencil=>[112,101,110,99,105,108]
 | .bad=>[98,97,100]
 | .good=>[103,111,111,100]
 | .blame=>[98,108,97,109,101]
 | .call=>[99,97,108,108]
 | .from_=>[102,114,111,109]
 | .wear=>[119,101,97,114]
 | .mark=>[109,97,114,107]
 | .back=>[98,97,99,107]
 | .keep=>[107,101,101,112]
def Vb.many:Vb->Nat
 | .oS=>6
 | .lead=>8
 | .pencil=>3
 | .bad=>1
 | .good=>1
 | .from_=>1
 | .wear=>1
 | _=>0
def Xq:List Vb:=[.oS,.slat,.lead,.pencil,.bad,.good,.blame,.call,.from_,.wear,.mark,.back,.keep]
def jH(s:Bs):Option Vb:=Xq.find? fun v=>decide (v.t=s)
theorem xZ{s:Bs}{v:Vb}(h:jH s=some v):v.t=s:=by
 have:=List.find?_some h
 simpa using this
theorem FZ{s:Bs}(h:jH s=none)(v:Vb):v.t≠s:=by
 have:=List.find?_eq_none.1 h v (by cases v <;> decide)
 simpa using this
def nn(l:List Int)(k:Nat):Int:=Di.gt 0 l k
def aS(w:Bs)(l:List Int):Bs:=w++l.flatMap fun n=>32::Lib.itoa n
def fB(n:Nat):List Int:=((List.range 24).filter fun i=>n.testBit i).map fun(i:Nat)=>(i:Int)
def pow2(n:Int):Nat:=2^n.toNat
def both(a b:Int):Int:=if a=b then((pow2 a:Nat):Int) else((pow2 a+pow2 b:Nat):Int)
def shr(l:List Ck.Sk)(b:List Ck.Tk):(Int×Int)×Int:=if Ck.iT l b then((Ck.sQ l b 1001,Ck.lJ l b 1001),0) else((0,0),1)
theorem U3(l:List Ck.Sk)(b:List Ck.Tk):Ck.vY l b=[.agg [.int .i64 (shr l b).1.1,.int .i64 (shr l b).1.2],.int .i64 (shr l b).2]:=by
 unfold Ck.vY shr
 split <;> rfl
def bW(s m:Int):Ck.Tk:=⟨s,⟨m,m⟩⟩
def iu(n:List Int):Ck.Sk:=⟨⟨nn n 0,nn n 1⟩,⟨nn n 2,nn n 3⟩,⟨nn n 4,nn n 5⟩⟩
def bG.dZ(b:bG)(x:Rx.bM):bG:={b with ag:=b.ag++[x]}
def fD(b:bG)(set:Nat)(x:Int):Int:=if (b.ag.length:Int)<=x then 2 else if set.testBit x.toNat then 5 else 0
def kz:Bs:=[99,97,114,100]
def C0:Bs:=[115,104,97,114,101]
def ur(b:bG)(die:Int):Nat->Int
 | 0=>0
 | g+1=>ur b die g+if Di.gt 0 b.plan g=die then(Di.gt Di.cO.d b.aq g).len else 0
def dU(b:bG)(die:Int):Int:=ur b die b.plan.length
def br(F:cK)(v:Vb)(n:List Int):cK×Bs×Int:=
 let b:=F.b
 let next:Int:=b.ag.length
 match v with
 | .oS=>if 8<=b.au.length∨24<=b.ag.length then(F,[],9) else if (shr [iu n] [bW 0 1]).2≠0 then(F,[],(shr [iu n] [bW 0 1]).2) else
     ({F with b:={b.dZ ⟨0,0⟩ with au:=b.au++[iu n],b6:=b.b6++[next]}},aS v.t [(b.au.length:Int)]++32::aS kz [next],0)
 | .slat=>if 24<=b.ag.length then(F,[],9) else({F with b:=b.dZ ⟨0,0⟩},aS kz [next],0)
 | .lead=>if 24<=b.ag.length then(F,[],9) else
     let s:=shr b.au [bW (nn n 0) (nn n 1),bW (nn n 2) (nn n 3)]
     if s.2≠0 then(F,[],s.2) else if 8<=b.aq.length then(F,[],9) else
     let l:=b.aq++[⟨nn n 5,nn n 6,nn n 7⟩]
     let plan:=b.plan++[nn n 4]
     if (Di.fR F.aP l plan).2.2≠0 then(F,[],(Di.fR F.aP l plan).2.2) else
     ({F with b:={b.dZ ⟨both (nn b.b6 (nn n 0).toNat) (nn b.b6 (nn n 2).toNat),0⟩ with aq:=l,plan:=plan}},aS kz [next]++32::aS C0 [s.1.1,s.1.2],0)
 | .pencil=>if 24<=b.ag.length then(F,[],9) else if next<=nn n 0∨next<=nn n 1 then(F,[],2) else if 1048576<nn n 2 then(F,[],1) else
     ({F with b:=b.dZ ⟨both (nn n 0) (nn n 1),nn n 2⟩},aS kz [next],0)
 | .bad=>if fD b b.bad (nn n 0)≠0 then(F,[],fD b b.bad (nn n 0)) else if Rx.fW b.ag ((b.bad+pow2 (nn n 0):Nat):Int) b.good=6 then(F,[],6) else
     ({F with b:={b with bad:=b.bad+pow2 (nn n 0)}},aS v.t [((fB (b.bad+pow2 (nn n 0))).length:Int)],0)
 | .good=>if fD b b.good (nn n 0)≠0 then(F,[],fD b b.good (nn n 0)) else if Rx.fW b.ag b.bad ((b.good+pow2 (nn n 0):Nat):Int)=6 then(F,[],6) else
     ({F with b:={b with good:=b.good+pow2 (nn n 0)}},aS v.t [((fB (b.good+pow2 (nn n 0))).length:Int)],0)
 | .blame=>if Rx.fW b.ag b.bad b.good≠0 then(F,[],Rx.fW b.ag b.bad b.good) else(F,aS v.t (fB (Rx.jg b.ag b.bad b.good)),0)
 | .call=>if Rx.fW b.ag b.bad b.good≠0 then(F,[],Rx.fW b.ag b.bad b.good) else(F,aS v.t ((Rx.fF b.ag b.bad b.good).1::(Rx.fF b.ag b.bad b.good).2::fB (Rx.lf b.ag b.bad b.good)),0)
 | .from_=>if Rx.dV b.ag (nn n 0)≠0 then(F,[],Rx.dV b.ag (nn n 0)) else(F,aS v.t (fB (Rx.gE b.ag (Rx.bE b.ag) (nn n 0))),0)
 | .wear=>if (F.aP.dies.length:Int)<=nn n 0 then(F,[],2) else
     let u:=dU b (nn n 0)
     (F,aS v.t [u,(Di.bT F.aP (nn n 0) u).1.1,(Di.bT F.aP (nn n 0) u).1.2],0)
 | .mark=>if 8<=F.marks.length then(F,[],9) else({F with marks:=F.marks++[b]},aS v.t [(F.marks.length:Int)+1],0)
 | .back=>match F.marks.getLast? with
   | none=>(F,[],4)
   | some x=>({F with b:=x,marks:=F.marks.dropLast},aS v.t [(F.marks.length:Int) - 1],0)
 | .keep=>match F.marks.getLast? with
   | none=>(F,[],4)
   | some x=>({F with marks:=F.marks.dropLast},aS v.t [(F.marks.length:Int) - 1],0)
def uo(b:UInt8):Bool:=decide (48<=b.toNat)&&decide (b.toNat<=57)
def oG(s:Bs):Nat:=s.foldl (fun n b=>10*n+(b.toNat - 48)) 0
def wA(s:Bs):Option Int:=if s≠[]∧s.length<=13∧(s=[48]∨s.getD 0 0≠48)∧s.all uo=true then some (oG s:Nat) else none
def dG(c:UInt8):Bs->Bs->List Bs
 | cur,[]=>[cur]
 | cur,b::s=>if b=c then cur::dG c [] s else dG c (cur++[b]) s
def cj(s:Bs):List Bs:=dG 32 [] s
def cB(s:Bs):Option (Vb×List Int):=match cj s with
 | []=>none
 | w::l=>match jH w with
   | none=>none
   | some v=>if l.length=v.many then(l.mapM wA).map fun n=>(v,n) else none
def aG(F:cK)(s:Bs):cK×Bs×Int:=if 120<s.length then(F,[],3) else match cB s with
 | none=>(F,[],8)
 | some (v,n)=>br F v n
def Br:Bs:=[101,114,114,111,114]
def vr(r:Bs)(e:Int):Bs:=(if e=0 then r else aS Br [e])++[10]
def kV(F:cK):List Bs->Bs
 | []=>[]
 | l::ls=>vr (aG F l).2.1 (aG F l).2.2++kV (aG F l).1 ls
def nZ(p:Di.bB)(s:Bs):Bs×Int:=if 131072<s.length then([],3) else if s≠[]∧s.getLast?≠some 10 then([],8) else if Di.dH p=false then([],1) else
 (kV (newF p) (dG 10 [] s).dropLast,0)
def kn(b:bG):List PV:=[Ck.dS b.au,Rx.fO b.ag,Di.fJ b.aq,Di.bI b.plan,.int .i64 (b.bad:Int),.int .i64 (b.good:Int)]
structure UJ (p:Di.bB) (b:bG):Prop where
 sk:b.au.length<=8
 Xf:Ck.dK b.au=true
 cd:Rx.bR b.ag
 dr:b.aq.length<=8
 Dd:∃ u,Di.fR p b.aq b.plan=(some u,(b.aq.length:Int),0)
 bad:b.bad<2^b.ag.length
 good:b.good<2^b.ag.length
 ck:b.b6.length=b.au.length
 Mm:∀ c∈b.b6,0<=c∧c<(b.ag.length:Int)
structure mo (F:cK):Prop where
 p:Di.dH F.aP=true
 b:UJ F.aP F.b
 mm:F.marks.length<=8
 W5:∀ x∈F.marks,UJ F.aP x
theorem wU{u:Nat}(h:u<10):Lib.decDigits u=[UInt8.ofNat (48+u)]:=by rw[Lib.decDigits,dif_pos h]
theorem Mr{u:Nat}(h:10<=u):Lib.decDigits u=Lib.decDigits (u / 10)++[UInt8.ofNat (48+u%10)]:=by rw[Lib.decDigits,dif_neg (by omega)]
theorem KJ{n:Int}(h:0<=n):Lib.itoa n=Lib.decDigits n.toNat:=by unfold Lib.itoa;rw[if_neg (by omega)]
theorem Dx:∀(k n:Nat),n<10^(k+1)->(Lib.decDigits n).length<=k+1
 | 0,n,h=>by
  rw[wU (by simpa using h)];exact Zg _
 | k+1,n,h=>by
  by_cases h2:n<10
  ·rw[wU h2];exact Nat.le_add_left _ _
  ·rw[Mr (by omega),Zb,Tb]
   have h3:n / 10<10^(k+1):=by rw[Nat.div_lt_iff_lt_mul (by decide)];rw[UM] at h;exact h
   have:=Dx k _ h3
   omega
theorem EW(n:Nat)(h:n<10000000000000):(Lib.decDigits n).length<=13:=Dx 12 n (by
 have:(10:Nat)^(12+1)=10000000000000:=by decide
 omega)
theorem vh{n:Int}(h0:0<=n)(h1:n<10000000000000):(Lib.itoa n).length<=13:=by
 rw[KJ h0]
 exact EW _ (by omega)
theorem iH{w:Bs}{l:List Int}(h:∀ n∈l,0<=n∧n<10000000000000):(aS w l).length<=w.length+14*l.length:=by
 unfold aS
 rw[Zb]
 induction l with
 | nil=>exact Zg _
 | cons x l ih=>
  have h1:=ih fun n hn=>h n (Zj _ hn)
  have h2:=vh (h x (Zr ..)).1 (h x (Zr ..)).2
  rw[ZJ,Zb,Zn,Zn]
  omega
theorem Lz(s:Bs)(b:UInt8):oG (s++[b])=10*oG s+(b.toNat - 48):=by simp[oG]
theorem Af{s:Bs}{i:Nat}(h:i<s.length):oG (s.take (i+1))=10*oG (s.take i)+((Di.gt 0 s i).toNat - 48):=by
 rw[OY h,Lz,Di.aC 0 i h]
theorem AA{b:UInt8}(h:uo b=true):48<=b.toNat∧b.toNat<=57:=by
 unfold uo at h;simpa using h
theorem JM(s:Bs):∀ i,i<=s.length->(∀ j,j<i->uo (Di.gt 0 s j)=true)->oG (s.take i)<10^i
 | 0,_,_=>by rw[LN];decide
 | i+1,h,hd=>by
  rw[Af (by omega),UM]
  have h1:=JM s i (by omega) fun j hj=>hd j (by omega)
  have h2:=AA (hd i (by omega))
  omega
theorem AV{s:Bs}{i:Nat}(h:i<=s.length)(Y5:s.length<=13)(hd:∀ j,j<i->uo (Di.gt 0 s j)=true):oG (s.take i)<10000000000000:=by
 have h1:=JM s i h hd
 have h2:(10:Nat)^i<=10^13:=Zy (by decide) (by omega)
 have h3:(10:Nat)^13=10000000000000:=by decide
 omega
def gz(s:Bs):Int:=(wA s).getD 0
def wz(s:Bs):Bool:=(wA s).isSome
def gS(s:Bs):Prop:=s≠[]∧s.length<=13∧(s=[48]∨s.getD 0 0≠48)∧s.all uo=true
theorem y8{s:Bs}(h:gS s):wA s=some ((oG s:Nat):Int):=if_pos h
theorem LM{s:Bs}(h:¬ gS s):wA s=none:=if_neg h
theorem M5{s:Bs}{i:Nat}(h:i<s.length)(hd:uo (Di.gt 0 s i)=false):¬ gS s:=fun hc=>by
 have:=ZA.1 hc.2.2.2 _ (Di.bq 0 h)
 rw[hd] at this;cases this
theorem Rq{s:Bs}(h:s≠[]∧s.length<=13∧(s=[48]∨s.getD 0 0≠48))(hd:∀ j,j<s.length->uo (Di.gt 0 s j)=true):gS s:=by
 refine⟨h.1,h.2.1,h.2.2,ZA.2 fun b hb=> ?_⟩
 obtain⟨j,hj,rfl⟩:=Ni hb
 rw[Di.aC 0 j hj]
 exact hd j hj
theorem Wf(s:Bs):0<=gz s∧gz s<10000000000000:=by
 unfold gz
 by_cases h:gS s
 ·rw[y8 h]
  have:=AV (s:=s) (i:=s.length) (Zg _) h.2.1 fun j hj=>ZA.1 h.2.2.2 _ (Di.bq 0 hj)
  rw[ZQ] at this
  show 0<=((oG s:Nat):Int)∧((oG s:Nat):Int)<_
  omega
 ·rw[LM h];decide
theorem ja(c:UInt8):∀(s cur:Bs),0<(dG c cur s).length∧(dG c cur s).length<=s.length+1
 | [],cur=>by rw[dG];exact⟨Nat.one_pos,Zg _⟩
 | b::s,cur=>by
  rw[dG]
  split
  ·have:=ja c s []
   simp only[Zn];omega
  ·have:=ja c s (cur++[b])
   simp only[Zn];omega
def iF(s:Bs):List PV:=[.str (sB s)]
def b9(l:List Bs):PV:= .is (l.flatMap iF) l.length
def manyN(s:Bs):Int:=match jH s with
 | some v=>(v.many:Nat)
 | none=> -1
def Wk(n k:Nat):List Int:=((List.range k).filter fun i=>n.testBit i).map fun(i:Nat)=>(i:Int)
theorem KL(n i:Nat):(Wk n i).length<=i:=by
 unfold Wk
 exact Wt
theorem TW(n:Nat):∀ x∈fB n,0<=x∧x<24:=fun x hx=>by
 exact Yg
def BX(w:List Bs)(g:Nat):List Int:=(w.tail.take g).map gz
def Lg(w:List Bs)(g:Nat):Bool:=decide (manyN (Di.gt [] w 0)=(w.length:Int) - 1)&&(w.tail.take g).all wz
theorem JX{w:List Bs}{g:Nat}(h:g+1<=w.length):(BX w g).length=g:=by
 unfold BX
 rw[Zq,ZW,List.length_tail]
 omega
theorem uc:∀ l:List Bs,l.all wz=true->l.mapM wA=some (l.map gz)
 | [],_=>rfl
 | x::l,h=>by
  rw[Rv,Zo] at h
  have h1:wA x=some (gz x):=by
   have h2:=h.1
   unfold wz at h2
   unfold gz
   cases hx:wA x with
   | none=>rw[hx] at h2;cases h2
   | some v=>rfl
  rw[List.mapM_cons,h1,uc l h.2]
  rfl
theorem mapM_none:∀ l:List Bs,l.all wz=false->l.mapM wA=none
 | [],h=>by cases h
 | x::l,h=>by
  rw[Rv,YV] at h
  rw[List.mapM_cons]
  cases hx:wA x with
  | none=>rfl
  | some v=>
   rcases h with h | h
   ·unfold wz at h;rw[hx] at h;cases h
   ·rw[mapM_none l h];rfl
theorem nL(c:UInt8):∀(s cur x:Bs),x∈dG c cur s->x.length<=cur.length+s.length
 | [],cur,x,h=>by
  rw[dG,ZK] at h
  rw[h];exact Zg _
 | b::s,cur,x,h=>by
  rw[dG] at h
  split at h
  ·rcases Zt.1 h with rfl | h
   ·simp
   ·have:=nL c s [] x h
    simp only[Gu,Zn] at this ⊢;omega
  ·have:=nL c s (cur++[b]) x h
   simp only[Zb,Zn,Gu] at this ⊢;omega
theorem qK(s:Bs):0<(cj s).length:=(ja 32 s []).1
theorem HE(s:Bs):(Lg (cj s) ((cj s).length - 1)=true->∃ v,Di.gt [] (cj s) 0=v.t∧(BX (cj s) ((cj s).length - 1)).length=v.many∧cB s=some (v,BX (cj s) ((cj s).length - 1)))∧
    (Lg (cj s) ((cj s).length - 1)=false->cB s=none):=by
 have hp:=qK s
 have hn:=JX (w:=cj s) (g:=(cj s).length - 1) (by omega)
 unfold cB
 generalize cj s=w at hp hn ⊢
 cases w with
 | nil=>cases hp
 | cons x l=>
  have e1:(x::l).tail.take ((x::l).length - 1)=l:=by simp
  have e0:Di.gt [] (x::l) 0=x:=rfl
  have eN:BX (x::l) ((x::l).length - 1)=l.map gz:=by unfold BX;rw[e1]
  have eI:Lg (x::l) ((x::l).length - 1)=(decide (manyN x=(l.length:Int))&&l.all wz):=by
   unfold Lg
   rw[e1,e0,Zn]
   congr 2
   simp
  rw[eN,eI,e0]
  simp only
  cases hv:jH x with
  | none=>
   have:manyN x= -1:=by unfold manyN;rw[hv]
   rw[this]
   refine⟨fun h=> ?_,fun _=>rfl⟩
   rw[Zo,Zs] at h
   omega
  | some v=>
   have hm:manyN x=(v.many:Nat):=by unfold manyN;rw[hv]
   rw[hm]
   simp only
   constructor
   ·intro h
    rw[Zo,Zs] at h
    have hl:l.length=v.many:=by omega
    refine⟨v,(xZ hv).symm,by rw[Zq];exact hl,?_⟩
    rw[if_pos hl,uc l h.2]
    rfl
   ·intro h
    by_cases hl:l.length=v.many
    ·rw[if_pos hl,mapM_none l (by rw[hl] at h;simpa using h)]
     rfl
    ·rw[if_neg hl]
theorem LR{n:Nat}(h:n<=24):2^n<=16777216:=by
 have:=Zy (show 0<2 by omega) h
 have h2:(2:Nat)^24=16777216:=by decide
 omega
section
variable {l:List Rx.bM} {bad good:Int}
theorem aa2(hC:Rx.bR l):Rx.jg l bad good<=16777216:=by
 have mC:=LR (Rx.cx hC)
 by_cases h:Rx.fW l bad good=0
 ·have:=(Rx.qI h).2.2.2.2.2.2
  omega
 ·unfold Rx.jg
  rw[if_neg h];omega
theorem Ys(hC:Rx.bR l):Rx.lf l bad good<=16777216:=by
 have mC:=LR (Rx.cx hC)
 unfold Rx.lf
 split
 ·rename_i h
  have:=Rx.za (Rx.cx hC) (Rx.qI h).2.2.2.2.2.2
  omega
 ·omega
theorem CS(hC:Rx.bR l):(0<=(Rx.fF l bad good).1∧(Rx.fF l bad good).1<=33554432)∧0<=(Rx.fF l bad good).2∧(Rx.fF l bad good).2<=33554432:=by
 unfold Rx.fF
 split
 ·rename_i h
  have h3:=(Rx.qI h).2.2.2.2.2
  have h4:Rx.jg l bad good<2^32:=by
   have:=Zy (show 0<2 by omega) (Zz (Rx.cx hC) (show 24<=32 by decide))
   omega
  obtain⟨h5,h6⟩:=Rx.FU (l:=l) h3.1 h4
  obtain⟨x,_,e1⟩:=zn.1 h5
  obtain⟨y,_,e2⟩:=zn.1 h6
  have b1:=Rx.IZ hC x
  have b2:=Rx.IZ hC y
  rw[e1] at b1
  rw[e2] at b2
  exact⟨b1,b2⟩
 ·exact⟨by decide,by decide⟩
theorem TU(hC:Rx.bR l)(b:Int):Rx.gE l (Rx.bE l) b<=33554432:=by
 unfold Rx.gE
 split
 ·rename_i h
  have hb:b.toNat<24:=by
   exact PN
  have h1:=Rx.yl l b.toNat
  have h2:=Zy (show 0<2 by omega) (show b.toNat+1<=25 by omega)
  have h3:(2:Nat)^25=33554432:=by decide
  omega
 ·omega
end
theorem yt{b:bG}{set:Nat}{x:Int}(h:fD b set x=0):x<(b.ag.length:Int)∧set.testBit x.toNat=false:=by
 unfold fD at h
 split at h
 ·cases h
 ·rename_i h1
  split at h
  ·cases h
  ·rename_i h2
   exact⟨by omega,by simpa using h2⟩
theorem pH{a B:Int}(h1:0<=a∧a<B):∀ x∈[a],0<=x∧x<B:=fun x hx=>by
 rw[ZK.1 hx];exact h1
theorem IN{a b B:Int}(h1:0<=a∧a<B)(h2:0<=b∧b<B):∀ x∈[a,b],0<=x∧x<B:=fun x hx=>by
 rcases Zt.1 hx with rfl | hx
 ·exact h1
 ·rw[ZK.1 hx];exact h2
theorem DF{a b c B:Int}(h1:0<=a∧a<B)(h2:0<=b∧b<B)(h3:0<=c∧c<B):∀ x∈[a,b,c],0<=x∧x<B:=fun x hx=>by
 rcases Zt.1 hx with rfl | hx
 ·exact h1
 ·exact IN h2 h3 x hx
theorem gf(n:Nat):(fB n).length<=100:=Zz (KL n 24) (by decide)
theorem rH(n:Nat):∀ x∈fB n,0<=x∧x<10000000000000:=fun x hx=>by have:=TW n x hx;omega
theorem pI{p:Di.bB}{l:List Di.cO}{plan:List Int}{u:List Int}{n:Int}(h:Di.fR p l plan=(some u,n,0)):Di.dH p=true∧Di.kg l=true:=by
 unfold Di.fR at h
 split at h
 ·cases h
 ·rename_i h1
  split at h
  ·cases h
  ·rename_i h2
   exact⟨by simpa using h1,by simpa using h2⟩
theorem EA{p:Di.bB}{plan:List Int}:∀(l:List Di.cO) (i:Nat) (u v:List Int) (n:Int),i<=plan.length->Di.fM p plan i u l=(some v,n,0)->plan.length=i+l.length
 | [],i,u,v,n,hi,h=>by
  rw[Di.fM] at h
  split at h
  ·cases h
  ·simp;omega
 | w::l,i,u,v,n,hi,h=>by
  rw[Di.fM] at h
  split at h
  ·cases h
  ·rename_i h1
   split at h
   ·cases h
   ·split at h
    ·cases h
    ·have:=EA l (i+1) _ v n (by omega) h
     rw[Zn];omega
theorem ew{p:Di.bB}{l:List Di.cO}{plan:List Int}{u:List Int}{n:Int}(h:Di.fR p l plan=(some u,n,0)):plan.length=l.length:=by
 obtain⟨h1,h2⟩:=pI h
 rw[Di.gB h1 h2] at h
 have:=EA l 0 _ u n (Zl _) h
 omega
theorem yo{b:bG}{d:Int}(hv:∀ w∈b.aq,Di.wH w=false)(hp:b.plan.length=b.aq.length):∀ g,g<=b.plan.length->0<=ur b d g∧ur b d g<=1000*(g:Int)
 | 0,_=>⟨Cy _,by show(0:Int)<=1000*((0:Nat):Int);decide⟩
 | g+1,h=>by
  have h1:=yo (d:=d) hv hp g (by omega)
  have h2:=(Di.nA (hv _ (Di.bq Di.cO.d (show g<b.aq.length by omega)))).1
  rw[ur]
  split <;> omega
theorem CT{p:Di.bB}{j u:Int}:(0<=(Di.bT p j u).1.1∧(Di.bT p j u).1.1<=1820000000)∧0<=(Di.bT p j u).1.2∧(Di.bT p j u).1.2<=1820000000:=by
 unfold Di.bT
 split
 ·decide
 ·rename_i h1
  split
  ·decide
  ·rename_i h2
   have hv:Di.dH p=true:=by simpa using h1
   obtain⟨⟨n1,n4⟩,_,hsh,MM⟩:=Di.gY hv
   have h3:Di.iL j 0 ((p.dies.length:Int) - 1)=true∧Di.iL u 0 8000=true:=by simpa using h2
   obtain⟨j0,j1⟩:=Di.fH h3.1
   obtain⟨u0,u1⟩:=Di.fH h3.2
   obtain⟨w1,w2,w3,w4⟩:=Di.nT (MM _ (Di.bq Di.dY.d (show j.toNat<p.dies.length by omega)))
   obtain⟨_,_,e1,e2⟩:=Di.rK (a:=(Di.gt Di.dY.d p.dies j.toNat).wide) (b:=(Di.gt Di.dY.d p.dies j.toNat).lo) (u:=u) (s:=p.CH) w1 (by omega) (by omega) (by omega)
   obtain⟨_,_,e3,e4⟩:=Di.rK (a:=(Di.gt Di.dY.d p.dies j.toNat).wide) (b:=(Di.gt Di.dY.d p.dies j.toNat).hi) (u:=u) (s:=p.CV) w1 (by omega) (by omega) (by omega)
   have e1:0<=Di.thin p (Di.gt Di.dY.d p.dies j.toNat) u:=e1
   have e2:Di.thin p (Di.gt Di.dY.d p.dies j.toNat) u<=1820000000:=e2
   have e3:0<=Di.jN p (Di.gt Di.dY.d p.dies j.toNat) u:=e3
   have e4:Di.jN p (Di.gt Di.dY.d p.dies j.toNat) u<=1820000000:=e4
   show(0<=Di.thin p _ u / 1000∧Di.thin p _ u / 1000<=_)∧0<=(Di.jN p _ u+999) / 1000∧(Di.jN p _ u+999) / 1000<=_
   omega
theorem VH{α:Type}{f:α->List PV}{c:Nat}(hf:∀ x,(f x).length=c)(xs:List α)(k:Nat):((xs.flatMap f).drop (0*c)).take ((k - 0)*c)=(xs.take k).flatMap f:=by
 rw[Nat.zero_mul,UL,Nat.sub_zero]
 induction xs generalizing k with
 | nil=>simp
 | cons x xs ih=>
  cases k with
  | zero=>simp
  | succ k=>
   rw[ZJ,List.take_succ_cons,ZJ,Nat.succ_mul,UG,<- hf x,List.take_length_add_append,hf x,ih k]
theorem B7(s:Ck.Sk):Ck.iT [s] [bW 0 1]=Ck.dK [s]:=by
 unfold Ck.iT
 have:Ck.jo [s].length [bW 0 1]=true:=by
  show Ck.jo 1 [bW 0 1]=true
  decide
 rw[this,Bool.and_true]
theorem Km(l:List Ck.Sk)(b:List Ck.Tk):(shr l b).2=if Ck.iT l b=true then 0 else 1:=by
 unfold shr
 split <;> rfl
theorem Kt(l:List Ck.Sk)(b:List Ck.Tk):∀ n:Nat,0<=Ck.sQ l b n∧Ck.sQ l b n<=(n:Int)
 | 0=>by rw[Ck.sQ];exact⟨Cy _,Cy _⟩
 | n+1=>by
  have:=Kt l b n
  rw[Ck.sQ];split <;> omega
theorem Hi(l:List Ck.Sk)(b:List Ck.Tk):∀ n:Nat,0<=Ck.lJ l b n∧Ck.lJ l b n<=1000
 | 0=>by rw[Ck.lJ];exact⟨by decide,by decide⟩
 | n+1=>by
  have:=Hi l b n
  rw[Ck.lJ];split <;> omega
theorem Qc(l:List Ck.Sk)(b:List Ck.Tk):(0<=(shr l b).1.1∧(shr l b).1.1<10000000000000)∧0<=(shr l b).1.2∧(shr l b).1.2<10000000000000:=by
 unfold shr
 have h1:=Kt l b 1001
 have h2:=Hi l b 1001
 split
 ·show(0<=Ck.sQ l b 1001∧Ck.sQ l b 1001<_)∧0<=Ck.lJ l b 1001∧Ck.lJ l b 1001<_
  omega
 ·exact⟨by decide,by decide⟩
theorem HW{l:List Ck.Sk}{a b c d:Int}(h:(shr l [bW a b,bW c d]).2=0):(0<=a∧a<(l.length:Int))∧0<=c∧c<(l.length:Int):=by
 rw[Km] at h
 split at h
 ·rename_i hv
  unfold Ck.iT Ck.jo at hv
  simp only[Zo,List.any_cons,List.any_nil,Bool.or_false,D0,Vr] at hv
  obtain⟨_,_,h1,h2⟩:=hv
  unfold Ck.Tk.bad at h1 h2
  simp only[Vr,Bool.not_eq_false',Zo,Zs] at h1 h2
  have h1:(0<=a∧a<=(l.length:Int) - 1):=h1.1
  have h2:(0<=c∧c<=(l.length:Int) - 1):=h2.1
  omega
 ·cases h
theorem KN{l:List Rx.bM}{x:Rx.bM}{j:Nat}(h:j<l.length):Rx.bt (l++[x]) j=Rx.bt l j:=by
 unfold Rx.bt
 rw[Ze,Zc h,<- Ze]
theorem Uq(l:List Rx.bM)(x:Rx.bM):Rx.bt (l++[x]) l.length=x:=by
 unfold Rx.bt
 rw[Ze,Zk (Zg _),Ox];rfl
theorem Jp{l:List Rx.bM}{f s:Int}(h:Rx.bR l)(hl:l.length<24)(hf:0<=f∧f<=Rx.pw l.length - 1)(hs:0<=s∧s<=1048576):Rx.bR (l++[⟨f,s⟩]):=fun j hj=>by
 rw[Zb,Tb] at hj
 unfold Rx.AZ
 rcases ZT j l.length with h1 | h1
 ·rw[KN h1]
  exact h j h1
 ·obtain rfl:j=l.length:=by omega
  rw[Uq]
  exact⟨hl,hf,hs⟩
theorem Ct{l:List Ck.Sk}{x:Ck.Sk}(h:Ck.dK l=true)(hl:l.length<8)(hx:Ck.dK [x]=true):Ck.dK (l++[x])=true:=by
 unfold Ck.dK at*
 simp only[Zo,Zs,D0,List.any_append,Vr] at*
 refine⟨by rw[Zb];show((_+1:Nat):Int)<=8;omega,h.2,hx.2⟩
theorem rS{a x:Nat}(h:a.testBit x=false):a+2^x=a||| 2^x:=by
 have e1:a / 2^x*2^x+a%2^x=a:=Nat.div_add_mod' a (2^x)
 have ha:=Nat.mod_lt a (MU x)
 have hb:(a / 2^x).testBit 0=false:=by rw[Nat.testBit_div_two_pow];simpa using h
 have hb:a / 2^x%2=0:=by rw[Ya] at hb;simp at hb;omega
 apply GD
 intro i
 have e2:a+2^x=2^x*(a / 2^x+1)+a%2^x:=by rw[Nat.mul_add,Gv,Nat.mul_comm];omega
 have e3:a=2^x*(a / 2^x)+a%2^x:=by rw[Nat.mul_comm];omega
 rw[e2,TK _ ha,LY,JQ]
 conv=>rhs;rw[e3,TK _ ha]
 by_cases hi:i<x
 ·rw[if_pos hi,if_pos hi,decide_eq_false (by omega),Bool.or_false]
 ·rw[if_neg hi,if_neg hi]
  by_cases hx:x=i
  ·subst hx
   rw[Ox,Ya,Ya,decide_eq_true rfl,Bool.or_true]
   simp;omega
  ·rw[decide_eq_false hx,Bool.or_false]
   obtain⟨k,hk⟩:∃ k,i - x=k+1:=⟨i - x - 1,by omega⟩
   rw[hk,Nat.testBit_succ,Nat.testBit_succ]
   congr 1
   omega
theorem yK{a n:Nat}{x:Int}(h:a<2^n)(hx:a.testBit x.toNat=false)(h0:0<=x)(hn:x<(n:Int)):a+pow2 x<2^n:=by
 unfold pow2
 rw[rS hx]
 exact My h (Q3 (by omega) (by omega))
theorem HX{a b:Int}{n:Nat}(ha:0<=a∧a<(n:Int))(hb:0<=b∧b<(n:Int)):0<=both a b∧both a b<=Rx.pw n - 1:=by
 unfold both Rx.pw pow2
 have pa:=MU a.toNat
 have pb:=MU b.toNat
 have ka:=Q3 (show 1<2 by omega) (show a.toNat<n by omega)
 have kb:=Q3 (show 1<2 by omega) (show b.toNat<n by omega)
 split
 ·omega
 ·rename_i hne
  have:(2^a.toNat).testBit b.toNat=false:=by rw[JQ];exact decide_eq_false (by omega)
  have h3:=My (Q3 (show 1<2 by omega) (show a.toNat<n by omega)) (Q3 (show 1<2 by omega) (show b.toNat<n by omega))
  rw[<- rS this] at h3
  omega
theorem Hg{p:Di.bB}{plan:List Int}:∀(l:List Di.cO) (i:Nat) (u:List Int),(Di.fM p plan i u l).2.2=0->∃ v,Di.fM p plan i u l=(some v,((i+l.length:Nat):Int),0)
 | [],i,u,h=>by
  rw[Di.fM] at h ⊢
  split at h
  ·cases h
  ·rename_i h1;rw[if_neg h1];exact⟨u,rfl⟩
 | w::l,i,u,h=>by
  rw[Di.fM] at h ⊢
  split at h
  ·cases h
  ·rename_i h1
   split at h
   ·cases h
   ·rename_i h2
    split at h
    ·cases h
    ·rename_i h3
     rw[if_neg h1,if_neg h2,if_neg h3]
     obtain⟨v,hv⟩:=Hg l (i+1) _ h
     refine⟨v,?_⟩
     rw[hv,Zn]
     congr 2
     omega
theorem MI{p:Di.bB}{l:List Di.cO}{plan:List Int}(h:(Di.fR p l plan).2.2=0):(∃ u,Di.fR p l plan=(some u,(l.length:Int),0))∧l.length<=8:=by
 have h0:=h
 unfold Di.fR at h
 split at h
 ·cases h
 ·rename_i h1
  split at h
  ·cases h
  ·rename_i h2
   have h1:Di.dH p=true:=by simpa using h1
   have h2:Di.kg l=true:=by simpa using h2
   obtain⟨v,hv⟩:=Hg l 0 _ h
   rw[Di.gB h1 h2,hv,zq]
   exact⟨⟨v,rfl⟩,(Di.jy h2).1⟩
theorem sS{p:Di.bB}{b:bG}{f s:Int}(h:UJ p b)(hl:¬ 24<=b.ag.length)(hf:0<=f∧f<=Rx.pw b.ag.length - 1)(hs:0<=s∧s<=1048576):UJ p (b.dZ ⟨f,s⟩):=by
 have e:(b.dZ ⟨f,s⟩).ag.length=b.ag.length+1:=by show(b.ag++[_]).length=_;rw[Zb];rfl
 have h2:2^b.ag.length<2^(b.ag.length+1):=Q3 (by omega) (by omega)
 have h3:=h.bad
 have h4:=h.good
 refine⟨h.sk,h.Xf,Jp h.cd (by omega) hf hs,h.dr,h.Dd,?_,?_,h.ck,fun c hc=> ?_⟩
 ·rw[e];show b.bad<_;omega
 ·rw[e];show b.good<_;omega
 ·have:=h.Mm c hc
  rw[e];omega
theorem U8(n:Nat):(0:Int)<=0∧(0:Int)<=Rx.pw n - 1:=by
 unfold Rx.pw
 have:=MU n
 omega
theorem VQ{F:cK}{v:Vb}{n:List Int}(hF:mo F)(hl:n.length=v.many)(hn:∀ x∈n,0<=x∧x<10000000000000):mo (br F v n).1:=by
 have hb:=hF.b
 have hlen:=Rx.cx hb.cd
 have nth:∀ k,k<n.length->0<=nn n k∧nn n k<10000000000000:=fun k hk=>hn _ (Di.bq 0 hk)
 have stay:∀ b,UJ F.aP b->mo {F with b:=b}:=fun b h=>⟨hF.p,h,hF.mm,hF.W5⟩
 cases v
 case oS=>
  unfold br;dsimp only
  split
  ·exact hF
  ·rename_i h1
   split
   ·exact hF
   ·rename_i h2
    refine stay _ ?_
    have hx:Ck.dK [iu n]=true:=by
     have h3:=Km [iu n] [bW 0 1]
     rw[B7] at h3
     rw[h3] at h2
     by_cases hh:Ck.dK [iu n]=true
     ·exact hh
     ·rw[if_neg hh] at h2;exact absurd (by decide) h2
    have hc:=sS (f:=0) (s:=0) hb (by omega) (U8 _) (by decide)
    refine⟨?_,Ct hb.Xf (by omega) hx,hc.cd,hc.dr,hc.Dd,hc.bad,hc.good,?_,fun c hm=> ?_⟩
    ·show(F.b.au++[iu n]).length<=8
     rw[Zb];show _+1<=8;omega
    ·show(_++_:List Int).length=(_++_:List Ck.Sk).length
     rw[Zb,Zb,hb.ck];rfl
    ·have e:(F.b.dZ ⟨0,0⟩).ag.length=F.b.ag.length+1:=by show(F.b.ag++[_]).length=_;rw[Zb];rfl
     show 0<=c∧c<((F.b.dZ ⟨0,0⟩).ag.length:Int)
     rw[e]
     rcases Zp.1 hm with h | h
     ·have:=hb.Mm c h;omega
     ·rw[ZK.1 h];omega
 case slat=>
  unfold br;dsimp only
  split
  ·exact hF
  ·rename_i h1
   exact stay _ (sS hb h1 (U8 _) (by decide))
 case lead=>
  unfold br;dsimp only
  split
  ·exact hF
  ·rename_i h1
   split
   ·exact hF
   ·rename_i h2
    split
    ·exact hF
    ·rename_i h3
     split
     ·exact hF
     ·rename_i h4
      obtain⟨⟨i1,i2⟩,i3,i4⟩:=HW (UO.1 h2)
      have YR:=hb.ck
      have ck1:=hb.Mm _ (Di.bq 0 (show(nn n 0).toNat<F.b.b6.length by omega))
      have ck2:=hb.Mm _ (Di.bq 0 (show(nn n 2).toNat<F.b.b6.length by omega))
      have hc:=sS (s:=0) hb h1 (HX ck1 ck2) (by decide)
      obtain⟨hf,Yc⟩:=MI (UO.1 h4)
      exact stay _ ⟨hc.sk,hc.Xf,hc.cd,Yc,hf,hc.bad,hc.good,hc.ck,hc.Mm⟩
 case pencil=>
  have q0:=nth 0 (by rw[hl];decide)
  have q1:=nth 1 (by rw[hl];decide)
  have q2:=nth 2 (by rw[hl];decide)
  unfold br;dsimp only
  split
  ·exact hF
  ·rename_i h1
   split
   ·exact hF
   ·rename_i h2
    split
    ·exact hF
    ·rename_i h3
     exact stay _ (sS hb h1 (HX (by omega) (by omega)) (by omega))
 case bad=>
  have q0:=nth 0 (by rw[hl];decide)
  unfold br;dsimp only
  split
  ·exact hF
  ·rename_i h1
   split
   ·exact hF
   ·obtain⟨c1,c2⟩:=yt (UO.1 h1)
    exact stay _ ⟨hb.sk,hb.Xf,hb.cd,hb.dr,hb.Dd,yK hb.bad c2 q0.1 c1,hb.good,hb.ck,hb.Mm⟩
 case good=>
  have q0:=nth 0 (by rw[hl];decide)
  unfold br;dsimp only
  split
  ·exact hF
  ·rename_i h1
   split
   ·exact hF
   ·obtain⟨c1,c2⟩:=yt (UO.1 h1)
    exact stay _ ⟨hb.sk,hb.Xf,hb.cd,hb.dr,hb.Dd,hb.bad,yK hb.good c2 q0.1 c1,hb.ck,hb.Mm⟩
 case blame=>
  unfold br;dsimp only
  split <;> exact hF
 case call=>
  unfold br;dsimp only
  split <;> exact hF
 case from_=>
  unfold br;dsimp only
  split <;> exact hF
 case wear=>
  unfold br;dsimp only
  split <;> exact hF
 case mark=>
  unfold br;dsimp only
  split
  ·exact hF
  ·rename_i h1
   refine⟨hF.p,hF.b,?_,fun x hx=> ?_⟩
   ·show(_++_:List bG).length<=8
    rw[Zb];show _+1<=8;omega
   ·rcases Zp.1 hx with h | h
    ·exact hF.W5 x h
    ·rw[ZK.1 h];exact hF.b
 case back=>
  unfold br;dsimp only
  cases hm:F.marks.getLast? with
  | none=>exact hF
  | some x=>
   have hx:x∈F.marks:=List.mem_of_getLast? hm
   refine⟨hF.p,hF.W5 x hx,?_,fun y hy=>hF.W5 y (YF _ hy)⟩
   show F.marks.dropLast.length<=8
   rw[List.length_dropLast];have:=hF.mm;omega
 case keep=>
  unfold br;dsimp only
  cases hm:F.marks.getLast? with
  | none=>exact hF
  | some x=>
   refine⟨hF.p,hF.b,?_,fun y hy=>hF.W5 y (YF _ hy)⟩
   show F.marks.dropLast.length<=8
   rw[List.length_dropLast];have:=hF.mm;omega
theorem qw{s:Bs}{v:Vb}{n:List Int}(h:cB s=some (v,n)):n.length=v.many∧∀ x∈n,0<=x∧x<10000000000000:=by
 obtain⟨h1,h2⟩:=HE s
 cases hb:Lg (cj s) ((cj s).length - 1) with
 | false=>rw[h2 hb] at h;cases h
 | true=>
  obtain⟨v',_,hl,he⟩:=h1 hb
  rw[he] at h
  cases h
  refine⟨hl,fun x hx=> ?_⟩
  unfold BX at hx
  obtain⟨y,_,rfl⟩:=zn.1 hx
  exact Wf y
theorem Oc{F:cK}{s:Bs}(hF:mo F):mo (aG F s).1:=by
 unfold aG
 split
 ·exact hF
 ·split
  ·exact hF
  ·rename_i v n h
   obtain⟨hl,hn⟩:=qw h
   exact VQ hF hl hn
theorem oN{p:Di.bB}(h:Di.dH p=true):mo (newF p):=by
 refine⟨h,⟨Zl _,rfl,fun j hj=>absurd hj (Nat.not_lt_zero j),Zl _,?_,by show 0<1;decide,by show 0<1;decide,rfl,fun c hc=>by cases hc⟩,Zl _,fun x hx=>by cases hx⟩
 refine⟨List.replicate p.dies.length 0,?_⟩
 show Di.fR p [] []=_
 rw[Di.gB h (by decide)]
 rfl
theorem RM(v:Vb):v.t.length<=6:=by cases v <;> decide
theorem Vg(l:List Rx.bM)(s:List Int):0<=Rx.iR l s∧Rx.iR l s<=2:=by
 unfold Rx.iR
 split
 ·split <;> decide
 ·decide
theorem WB(l:List Rx.bM)(a b:Int):0<=Rx.fW l a b∧Rx.fW l a b<=6:=by
 unfold Rx.fW
 split
 ·have:=Vg l [a,b];omega
 ·split
  ·decide
  ·split <;> decide
theorem R5(l:List Rx.bM)(b:Int):0<=Rx.dV l b∧Rx.dV l b<=6:=by
 unfold Rx.dV
 split
 ·split <;> decide
 ·decide
theorem G3(b:bG)(s:Nat)(x:Int):0<=fD b s x∧fD b s x<=6:=by
 unfold fD
 split
 ·decide
 ·split <;> decide
theorem QJ(l:List Ck.Sk)(b:List Ck.Tk):0<=(shr l b).2∧(shr l b).2<=1:=by
 rw[Km]
 split <;> decide
theorem K5{p:Di.bB}{plan:List Int}:∀(l:List Di.cO) (i:Nat) (u:List Int),0<=(Di.fM p plan i u l).2.2∧(Di.fM p plan i u l).2.2<=11
 | [],i,u=>by
  rw[Di.fM]
  split <;> (dsimp only;omega)
 | w::l,i,u=>by
  rw[Di.fM]
  split
  ·dsimp only;omega
  ·split
   ·dsimp only;omega
   ·split
    ·dsimp only;omega
    ·exact K5 l _ _
theorem VR(p:Di.bB)(l:List Di.cO)(plan:List Int):0<=(Di.fR p l plan).2.2∧(Di.fR p l plan).2.2<=11:=by
 unfold Di.fR
 split
 ·decide
 ·split
  ·decide
  ·exact K5 _ _ _
def Yh(x:cK×Bs×Int):Prop:=x.2.1.length<=3000∧0<=x.2.2∧x.2.2<=15
theorem jt{F:cK}{e:Int}(h:0<=e∧e<=15):Yh (F,[],e):=⟨Zl _,h⟩
theorem iY{F:cK}{w:Bs}{l:List Int}(hw:w.length<=100)(hl:l.length<=102)(h:∀ n∈l,0<=n∧n<10000000000000):Yh (F,aS w l,0):=by
 have:=iH (w:=w) h
 exact⟨by show(aS w l).length<=3000;omega,(by decide:(0:Int)<=0∧(0:Int)<=15)⟩
theorem ok_two{F:cK}{w v:Bs}{l m:List Int}(hw:w.length<=100)(hv:v.length<=100)(hl:l.length<=80)(hm:m.length<=80)(h1:∀ n∈l,0<=n∧n<10000000000000)(h2:∀ n∈m,0<=n∧n<10000000000000):Yh (F,aS w l++32::aS v m,0):=by
 have a:=iH (w:=w) h1
 have b:=iH (w:=v) h2
 refine⟨?_,(by decide:(0:Int)<=0∧(0:Int)<=15)⟩
 show(aS w l++32::aS v m).length<=3000
 rw[Zb,Zn];omega
theorem Wd{F:cK}{v:Vb}{n:List Int}(hF:mo F)(hl:n.length=v.many)(hn:∀ x∈n,0<=x∧x<10000000000000):Yh (br F v n):=by
 have hb:=hF.b
 have hlen:=Rx.cx hb.cd
 have hsk:=hb.sk
 have N8:=hF.mm
 have vl:=RM v
 cases v
 case oS=>
  unfold br;dsimp only
  split
  ·exact oq
  ·split
   ·exact jt (by have:=QJ [iu n] [bW 0 1];omega)
   ·exact ok_two (by omega) (by decide) (by show 1<=80;decide) (by show 1<=80;decide) (pH (by omega)) (pH (by omega))
 case slat=>
  unfold br;dsimp only
  split
  ·exact oq
  ·exact iY (by decide) (by show 1<=102;decide) (pH (by omega))
 case lead=>
  unfold br;dsimp only
  split
  ·exact oq
  ·split
   ·exact jt (by have:=QJ F.b.au [bW (nn n 0) (nn n 1),bW (nn n 2) (nn n 3)];omega)
   ·split
    ·exact oq
    ·split
     ·exact jt (by have:=VR F.aP (F.b.aq++[⟨nn n 5,nn n 6,nn n 7⟩]) (F.b.plan++[nn n 4]);omega)
     ·obtain⟨sb1,sb2⟩:=Qc F.b.au [bW (nn n 0) (nn n 1),bW (nn n 2) (nn n 3)]
      exact ok_two (by decide) (by decide) (by show 1<=80;decide) (by show 2<=80;decide) (pH (by omega)) (IN sb1 sb2)
 case pencil=>
  unfold br;dsimp only
  split
  ·exact oq
  ·split
   ·exact oq
   ·split
    ·exact oq
    ·exact iY (by decide) (by show 1<=102;decide) (pH (by omega))
 case bad=>
  unfold br;dsimp only
  split
  ·exact jt (by have:=G3 F.b F.b.bad (nn n 0);omega)
  ·split
   ·exact oq
   ·have:=gf (F.b.bad+pow2 (nn n 0))
    exact O6
 case good=>
  unfold br;dsimp only
  split
  ·exact jt (by have:=G3 F.b F.b.good (nn n 0);omega)
  ·split
   ·exact oq
   ·have:=gf (F.b.good+pow2 (nn n 0))
    exact O6
 case blame=>
  unfold br;dsimp only
  split
  ·exact jt (by have:=WB F.b.ag F.b.bad F.b.good;omega)
  ·exact iY (by omega) (Zz (gf _) (by decide)) (rH _)
 case call=>
  unfold br;dsimp only
  split
  ·exact jt (by have:=WB F.b.ag F.b.bad F.b.good;omega)
  ·obtain⟨⟨s1,s2⟩,s3,s4⟩:=CS (bad:=F.b.bad) (good:=F.b.good) hb.cd
   refine iY (by omega) ?_ ?_
   ·have:=gf (Rx.lf F.b.ag F.b.bad F.b.good)
    rw[Zn,Zn];omega
   ·intro x hx
    rcases Zt.1 hx with rfl | hx
    ·omega
    ·rcases Zt.1 hx with rfl | hx
     ·omega
     ·exact rH _ x hx
 case from_=>
  unfold br;dsimp only
  split
  ·exact jt (by have:=R5 F.b.ag (nn n 0);omega)
  ·exact iY (by omega) (Zz (gf _) (by decide)) (rH _)
 case wear=>
  unfold br;dsimp only
  split
  ·exact oq
  ·obtain⟨uu,hfo⟩:=hb.Dd
   obtain⟨_,MM⟩:=Di.jy (pI hfo).2
   have hpl:=ew hfo
   have hu:=yo (d:=nn n 0) MM hpl F.b.plan.length (Zg _)
   have hu:0<=dU F.b (nn n 0)∧dU F.b (nn n 0)<=1000*(F.b.plan.length:Int):=hu
   have Yc:=hb.dr
   obtain⟨⟨x1,x2⟩,x3,x4⟩:=CT (p:=F.aP) (j:=nn n 0) (u:=dU F.b (nn n 0))
   exact iY (by omega) (by show 3<=102;decide) (DF (by omega) (by omega) (by omega))
 case mark=>
  unfold br;dsimp only
  split
  ·exact oq
  ·exact O6
 case back=>
  unfold br;dsimp only
  cases hm:F.marks.getLast? with
  | none=>exact jt (by decide)
  | some x=>
   have hx:F.marks≠[]:=fun e=>by rw[e] at hm;cases hm
   have:=List.length_pos_iff.2 hx
   exact iY (by omega) (by show 1<=102;decide) (pH (by omega))
 case keep=>
  unfold br;dsimp only
  cases hm:F.marks.getLast? with
  | none=>exact jt (by decide)
  | some x=>
   have hx:F.marks≠[]:=fun e=>by rw[e] at hm;cases hm
   have:=List.length_pos_iff.2 hx
   exact iY (by omega) (by show 1<=102;decide) (pH (by omega))
theorem yH{F:cK}{s:Bs}(hF:mo F):Yh (aG F s):=by
 unfold aG
 split
 ·exact oq
 ·split
  ·exact oq
  ·rename_i v n h
   obtain⟨hl,hn⟩:=qw h
   exact Wd hF hl hn
def cu(F:cK)(L:List Bs):Nat->cK
 | 0=>F
 | g+1=>(aG (cu F L g) (Di.gt [] L g)).1
def jE(F:cK)(L:List Bs):Nat->Bs
 | 0=>[]
 | g+1=>jE F L g++vr (aG (cu F L g) (Di.gt [] L g)).2.1 (aG (cu F L g) (Di.gt [] L g)).2.2
def ug(F:cK):List Bs->cK
 | []=>F
 | l::ls=>ug (aG F l).1 ls
theorem tV(F:cK):∀(a b:List Bs),kV F (a++b)=kV F a++kV (ug F a) b
 | [],b=>rfl
 | l::a,b=>by
  show _++kV _ (a++b)=(_++_)++_
  rw[tV _ a b,ZL]
  rfl
theorem x9(F:cK):∀(a b:List Bs),ug F (a++b)=ug (ug F a) b
 | [],b=>rfl
 | l::a,b=>x9 _ a b
theorem yX{L:List Bs}{g:Nat}(h:g<L.length):L.take (g+1)=L.take g++[Di.gt [] L g]:=by
 rw[OY h,Di.aC [] g h]
theorem Ar(F:cK)(L:List Bs):∀ g,g<=L.length->cu F L g=ug F (L.take g)
 | 0,_=>rfl
 | g+1,h=>by
  rw[yX h,x9,<- Ar F L g (by omega)]
  rfl
theorem nX(F:cK)(L:List Bs):∀ g,g<=L.length->jE F L g=kV F (L.take g)
 | 0,_=>by rw[LN];rfl
 | g+1,h=>by
  rw[yX h,tV,<- nX F L g (by omega),<- Ar F L g (by omega)]
  show _++_=_++(_++[])
  rw[ZR]
theorem cY{F:cK}{L:List Bs}(hF:mo F):∀ g,mo (cu F L g)
 | 0=>hF
 | g+1=>Oc (cY hF g)
theorem NS{e:Int}(h:0<=e∧e<=15):(aS Br [e]).length<=19:=by
 have:=iH (w:=Br) (l:=[e]) (pH (by omega))
 have h2:Br.length=5:=rfl
 have h3:[e].length=1:=rfl
 omega
theorem o8{r:Bs}{e:Int}(h:r.length<=3000∧0<=e∧e<=15):(vr r e).length<=3001:=by
 unfold vr
 rw[Zb]
 split
 ·show _+1<=_;omega
 ·have:=NS h.2;show _+1<=_;omega
theorem nB{F:cK}{L:List Bs}(hF:mo F):∀ g,(jE F L g).length<=3001*g
 | 0=>Zg _
 | g+1=>by
  have:=nB (L:=L) hF g
  have h2:=o8 (yH (s:=Di.gt [] L g) (cY (L:=L) hF g))
  rw[jE,Zb];omega
theorem zk{p t:Bs}{c:UInt8}:∀(x:Bs),(∀ b∈x,b≠c)->Lib.index (x++(c::p)++t) (c::p)=x.length
 | [],_=>by
  show Lib.index (c::(p++t)) (c::p)=_
  unfold Lib.index
  rw[if_pos (by rw[YG];exact⟨t,rfl⟩)];rfl
 | b::x,h=>by
  have ih:=zk (p:=p) (t:=t) x (fun b hb=>h b (Zj _ hb))
  show Lib.index (b::(x++(c::p)++t)) (c::p)=_
  unfold Lib.index
  rw[if_neg (by rw[YG];rintro⟨u,hu⟩;injection hu with h1 h2;exact h b (Zr ..) h1.symm),ih,if_neg (by simp)]
  simp
theorem G5{p:Bs}{c:UInt8}:∀(x:Bs),(∀ b∈x,b≠c)->Lib.index x (c::p)= -1
 | [],_=>rfl
 | b::x,h=>by
  unfold Lib.index
  rw[if_neg (by rw[YG];rintro⟨u,hu⟩;injection hu with h1 h2;exact h b (Zr ..) h1.symm),G5 x (fun b hb=>h b (Zj _ hb)),if_pos (by decide)]
def LW(c:UInt8)(x:Bs):Prop:=∀ b∈x,b≠c
def c4(c:UInt8):List Bs->Bs
 | []=>[]
 | w::r=>w++r.flatMap fun x=>c::x
theorem mE(c:UInt8)(w y:Bs)(r:List Bs):c4 c (w::y::r)=w++[c]++c4 c (y::r):=by simp[c4]
theorem De{c:UInt8}:∀(r:List Bs) (w:Bs),LW c w->(∀ x∈r,LW c x)->Lib.splitK [c] 0 r.length (c4 c (w::r))=w::r
 | [],w,_,_=>by
  show[w++[]]=_
  rw[ZR]
 | y::r,w,hw,h=>by
  have hi:Lib.index (w++[c]++c4 c (y::r)) [c]=w.length:=zk w hw
  rw[Zn,Lib.splitK,mE,hi,if_neg (by simp),show((w.length:Nat):Int).toNat=w.length from rfl,Gy,ZL,List.take_left,<- ZL,show w.length+[c].length=(w++[c]).length by rw[Zb],List.drop_left,De r y (h y (Zr ..)) fun x hx=>h x (Zj _ hx)]
theorem DV{c:UInt8}:∀(r:List Bs) (w:Bs),LW c w->(∀ x∈r,LW c x)->Lib.count (c4 c (w::r)) [c]=r.length
 | [],w,hw,_=>by
  show Lib.count (w++[]) _=_
  rw[ZR]
  exact Lib.count_miss (G5 w hw)
 | y::r,w,hw,h=>by
  have hi:Lib.index (w++[c]++c4 c (y::r)) [c]=w.length:=zk w hw
  rw[mE,Lib.count_hit (List.cons_ne_nil _ _) hi,show w.length+[c].length=(w++[c]).length by rw[Zb],List.drop_left,DV r y (h y (Zr ..)) (fun x hx=>h x (Zj _ hx)),Zn]
  omega
theorem eg(x:Bs):(sB x).data.toList=x:=by unfold sB;simp
theorem VA(y:ByteArray):y=sB y.data.toList:=by unfold sB;simp
theorem IA{c:UInt8}(ws:List Bs)(h0:0<ws.length)(h:∀ x∈ws,LW c x):Lib.splitB (sB [c]) 0 (ws.length - 1) (sB (c4 c ws))=ws.map sB:=by
 cases ws with
 | nil=>cases h0
 | cons w r=>
  have e1:=Lib.splitB_data (sB [c]) 0 r.length (sB (c4 c (w::r)))
  rw[eg,eg,De r w (h w (Zr ..)) fun x hx=>h x (Zj _ hx)] at e1
  have e2:∀ L:List ByteArray,L=(L.map fun x=>x.data.toList).map sB:=fun L=>by
   rw[Ob]
   conv=>lhs;rw[<- List.map_id L]
   exact UW fun y _=>VA y
  rw[Zn,Nat.add_sub_cancel,e2 (Lib.splitB _ _ _ _)]
  exact congrArg (List.map sB) e1
theorem J6{c:UInt8}(ws:List Bs)(h0:0<ws.length)(h:∀ x∈ws,LW c x):Lib.countB (sB (c4 c ws)) (sB [c])=ws.length - 1:=by
 cases ws with
 | nil=>cases h0
 | cons w r=>
  show Lib.count (sB _).data.toList (sB _).data.toList=_
  rw[eg,eg,DV r w (h w (Zr ..)) fun x hx=>h x (Zj _ hx)]
  rfl
theorem Bd{c:UInt8}:∀(ws:List Bs),ws.length<=(c4 c ws).length+1
 | []=>Zl _
 | [w]=>by simp
 | w::y::r=>by
  have:=Bd (c:=c) (y::r)
  rw[mE]
  simp only[Zb,Zn] at this ⊢
  omega
theorem Ts(c:UInt8)(s cur:Bs):∃ w r,dG c cur s=w::r:=by
 have:=(ja c s cur).1
 cases h:dG c cur s with
 | nil=>rw[h] at this;cases this
 | cons w r=>exact⟨w,r,rfl⟩
theorem tN(c:UInt8):∀(s cur:Bs),c4 c (dG c cur s)=cur++s
 | [],cur=>by rw[dG];simp[c4]
 | b::s,cur=>by
  rw[dG]
  split
  ·rename_i h
   obtain⟨w,r,e⟩:=Ts c s []
   have ih:=tN c s []
   rw[e] at ih ⊢
   rw[mE,ih,h]
   simp
  ·rw[tN c s (cur++[b])];simp
theorem yW(c:UInt8):∀(s cur:Bs),LW c cur->∀ x∈dG c cur s,LW c x
 | [],cur,h,x,hx=>by
  rw[dG,ZK] at hx
  rw[hx];exact h
 | b::s,cur,h,x,hx=>by
  rw[dG] at hx
  split at hx
  ·rcases Zt.1 hx with rfl | hx
   ·exact h
   ·exact yW c s [] (fun y hy=>by cases hy) x hx
  ·rename_i hb
   refine yW c s _ (fun y hy=> ?_) x hx
   rcases Zp.1 hy with h1 | h1
   ·exact h y h1
   ·rw[ZK.1 h1];exact hb
inductive iM where
 | str (w:Bs)
 | num (k:Int)
 | BY (l:List Int)
def iM.w:iM->List Bs
 | .str w=>[w]
 | .num k=>[Lib.itoa k]
 | .BY l=>l.map Lib.itoa
def iM.L1:iM->Bool
 | .str _=>true
 | _=>false
def iM.Z1:iM->Bool
 | .num _=>true
 | _=>false
def iM.YC:iM->Bool
 | .BY _=>true
 | _=>false
def iM.sV:iM->Bs
 | .str w=>w
 | _=>[]
def iM.nV:iM->Int
 | .num k=>k
 | _=>0
def iM.lV:iM->PV
 | .BY l=>Di.bI l
 | _=> .nilSlice
def iM.ok:iM->Prop
 | .str w=>w.length<=100
 | .num k=>0<=k∧k<10000000000000
 | .BY l=>l.length<=100∧∀ k∈l,0<=k∧k<10000000000000
def jq(l:List iM):List Bs:=l.flatMap iM.w
theorem zl{l:List iM}{k:Nat}(h:k<l.length):jq (l.take (k+1))=jq (l.take k)++(Di.gt (.str []) l k).w:=by
 unfold jq
 rw[OY h,FQ,Di.aC (.str []) k h]
 simp
theorem DI:∀{l:List iM},(∀ p∈l,p.ok)->(jq l).length<=100*l.length
 | [],_=>Zl _
 | p::l,h=>by
  have ih:=DI (l:=l) fun q hq=>h q (Zj _ hq)
  have hp:=h p (Zr ..)
  unfold jq at ih ⊢
  rw[ZJ,Zb,Zn]
  have:p.w.length<=100:=by
   cases p with
   | str w=>show 1<=100;decide
   | num k=>show 1<=100;decide
   | BY l=>show(l.map Lib.itoa).length<=100;rw[Zq];exact hp.1
  omega
theorem G0(l:List iM)(k:Nat):(jq (l.take k)).length<=(jq l).length:=by
 unfold jq
 conv=>rhs;rw[<- UB k l,FQ,Zb]
 omega
theorem U2{l:List iM}(h:∀ p∈l,p.ok):∀ x∈jq l,x.length<=100:=fun x hx=>by
 obtain⟨p,hp,hx⟩:=List.mem_flatMap.1 hx
 have hk:=h p hp
 cases p with
 | str w=>rw[ZK.1 hx];exact hk
 | num k=>
  rw[ZK.1 hx]
  have:=vh hk.1 hk.2;omega
 | BY l=>
  obtain⟨k,hm,rfl⟩:=zn.1 hx
  have:=vh (hk.2 k hm).1 (hk.2 k hm).2;omega
theorem I8{c:UInt8}:∀(ws:List Bs),(∀ x∈ws,x.length<=100)->(c4 c ws).length<=101*ws.length
 | [],_=>Zl _
 | [w],h=>by
  have:=h w (Zr ..)
  simp[c4];omega
 | w::y::r,h=>by
  have ih:=I8 (c:=c) (y::r) fun x hx=>h x (Zj _ hx)
  have:=h w (Zr ..)
  rw[mE]
  simp only[Zb,Zn,Gu] at ih ⊢
  omega
theorem fm(w:Bs)(l:List Int):aS w l=c4 32 (w::l.map Lib.itoa):=by
 show _=w++(l.map Lib.itoa).flatMap fun x=>32::x
 rw[List.flatMap_map]
 rfl
theorem It(ws:List Bs)(sep:UInt8):Lib.join ws [sep]=c4 sep ws:=by
 cases ws with
 | nil=>rfl
 | cons w r=>
  rw[Lib.join_cons]
  show w++(r.map ([sep]++ ·)).flatten=w++r.flatMap fun x=>sep::x
  rw[List.flatMap_def]
  rfl
theorem CL(k m:Nat)(h:2^k*(2*m+1)<2^64):2^k*(2*m+1)&&& (2^64 - 2^k*(2*m+1))=2^k:=by
 have hp:=MU k
 have h1:1<=2^k*(2*m+1):=Nat.mul_pos hp (by omega)
 have hk:k<64:=by
  rcases ZT k 64 with h2 | h2
  ·exact h2
  ·exact O0
 apply GD
 intro i
 have e:2^64 - 2^k*(2*m+1)=2^64 - ((2^k*(2*m+1) - 1)+1):=by omega
 rw[e,Gw,Nat.testBit_two_pow_sub_succ (by omega),Rx.sW,Rx.tA,JQ]
 by_cases h2:i<k
 ·simp[show ¬ k<=i by omega,show ¬ k=i by omega]
 ·exact aaa
theorem V0{x k:Nat}(h0:x≠0)(h:x<2^32)(hk:x&&& (2^32 - x)=2^k):x&&& (2^64 - x)=2^k:=by
 obtain⟨j,m,e⟩:=Rx.HK x h0
 rw[e] at hk h ⊢
 rw[Rx.BG j m h] at hk
 rw[CL j m (Nat.lt_trans h (by decide)),hk]
def Bq:List Int:=[0,1,56,2,57,49,28,3,61,58,42,50,38,29,17,4,62,47,59,36,45,43,51,22,53,39,33,30,24,18,12,5,63,55,48,27,60,41,37,16,46,35,44,21,52,32,23,11,54,26,40,15,34,20,31,10,25,14,19,9,13,8,7,6]
theorem K0:∀ k:Nat,k<64->Bq[2^k*285870213051353865%18446744073709551616 / 2^58]? =some (k:Int):=by decide
theorem C8(n:Int):IntKind.u64.wrap n=n%18446744073709551616:=by simp[IntKind.wrap,IntKind.bits,IntKind.signed]
theorem S2{n:Nat}(h:0<n)(h2:n<2^32):IntKind.u64.wrap (0 - (n:Int))=((2^64 - n:Nat):Int):=by
 rw[C8]
 omega
theorem S5(k:Nat):IntKind.u64.wrap (((2^k:Nat):Int)*285870213051353865)=((2^k*285870213051353865%18446744073709551616:Nat):Int):=by
 rw[C8]
 omega
def bl(n p:Nat):List Int:=(Rx.aM n p).map fun(i:Nat)=>(i:Int)
theorem Un(n p:Nat):(bl n p).length<=p:=by
 unfold bl Rx.aM
 exact Wt
def byC(b:UInt8):List PV:=[.int .u8 b.toNat]
theorem ED:∀ s:Bs,bP s=s.flatMap byC
 | []=>rfl
 | b::s=>by
  show PV.int .u8 b.toNat::bP s=_
  rw[ZJ,<- ED s]
  rfl
theorem Wa{s:Bs}{b:Bool}(h:((!decide (s=[])&&decide (((sB s).size:Int)<=13))&&(decide (s=[48])|| !decide (((Di.gt 0 s 0).toNat:Int)=48)))=b):(b=true->s≠[]∧s.length<=13∧(s=[48]∨s.getD 0 0≠48))∧(b=false->¬ gS s):=by
 rw[dO] at h
 have e48:((Di.gt 0 s 0).toNat:Int)=48↔s.getD 0 0=48:=by
  show((s.getD 0 0).toNat:Int)=48↔_
  constructor
  ·intro h;exact UInt8.toNat_inj.1 (by have:(48:UInt8).toNat=48:=rfl;omega)
  ·intro h;rw[h];rfl
 subst h
 constructor
 ·intro h
  simp only[Zo,E2,D0,Zs,TT,e48] at h
  exact⟨h.1.1,by omega,h.2⟩
 ·rintro h ⟨a,b,c,_⟩
  have:(((!decide (s=[])&&decide ((s.length:Int)<=13))&&(decide (s=[48])|| !decide (((Di.gt 0 s 0).toNat:Int)=48)))=true):=by
   simp only[Zo,E2,D0,Zs,TT,e48]
   exact⟨⟨a,by omega⟩,c⟩
  rw[this] at h
  cases h
theorem JP{b:UInt8}{x:Bool}(h:(decide ((48:Int)<=(b.toNat:Int))&&decide ((b.toNat:Int)<=57))=x):uo b=x:=by
 rw[<- h]
 unfold uo
 congr 1
 ·exact Ey
 ·exact Ey
theorem DT{a b:Int}{j k:Nat}(ha:a=(j:Int))(hb:b=(k:Int)):both a b=((1*2^j||| 1*2^k:Nat):Int):=by
 subst ha hb
 unfold both pow2
 rw[BN,BN,ZN,ZN]
 by_cases h:j=k
 ·subst h
  rw[if_pos rfl,Nat.or_self]
 ·rw[if_neg (by omega),<- rS (by rw[JQ];exact decide_eq_false (by omega))]
theorem Vp{l:List Rx.bM}{bad good:Int}(hC:Rx.bR l):Rx.jg l bad good<2^24:=by
 have mC:=Zy (show 0<2 by omega) (Rx.cx hC)
 by_cases h:Rx.fW l bad good=0
 ·have:=(Rx.qI h).2.2.2.2.2.2
  omega
 ·unfold Rx.jg
  rw[if_neg h];decide
theorem TI{l:List Rx.bM}{bad good:Int}(hC:Rx.bR l):Rx.lf l bad good<2^24:=by
 have mC:=Zy (show 0<2 by omega) (Rx.cx hC)
 unfold Rx.lf
 split
 ·rename_i h
  have:=Rx.za (Rx.cx hC) (Rx.qI h).2.2.2.2.2.2
  omega
 ·decide
theorem NG{l:List Rx.bM}(hC:Rx.bR l)(b:Int):Rx.gE l (Rx.bE l) b<2^24:=by
 unfold Rx.gE
 split
 ·rename_i h
  have hb:b.toNat<24:=by
   exact PN
  have h1:=Rx.yl l b.toNat
  have h2:=Zy (show 0<2 by omega) (show b.toNat+1<=24 by omega)
  omega
 ·decide
theorem Gq{n:Nat}(h:n<2^24):fB n=(Rx.aM n 32).map fun(i:Nat)=>(i:Int):=by
 have e:Rx.aM n 32=Rx.aM n 24:=Rx.oK (by omega) fun i h1 _=>Tf (ZM h (Zy (by omega) h1))
 rw[e]
 rfl
end Go.Proofs.YtchiinjiflgepaaGreatDoor
end
