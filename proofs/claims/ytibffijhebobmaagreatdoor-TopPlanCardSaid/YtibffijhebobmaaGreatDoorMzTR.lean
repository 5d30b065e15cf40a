/-
 Plain data of chapter 11: cards; sets by bits; the lowest bit of a set. No program in sight.
 Plain data of chapter 11: what a batch comes from, and what comes from it; a walk that marks what it met. No program in sight.
 Plain data of chapter 11: which batches can be to blame, what is called back, and what batches have in common. No program in sight.
 From what the statements' arguments of chapter 11 may hold to plain data; what the statements about ways ask. No program in sight.
 What the statements of chapter 11 about blame ask: the true one can be to blame, and what comes from it is called back. No program in sight.
 What the statement about no other batch of chapter 11 asks. No program in sight.
 What the document's own functions of chapter 11 compute, step by step. No program in sight.
 Small functions; sets by bits; what is valid.
 Ways, and all that they lead to.
 All that a way leads to.
 Ways from a batch; which batches can be to blame.
 What is called back.
 The document's own functions: sets, and what each batch comes from.
 The document's own functions: blame, and what batches have in common.
 The document's own function: what is called back.
-/
import Derived.Test.YtibffijhebobmaaGreatDoorPmT
import Derived.Test.YtibffijhebobmaaGreatDoorFaTD
import Derived.Test.YtibffijhebobmaaGreatDoorMzTF
import Derived.Test.YtibffijhebobmaaGreatDoorMzTZ
theorem Em{A:Prop}(h:A:=by
 refine Kc (aa.add rfl rfl rfl (aK ?_)) ?_
 ·omega
 iterate 2 refine af ?_
 refine⟨i+1,?_,?_,?_⟩
 ·omega
 ·omega
 refine To.done [0,1] rfl KS ?_
 rw[hF]
 rfl):A:=h
theorem EC{A:Prop}(h:A:=by
 intro a
 rw[Q9,ih,OY,KV]
 simp only[Zr,exists_eq_or_imp,or_assoc]):A:=h
set_option linter.unusedSimpArgs false
set_option linter.unusedVariables false
section
namespace Go.Proofs.YtibffijhebobmaaGreatDoor.Rx
open Go.AF
structure cx where
 f:Int
 s:Int
deriving DecidableEq
def cx.cells(b:cx):List PV:=[.int .i64 b.f,.int .i64 b.s]
def ku(l:List cx):PV:= .is (l.flatMap cx.cells) l.length
def bt(l:List cx)(i:Nat):cx:=l.getD i ⟨0,0⟩
theorem wV{l:List cx}:∀ k (h:k<l.length),l[k]=bt l k:=fun k h=>by
 unfold bt
 exact xu
def b6:Nat:=9223372036854775807
def iq(n lo hi:Int):Bool:=decide (lo<=n)&&decide (n<=hi)
def i1(n:Int):List PV:=[.int .i64 n]
def u1(n:Nat):List PV:=[.int .u32 (n:Int)]
theorem MJ:∀ n:Nat,n≠0->∃ k m,n=2^k*(2*m+1):=by
 intro n
 induction n using Nat.strongRecOn with
 | ind n ih=>
  intro h
  rcases Nat.mod_two_eq_zero_or_one n with h1 | h1
  ·obtain⟨k,m,e⟩:=ih (n / 2) (by omega) (by omega)
   refine⟨k+1,m,?_⟩
   have:n=2*(n / 2):=by omega
   rw[V9,Nat.mul_comm (2^k) 2,Nat.mul_assoc,<- e]
   exact this
  ·exact⟨0,n / 2,by omega⟩
theorem Pg(m j:Nat):(2*m+1).testBit j=if j=0 then true else m.testBit (j - 1):=by
 cases j with
 | zero=>simp[XF]
 | succ j=>rw[Nat.testBit_succ,show(2*m+1) / 2=m by omega,if_neg (by omega),Nat.add_sub_cancel]
theorem MD(m j:Nat):(2*m).testBit j=if j=0 then false else m.testBit (j - 1):=by
 cases j with
 | zero=>simp[XF]
 | succ j=>rw[Nat.testBit_succ,show 2*m / 2=m by omega,if_neg (by omega),Nat.add_sub_cancel]
theorem uy(k m i:Nat):(2^k*(2*m+1)).testBit i=(decide (k<=i)&&if i=k then true else m.testBit (i - k - 1)):=by
 rw[ZbH,Pg]
 by_cases h:k<=i
 ·by_cases h2:i=k
  ·subst h2;simp
  ·rw[if_neg (by omega),if_neg h2]
 ·simp[h]
theorem uS(k m i:Nat):(2^k*(2*m+1) - 1).testBit i=if i<k then true else if i=k then false else m.testBit (i - k - 1):=by
 have hp:=P6 k
 have e:2^k*(2*m+1) - 1=2^k*(2*m)+(2^k - 1):=by rw[Nat.mul_add,JW];omega
 rw[e,TV _ (by omega)]
 split
 ·rename_i h
  rw[Nat.testBit_two_pow_sub_one];simp[h]
 ·rename_i h
  rw[MD]
  by_cases h2:i=k
  ·rw[if_pos (by omega),if_pos h2]
  ·rw[if_neg (by omega),if_neg h2]
theorem Kd(k m:Nat):2^k*(2*m+1)&&& (2^k*(2*m+1) - 1)=2^(k+1)*m:=by
 apply KH
 intro i
 rw[KU,uy,uS,ZbH]
 by_cases h:i<k
 ·simp[show ¬ k<=i by omega,show ¬ k+1<=i by omega]
 ·by_cases h2:i=k
  ·subst h2;simp[show ¬ i+1<=i by omega]
  ·simp[h,h2,show k<=i by omega,show k+1<=i by omega,Nat.sub_sub]
theorem Bz(k m:Nat)(h:2^k*(2*m+1)<2^32):2^k*(2*m+1)&&& (2^32 - 2^k*(2*m+1))=2^k:=by
 have hp:=P6 k
 have h1:1<=2^k*(2*m+1):=Nat.mul_pos hp (by omega)
 have hk:k<32:=by
  rcases ZS k 32 with h2 | h2
  ·exact h2
  ·exact wo
 apply KH
 intro i
 have e:2^32 - 2^k*(2*m+1)=2^32 - ((2^k*(2*m+1) - 1)+1):=by omega
 rw[e,KU,Nat.testBit_two_pow_sub_succ (by omega),uy,uS,Lo]
 by_cases h2:i<k
 ·simp[show ¬ k<=i by omega,show ¬ k=i by omega]
 ·exact C2
theorem UJ{k m:Nat}(h:2^k*(2*m+1)<2^32):k<32:=by
 rcases ZS k 32 with h2 | h2
 ·exact h2
 ·exact wo
def Ny:List Int:=[0,1,28,2,29,14,24,3,30,22,20,15,25,17,4,8,31,27,13,23,21,19,16,7,26,12,18,6,11,5,10,9]
theorem Tr:∀ k:Nat,k<32->Ny[2^k*125613361%4294967296 / 2^27]? =some (k:Int):=by decide
def qu(n p:Nat):Nat:=n / 2^p*2^p
theorem Gq(n p i:Nat):(qu n p).testBit i=(decide (p<=i)&&n.testBit i):=by
 unfold qu
 rw[Nat.mul_comm,ZbH,Nat.testBit_div_two_pow]
 by_cases h:p<=i
 ·simp[h]
 ·simp[h]
def aR(n p:Nat):List Nat:=(List.range p).filter fun i=>n.testBit i
theorem pW(n p:Nat):aR n (p+1)=if n.testBit p then aR n p++[p] else aR n p:=by
 unfold aR
 rw[YS,List.filter_append]
 cases h:n.testBit p <;> simp[h]
theorem pI{n p:Nat}:∀{k:Nat},p<=k->(∀ i,p<=i->i<k->n.testBit i=false)->aR n k=aR n p:=by
 intro k
 induction k with
 | zero=>intro h _;obtain rfl:p=0:=by omega
         rfl
 | succ k ih=>
  intro h h2
  rcases ZS p (k+1) with h1 | h1
  ·rw[pW,h2 k (by omega) (by omega)]
   exact ih (by omega) fun i a b=>h2 i a (by omega)
  ·obtain rfl:p=k+1:=by omega
   rfl
theorem IG{n p:Nat}(hn:n<2^32)(hp:p<=32)(h:qu n p≠0):∃ k,p<=k∧k<32∧qu n p&&& (2^32 - qu n p)=2^k∧qu n p&&& (qu n p - 1)=qu n (k+1)∧aR n (k+1)=aR n p++[k]:=by
 obtain⟨k,m,e⟩:=MJ _ h
 have hlt:qu n p<2^32:=Nat.lt_of_le_of_lt (Nat.div_mul_le_self _ _) hn
 have hk:=UJ (e▸hlt)
 have hb:∀ i,(decide (p<=i)&&n.testBit i)=(decide (k<=i)&&if i=k then true else m.testBit (i - k - 1)):=fun i=>by rw[<- Gq,e,uy]
 have hpk:p<=k∧n.testBit k=true:=by
  have:=hb k
  simp at this
  exact this
 have hlow:∀ i,p<=i->i<k->n.testBit i=false:=fun i h1 h2=>by
  have:=hb i
  simp[h1,show ¬ k<=i by omega] at this
  exact this
 refine⟨k,hpk.1,hk,by rw[e];exact Bz k m (e▸hlt),?_,?_⟩
 ·rw[e,Kd]
  apply KH
  intro i
  rw[Gq,ZbH]
  by_cases h1:k+1<=i
  ·have:=hb i
   simp[show p<=i by omega,show k<=i by omega,show ¬ i=k by omega] at this
   simp[h1,this,Nat.sub_sub]
  ·simp[h1]
 ·rw[pW,hpk.2,if_pos rfl,pI hpk.1 hlow]
theorem HL{n p:Nat}(hp:p<=32)(h:qu n p=0):aR n 32=aR n p:=by
 refine pI hp fun i h1 h2=> ?_
 have:=Gq n p i
 rw[h] at this
 simp[h1] at this
 exact this
theorem HD(n:Nat):qu n 0=n:=by simp[qu]
theorem Sf(n p:Nat):qu n p<=n:=Nat.div_mul_le_self _ _
theorem Jn(n:Nat){p q:Nat}(h:p<=q):aR n p<+:aR n q:=by
 induction q with
 | zero=>obtain rfl:p=0:=by omega
         exact ZE _
 | succ q ih=>
  rcases ZS p (q+1) with h1 | h1
  ·refine(ih (by omega)).trans ?_
   rw[pW]
   split
   ·exact We _ _
   ·exact ZE _
  ·obtain rfl:p=q+1:=by omega
   exact ZE _
theorem Mr{n p k:Nat}(hk:k<32)(h:aR n (k+1)=aR n p++[k]):(aR n 32)[(aR n p).length]? =some k:=by
 obtain⟨t,ht⟩:=Jn n (show k+1<=32 by omega)
 rw[<- ht,h,ZK,Zj (Zf _),Rt]
 rfl
theorem ct{n p i:Nat}:i∈aR n p↔i<p∧n.testBit i=true:=by
 unfold aR
 rw[List.mem_filter,xJ]
theorem GJ{n p:Nat}:p<=32->(aR n p).length<=32:=fun h=>by
 unfold aR
 exact ZW (List.length_filter_le _ _) (by rw[KO];exact h)
def kV(n:Nat):List (List V):=(aR n 32).map fun k=>[V.p (.int .i64 ((k:Nat):Int))]
theorem iB(n:Nat):(kV n).length=(aR n 32).length:=by simp[kV]
theorem Oq{n p k:Nat}(hk:k<32)(h:aR n (k+1)=aR n p++[k]):(kV n)[(aR n p).length]? =some [V.p (.int .i64 ((k:Nat):Int))]:=by
 unfold kV
 rw[Zu,Mr hk h];rfl
theorem HK(n:Int):IntKind.u32.wrap n=n%4294967296:=by simp[IntKind.wrap,IntKind.bits,IntKind.signed]
theorem S9{n:Nat}(h:0<n)(h2:n<2^32):IntKind.u32.wrap (0 - (n:Int))=((2^32 - n:Nat):Int):=by
 rw[HK]
 omega
theorem TH(k:Nat):IntKind.u32.wrap (((2^k:Nat):Int)*125613361)=((2^k*125613361%4294967296:Nat):Int):=by
 rw[HK]
 omega
def xK(l:List Nat):Nat:=l.foldl (· ||| ·) 0
theorem Mn{l:List Nat}{k:Nat}(h:k<l.length):xK (l.take (k+1))=xK (l.take k)||| l[k]:=by
 unfold xK
 rw[ZN h,Li];rfl
theorem Gz{l:List Nat}(h:∀ x∈l,x<2^32):xK l<2^32:=by
 unfold xK
 have:∀(l:List Nat) (a:Nat),a<2^32->(∀ x∈l,x<2^32)->l.foldl (· ||| ·) a<2^32:=fun l=>by
  induction l with
  | nil=>intro a h _;exact h
  | cons x l ih=>intro a h h2;exact ih _ (PJ h (h2 x (by simp))) fun y hy=>h2 y (by simp[hy])
 exact this l 0 (by decide) h
theorem or2(a b:Nat):xK [a,b]=a||| b:=by unfold xK;simp
def ut(l:List Nat)(i:Nat):Nat:=l.getD i 0
theorem GD{l:List Nat}:∀ k (h:k<l.length),l[k]=ut l k:=fun k h=>by
 unfold ut
 exact xu
theorem Ue{l:List Nat}{i:Nat}(h:i<l.length):ut l i∈l:=by rw[<- GD i h];exact zL _
def pw(n:Nat):Int:=((2^n:Nat):Int)
theorem aa3{n m:Nat}(h:n<=m):1<=pw n∧pw n<=pw m:=by
 unfold pw
 have h1:=P6 n
 have h2:=Zy (show 0<2 by omega) h
 omega
theorem GB{n:Nat}(h:n<=24):1<=pw n∧pw n<=16777216:=aa3 h
def C7(l:List cx)(j:Nat):Prop:=j<24∧(0<=(bt l j).f∧(bt l j).f<=pw j - 1)∧0<=(bt l j).s∧(bt l j).s<=1048576
instance (l:List cx) (j:Nat):Decidable (C7 l j):=by unfold C7;infer_instance
def cM(l:List cx):Prop:=∀ j,j<l.length->C7 l j
instance (l:List cx):Decidable (cM l):=by unfold cM;infer_instance
theorem dc{l:List cx}(h:cM l):l.length<=24:=by
 rcases ZS 24 l.length with h1 | h1
 ·have:=(h 24 h1).1;omega
 ·exact h1
def jO(l:List cx)(sets:List Int):Int:=if cM l then(if (sets.any fun n=> !iq n 0 (pw l.length - 1))=true then 2 else 0) else 1
def bw(l:List Int):PV:= .is (l.flatMap i1) l.length
def iN{α:Type}(p:α->Bool)(xs:List α):Int:=match xs.findIdx? p with
 | some i=>(i:Int)
 | none=> -1
theorem qI{α:Type}(p:α->Bool)(xs:List α)(i:Nat)(hi:i<xs.length)(hb:∀ j (h:j<i),p (xs[j]'(by omega))=false)(hp:p xs[i]=true):iN p xs=(i:Int):=by
 unfold iN
 have:xs.findIdx? p=some i:=by
  rw[ZaV]
  exact⟨hi,hp,fun j h=>by rw[hb j h];decide⟩
 rw[this]
theorem kP{α:Type}(p:α->Bool)(xs:List α)(hb:∀ j (h:j<xs.length),p xs[j]=false):iN p xs= -1:=by
 unfold iN
 have:xs.findIdx? p=none:=by
  rw[List.findIdx?_eq_none_iff]
  intro x hx
  obtain⟨j,hj,rfl⟩:=Pv hx
  exact hb j hj
 rw[this]
theorem kT{α:Type}(p:α->Bool)(xs:List α):decide (iN p xs>=0)=xs.any p:=by
 unfold iN
 cases h:xs.findIdx? p with
 | none=>
  rw[List.findIdx?_eq_none_iff] at h
  have:xs.any p=false:=OM.2 fun x hx=>by rw[h x hx];decide
  rw[this];rfl
 | some i=>
  obtain⟨hi,hp,_⟩:=ZaV.1 h
  have:xs.any p=true:=List.any_eq_true.2 ⟨_,zL hi,hp⟩
  rw[this]
  exact decide_eq_true (by show(0:Int)<=(i:Int);omega)
def pZ(l:List cx)(i:Nat):Nat:=(bt l i).f.toNat
def jB(p:Nat->Bool):Nat->Nat
 | 0=>0
 | n+1=>if p n then jB p n+2^n else jB p n
theorem gy(p:Nat->Bool):∀ n,jB p n<2^n
 | 0=>Nat.lt_succ_self 0
 | n+1=>by
  have:=gy p n
  unfold jB
  rw[V9]
  split <;> omega
theorem zK{a n:Nat}(h:a<2^n)(i:Nat):(a+2^n).testBit i=if i<n then a.testBit i else decide (i=n):=by
 have:=TV 1 h i
 rw[JW,S2] at this
 rw[this]
 by_cases h1:i<n
 ·rw[if_pos h1,if_pos h1]
 ·rw[if_neg h1,if_neg h1]
  by_cases h2:i=n
  ·subst h2;simp
  ·rw[decide_eq_false h2]
   exact UI (Nat.one_lt_two_pow (by omega))
theorem ir(p:Nat->Bool):∀ n i,(jB p n).testBit i=(decide (i<n)&&p i)
 | 0,i=>by simp[jB]
 | n+1,i=>by
  have hlt:=gy p n
  have ih:=ir p n i
  unfold jB
  cases hp:p n with
  | true=>
   rw[if_pos rfl,zK hlt,ih]
   by_cases h1:i<n
   ·simp[h1,show i<n+1 by omega]
   ·by_cases h2:i=n
    ·subst h2;simp[hp]
    ·simp[h1,h2,show ¬ i<n+1 by omega]
  | false=>
   rw[if_neg (by decide),ih]
   by_cases h1:i<n
   ·simp[h1,show i<n+1 by omega]
   ·by_cases h2:i=n
    ·subst h2;simp[hp]
    ·simp[h1,show ¬ i<n+1 by omega]
def yX(l:List cx)(t:List Nat)(n:Nat):Nat->Nat
 | 0=>2^n
 | k+1=>if (pZ l n).testBit k then yX l t n k||| ut t k else yX l t n k
def pz(l:List cx):Nat->List Nat
 | 0=>[]
 | n+1=>pz l n++[yX l (pz l n) n n]
theorem n9(l:List cx):∀ n,(pz l n).length=n
 | 0=>rfl
 | n+1=>by rw[pz,Zb,n9 l n];rfl
def b8(l:List cx)(i:Nat):Nat:=ut (pz l (i+1)) i
theorem Ou(l:List cx){i:Nat}:∀{n:Nat},i<n->ut (pz l n) i=b8 l i:=by
 intro n
 induction n with
 | zero=>intro h;omega
 | succ n ih=>
  intro h
  rcases ZS i n with h1 | h1
  ·rw[<- ih h1]
   unfold ut
   rw[pz,Ze,Ze,Zd (by rw[n9];exact h1)]
  ·obtain rfl:i=n:=by omega
   rfl
theorem Gt(l:List cx)(i:Nat):b8 l i=yX l (pz l i) i i:=by
 unfold b8 ut
 rw[pz,Ze,Zj (by rw[n9];exact Zf _),n9,Rt]
 rfl
theorem yz(l:List cx)(i x:Nat):∀ n,n<=i->((yX l (pz l i) i n).testBit x=true↔x=i∨∃ k,k<n∧(pZ l i).testBit k=true∧(b8 l k).testBit x=true)
 | 0,_=>by
  show(2^i).testBit x=true↔_
  rw[Lo,Zq]
  constructor
  ·intro h;exact .inl h.symm
  ·rintro(h | ⟨k,h,_⟩)
   ·exact h.symm
   ·omega
 | n+1,hn=>by
  have ih:=yz l i x n (by omega)
  unfold yX
  split
  ·rename_i hb
   rw[OY,KV,ih,Ou l (show n<i by omega)]
   constructor
   ·rintro((h | ⟨k,h1,h2⟩) | h)
    ·exact .inl h
    ·exact .inr ⟨k,by omega,h2⟩
    ·exact .inr ⟨n,by omega,hb,h⟩
   ·rintro(h | ⟨k,h1,h2,h3⟩)
    ·exact .inl (.inl h)
    ·rcases Md.1 h1 with h4 | rfl
     ·exact .inl (.inr ⟨k,h4,h2,h3⟩)
     ·exact .inr h3
  ·rename_i hb
   rw[ih]
   constructor
   ·rintro(h | ⟨k,h1,h2⟩)
    ·exact .inl h
    ·exact .inr ⟨k,by omega,h2⟩
   ·rintro(h | ⟨k,h1,h2,h3⟩)
    ·exact .inl h
    ·rcases Md.1 h1 with h4 | rfl
     ·exact .inr ⟨k,h4,h2,h3⟩
     ·exact absurd h2 hb
theorem iO(l:List cx)(i x:Nat):(b8 l i).testBit x=true↔x=i∨∃ k,k<i∧(pZ l i).testBit k=true∧(b8 l k).testBit x=true:=by
 rw[Gt]
 exact yz l i x i (Zf _)
theorem sy(l:List cx)(i:Nat):(b8 l i).testBit i=true:=(iO l i i).2 (.inl rfl)
theorem P7(l:List cx):∀{i x:Nat},(b8 l i).testBit x=true->x<=i:=by
 intro i
 induction i using Nat.strongRecOn with
 | ind i ih=>
  intro x h
  rcases(iO l i x).1 h with rfl | ⟨k,h1,_,h3⟩
  ·exact Zf _
  ·have:=ih k h1 h3;omega
theorem Gg(l:List cx):∀{i j x:Nat},(b8 l i).testBit j=true->(b8 l j).testBit x=true->(b8 l i).testBit x=true:=by
 intro i
 induction i using Nat.strongRecOn with
 | ind i ih=>
  intro j x h1 h2
  rcases(iO l i j).1 h1 with rfl | ⟨k,h3,h4,h5⟩
  ·exact h2
  ·exact(iO l i x).2 (.inr ⟨k,h3,h4,ih k h3 h5 h2⟩)
theorem G6(l:List cx)(i:Nat):b8 l i<2^(i+1):=by
 apply Nat.lt_pow_two_of_testBit
 intro x hx
 cases h:(b8 l i).testBit x with
 | false=>rfl
 | true=>have:=P7 l h;omega
theorem xe{l:List cx}(h:cM l){i k:Nat}(hi:i<l.length)(hk:(pZ l i).testBit k=true):k<i:=by
 have h1:=(h i hi).2.1
 rcases ZS k i with h2 | h2
 ·exact h2
 ·exfalso
  have h3:pZ l i<2^i:=by unfold pZ;unfold pw at h1;omega
  rw[UI (ZQ h3 (Zy (by omega) h2))] at hk
  cases hk
def l8(l:List cx)(b:Nat):Nat:=jB (fun i=>(b8 l i).testBit b) l.length
theorem kZ(l:List cx)(b i:Nat):(l8 l b).testBit i=(decide (i<l.length)&&(b8 l i).testBit b):=ir _ _ _
def ye(l:List cx)(b:Nat):Nat:=jB (fun i=>(pZ l i).testBit b) l.length
theorem qj(l:List cx)(b i:Nat):(ye l b).testBit i=(decide (i<l.length)&&(pZ l i).testBit b):=ir _ _ _
structure Way (N:Nat) (nx R rk:Nat->Nat):Prop where
 lt:∀ b,b<N->nx b<2^N
 rlt:∀ b,b<N->R b<2^N
 iff:∀ b,b<N->∀ x,(R b).testBit x=true↔x=b∨∃ k,(nx b).testBit k=true∧(R k).testBit x=true
 rk:∀ b,b<N->∀ k,(nx b).testBit k=true->rk k<rk b
 Te:∀ b,b<N->∀ k,(nx b).testBit k=true->k<N
theorem Way.self{N:Nat}{nx R rk:Nat->Nat}(w:Way N nx R rk){b:Nat}(h:b<N):(R b).testBit b=true:=(w.iff b h b).2 (.inl rfl)
theorem Way.Wy{N:Nat}{nx R rk:Nat->Nat}(w:Way N nx R rk):∀(m b:Nat),b<N->rk b<=m->∀ x,(R b).testBit x=true->x<N∧(x=b∨rk x<rk b)
 | m,b,hb,hm,x,hx=>by
  rcases(w.iff b hb x).1 hx with rfl | ⟨k,h1,h2⟩
  ·exact⟨hb,.inl rfl⟩
  ·have h3:=w.rk b hb k h1
   have h4:=w.Te b hb k h1
   match m,hm with
   | 0,hm=>omega
   | m+1,hm=>
    have:=w.Wy m k h4 (by omega) x h2
    refine⟨this.1,.inr ?_⟩
    rcases this.2 with rfl | h5 <;> omega
theorem Way.trans{N:Nat}{nx R rk:Nat->Nat}(w:Way N nx R rk):∀(m b:Nat),b<N->rk b<=m->∀ x y,(R b).testBit x=true->(R x).testBit y=true->(R b).testBit y=true
 | m,b,hb,hm,x,y,h1,h2=>by
  rcases(w.iff b hb x).1 h1 with rfl | ⟨k,h3,h4⟩
  ·exact h2
  ·have h5:=w.rk b hb k h3
   match m,hm with
   | 0,hm=>omega
   | m+1,hm=>exact(w.iff b hb y).2 (.inr ⟨k,h3,w.trans m k (w.Te b hb k h3) (by omega) x y h4 h2⟩)
def Hh(R:Nat->Nat)(b M:Nat):Prop:=∀ x,M.testBit x=true->(R b).testBit x=true->∀ y,(R x).testBit y=true->M.testBit y=true
def qL(R:Nat->Nat)(M b:Nat):List Nat->Nat
 | ks=>ks.foldl (fun a k=>a||| R k) (M||| 2^b)
theorem vA(R:Nat->Nat)(M b x:Nat)(ks:List Nat):(qL R M b ks).testBit x=true↔M.testBit x=true∨x=b∨∃ k∈ks,(R k).testBit x=true:=by
 have:∀(ks:List Nat) (a:Nat),(ks.foldl (fun a k=>a||| R k) a).testBit x=true↔a.testBit x=true∨∃ k∈ks,(R k).testBit x=true:=fun ks=>by
  induction ks with
  | nil=>intro a;simp
  | cons k ks ih=>
   exact EC
 unfold qL
 rw[this,OY,KV,Lo,Zq,or_assoc,eq_comm (a:=b)]
theorem J6(R:Nat->Nat)(M b:Nat)(ks:List Nat)(k:Nat):qL R M b (ks++[k])=qL R M b ks||| R k:=by
 unfold qL
 rw[Li];rfl
theorem Lm{N:Nat}{nx R rk:Nat->Nat}(w:Way N nx R rk){b M:Nat}(hb:b<N)(h:Hh R b M){ks:List Nat}(hk:∀ k∈ks,(nx b).testBit k=true){k:Nat}(Ws:(nx b).testBit k=true):Hh R k (qL R M b ks):=by
 intro x hx hxk y hy
 rw[vA] at hx ⊢
 have hxb:(R b).testBit x=true:=(w.iff b hb x).2 (.inr ⟨k,Ws,hxk⟩)
 rcases hx with h1 | rfl | ⟨k2,h2,h3⟩
 ·exact .inl (h x h1 hxb y hy)
 ·exfalso
  have h4:=w.rk x hb k Ws
  have h5:=(w.Wy (rk k) k (w.Te x hb k Ws) (Zf _) x hxk).2
  rcases h5 with rfl | h5
  ·omega
  ·omega
 ·exact .inr (.inr ⟨k2,h2,w.trans (rk k2) k2 (w.Te b hb k2 (hk k2 h2)) (Zf _) x y h3 hy⟩)
theorem PI{N:Nat}{nx R rk:Nat->Nat}(w:Way N nx R rk){b M:Nat}(hb:b<N):qL R M b (aR (nx b) 32)=M||| R b∨32<N:=by
 rcases ZS 32 N with hN | hN
 ·exact .inr hN
 left
 apply KH
 intro x
 have key:(qL R M b (aR (nx b) 32)).testBit x=true↔(M||| R b).testBit x=true:=by
  rw[vA,OY,KV,w.iff b hb x]
  constructor
  ·rintro(h | h | ⟨k,h1,h2⟩)
   ·exact .inl h
   ·exact .inr (.inl h)
   ·exact .inr (.inr ⟨k,(ct.1 h1).2,h2⟩)
  ·rintro(h | h | ⟨k,h1,h2⟩)
   ·exact .inl h
   ·exact .inr (.inl h)
   ·exact .inr (.inr ⟨k,ct.2 ⟨by have:=w.Te b hb k h1;omega,h1⟩,h2⟩)
 cases h1:(qL R M b (aR (nx b) 32)).testBit x with
 | true=>exact(key.1 h1).symm
 | false=>
  cases h2:(M||| R b).testBit x with
  | false=>rfl
  | true=>rw[key.2 h2] at h1;cases h1
theorem Pq{N:Nat}{nx R rk:Nat->Nat}(w:Way N nx R rk){b M:Nat}(hb:b<N)(h:Hh R b M)(hm:M.testBit b=true):M||| R b=M:=by
 apply KH
 intro x
 rw[OY]
 cases h1:(R b).testBit x with
 | false=>rw[Bool.or_false]
 | true=>rw[h b hm (w.self hb) x h1];rfl
theorem nC{l:List cx}(h:cM l):Way l.length (pZ l) (b8 l) (fun b=>b):=by
 have oO:=dc h
 refine⟨fun b hb=> ?_,fun b hb=> ?_,fun b hb x=> ?_,fun b hb k hk=>xe h hb hk,fun b hb k hk=>by have:=xe h hb hk;omega⟩
 ·have h1:=(h b hb).2.1
  have h2:=Zy (show 0<2 by omega) (show b<=l.length by omega)
  unfold pZ
  unfold pw at h1
  omega
 ·exact ZQ (G6 l b) (Zy (by omega) hb)
 ·rw[iO]
  constructor
  ·rintro(h1 | ⟨k,_,h2⟩)
   ·exact .inl h1
   ·exact .inr ⟨k,h2⟩
  ·rintro(h1 | ⟨k,h2,h3⟩)
   ·exact .inl h1
   ·exact .inr ⟨k,xe h hb h2,h2,h3⟩
theorem Jg{l:List cx}(h:cM l){b:Nat}(hb:b<l.length)(x:Nat):(l8 l b).testBit x=true↔x=b∨∃ k,(ye l b).testBit k=true∧(l8 l k).testBit x=true:=by
 rw[kZ,Zn,Zq]
 constructor
 ·rintro⟨hx,h1⟩
  -- go back from x until the last step before b
  have key:∀ x,x<l.length->(b8 l x).testBit b=true->x=b∨∃ k,(ye l b).testBit k=true∧(b8 l x).testBit k=true:=by
   intro x
   induction x using Nat.strongRecOn with
   | ind x ih=>
    intro hx h1
    rcases(iO l x b).1 h1 with rfl | ⟨k,h2,h3,h4⟩
    ·exact .inl rfl
    ·rcases ih k h2 (by omega) h4 with rfl | ⟨m,h5,h6⟩
     ·refine .inr ⟨x,?_,sy l x⟩
      rw[qj,h3];simp[hx]
     ·exact .inr ⟨m,h5,(iO l x m).2 (.inr ⟨k,h2,h3,h6⟩)⟩
  rcases key x hx h1 with h2 | ⟨k,h2,h3⟩
  ·exact .inl h2
  ·refine .inr ⟨k,h2,?_⟩
   rw[kZ,h3];simp[hx]
 ·rintro(rfl | ⟨k,h1,h2⟩)
  ·exact⟨hb,sy l x⟩
  ·rw[kZ,Zn,Zq] at h2
   rw[qj,Zn,Zq] at h1
   have h3:(b8 l k).testBit b=true:=(iO l k b).2 (.inr ⟨b,xe h h1.1 h1.2,h1.2,sy l b⟩)
   exact⟨h2.1,Gg l h2.2 h3⟩
theorem sQ{l:List cx}(h:cM l):Way l.length (ye l) (l8 l) (fun b=>l.length - b):=by
 refine⟨fun b _=>gy _ _,fun b _=>gy _ _,fun b hb x=>Jg h hb x,fun b hb k hk=> ?_,fun b hb k hk=> ?_⟩
 ·rw[qj,Zn,Zq] at hk
  have:=xe h hk.1 hk.2
  show l.length - k<l.length - b
  omega
 ·rw[qj,Zn,Zq] at hk
  exact hk.1
def tg(i:Nat)(ms:List (Int×Nat))(ks:List Nat):List (Int×Nat):=ks.foldl (fun ms k=>aU ((k:Nat):Int) (((bM ((k:Nat):Int) ms).getD 0)||| 2^i) ms) ms
theorem IL(i:Nat)(ms:List (Int×Nat))(ks:List Nat)(k:Nat):tg i ms (ks++[k])=aU ((k:Nat):Int) (((bM ((k:Nat):Int) (tg i ms ks)).getD 0)||| 2^i) (tg i ms ks):=by
 unfold tg
 rw[Li];rfl
theorem vg(i k:Nat):∀(ks:List Nat) (ms:List (Int×Nat)),ks.Nodup->(bM ((k:Nat):Int) (tg i ms ks)).getD 0=if k∈ks then(bM ((k:Nat):Int) ms).getD 0||| 2^i else(bM ((k:Nat):Int) ms).getD 0
 | [],ms,_=>by simp[tg]
 | q::ks,ms,hn=>by
  rw[ZC] at hn
  have ih:=vg i k ks (aU ((q:Nat):Int) (((bM ((q:Nat):Int) ms).getD 0)||| 2^i) ms) hn.2
  rw[gH] at ih
  have e:tg i ms (q::ks)=tg i (aU ((q:Nat):Int) (((bM ((q:Nat):Int) ms).getD 0)||| 2^i) ms) ks:=rfl
  rw[e,ih]
  by_cases h:k=q
  ·subst h
   rw[if_neg hn.1,if_pos rfl,if_pos (by simp)]
   rfl
  ·have h2:¬ ((k:Nat):Int)=((q:Nat):Int):=by omega
   simp[h,h2]
theorem xy(n p:Nat):(aR n p).Nodup:=by
 unfold aR
 exact List.Pairwise.filter _ List.nodup_range
def vc(l:List cx):Nat->List (Int×Nat)
 | 0=>[]
 | i+1=>tg i (vc l i) (aR (pZ l i) 32)
theorem xC{l:List cx}(h:cM l)(k:Nat):∀ n,n<=l.length->(bM ((k:Nat):Int) (vc l n)).getD 0=jB (fun i=>(pZ l i).testBit k) n
 | 0,_=>rfl
 | n+1,hn=>by
  have oO:=dc h
  have ih:=xC h k n (by omega)
  rw[vc,vg _ _ _ _ (xy _ _),ih,jB]
  by_cases hb:(pZ l n).testBit k=true
  ·have hk:=xe h (show n<l.length by omega) hb
   rw[if_pos (ct.2 ⟨by omega,hb⟩),if_pos hb]
   apply KH
   intro x
   have hlt:=gy (fun i=>(pZ l i).testBit k) n
   rw[zK hlt,OY,Lo]
   by_cases h1:x<n
   ·simp[h1,show ¬ n=x by omega]
   ·rw[if_neg h1,ir]
    simp[h1,eq_comm]
  ·rw[if_neg (fun h2=>hb (ct.1 h2).2),if_neg hb]
theorem jk{n k:Nat}{x:List V}(h:(kV n)[k]? =some x):∃ q,(aR n 32)[k]? =some q∧x=[V.p (.int .i64 ((q:Nat):Int))]:=by
 unfold kV at h
 rw[Zu,Zi] at h
 obtain⟨q,h1,h2⟩:=h
 exact⟨q,h1,h2.symm⟩
theorem fR{α:Type}{l:List α}{k:Nat}{q:α}(h:l[k]? =some q):l.take (k+1)=l.take k++[q]:=by
 obtain⟨h1,h2⟩:=Za.1 h
 rw[ZN h1,h2]
theorem PD{l:List cx}(h:cM l){i:Nat}(hi:i<l.length)(q k:Nat):(bM ((q:Nat):Int) (tg i (vc l i) ((aR (pZ l i) 32).take k))).getD 0<2^32:=by
 have oO:=dc h
 rw[vg _ _ _ _ ((List.take_sublist _ _).nodup (xy _ _)),xC h q i (by omega)]
 have h1:=gy (fun i=>(pZ l i).testBit q) i
 have h2:=Zy (show 0<2 by omega) (show i<=31 by omega)
 have h3:jB (fun i=>(pZ l i).testBit q) i<2^32:=by omega
 split
 ·exact PJ h3 (by omega)
 ·exact h3
def Am(n:Nat):PV:= .int .u32 (n:Int)
def IP(l:List cx):PV:=lJ (PV.int .i64) Am (vc l l.length)
def vL(M:Nat):List Bool:=(List.range 24).map fun i=>M.testBit i
def b1(b:Bool):List PV:=[.bool b]
theorem vV{M i:Nat}(h:i<(vL M).length):(vL M)[i]=M.testBit i:=by simp[vL]
theorem vK(M:Nat):(vL M).length=24:=by simp[vL]
theorem Mi{M b:Nat}(h:b<24):(vL M).set b true=vL (M||| 2^b):=by
 apply List.ext_getElem
 ·simp[vL]
 ·intro i h1 h2
  rw[vK] at h2
  rw[List.getElem_set,vV,vV,OY,Lo]
  by_cases h3:b=i
  ·subst h3;simp
  ·rw[if_neg h3]
   simp[h3]
theorem Ah{a b:Nat}(h:∀ i,a.testBit i=true↔b.testBit i=true):a=b:=by
 apply KH
 intro i
 have:=h i
 cases h1:a.testBit i <;> cases h2:b.testBit i <;> simp_all
theorem FP{a n:Nat}(h:∀ i,a.testBit i=true->i<n):a<2^n:=by
 apply Nat.lt_pow_two_of_testBit
 intro i hi
 cases h1:a.testBit i with
 | false=>rfl
 | true=>have:=h i h1;omega
theorem fz{a n i:Nat}(h:a<2^n)(hi:a.testBit i=true):i<n:=by
 rcases ZS i n with h1 | h1
 ·exact h1
 ·rw[UI (ZQ h (Zy (by omega) h1))] at hi
  cases hi
theorem NX{a:Nat}:a=0↔∀ i,a.testBit i=false:=by
 constructor
 ·rintro rfl i;exact Nat.zero_testBit i
 ·intro h;exact Ah fun i=>by rw[h i,Nat.zero_testBit]
theorem Lj(n i:Nat):(2^n - 1).testBit i=decide (i<n):=Nat.testBit_two_pow_sub_one n i
def GP(l:List cx)(bad good i:Nat):Bool:=(List.range l.length).all fun k=>(!bad.testBit k||(b8 l k).testBit i)&&(!good.testBit k|| !(b8 l k).testBit i)
def fZ(l:List cx)(bad good:Nat):Nat:=jB (GP l bad good) l.length
theorem J9(l:List cx)(bad good i:Nat):GP l bad good i=true↔(∀ k,k<l.length->bad.testBit k=true->(b8 l k).testBit i=true)∧∀ k,k<l.length->good.testBit k=true->(b8 l k).testBit i=false:=by
 unfold GP
 simp only[Zx,xJ,Zn,KV,F5]
 constructor
 ·intro h
  refine⟨fun k hk hb=> ?_,fun k hk hg=> ?_⟩
  ·rcases(h k hk).1 with h1 | h1
   ·rw[hb] at h1;cases h1
   ·exact h1
  ·rcases(h k hk).2 with h1 | h1
   ·rw[hg] at h1;cases h1
   ·exact h1
 ·rintro⟨h1,h2⟩ k hk
  refine⟨?_,?_⟩
  ·cases hb:bad.testBit k with
   | false=>exact .inl rfl
   | true=>exact .inr (h1 k hk hb)
  ·cases hg:good.testBit k with
   | false=>exact .inl rfl
   | true=>exact .inr (h2 k hk hg)
theorem Kt(l:List cx)(bad good i:Nat):(fZ l bad good).testBit i=(decide (i<l.length)&&GP l bad good i):=ir _ _ _
theorem Ek(l:List cx)(bad good:Nat):fZ l bad good<2^l.length:=gy _ _
theorem JY(l:List cx)(bad good i:Nat):(fZ l bad good).testBit i=true↔i<l.length∧(∀ k,k<l.length->bad.testBit k=true->(b8 l k).testBit i=true)∧∀ k,k<l.length->good.testBit k=true->(b8 l k).testBit i=false:=by
 rw[Kt,Zn,Zq,J9]
def F8(l:List cx)(a:Nat)(ks:List Nat):Nat:=ks.foldl (fun a k=>a&&& b8 l k) a
def JP(l:List cx)(a:Nat)(ks:List Nat):Nat:=ks.foldl (fun a k=>a^^^(a&&& b8 l k)) a
theorem Oz(l:List cx)(a:Nat)(ks:List Nat)(k:Nat):F8 l a (ks++[k])=F8 l a ks&&& b8 l k:=by unfold F8;rw[Li];rfl
theorem La(l:List cx)(a:Nat)(ks:List Nat)(k:Nat):JP l a (ks++[k])=JP l a ks^^^(JP l a ks&&& b8 l k):=by unfold JP;rw[Li];rfl
theorem Ad(l:List cx)(i:Nat):∀(ks:List Nat) (a:Nat),(F8 l a ks).testBit i=true↔a.testBit i=true∧∀ k∈ks,(b8 l k).testBit i=true
 | [],a=>by simp[F8]
 | k::ks,a=>by
  have e:F8 l a (k::ks)=F8 l (a&&& b8 l k) ks:=rfl
  rw[e,Ad l i ks,KU,Zn]
  simp only[Zr,forall_eq_or_imp,and_assoc]
theorem Oh(a b i:Nat):(a^^^(a&&& b)).testBit i=true↔a.testBit i=true∧b.testBit i=false:=by
 rw[Nat.testBit_xor,KU]
 cases a.testBit i <;> cases b.testBit i <;> simp
theorem z8(l:List cx)(i:Nat):∀(ks:List Nat) (a:Nat),(JP l a ks).testBit i=true↔a.testBit i=true∧∀ k∈ks,(b8 l k).testBit i=false
 | [],a=>by simp[JP]
 | k::ks,a=>by
  have e:JP l a (k::ks)=JP l (a^^^(a&&& b8 l k)) ks:=rfl
  rw[e,z8 l i ks,Oh]
  simp only[Zr,forall_eq_or_imp,and_assoc]
theorem MV(l:List cx){n a:Nat}(h:a<2^n)(ks:List Nat):F8 l a ks<2^n:=FP fun i hi=>fz h ((Ad l i ks a).1 hi).1
theorem TW(l:List cx){n a:Nat}(h:a<2^n)(ks:List Nat):JP l a ks<2^n:=FP fun i hi=>fz h ((z8 l i ks a).1 hi).1
theorem Nk{l:List cx}(oO:l.length<=24){bad good:Nat}(hb:bad<2^l.length)(hg:good<2^l.length):JP l (F8 l (2^l.length - 1) (aR bad 32)) (aR good 32)=fZ l bad good:=by
 apply Ah
 intro i
 rw[z8,Ad,Lj,Zq,JY]
 constructor
 ·rintro⟨⟨h1,h2⟩,h3⟩
  exact⟨h1,fun k hk hb=>h2 k (ct.2 ⟨by omega,hb⟩),fun k hk hg=>h3 k (ct.2 ⟨by omega,hg⟩)⟩
 ·rintro⟨h1,h2,h3⟩
  exact⟨⟨h1,fun k hk=>h2 k (fz hb (ct.1 hk).2) (ct.1 hk).2⟩,fun k hk=>h3 k (fz hg (ct.1 hk).2) (ct.1 hk).2⟩
def iY(l:List cx)(bad good:Int):Int:=if jO l [bad,good]≠0 then jO l [bad,good] else if bad=0 then 4 else if fZ l bad.toNat good.toNat=0 then 6 else 0
def lE(l:List cx)(bad good:Int):Nat:=if iY l bad good=0 then fZ l bad.toNat good.toNat else 0
def jH(l:List cx)(n:Nat):Nat:=jB (fun k=>decide ((bt l k).s>0)) n
def tV(l:List cx):Nat:=jH l l.length
def iW(l:List cx)(i:Nat):Nat:=l8 l i&&& tV l
def rO(l:List cx)(ks:List Nat):Int:=(ks.map fun k=>(bt l k).s).sum
theorem JU(l:List cx)(ks:List Nat)(k:Nat):rO l (ks++[k])=rO l ks+(bt l k).s:=by
 unfold rO;rw[ZA,List.sum_append];simp
def iL(l:List cx)(i:Nat):Int:=rO l (aR (iW l i) 32)
theorem Fs(l:List cx)(i:Nat):iW l i<2^l.length:=Nat.lt_of_le_of_lt Nat.and_le_right (gy _ _)
theorem Hf(l:List cx)(n:Nat):jH l n<2^n:=gy _ _
theorem P1(l:List cx)(i k:Nat):(iW l i).testBit k=true↔k<l.length∧(b8 l k).testBit i=true∧(bt l k).s>0:=by
 unfold iW tV jH
 rw[KU,kZ,ir]
 simp only[Zn,Zq]
 constructor
 ·rintro⟨⟨h1,h2⟩,_,h3⟩;exact⟨h1,h2,h3⟩
 ·rintro⟨h1,h2,h3⟩;exact⟨⟨h1,h2⟩,h1,h3⟩
theorem Dt(l:List cx)(n:Nat):jH l (n+1)=if (bt l n).s>0 then jH l n||| 2^n else jH l n:=by
 have hlt:=gy (fun k=>decide ((bt l k).s>0)) n
 unfold jH
 rw[jB]
 by_cases h:(bt l n).s>0
 ·rw[if_pos h,if_pos (decide_eq_true h)]
  apply Ah
  intro i
  rw[zK hlt,OY,Lo,ir]
  by_cases h1:i<n
  ·simp[h1,show ¬ n=i by omega]
  ·simp[h1,eq_comm]
 ·rw[if_neg h,if_neg (by simpa using h)]
theorem LW{l:List cx}(h:cM l):∀(ks:List Nat),(∀ k∈ks,k<l.length)->0<=rO l ks∧rO l ks<=ks.length*1048576
 | [],_=>by simp[rO]
 | k::ks,hk=>by
  have ih:=LW h ks fun q hq=>hk q (by simp[hq])
  have h1:=(h k (hk k (by simp))).2.2
  have e:rO l (k::ks)=(bt l k).s+rO l ks:=by unfold rO;simp
  rw[e,Zm]
  push_cast
  omega
theorem LF{l:List cx}{i q:Nat}(h:q∈aR (iW l i) 32):q<l.length:=((P1 l i q).1 (ct.1 h).2).1
theorem Sc{l:List cx}(h:cM l)(i k:Nat):0<=rO l ((aR (iW l i) 32).take k)∧rO l ((aR (iW l i) 32).take k)<=33554432:=by
 have h1:=LW h ((aR (iW l i) 32).take k) fun q hq=>LF (SG hq)
 have h2:((aR (iW l i) 32).take k).length<=32:=ZW (List.length_take_le' _ _) (GJ (Zf _))
 omega
theorem LI{l:List cx}(h:cM l)(i:Nat):0<=iL l i∧iL l i<=33554432:=by
 have:=Sc h i (aR (iW l i) 32).length
 rw[ZP] at this
 exact this
def Hy:List Int->Int×Int
 | []=>(0,0)
 | n::ns=>ns.foldl (fun p n=>(min p.1 n,max p.2 n)) (n,n)
theorem LG(ns:List Int)(n:Int)(h:ns≠[]):Hy (ns++[n])=(min (Hy ns).1 n,max (Hy ns).2 n):=by
 cases ns with
 | nil=>exact absurd rfl h
 | cons m ns=>show(ns++[n]).foldl _ _=_;rw[Li];rfl
theorem PR:∀(ns:List Int),ns≠[]->(∀ n∈ns,(Hy ns).1<=n∧n<=(Hy ns).2)∧(Hy ns).1∈ns∧(Hy ns).2∈ns:=by
 intro ns
 cases ns with
 | nil=>intro h;exact absurd rfl h
 | cons m ns=>
  intro _
  show(∀ n∈m::ns,(ns.foldl (fun p n=>(min p.1 n,max p.2 n)) (m,m)).1<=n∧n<=(ns.foldl (fun p n=>(min p.1 n,max p.2 n)) (m,m)).2)∧_∧_
  have key:∀(ns:List Int) (p:Int×Int),((ns.foldl (fun p n=>(min p.1 n,max p.2 n)) p).1<=p.1∧p.2<=(ns.foldl (fun p n=>(min p.1 n,max p.2 n)) p).2)∧(∀ n∈ns,(ns.foldl (fun p n=>(min p.1 n,max p.2 n)) p).1<=n∧n<=(ns.foldl (fun p n=>(min p.1 n,max p.2 n)) p).2)∧((ns.foldl (fun p n=>(min p.1 n,max p.2 n)) p).1=p.1∨(ns.foldl (fun p n=>(min p.1 n,max p.2 n)) p).1∈ns)∧((ns.foldl (fun p n=>(min p.1 n,max p.2 n)) p).2=p.2∨(ns.foldl (fun p n=>(min p.1 n,max p.2 n)) p).2∈ns):=by
   intro ns
   induction ns with
   | nil=>intro p;simp
   | cons a ns ih=>
    intro p
    obtain⟨h1,h2,h3,h4⟩:=ih (min p.1 a,max p.2 a)
    simp only[Q9,Zr]
    refine⟨⟨by omega,by omega⟩,fun n hn=> ?_,?_,?_⟩
    ·rcases hn with rfl | hn
     ·omega
     ·exact h2 n hn
    ·rcases h3 with h3 | h3
     ·rw[h3];show min p.1 a=_∨_;omega
     ·exact .inr (.inr h3)
    ·rcases h4 with h4 | h4
     ·rw[h4];show max p.2 a=_∨_;omega
     ·exact .inr (.inr h4)
  obtain⟨h1,h2,h3,h4⟩:=key ns (m,m)
  refine⟨fun n hn=> ?_,?_,?_⟩
  ·rcases Zr.1 hn with rfl | hn
   ·exact h1
   ·exact h2 n hn
  ·show(ns.foldl (fun p n=>(min p.1 n,max p.2 n)) (m,m)).1∈_
   rcases h3 with h3 | h3
   ·rw[h3];simp
   ·exact Zh _ h3
  ·show(ns.foldl (fun p n=>(min p.1 n,max p.2 n)) (m,m)).2∈_
   rcases h4 with h4 | h4
   ·rw[h4];simp
   ·exact Zh _ h4
def yY(l:List cx)(can:Nat):Nat:=xK ((aR can 32).map (iW l))
def vW(l:List cx)(can:Nat):Int×Int:=Hy ((aR can 32).map (iL l))
theorem NG(ns:List Nat)(n:Nat):xK (ns++[n])=xK ns||| n:=by unfold xK;rw[Li];rfl
theorem O2(ns:List Nat)(i:Nat):(xK ns).testBit i=true↔∃ n∈ns,n.testBit i=true:=by
 have:∀(ns:List Nat) (a:Nat),(ns.foldl (· ||| ·) a).testBit i=true↔a.testBit i=true∨∃ n∈ns,n.testBit i=true:=fun ns=>by
  induction ns with
  | nil=>intro a;simp
  | cons n ns ih=>
   exact EC
 unfold xK
 rw[this,Nat.zero_testBit]
 simp
theorem Mj{l:List cx}(oO:l.length<=24){can:Nat}(hc:can<2^l.length)(k:Nat):(yY l can).testBit k=true↔∃ i,can.testBit i=true∧(iW l i).testBit k=true:=by
 unfold yY
 rw[O2]
 constructor
 ·rintro⟨n,h1,h2⟩
  obtain⟨i,h3,rfl⟩:=uE.1 h1
  exact⟨i,(ct.1 h3).2,h2⟩
 ·rintro⟨i,h1,h2⟩
  exact⟨_,uE.2 ⟨i,ct.2 ⟨by have:=fz hc h1;omega,h1⟩,rfl⟩,h2⟩
theorem IK{l:List cx}(oO:l.length<=24){can:Nat}(hc:can<2^l.length):yY l can<2^l.length:=FP fun i hi=>by
 obtain⟨k,_,h⟩:=(Mj oO hc i).1 hi
 exact fz (Fs l k) h
def xU(l:List cx)(bad good:Int):Nat:=if iY l bad good=0 then yY l (lE l bad good) else 0
def lS(l:List cx)(bad good:Int):Int×Int:=if iY l bad good=0 then vW l (lE l bad good) else(0,0)
def Xe(l:List cx)(own i k:Nat):Bool:=decide (k≠i)&&own.testBit k
def R9(l:List cx)(own i:Nat):Bool:= !(aR (l8 l i) 32).any (Xe l own i)
theorem V5{l:List cx}(oO:l.length<=24)(own i:Nat):R9 l own i=true↔∀ k,(l8 l i).testBit k=true->k≠i->own.testBit k=false:=by
 unfold R9 Xe
 simp only[F5,OM,ct,Zn,Zq,not_and]
 constructor
 ·intro h k h1 h2
  have h3:k<l.length:=by rw[kZ,Zn,Zq] at h1;exact h1.1
  cases h4:own.testBit k with
  | false=>rfl
  | true=>exact absurd h4 (h k ⟨by omega,h1⟩ h2)
 ·intro h k h1 h2 h3
  rw[h k h1.2 h2] at h3;cases h3
def fY(l:List cx)(b:Int):Int:=if cM l then(if iq b 0 ((l.length:Int) - 1)=true then 0 else 2) else 1
def mq(l:List cx)(R:Nat->Nat)(b:Int):Nat:=if fY l b=0 then R b.toNat else 0
theorem RF(l:List cx):jO l []=if cM l then 0 else 1:=by unfold jO;simp
theorem wz{l:List cx}{sets:List Int}(h:jO l sets=0):cM l∧∀ s∈sets,0<=s∧s<=pw l.length - 1:=by
 unfold jO at h
 split at h
 ·rename_i hC
  refine⟨hC,fun s hs=> ?_⟩
  split at h
  ·cases h
  ·rename_i hn
   simp only[Bool.not_eq_true,OM] at hn
   have:=hn s hs
   simp[iq] at this
   exact this
 ·cases h
theorem toNat_lt{l:List cx}{s:Int}(h:0<=s∧s<=pw l.length - 1):s.toNat<2^l.length:=by unfold pw at h;omega
theorem RY{x:List PV}(h:oM [.leaf (.int .u8)] x):∃ n:Nat,x=[.int .u8 (n:Int)]∧n<=255:=by
 exact E6
theorem Jt{l:List cx}{can:Nat}(h:can≠0)(h32:can<2^32):((vW l can).1∈(aR can 32).map (iL l))∧(vW l can).2∈(aR can 32).map (iL l):=by
 have hne:(aR can 32).map (iL l)≠[]:=by
  intro h1
  rw[List.map_eq_nil_iff] at h1
  refine h (NX.2 fun i=> ?_)
  cases h2:can.testBit i with
  | false=>rfl
  | true=>
   have h3:i∈aR can 32:=ct.2 ⟨fz h32 h2,h2⟩
   rw[h1] at h3;cases h3
 exact(PR _ hne).2
set_option maxRecDepth 100000
set_option maxHeartbeats 4000000
theorem aa9:(6,Ny.map (PV.int .u8))∈o5 Tryz.prog:=by
 have e:(o5 Tryz.prog)[0]? =some (6,Ny.map (PV.int .u8)):=by kernel_rfl
 exact Zg e
theorem cP(n lo hi:Int):Pure Tryz.prog 185 [.int .i64 n,.int .i64 lo,.int .i64 hi] (.bool (iq n lo hi)):=by
 refine Kf (N:=15) Tryz.func185 ?_
 exact Bq
theorem Oe(n k:Nat)(h0:0<n)(h:n<2^32)(hl:n&&& (2^32 - n)=2^k)(hk:k<32):Pure Tryz.prog 188 [.int .u32 (n:Int)] (.int .i64 ((k:Nat):Int)):=by
 have hT:(Ny.map (PV.int .u8))[(((2^k*125613361%4294967296 / 2^27:Nat):Int)).toNat*1]? =some (.int .u8 ((k:Nat):Int)):=by rw[JW,AD,Zu,Tr k hk];rfl
 refine Kf (N:=14) Tryz.func188 ?_
 iterate 10 refine af ?_
 refine Ki (fun hc0=> ?_) fun hc0=> ?_
 ·exfalso
  simp at hc0
  omega
 ·iterate 5 refine af ?_
  refine Kc (aa.neg (m:=((2^32 - n:Nat):Int)) rfl rfl ?_) ?_
  ·exact S9 h0 h
  refine Kc (aa.pK n (2^32 - n) rfl rfl rfl (by first | (show _<=(9223372036854775807:Int);omega) | (show _<=(4294967295:Int);omega) | (show _<=(18446744073709551615:Int);omega) | (show _<=(255:Int);omega) | (show _<=(65535:Int);omega)) (by first | decide | (show _<=(9223372036854775807:Int);omega) | (show _<=(4294967295:Int);omega) | (show _<=(18446744073709551615:Int);omega) | (show _<=(255:Int);omega) | (show _<=(65535:Int);omega))) ?_
  rw[hl]
  refine Kc (aa.mul (m:=((2^k*125613361%4294967296:Nat):Int)) rfl rfl rfl ?_) ?_
  ·exact TH k
  refine Kc (aa.x6 (2^k*125613361%4294967296) 27 rfl rfl rfl (by first | decide | (show _<=(9223372036854775807:Int);omega) | (show _<=(4294967295:Int);omega) | (show _<=(18446744073709551615:Int);omega) | (show _<=(255:Int);omega) | (show _<=(65535:Int);omega))) ?_
  refine Kc (aa.y4 (R0:=Ny.map (PV.int .u8)) aa9 rfl rfl Xj YX (by omega) (by omega)) ?_
  exact Es
theorem oc(n:Nat)(hn:n<2^32):MY Tryz.prog 190 (fun y=>[y,.p (.ip [.int .u32 (n:Int)] 0)]) (kV n):=by
 intro l κ nn inv fin hκ TG Gk hb h0 nA
 refine jY.gQ (N:=16) Tryz.func190 rfl rfl Kn ?_
 iterate 6 refine af ?_
 refine aF.tS [3,5,6,7,8,9,10,11,12,13,14,15] (fun g=>[(3,.p (.int .u32 ((qu n g.1:Nat):Int)))]) (fun g=>g.2) (fun g=>g.1<=32∧inv (aR n g.1).length g.2) (fun g=>32 - g.1) (0,h0) (show(0:Nat)<=32∧inv (aR n 0).length h0 from⟨Zs _,nA⟩) (To.sub (Sub.Sz (Sub.cons (by show some (V.p (.int .u32 ((n:Nat):Int)))=_;rw[HD]) Sub.nil))) (fun g hg=> ?_)
 obtain⟨p,LB⟩:=g
 obtain⟨hp,hinv⟩:=hg
 dsimp only at hp hinv ⊢
 have hle:=Sf n p
 iterate 6 refine af ?_
 refine Ki (fun hc0=> ?_) fun hc0=> ?_
 ·have hne:qu n p≠0:=by intro h;rw[h] at hc0;simp at hc0
  obtain⟨k,hpk,Tw,hlow,Tl,N6⟩:=IG hn hp hne
  iterate 7 refine af ?_
  refine Kc (Kp (Oe (qu n p) k (by omega) (by omega) hlow Tw)) ?_
  refine aj.yield 14 rfl rfl rfl rfl rfl rfl (hb _ _ _ hinv (Oq Tw N6)) ?_
  intro b2 h2 DQ
  iterate 2 refine af ?_
  refine Ki (fun cR=> ?_) fun cR=> ?_
  ·have iu:b2=false:=by simpa using cR
   subst iu
   refine af ?_
   exact⟨.inr rfl,_,en.none_ rfl,.inr DQ⟩
  ·have iu:b2=true:=by simpa using cR
   subst iu
   iterate 4 refine af ?_
   refine Kc (aa.iI (m:=((qu n p - 1:Nat):Int)) rfl rfl rfl ((uU ?_).trans ?_)) ?_
   ·omega
   ·omega
   refine Kc (aa.pK (qu n p) (qu n p - 1) rfl rfl rfl (by first | (show _<=(9223372036854775807:Int);omega) | (show _<=(4294967295:Int);omega) | (show _<=(18446744073709551615:Int);omega) | (show _<=(255:Int);omega) | (show _<=(65535:Int);omega)) (by first | decide | (show _<=(9223372036854775807:Int);omega) | (show _<=(4294967295:Int);omega) | (show _<=(18446744073709551615:Int);omega) | (show _<=(255:Int);omega) | (show _<=(65535:Int);omega))) ?_
   iterate 2 refine af ?_
   refine⟨(k+1,h2),?_,?_,?_⟩
   ·exact⟨by dsimp only;omega,by dsimp only;rw[N6,Zb];exact DQ⟩
   ·show 32 - (k+1)<32 - p
    omega
   exact To.sub (Sub.cons (by show some (V.p (.int .u32 _))=_;rw[Tl]) KS)
 ·have hz:qu n p=0:=by have h:((qu n p:Nat):Int)=0:=(by simpa using hc0);omega
  have hall:=HL hp hz
  refine aF.exit ?_
  exact⟨.inl rfl,_,en.none_ rfl,.inl (by rw[iB,hall];exact hinv)⟩
theorem tw(n:Nat):Pure Tryz.prog 150 [.int .u32 (n:Int)] (.func (.func 190) [] [.ip [.int .u32 (n:Int)] 0]):=by
 refine Kf (N:=4) Tryz.func150 ?_
 exact uZ
theorem ot(l:List Nat)(hl:∀ x∈l,x<2^32)(hb:l.length<=b6):Pure Tryz.prog 148 [.is (l.flatMap u1) l.length] (.int .u32 ((xK l:Nat):Int)):=by
 unfold b6 at hb
 refine Kf (N:=16) Tryz.func148 ?_
 iterate 12 refine af ?_
 refine aF.FY [5,6,15] (fun g=>[(7,.p (.int .i64 ((g:Nat):Int))),(2,.p (.int .u32 ((xK (l.take g):Nat):Int)))]) (fun g=>g<=l.length) (fun g=>l.length - g) 0 (Zs _) (Sub.cons rfl (Sub.cons rfl (Sub.nil))) (fun i hg=> ?_)
 iterate 5 refine af ?_
 refine Ki (fun hc0=> ?_) fun hc0=> ?_
 ·have hk0:i<l.length:=by have h:=Zk hc0;omega
  have hx:=hl _ (Ue hk0)
  have ho:=Gz (l:=l.take i) fun x hx=>hl x (SG hx)
  have Wb:=Gz (l:=l.take (i+1)) fun x hx=>hl x (SG hx)
  have hT:=Mn hk0
  rw[GD i hk0] at hT
  rw[hT] at Wb
  iterate 5 refine af ?_
  refine Kc (aa.aN (g:=ut l) GD rfl rfl rfl an Xq rfl (fun _=>rfl) (by decide) hk0) ?_
  iterate 6 refine af ?_
  refine Kc (aa.Wq (xK (l.take i)) (ut l i) rfl rfl rfl (by show _<=(4294967295:Int);omega) (by show _<=(4294967295:Int);omega) (by show _<=(4294967295:Int);omega)) ?_
  iterate 3 refine af ?_
  refine Kc (aa.add rfl rfl rfl (aK ?_)) ?_
  ·omega
  iterate 2 refine af ?_
  refine⟨i+1,?_,?_,?_⟩
  ·omega
  ·omega
  refine To.done [] rfl (Sub.cons rfl (Sub.cons (by rw[hT];rfl) KS)) rfl
 ·obtain rfl:i=l.length:=by have h:=Zl hc0;omega
  rw[ZP]
  refine aF.exit ?_
  iterate 6 refine af ?_
  exact iQ
theorem IN(xs:List Int)(f:PV)(p:Int->Bool)(hx:xs.length<=b6)(hf:∀ x∈xs,jN Tryz.prog f [.int .i64 x] (.bool (p x))):Pure Tryz.prog 207 [.is (xs.flatMap i1) xs.length,f] (.int .i64 (iN p xs)):=by
 unfold b6 at hx
 refine Kf (N:=19) Tryz.func207 ?_
 iterate 12 refine af ?_
 refine aF.zg [4,5,8,9,10,11,12,13,14,15,16,17,18] (fun g=>[(8,.p (.int .i64 ((g:Nat):Int)))]) (fun g=>g<=xs.length∧∀ j (hj:j<g) (h:g<=xs.length),p (xs[j]'(by omega))=false) (fun g=>xs.length - g) 0 ⟨Zs _,fun j hj=>absurd hj (by omega)⟩ (Sub.cons rfl (Sub.nil)) (fun i hg=> ?_)
 obtain⟨vt,mF⟩:=hg
 iterate 5 refine af ?_
 refine Ki (fun hc0=> ?_) fun hc0=> ?_
 ·iterate 13 refine af ?_
  refine Kc (aa.j6 rfl rfl rfl an dH rfl (fun _=>rfl) (by decide) ?_) ?_
  ·simp at hc0;omega
  exact vG
 ·exact xx
theorem zM(xs:List Int)(f:PV)(p:Int->Bool)(hx:xs.length<=b6)(hf:∀ x∈xs,jN Tryz.prog f [.int .i64 x] (.bool (p x))):Pure Tryz.prog 187 [.is (xs.flatMap i1) xs.length,f] (.bool (xs.any p)):=by
 refine Kf (N:=9) Tryz.func187 ?_
 iterate 8 refine af ?_
 refine Kc (Kp (IN _ _ p ?_ ?_)) ?_
 ·exact hx
 ·exact hf
 exact vq
theorem I4(n:Int)(l:List cx)(hl:l.length<=24):Pure Tryz.prog 184 [.int .i64 n,.ip [ku l] 0] (.bool (!iq n 0 (pw l.length - 1))):=by
 have hp:=GB hl
 have Sa:((2^l.length:Nat):Int)=pw l.length:=rfl
 refine Kf (N:=11) Tryz.func184 ?_
 iterate 9 refine af ?_
 refine Kc (aa.ri 1 l.length rfl rfl rfl (by show _<=(64:Nat);omega) (by show _<=(9223372036854775807:Int);rw[ZO];omega)) ?_
 rw[ZO]
 refine Kc (aa.iI (m:=(pw l.length - 1)) rfl rfl rfl ((aK ?_).trans ?_)) ?_
 ·omega
 ·rfl
 refine Kc (Kp (cP _ _ _)) ?_
 iterate 4 refine af ?_
 exact iQ
theorem Cn(l:List cx)(hb:l.length<=b6):Pure Tryz.prog 186 [ku l] (.bool (decide (cM l))):=by
 unfold b6 at hb
 refine Kf (N:=30) Tryz.func186 ?_
 iterate 12 refine af ?_
 refine aF.fE [5,6] (fun g=>[(7,.p (.int .i64 ((g:Nat):Int)))]) (fun g=>[]) (fun g=>g<=l.length∧∀ i,i<g->C7 l i) (fun g=>l.length - g) 0 ⟨Zs _,fun j hj=>absurd hj (by omega)⟩ (To.sub (Sub.Jw (Sub.cons rfl (Sub.nil)))) (fun j hg=> ?_)
 obtain⟨vt,mF⟩:=hg
 iterate 5 refine af ?_
 refine Ki (fun hc0=> ?_) fun hc0=> ?_
 ·have hk0:j<l.length:=by have h:=Zk hc0;omega
  iterate 6 refine af ?_
  refine Kc (aa.aN (g:=bt l) wV rfl rfl rfl an Rd rfl (fun _=>rfl) (by decide) hk0) ?_
  refine Kc (Kl (.p (.agg (bt l j).cells))) ?_
  iterate 2 refine af ?_
  refine Kz (aa.store (H':=[.cells ((bt l j).cells.map .p) 92]) rfl rfl rfl rfl rfl an rfl rfl) ?_
  iterate 2 refine af ?_
  refine aF.aD 17 mixed (by kernel_rfl) (by decide) ?_
  refine af ?_
  refine Kq (aa.geq rfl rfl rfl) ?_
  refine af ?_
  refine aA.guard 15 14 rfl rfl rfl rfl rfl rfl rfl [(4,_)] (fun h=>And.intro (.inl rfl) (trivial)) (fun h=>(aa.fieldAddr rfl rfl an rfl)) ?_
  refine aA.guard 16 14 rfl rfl rfl rfl rfl rfl rfl [(15,_)] (fun h=>And.intro (.inr ⟨_,rfl,h⟩) (trivial)) (fun h=>(Kl (.p (.int .i64 (bt l j).f)))) ?_
  refine aA.guard 17 14 rfl rfl rfl rfl rfl rfl rfl [(3,_)] (fun h=>And.intro (.inl rfl) (trivial)) (fun h=>(aa.move rfl rfl)) ?_
  refine aA.guard 18 14 rfl rfl rfl rfl rfl rfl rfl [(17,_)] (fun h=>And.intro (.inr ⟨_,rfl,h⟩) (trivial)) (fun h=>(aa.ri 1 j rfl rfl rfl (by show _<=(64:Nat);have hj:j<=24:=(by simp at h;omega);omega) (by show _<=(9223372036854775807:Int);rw[ZO];have hj:j<=24:=(by simp at h;omega);have:=GB hj;unfold pw at this;omega))) ?_
  refine aA.guard 19 14 rfl rfl rfl rfl rfl rfl rfl [(18,_)] (fun h=>And.intro (.inr ⟨_,rfl,h⟩) (trivial)) (fun h=>(aa.iI (m:=(pw j - 1)) rfl rfl rfl ((aK (by rw[ZO];have hj:j<=24:=(by simp at h;omega);have:=GB hj;unfold pw at this;omega)).trans (by rw[ZO];rfl)))) ?_
  refine aA.guard 20 14 rfl rfl rfl rfl rfl rfl rfl [(16,_),(19,_)] (fun h=>And.intro (.inr ⟨_,rfl,h⟩) (And.intro (.inr ⟨_,rfl,h⟩) (trivial))) (fun h=>(Kp (cP _ _ _))) ?_
  refine aA.guard 21 14 rfl rfl rfl rfl rfl rfl rfl [(20,_)] (fun h=>And.intro (.inr ⟨_,rfl,h⟩) (trivial)) (fun h=>(aa.gr rfl rfl)) ?_
  refine Kq (aa.mG rfl rfl rfl ?_) ?_
  ·exact az
  refine af ?_
  refine aA.guard 24 23 rfl rfl rfl rfl rfl rfl rfl [(4,_)] (fun h=>And.intro (.inl rfl) (trivial)) (fun h=>(aa.fieldAddr rfl rfl an rfl)) ?_
  refine aA.guard 25 23 rfl rfl rfl rfl rfl rfl rfl [(24,_)] (fun h=>And.intro (.inr ⟨_,rfl,h⟩) (trivial)) (fun h=>(Kl (.p (.int .i64 (bt l j).s)))) ?_
  refine aA.guard 26 23 rfl rfl rfl rfl rfl rfl rfl [(25,_)] (fun h=>And.intro (.inr ⟨_,rfl,h⟩) (trivial)) (fun h=>(Kp (cP _ _ _))) ?_
  refine aA.guard 27 23 rfl rfl rfl rfl rfl rfl rfl [(26,_)] (fun h=>And.intro (.inr ⟨_,rfl,h⟩) (trivial)) (fun h=>(aa.gr rfl rfl)) ?_
  refine Kq (aa.mG rfl rfl rfl ?_) ?_
  ·exact az
  refine aA.nil ?_
  refine af ?_
  refine Ki (fun cR=> ?_) fun cR=> ?_
  ·iterate 5 refine af ?_
   refine Fin.fQ rfl rfl ?_
   have h3:((decide ((j:Int)>=24)|| !iq (bt l j).f 0 (pw j - 1))|| !iq (bt l j).s 0 1048576)=true:=cR
   rw[decide_eq_false (p:=cM l) (fun h=>by have h1:=h j hk0;unfold C7 at h1;simp[iq] at h3;omega)]
  ·have hst:C7 l j:=by
    have h3:((decide ((j:Int)>=24)|| !iq (bt l j).f 0 (pw j - 1))|| !iq (bt l j).s 0 1048576)=false:=cR
    simp[iq] at h3
    unfold C7
    omega
   iterate 2 refine af ?_
   refine Kc (aa.add rfl rfl rfl (aK ?_)) ?_
   ·omega
   iterate 2 refine af ?_
   refine⟨j+1,?_,?_,?_⟩
   ·refine⟨by omega,fun i hi=> ?_⟩
    rcases Md.1 hi with h1 | rfl
    ·exact mF i h1
    ·exact hst
   ·omega
   exact To.done [] rfl KS rfl
 ·obtain rfl:j=l.length:=by have h:=Zl hc0;omega
  refine aF.exit ?_
  iterate 5 refine af ?_
  refine Fin.fQ rfl rfl ?_
  rw[decide_eq_true (p:=cM l) mF]
theorem BD(l:List cx)(sets:List Int)(hb:l.length<=b6)(hs:sets.length<=b6):Pure Tryz.prog 145 [ku l,bw sets] (.int .i64 (jO l sets)):=by
 refine Kf (N:=15) Tryz.func145 ?_
 iterate 7 refine af ?_
 refine Kc (aa.makeFunc rfl rfl rfl) ?_
 iterate 7 refine af ?_
 refine Kc (Kp (Cn _ ?_)) ?_
 ·assumption
 iterate 3 refine af ?_
 refine Ki (fun hc0=> ?_) fun hc0=> ?_
 ·have hC:¬ cM l:=by simpa using hc0
  iterate 5 refine af ?_
  refine Fin.fQ rfl rfl ?_
  unfold jO;rw[if_neg hC]
 ·have hC:cM l:=by simpa using hc0
  have oO:=dc hC
  iterate 4 refine af ?_
  refine Kc (Kp (zM sets _ (fun n=> !iq n 0 (pw l.length - 1)) hs (fun x _=>⟨184,[.int .i64 x,.ip [ku l] 0],rfl,an,I4 x l oO⟩))) ?_
  iterate 2 refine af ?_
  refine Ki (fun cR=> ?_) fun cR=> ?_
  ·have hS:(sets.any fun n=> !iq n 0 (pw l.length - 1))=true:=cR
   iterate 5 refine af ?_
   refine Fin.fQ rfl rfl ?_
   unfold jO;rw[if_pos hC,if_pos hS]
  ·have hS:(sets.any fun n=> !iq n 0 (pw l.length - 1))=false:=cR
   iterate 6 refine af ?_
   refine Fin.fQ rfl rfl ?_
   unfold jO;rw[if_pos hC,if_neg (by rw[hS];decide)]
theorem LY(l:List cx)(b:Nat)(hC:cM l)(hb:b<l.length):Pure Tryz.prog 234 [ku l,.int .i64 (b:Int)] (.int .u32 ((pZ l b:Nat):Int)):=by
 have hf:=(hC b hb).2.1
 have hp:=GB (n:=b) (by have:=dc hC;omega)
 have hfr:(bt l b).f=((pZ l b:Nat):Int):=by unfold pZ;omega
 refine Kf (N:=11) Tryz.func234 ?_
 iterate 8 refine af ?_
 refine Kc (aa.aN (g:=bt l) wV rfl rfl rfl an YT rfl (fun _=>rfl) (by decide) hb) ?_
 refine af ?_
 refine Kc (Kl (.p (.int .i64 (bt l b).f))) ?_
 refine Kc (aa.dY rfl rfl (by rw[CR];rfl) tT (uU ?_)) ?_
 ·omega
 iterate 3 refine af ?_
 refine Fin.fQ rfl rfl ?_
 rw[hfr]
theorem LZ(l:List cx)(b:Nat)(hC:cM l)(hb:b<l.length):Pure Tryz.prog 233 [IP l,.int .i64 (b:Int)] (.int .u32 ((ye l b:Nat):Int)):=by
 refine Kf (N:=8) Tryz.func233 ?_
 iterate 8 refine af ?_
 refine Kc (aa.JC (dJ.int .i64 .i64) (gp:=Am) 0 rfl rfl rfl K0 rfl) ?_
 iterate 3 refine af ?_
 refine Fin.fQ rfl rfl ?_
 have e:=xC hC b l.length (Zf _)
 show Am ((bM ((b:Nat):Int) (vc l l.length)).getD 0)=_
 rw[e]
 rfl
theorem Bn(l:List cx)(hC:cM l):Pure Tryz.prog 149 [ku l] (IP l):=by
 have oO:=dc hC
 refine Kf (N:=31) Tryz.func149 ?_
 iterate 6 refine af ?_
 refine Kc (aa.makeMap (K:=Int) (α:=Nat) (enc:=PV.int .i64) (g:=fun n=> .p (Am n)) rfl) ?_
 iterate 11 refine af ?_
 refine aF.fE [2,3,8,9,19,30] (fun g=>[(10,.p (.int .i64 ((g:Nat):Int)))]) (fun g=>[gO (PV.int .i64) (fun n=> .p (Am n)) (vc l g),.cells [.map 0] 213]) (fun g=>g<=l.length) (fun g=>l.length - g) 0 (Zs _) (To.sub (Sub.Jw (Sub.cons rfl (Sub.nil)))) (fun i hg=> ?_)
 iterate 5 refine af ?_
 refine Ki (fun hc0=> ?_) fun hc0=> ?_
 ·have hk0:i<l.length:=by have h:=Zk hc0;omega
  have hf:=(hC i hk0).2.1
  have hp:=GB (n:=i) (by omega)
  have hfr:(bt l i).f=((pZ l i:Nat):Int):=by unfold pZ;omega
  have hlt:pZ l i<2^32:=by omega
  iterate 6 refine af ?_
  refine Kc (aa.aN (g:=bt l) wV rfl rfl rfl an Rd rfl (fun _=>rfl) (by decide) hk0) ?_
  refine Kc (Kl (.p (.agg (bt l i).cells))) ?_
  iterate 8 refine af ?_
  refine Kc (Kl (.p (.int .i64 (bt l i).f))) ?_
  refine Kc (aa.dY rfl rfl (by rw[CR];rfl) tT (uU ?_)) ?_
  ·omega
  rw[hfr]
  refine Kc (Kp (tw (pZ l i))) ?_
  iterate 2 refine af ?_
  refine aF.rangeFunc 0 rfl (fun _=>rfl) an (oc (pZ l i) hlt) (Zf _) (Zs _) (fun _ h=>by cases h) (fun x hx=>by unfold kV at hx;simp at hx;obtain⟨j,_,rfl⟩:=hx;rfl) rfl (fun k h=>h=[gO (PV.int .i64) (fun n=> .p (Am n)) (tg i (vc l i) ((aR (pZ l i) 32).take k)),.cells [.map 0] 213,.cells [.p (.int .i64 ((i:Nat):Int))] 3,.cells ((bt l i).cells.map .p) 92]) (fun c h=>False) (fun _ _ h=>by rw[h];rfl) (fun _ _ h=>h.elim) rfl ?_ ?_ ?_
  ·intro lx tmps k h x hJ hx
   subst hJ
   obtain⟨q,hq,rfl⟩:=jk hx
   have OS:=ct.1 (Zg hq)
   have hqi:=xe hC hk0 OS.2
   have hval:=PD hC hk0 q k
   have hjl:∀ x∈[(bM ((q:Nat):Int) (tg i (vc l i) ((aR (pZ l i) 32).take k))).getD 0,1*2^i],x<2^32:=by intro x hx2;simp at hx2;rcases hx2 with rfl | rfl;{omega};{unfold pw at hp;omega}
   iterate 3 refine af ?_
   refine⟨rfl,rfl,?_⟩
   refine af ?_
   refine aF.aD 9 mixed (by kernel_rfl) (by decide) ?_
   refine Kq (Kl (.map 0)) ?_
   refine af ?_
   refine Kq (Kl (.map 0)) ?_
   refine af ?_
   refine Kq (aa.vU (dJ.int .i64 .i64) (gp:=Am) 0 rfl rfl rfl rfl K0 rfl) ?_
   refine Kq (Kl (.p (.int .i64 ((i:Nat):Int)))) ?_
   refine Kq (aa.ri 1 i rfl rfl rfl (by show _<=(32:Nat);omega) (by show _<=(4294967295:Int);rw[ZO];unfold pw at hp;omega)) ?_
   refine Kq (aa.aS rfl an (by decide) rfl rfl rfl) ?_
   refine Kq (Kp (ot [(bM ((q:Nat):Int) (tg i (vc l i) ((aR (pZ l i) 32).take k))).getD 0,1*2^i] hjl (by unfold b6;show 2<=_;omega))) ?_
   rw[or2,ZO]
   refine aA.nil ?_
   refine Kz (aa.mapUpdate (dJ.int .i64 .i64) (g:=fun n=> .p (Am n)) (.inl rfl) rfl rfl rfl rfl K0) ?_
   refine af ?_
   exact⟨_,rfl,by rw[fR hq,IL];exact To.sub Sub.nil⟩
  ·intro h hJ
   subst hJ
   rw[iB,ZP]
   refine af ?_
   refine Kc (aa.add rfl rfl rfl (aK ?_)) ?_
   ·omega
   iterate 2 refine af ?_
   refine⟨i+1,?_,?_,?_⟩
   ·omega
   ·omega
   exact To.done [0,1] rfl KS (congrArg (fun z=>[z,ah.cells [V.map 0] 213]) (jf _ (PV.int .i64) Am (vc l (i+1))))
  ·exact gZ
 ·obtain rfl:i=l.length:=by have h:=Zl hc0;omega
  refine aF.exit ?_
  iterate 5 refine af ?_
  refine aF.to (To.sx 0 rfl) ?_
  refine af ?_
  exact Fin.fQ rfl rfl rfl
def Ln(W:PV):List V:=[.ptr 1 0,.ptr 0 0,.p (.ip [W] 0),.ptr 2 0]
def XH(W:PV)(M:Nat):List ah:=[.cells [.p (.int .u32 (M:Int))] 209,.cells (((vL M).flatMap b1).map .p) 266,.cells [.func (.func 191) [] (Ln W)] 255]
def J3(N:Nat)(nx:Nat->Nat)(W:PV):Prop:=∀ b,b<N->K9 Tryz.prog "pencilworks/recall.next" W [.int .i64 ((b:Nat):Int)] (.int .u32 ((nx b:Nat):Int))
def Ua(R:Nat->Nat)(W:PV)(b:Nat):Prop:=∀ M,M<2^24->Hh R b M->ax Tryz.prog 191 (.p (.int .i64 ((b:Nat):Int))::Ln W) (XH W M) fun v H'=>H'=XH W (M||| R b)
theorem Ql{N:Nat}{nx R rk:Nat->Nat}(w:Way N nx R rk)(hN:N<=24){b M:Nat}(hb:b<N)(hM:M<2^24){ks:List Nat}(hk:∀ k∈ks,k<N):qL R M b ks<2^24:=by
 apply Nat.lt_pow_two_of_testBit
 intro x hx
 cases h:(qL R M b ks).testBit x with
 | false=>rfl
 | true=>
  exfalso
  rcases(vA R M b x ks).1 h with h1 | h1 | ⟨k,h1,h2⟩
  ·rw[UI (ZQ hM (Zy (by omega) hx))] at h1
   cases h1
  ·omega
  ·rw[UI (ZQ (w.rlt k (hk k h1)) (Zy (by omega) (by omega)))] at h2
   cases h2
theorem Ic{N:Nat}{nx R rk:Nat->Nat}(w:Way N nx R rk)(hN:N<=24)(W:PV)(QM:J3 N nx W)(b:Nat)(hb:b<N)(IH:∀ k,(nx b).testBit k=true->Ua R W k):Ua R W b:=by
 intro M hM W9
 refine ax.start (N:=25) Tryz.func191 rfl rfl Kn ?_
 have tY:nx b<2^32:=ZQ (w.lt b hb) (Zy (by omega) (by omega))
 have jM:b<24:=by omega
 have h2b:=Zy (show 0<2 by omega) (show b<=23 by omega)
 iterate 4 refine af ?_
 refine Kc (aa.ow rfl rfl rfl RQ RO (by omega)) ?_
 refine Kc (aa.kY (f:=b1) (c:=1) (k:=b) (j:=0) (xs:=(vL M)) rfl rfl an rfl rfl (by omega) (fun _=>rfl) (by rw[vK];omega) (by decide) (show _=PV.bool (M.testBit b) from by rw[vV];rfl)) ?_
 refine af ?_
 refine Ki (fun hc0=> ?_) fun hc0=> ?_
 ·have hm:M.testBit b=true:=hc0
  refine af ?_
  exact⟨.inr rfl,_,en.none_ rfl,by rw[Pq w hb W9 hm]⟩
 ·iterate 4 refine af ?_
  refine Kc (aa.ow rfl rfl rfl RQ RO (by omega)) ?_
  refine Kz (aa.storeCells (f:=b1) (c:=1) (k:=b) (j:=0) (xs:=(vL M)) (z:=true) (ws:=[.bool true]) rfl rfl rfl rfl rfl an rfl rfl rfl (by omega) (fun _=>rfl) (by rw[vK];omega) (by decide) rfl) ?_
  iterate 2 refine af ?_
  rw[Mi jM]
  refine aF.aD 5 mixed (by kernel_rfl) (by decide) ?_
  refine Kq (Kl (.p (.int .u32 (M:Int)))) ?_
  refine af ?_
  refine Kq (aa.ri 1 b rfl rfl rfl (by show _<=(32:Nat);omega) (by show _<=(4294967295:Int);rw[ZO];omega)) ?_
  refine Kq (aa.aS rfl an (by decide) rfl rfl rfl) ?_
  refine Kq (Kp (ot [M,1*2^b] (by intro x hx;simp at hx;rcases hx with rfl | rfl;{omega};{omega}) (by unfold b6;show 2<=_;omega))) ?_
  rw[or2,ZO]
  refine aA.nil ?_
  refine Kz (aa.store (H':=XH W (M||| 2^b)) rfl rfl rfl rfl rfl an rfl rfl) ?_
  iterate 3 refine af ?_
  refine Kc (Kl (.p W)) ?_
  refine af ?_
  refine Kc (aa.invoke (QM b hb) rfl rfl rfl) ?_
  refine Kc (Kp (tw (nx b))) ?_
  refine af ?_
  refine aF.toEnd ?_
  refine af ?_
  refine aF.rangeFunc 3 rfl (fun _=>rfl) an (oc (nx b) tY) (Zf 3) (Zf 3) (fun _ h=>by cases h) (fun x hx=>by unfold kV at hx;simp at hx;obtain⟨j,_,rfl⟩:=hx;rfl) rfl (fun k h=>h=XH W (qL R M b ((aR (nx b) 32).take k))) (fun c h=>False) (fun _ _ h=>by rw[h];rfl) (fun _ _ h=>h.elim) rfl ?_ ?_ ?_
  ·intro lx tmps k h x hJ hx
   subst hJ
   obtain⟨q,hq,rfl⟩:=jk hx
   have OS:=ct.1 (Zg hq)
   have hks:∀ p∈(aR (nx b) 32).take k,(nx b).testBit p=true:=fun p hp=>(ct.1 (SG hp)).2
   have hIH:=IH q OS.2 (qL R M b ((aR (nx b) 32).take k)) (Ql w hN hb hM fun p hp=>w.Te b hb p (hks p hp)) (Lm w hb W9 hks OS.2)
   iterate 3 refine af ?_
   refine⟨rfl,rfl,?_⟩
   iterate 2 refine af ?_
   refine Kc (Kl (.func (.func 191) [] (Ln W))) ?_
   refine af ?_
   refine aj.TA 24 [0,1,2] (all:= .p (.int .i64 ((q:Nat):Int))::Ln W) (by show ax _ _ _ [ah.cells _ _,ah.cells (bA _ (List.map V.p _)) _,ah.cells _ _] _;rw[aP];exact hIH) (fun v H2 h=>by rw[h];rfl) (by rfl) (by rfl) rfl rfl rfl rfl rfl rfl rfl an (fun v H2 iw=> ?_)
   subst iw
   refine af ?_
   exact⟨_,rfl,by rw[fR hq,J6];exact To.sub Sub.nil⟩
  ·intro h hJ
   subst hJ
   have hall:qL R M b (aR (nx b) 32)=M||| R b:=by
    rcases PI w (M:=M) hb with h | h
    ·exact h
    ·omega
   rw[iB,ZP,hall]
   exact⟨[],_,To.done [0,1,2] rfl Sub.nil (by show[ah.cells _ _,ah.cells (bA _ (List.map V.p _)) _,ah.cells _ _]=_;rw[aP];rfl),.inl rfl,_,en.none_ rfl,rfl⟩
  ·exact gZ
theorem Mq{N:Nat}{nx R rk:Nat->Nat}(w:Way N nx R rk)(hN:N<=24)(W:PV)(QM:J3 N nx W):∀(m b:Nat),b<N->rk b<=m->Ua R W b
 | 0,b,hb,hm=>Ic w hN W QM b hb fun k hk=>by have:=w.rk b hb k hk;omega
 | m+1,b,hb,hm=>Ic w hN W QM b hb fun k hk=>Mq w hN W QM m k (w.Te b hb k hk) (by have:=w.rk b hb k hk;omega)
theorem mN{N:Nat}{nx R rk:Nat->Nat}(w:Way N nx R rk)(hN:N<=24)(t:Nat)(y:PV)(QM:J3 N nx (.iface t y))(b:Nat)(hb:b<N):Pure Tryz.prog 151 [.iface t y,.int .i64 (b:Int)] (.int .u32 ((R b:Nat):Int)):=by
 refine Kf (N:=12) Tryz.func151 ?_
 iterate 15 refine af ?_
 refine Kc (aa.makeFunc rfl rfl rfl) ?_
 refine Kz (aa.store (H':=XH (.iface t y) 0) rfl rfl rfl rfl rfl an rfl rfl) ?_
 iterate 3 refine af ?_
 refine Kc (Kl (.func (.func 191) [] (Ln (.iface t y)))) ?_
 refine af ?_
 refine aj.yM 10 (Mq w hN (.iface t y) QM (rk b) b hb (Zf _) 0 (by decide) (fun x hx=>by simp at hx)) rfl rfl rfl rfl rfl rfl rfl an (fun v H2 iw=> ?_)
 subst iw
 rw[Nat.zero_or]
 iterate 3 refine af ?_
 refine Kc (Kl (.p (.int .u32 ((R b:Nat):Int)))) ?_
 exact wZ
theorem zN(l:List cx)(hC:cM l):J3 l.length (pZ l) (.iface 220 (ku l)):=fun b hb=>⟨220,_,234,rfl,by kernel_rfl,an,LY l b hC hb⟩
theorem Cs(l:List cx)(hC:cM l):J3 l.length (ye l) (.iface 213 (IP l)):=fun b hb=>⟨213,_,233,rfl,by kernel_rfl,an,LZ l b hC hb⟩
theorem Pure.Wz{P:Program}{f:FuncId}{x r:PV}(h:Pure P f [x,.is [] 0] r):Pure P f [x,.nilSlice] r:=by
 intro w I ρ us hi fX
 refine h w I ρ us hi ?_
 obtain⟨u,us',rfl,h1,u2,us2,rfl,h2,h3⟩:=fX
 exact⟨u,_,rfl,h1,u2,us2,rfl,aB.wk (.p .nilSlice) u2 h2,h3⟩
theorem I7(l:List cx)(hb:l.length<=b6):Pure Tryz.prog 145 [ku l,.nilSlice] (.int .i64 (jO l [])):=Pure.Wz (BD l [] hb (Zs _))
theorem Rl(l:List cx)(b:Int)(hb:l.length<=b6)(f:PV)(t:Nat)(y:PV)(nx R rk:Nat->Nat)(hw:cM l->Way l.length nx R rk)(QM:cM l->J3 l.length nx (.iface t y))(hf:cM l->jN Tryz.prog f [] (.iface t y)):Pure Tryz.prog 152 [ku l,f,.int .i64 b] (.tuple [.int .i64 ((mq l R b:Nat):Int),.int .i64 (fY l b)]):=by
 have iu:=hb
 unfold b6 at iu
 refine Kf (N:=25) Tryz.func152 ?_
 iterate 9 refine af ?_
 refine Kc (Kp (I7 l hb)) ?_
 iterate 7 refine af ?_
 refine Ki (fun hc0=> ?_) fun hc0=> ?_
 ·have hE:jO l []≠0:=by simpa using hc0
  iterate 7 refine af ?_
  refine Fin.ep (xs:=[.int .i64 0,.int .i64 (jO l [])]) rfl (⟨_,_,rfl,rfl,⟨_,_,rfl,rfl,rfl⟩⟩) rfl ?_
  have e:fY l b=jO l []:=by rw[RF] at hE ⊢;unfold fY;split <;> simp_all
  unfold mq;rw[e,if_neg hE];rfl
 ·have hE:jO l []=0:=by simpa using hc0
  have hC:=(wz hE).1
  have hS:=(wz hE).2
  have oO:=dc hC
  have I6:=GB oO
  iterate 7 refine af ?_
  refine Kc (aa.iI rfl rfl rfl (aK ?_)) ?_
  ·omega
  refine Kc (Kp (cP _ _ _)) ?_
  iterate 2 refine af ?_
  refine Ki (fun cR=> ?_) fun cR=> ?_
  ·have hI:¬ iq b 0 ((l.length:Int) - 1)=true:=by intro h;rw[h] at cR;cases cR
   iterate 6 refine af ?_
   refine Fin.ep (xs:=[.int .i64 0,.int .i64 2]) rfl (⟨_,_,rfl,rfl,⟨_,_,rfl,rfl,rfl⟩⟩) rfl ?_
   have e:fY l b=2:=by unfold fY;rw[if_pos hC,if_neg hI]
   unfold mq;rw[e,if_neg (by decide)];rfl
  ·have hI:iq b 0 ((l.length:Int) - 1)=true:=by simpa using cR
   have hI2:=hI
   simp[iq] at hI2
   obtain⟨b,rfl⟩:∃ m:Nat,b=(m:Int):=⟨b.toNat,by omega⟩
   have Rv:b<l.length:=by omega
   iterate 4 refine af ?_
   refine Kc (aa.C0 (hf hC) rfl rfl rfl) ?_
   refine af ?_
   refine Kc (Kp (mN (hw hC) oO t y (QM hC) b Rv)) ?_
   refine Kc (aa.dY rfl rfl (by rw[tT];rfl) CR (aK ?_)) ?_
   ·have h2:=(hw hC).rlt b Rv;have h3:=Zy (show 0<2 by omega) oO;omega
   iterate 4 refine af ?_
   refine Fin.ep (xs:=[.int .i64 ((R b:Nat):Int),.int .i64 0]) rfl (⟨_,_,rfl,rfl,⟨_,_,rfl,rfl,rfl⟩⟩) rfl ?_
   have e:fY l (b:Int)=0:=by unfold fY;rw[if_pos hC,if_pos hI]
   unfold mq;rw[e,if_pos rfl];rfl
theorem NQ(l:List cx):Pure Tryz.prog 153 [.ip [ku l] 0] (.iface 220 (ku l)):=by
 refine Kf (N:=4) Tryz.func153 ?_
 iterate 7 refine af ?_
 refine Kc (aa.aG rfl rfl Fh) ?_
 exact dA
theorem Q7(l:List cx)(b:Int)(hb:l.length<=b6):Pure Tryz.prog 100 [ku l,.int .i64 b] (.tuple [.int .i64 ((mq l (b8 l) b:Nat):Int),.int .i64 (fY l b)]):=by
 refine Kf (N:=12) Tryz.func100 ?_
 iterate 9 refine af ?_
 refine Kc (aa.makeFunc rfl rfl rfl) ?_
 refine af ?_
 refine Kc (Kp (Rl l b hb _ _ _ (pZ l) (b8 l) (fun b=>b) nC (fun h=>zN l h) (fun _=>⟨153,[.ip [ku l] 0],rfl,an,NQ l⟩))) ?_
 iterate 6 refine af ?_
 exact Fin.many (xs:=[.int .i64 ((mq l (b8 l) b:Nat):Int),.int .i64 (fY l b)]) rfl (⟨_,_,rfl,rfl,⟨_,_,rfl,rfl,rfl⟩⟩) rfl
theorem Ol(l:List cx)(bad good:Nat)(hC:cM l)(hbd:bad<2^l.length)(hgd:good<2^l.length):Pure Tryz.prog 146 [ku l,.int .u32 (bad:Int),.int .u32 (good:Int)] (.int .u32 ((fZ l bad good:Nat):Int)):=by
 have oO:=dc hC
 have I6:=Zy (show 0<2 by omega) oO
 have hp1:=P6 l.length
 have hfull:2^l.length - 1<2^l.length:=by omega
 have aa7:bad<2^32:=by omega
 have abj:good<2^32:=by omega
 refine Kf (N:=33) Tryz.func146 ?_
 iterate 9 refine af ?_
 refine Kc (aa.ri 1 l.length rfl rfl rfl (by show _<=(32:Nat);omega) (by show _<=(4294967295:Int);rw[ZO];omega)) ?_
 rw[ZO]
 refine Kc (aa.iI (m:=((2^l.length - 1:Nat):Int)) rfl rfl rfl ((uU ?_).trans ?_)) ?_
 ·omega
 ·omega
 iterate 7 refine af ?_
 refine Kc (Kp (tw bad)) ?_
 iterate 2 refine af ?_
 refine aF.rangeFunc 0 rfl (fun _=>rfl) an (oc bad aa7) (Zf _) (Zs _) (fun _ h=>by cases h) (fun x hx=>by unfold kV at hx;simp at hx;obtain⟨j,_,rfl⟩:=hx;rfl) rfl (fun k h=>h=[.cells [.p (.int .u32 (((F8 l (2^l.length - 1) ((aR bad 32).take k)):Nat):Int))] 209]) (fun c h=>False) (fun _ _ h=>by rw[h];rfl) (fun _ _ h=>h.elim) rfl ?_ ?_ ?_
 ·intro lx tmps k h x hJ hx
  subst hJ
  obtain⟨q,hq,rfl⟩:=jk hx
  have OS:=ct.1 (Zg hq)
  have Ox:q<l.length:=fz hbd OS.2
  have hr:=(nC hC).rlt q Ox
  have ha:=MV l hfull ((aR bad 32).take k)
  iterate 3 refine af ?_
  refine⟨rfl,rfl,?_⟩
  refine af ?_
  refine aF.aD 6 mixed (by kernel_rfl) (by decide) ?_
  refine Kq (Kl (.p (.int .u32 (((F8 l (2^l.length - 1) ((aR bad 32).take k)):Nat):Int)))) ?_
  refine af ?_
  refine Kq (aa.aG rfl rfl Fh) ?_
  refine af ?_
  refine Kq (Kp (mN (nC hC) oO _ _ (zN l hC) q Ox)) ?_
  refine Kq (aa.pK (F8 l (2^l.length - 1) ((aR bad 32).take k)) (b8 l q) rfl rfl rfl (by first | (show _<=(9223372036854775807:Int);omega) | (show _<=(4294967295:Int);omega) | (show _<=(18446744073709551615:Int);omega) | (show _<=(255:Int);omega) | (show _<=(65535:Int);omega)) (by first | decide | (show _<=(9223372036854775807:Int);omega) | (show _<=(4294967295:Int);omega) | (show _<=(18446744073709551615:Int);omega) | (show _<=(255:Int);omega) | (show _<=(65535:Int);omega))) ?_
  refine aA.nil ?_
  iterate 2 refine af ?_
  exact⟨_,rfl,by rw[fR hq,Oz];exact To.sub Sub.nil⟩
 ·intro h hJ
  subst hJ
  rw[iB,ZP]
  iterate 4 refine af ?_
  refine Kc (Kp (tw good)) ?_
  iterate 2 refine af ?_
  refine aF.rangeFunc 0 rfl (fun _=>rfl) an (oc good abj) (Zf _) (Zs _) (fun _ h=>by cases h) (fun x hx=>by unfold kV at hx;simp at hx;obtain⟨j,_,rfl⟩:=hx;rfl) rfl (fun k h=>h=[.cells [.p (.int .u32 (((JP l (F8 l (2^l.length - 1) (aR bad 32)) ((aR good 32).take k)):Nat):Int))] 209,.dead]) (fun c h=>False) (fun _ _ h=>by rw[h];rfl) (fun _ _ h=>h.elim) rfl ?_ ?_ ?_
  ·intro lx tmps k h x hJ hx
   subst hJ
   obtain⟨q,hq,rfl⟩:=jk hx
   have OS:=ct.1 (Zg hq)
   have Ox:q<l.length:=fz hgd OS.2
   have hr:=(nC hC).rlt q Ox
   have ha:=TW l (MV l hfull (aR bad 32)) ((aR good 32).take k)
   iterate 3 refine af ?_
   refine⟨rfl,rfl,?_⟩
   refine af ?_
   refine aF.aD 6 mixed (by kernel_rfl) (by decide) ?_
   refine Kq (Kl (.p (.int .u32 (((JP l (F8 l (2^l.length - 1) (aR bad 32)) ((aR good 32).take k)):Nat):Int)))) ?_
   refine af ?_
   refine Kq (aa.aG rfl rfl Fh) ?_
   refine af ?_
   refine Kq (Kp (mN (nC hC) oO _ _ (zN l hC) q Ox)) ?_
   refine Kq (aa.Qw (JP l (F8 l (2^l.length - 1) (aR bad 32)) ((aR good 32).take k)) (b8 l q) rfl rfl rfl (by first | (show _<=(9223372036854775807:Int);omega) | (show _<=(4294967295:Int);omega) | (show _<=(18446744073709551615:Int);omega) | (show _<=(255:Int);omega) | (show _<=(65535:Int);omega))) ?_
   refine aA.nil ?_
   iterate 2 refine af ?_
   exact⟨_,rfl,by rw[fR hq,La];exact To.sub Sub.nil⟩
  ·intro h hJ
   subst hJ
   rw[iB,ZP,Nk oO hbd hgd]
   iterate 2 refine af ?_
   refine Kc (Kl (.p (.int .u32 ((fZ l bad good:Nat):Int)))) ?_
   exact dA
  ·exact gZ
 ·exact gZ
theorem rR(l:List cx)(bad good:Int)(hb:l.length<=b6):Pure Tryz.prog 94 [ku l,.int .i64 bad,.int .i64 good] (.tuple [.int .i64 ((lE l bad good:Nat):Int),.int .i64 (iY l bad good)]):=by
 refine Kf (N:=30) Tryz.func94 ?_
 iterate 11 refine af ?_
 refine Kc (aa.aS rfl an (by decide) rfl rfl rfl) ?_
 refine Kc (Kp (BD l [bad,good] hb (by unfold b6;show 2<=_;omega))) ?_
 iterate 7 refine af ?_
 refine Ki (fun hc0=> ?_) fun hc0=> ?_
 ·have hE:jO l [bad,good]≠0:=by simpa using hc0
  iterate 7 refine af ?_
  refine Fin.ep (xs:=[.int .i64 0,.int .i64 (jO l [bad,good])]) rfl (⟨_,_,rfl,rfl,⟨_,_,rfl,rfl,rfl⟩⟩) rfl ?_
  have e:iY l bad good=jO l [bad,good]:=by unfold iY;rw[if_pos hE]
  unfold lE;rw[e,if_neg hE];rfl
 ·have hE:jO l [bad,good]=0:=by simpa using hc0
  have hC:=(wz hE).1
  have hS:=(wz hE).2
  have oO:=dc hC
  have I6:=GB oO
  have hS1:=hS bad (by simp)
  have hS2:=hS good (by simp)
  iterate 7 refine af ?_
  refine Ki (fun cR=> ?_) fun cR=> ?_
  ·have hz:bad=0:=by simpa using cR
   iterate 6 refine af ?_
   refine Fin.ep (xs:=[.int .i64 0,.int .i64 4]) rfl (⟨_,_,rfl,rfl,⟨_,_,rfl,rfl,rfl⟩⟩) rfl ?_
   have e:iY l bad good=4:=by unfold iY;rw[if_neg (not_not_intro hE),if_pos hz]
   unfold lE;rw[e,if_neg (by decide)];rfl
  ·have hz:¬ bad=0:=by simpa using cR
   obtain⟨bad,rfl⟩:∃ m:Nat,bad=(m:Int):=⟨bad.toNat,by omega⟩
   obtain⟨good,rfl⟩:∃ m:Nat,good=(m:Int):=⟨good.toNat,by omega⟩
   iterate 5 refine af ?_
   refine Kc (aa.dY rfl rfl (by rw[CR];rfl) tT (uU ?_)) ?_
   ·unfold pw at I6 hS1;omega
   refine af ?_
   refine Kc (aa.dY rfl rfl (by rw[CR];rfl) tT (uU ?_)) ?_
   ·unfold pw at I6 hS2;omega
   refine Kc (Kp (Ol l bad good hC (by unfold pw at hS1;omega) (by unfold pw at hS2;omega))) ?_
   iterate 8 refine af ?_
   refine Ki (fun jR=> ?_) fun jR=> ?_
   ·have hn:fZ l bad good=0:=by have h:((fZ l bad good:Nat):Int)=0:=(by simpa using jR);omega
    iterate 6 refine af ?_
    refine Fin.ep (xs:=[.int .i64 0,.int .i64 6]) rfl (⟨_,_,rfl,rfl,⟨_,_,rfl,rfl,rfl⟩⟩) rfl ?_
    have e:iY l (bad:Int) (good:Int)=6:=by unfold iY;rw[if_neg (not_not_intro hE),if_neg hz,if_pos (show fZ l (bad:Int).toNat (good:Int).toNat=0 from hn)]
    unfold lE;rw[e,if_neg (by decide)];rfl
   ·have hn:¬ fZ l bad good=0:=by intro h;rw[h] at jR;simp at jR
    iterate 4 refine af ?_
    refine Kc (aa.dY rfl rfl (by rw[tT];rfl) CR (aK ?_)) ?_
    ·have h2:=Ek l bad good;unfold pw at I6;omega
    iterate 4 refine af ?_
    refine Fin.ep (xs:=[.int .i64 ((fZ l bad good:Nat):Int),.int .i64 0]) rfl (⟨_,_,rfl,rfl,⟨_,_,rfl,rfl,rfl⟩⟩) rfl ?_
    have e:iY l (bad:Int) (good:Int)=0:=by unfold iY;rw[if_neg (not_not_intro hE),if_neg hz,if_neg (show ¬ fZ l (bad:Int).toNat (good:Int).toNat=0 from hn)]
    unfold lE;rw[e,if_pos rfl];rfl
theorem zO{l:List cx}{bad good:Int}(h:iY l bad good=0):cM l∧(0<=bad∧bad<=pw l.length - 1)∧(0<=good∧good<=pw l.length - 1)∧bad≠0∧lE l bad good=fZ l bad.toNat good.toNat∧lE l bad good≠0∧lE l bad good<2^l.length:=by
 have hR:lE l bad good=fZ l bad.toNat good.toNat:=by unfold lE;rw[if_pos h]
 have h2:=h
 unfold iY at h2
 split at h2
 ·rename_i h3;exact absurd h2 h3
 ·rename_i h3
  have h3:jO l [bad,good]=0:=by omega
  obtain⟨hC,hS⟩:=wz h3
  split at h2
  ·cases h2
  ·rename_i h4
   split at h2
   ·cases h2
   ·rename_i h5
    exact⟨hC,hS bad (by simp),hS good (by simp),h4,hR,by rw[hR];exact h5,by rw[hR];exact Ek _ _ _⟩
theorem Jf(l:List cx)(bad good:Int)(hb:l.length<=b6):Pure Tryz.prog 98 [ku l,.int .i64 bad,.int .i64 good] (.tuple [.int .i64 ((xU l bad good:Nat):Int),.agg [.int .i64 (lS l bad good).1,.int .i64 (lS l bad good).2],.int .i64 (iY l bad good)]):=by
 have iu:=hb
 unfold b6 at iu
 refine Kf (N:=89) Tryz.func98 ?_
 iterate 12 refine af ?_
 refine Kc (Kp (rR l bad good hb)) ?_
 iterate 12 refine af ?_
 refine Ki (fun hc0=> ?_) fun hc0=> ?_
 ·have hE:iY l bad good≠0:=by simpa using hc0
  iterate 9 refine af ?_
  refine Fin.ep (xs:=[.int .i64 0,.agg [.int .i64 0,.int .i64 0],.int .i64 (iY l bad good)]) rfl (⟨_,_,rfl,rfl,⟨_,_,rfl,⟨_,_,_,rfl,an,rfl⟩,⟨_,_,rfl,rfl,rfl⟩⟩⟩) rfl ?_
  unfold xU lS;rw[if_neg hE,if_neg hE];rfl
 ·have hE:iY l bad good=0:=by simpa using hc0
  obtain⟨hC,_,_,_,hR,hne,hcl⟩:=zO hE
  have oO:=dc hC
  have I6:=Zy (show 0<2 by omega) oO
  have aaq:lE l bad good<2^32:=by omega
  have hso:tV l<2^l.length:=Hf l l.length
  iterate 13 refine af ?_
  refine aF.norm [0,1] [(3,_),(7,_),(9,_),(10,_),(31,_),(32,_),(33,_)] [_,_] rfl KS rfl ?_
  refine aF.fE [3,6,7,8,9,10,13,14,15,16,17,18,19,31,32,47,48,49,50,51,52,53,54,55,56,57,58,59,60,61,62,63,64,65,66,67,68,69,70,71,72,73,74,75,76,77,78,79,80,81,82,83,84,85,86,87,88] (fun g=>[(33,.p (.int .i64 ((g:Nat):Int)))]) (fun g=>[.cells [.p (.int .i64 0),.p (.int .i64 0)] 24,.cells [.p (.int .u32 ((jH l g:Nat):Int))] 209]) (fun g=>g<=l.length) (fun g=>l.length - g) 0 (Zs _) (To.sub (Sub.Jw (Sub.cons rfl (Sub.nil)))) (fun i hg=> ?_)
  iterate 5 refine af ?_
  refine Ki (fun cR=> ?_) fun cR=> ?_
  ·have hk0:i<l.length:=by have h:=Zk cR;omega
   have hsi:=Hf l i
   have hpi:=Zy (show 0<2 by omega) (show i<=24 by omega)
   iterate 6 refine af ?_
   refine Kc (aa.aN (g:=bt l) wV rfl rfl rfl an Rd rfl (fun _=>rfl) (by decide) hk0) ?_
   refine Kc (Kl (.p (.agg (bt l i).cells))) ?_
   iterate 2 refine af ?_
   refine Kz (aa.store (H':=[.cells [.p (.int .i64 0),.p (.int .i64 0)] 24,.cells [.p (.int .u32 ((jH l i:Nat):Int))] 209,.cells ((bt l i).cells.map .p) 92]) rfl rfl rfl rfl rfl an rfl rfl) ?_
   iterate 4 refine af ?_
   refine Kc (Kl (.p (.int .i64 (bt l i).s))) ?_
   iterate 2 refine af ?_
   refine Ki (fun jR=> ?_) fun jR=> ?_
   ·have hF:jH l (i+1)=jH l i||| 2^i:=by rw[Dt,if_pos (Zk jR)]
    refine aF.aD 5 mixed (by kernel_rfl) (by decide) ?_
    refine Kq (Kl (.p (.int .u32 ((jH l i:Nat):Int)))) ?_
    refine af ?_
    refine Kq (aa.ri 1 i rfl rfl rfl (by show _<=(32:Nat);omega) (by show _<=(4294967295:Int);rw[ZO];omega)) ?_
    refine Kq (aa.aS rfl an (by decide) rfl rfl rfl) ?_
    refine Kq (Kp (ot [jH l i,1*2^i] (by intro x hx;simp at hx;rcases hx with rfl | rfl;{omega};{omega}) (by unfold b6;show 2<=_;omega))) ?_
    rw[or2,ZO,<- hF]
    refine aA.nil ?_
    iterate 3 refine af ?_
    exact Em
   ·have hF:jH l (i+1)=jH l i:=by rw[Dt,if_neg (Zl jR)]
    iterate 2 refine af ?_
    exact Em
  ·obtain rfl:i=l.length:=by have h:=Zl cR;omega
   refine aF.exit ?_
   iterate 7 refine af ?_
   refine Kc (Kp (Bn l hC)) ?_
   iterate 12 refine af ?_
   refine Kc (aa.dY rfl rfl (by rw[CR];rfl) tT (uU ?_)) ?_
   ·omega
   refine Kc (Kp (tw (lE l bad good))) ?_
   iterate 2 refine af ?_
   refine aF.rangeFunc 0 rfl (fun _=>rfl) an (oc (lE l bad good) aaq) (Zf _) (Zs _) (fun _ h=>by cases h) (fun x hx=>by unfold kV at hx;simp at hx;obtain⟨j,_,rfl⟩:=hx;rfl) rfl (fun k h=>h=[.cells [.p (.int .i64 (Hy (((aR (lE l bad good) 32).take k).map (iL l))).1),.p (.int .i64 (Hy (((aR (lE l bad good) 32).take k).map (iL l))).2)] 24,.cells [.p (.int .u32 ((tV l:Nat):Int))] 209,.cells [.p (.int .u32 ((xK (((aR (lE l bad good) 32).take k).map (iW l)):Nat):Int))] 209,.cells [.p (IP l)] 213,.cells [.p (.bool (decide (k=0)))] 4]) (fun c h=>False) (fun _ _ h=>by rw[h];rfl) (fun _ _ h=>h.elim) rfl ?_ ?_ ?_
   ·intro lx tmps k h x hJ hx
    subst hJ
    obtain⟨q,hq,rfl⟩:=jk hx
    have OS:=ct.1 (Zg hq)
    have Ox:q<l.length:=fz hcl OS.2
    have hol:=Fs l q
    have hal:=(sQ hC).rlt q Ox
    have how:iW l q<2^32:=by omega
    have aas:xK (((aR (lE l bad good) 32).take k).map (iW l))<2^32:=Gz fun x hx=>by obtain⟨j,_,rfl⟩:=uE.1 hx;have:=Fs l j;omega
    have eO:xK ((((aR (lE l bad good) 32).take k)++[q]).map (iW l))=xK (((aR (lE l bad good) 32).take k).map (iW l)++[iW l q]):=by rw[ZA];rfl
    iterate 3 refine af ?_
    refine⟨rfl,rfl,?_⟩
    iterate 2 refine af ?_
    refine aF.tO 9 mixed (by kernel_rfl) (by decide) ?_
    refine aT.cons 53 rfl rfl rfl (Kl (.p (IP l))) (fun _=>(Kl (.p (IP l)))) ?_
    refine aT.cons 54 rfl rfl rfl (aa.aG rfl rfl Nx) (fun _=>(aa.aG rfl rfl Nx)) ?_
    refine aT.cons 55 rfl rfl rfl (aa.move rfl rfl) (fun _=>(aa.move rfl rfl)) ?_
    refine aT.cons 56 rfl rfl rfl (Kp (mN (sQ hC) oO _ _ (Cs l hC) q Ox)) (fun _=>(Kp (mN (sQ hC) oO _ _ (Cs l hC) q Ox))) ?_
    refine aT.cons 57 rfl rfl rfl (Kl (.p (.int .u32 ((tV l:Nat):Int)))) (fun _=>(Kl (.p (.int .u32 ((tV l:Nat):Int))))) ?_
    refine aT.cons 58 rfl rfl rfl (aa.pK (l8 l q) (tV l) rfl rfl rfl (by first | (show _<=(9223372036854775807:Int);omega) | (show _<=(4294967295:Int);omega) | (show _<=(18446744073709551615:Int);omega) | (show _<=(255:Int);omega) | (show _<=(65535:Int);omega)) (by first | decide | (show _<=(9223372036854775807:Int);omega) | (show _<=(4294967295:Int);omega) | (show _<=(18446744073709551615:Int);omega) | (show _<=(255:Int);omega) | (show _<=(65535:Int);omega))) (fun _=>(aa.pK (l8 l q) (tV l) rfl rfl rfl (by first | (show _<=(9223372036854775807:Int);omega) | (show _<=(4294967295:Int);omega) | (show _<=(18446744073709551615:Int);omega) | (show _<=(255:Int);omega) | (show _<=(65535:Int);omega)) (by first | decide | (show _<=(9223372036854775807:Int);omega) | (show _<=(4294967295:Int);omega) | (show _<=(18446744073709551615:Int);omega) | (show _<=(255:Int);omega) | (show _<=(65535:Int);omega)))) ?_
    refine aT.lay 18 rfl rfl rfl (aa.aQ rfl an rfl) ?_
    refine aT.cons 17 rfl rfl rfl (aa.assign rfl rfl) (fun _=>(aa.assign rfl rfl)) ?_
    refine aT.put rfl rfl (by decide) (aa.store rfl rfl rfl rfl rfl an rfl rfl) rfl ?_
    refine aT.nil ?_
    iterate 5 refine af ?_
    refine Kc (Kp (tw (iW l q))) ?_
    iterate 2 refine af ?_
    refine aF.GF 0 rfl (fun _=>rfl) an (oc (iW l q) how) (Zf _) (Zs _) (fun l0 h=>⟨5,_,_,_,ZD h,rfl⟩) (fun x hx=>by unfold kV at hx;simp at hx;obtain⟨j,_,rfl⟩:=hx;rfl) rfl (fun H k2 h=>h=H.set 6 (.cells [.p (.int .i64 (rO l ((aR (iW l q) 32).take k2)))] 3)) (fun H c h=>False) (fun _ _ h=>by rw[h];rfl) (fun _ _ h=>h.elim) rfl ?_ ?_ ?_
    ·intro lx2 SB k2 h x hJ hx
     subst hJ
     obtain⟨q2,DQ,rfl⟩:=jk hx
     have XX:=LF (Zg DQ)
     have hB1:=Sc hC q k2
     have hB2:=(hC q2 XX).2.2
     iterate 3 refine af ?_
     refine⟨rfl,rfl,?_⟩
     refine af ?_
     refine aF.aD 7 mixed (by kernel_rfl) (by decide) ?_
     refine Kq (Kl (.p (.int .i64 (rO l ((aR (iW l q) 32).take k2))))) ?_
     iterate 2 refine af ?_
     refine Kq (aa.aN (g:=bt l) wV rfl rfl rfl an Rd rfl (fun _=>rfl) (by decide) XX) ?_
     refine af ?_
     refine Kq (Kl (.p (.int .i64 (bt l q2).s))) ?_
     refine Kq (aa.add rfl rfl rfl (aK ?_)) ?_
     ·omega
     refine aA.nil ?_
     iterate 2 refine af ?_
     exact⟨_,rfl,by rw[fR DQ,JU];exact To.sub Sub.nil⟩
    ·intro h hJ
     subst hJ
     rw[iB,ZP]
     iterate 2 refine af ?_
     refine Kc (Kl (.p (.int .u32 ((xK (((aR (lE l bad good) 32).take k).map (iW l)):Nat):Int)))) ?_
     refine af ?_
     refine Kc (aa.aS rfl an (by decide) rfl rfl rfl) ?_
     refine Kc (Kp (ot [xK (((aR (lE l bad good) 32).take k).map (iW l)),iW l q] (by intro x hx;simp only[Zr,KF,or_false] at hx;rcases hx with rfl | rfl;{exact aas};{omega}) (by unfold b6;show 2<=_;omega))) ?_
     rw[or2,<- NG,<- eO]
     iterate 5 refine af ?_
     refine Kc (Kl (.p (.bool (decide (k=0))))) ?_
     refine af ?_
     refine Ki (fun pG=> ?_) fun pG=> ?_
     ·obtain rfl:0=k:=by have h:=Zk pG;omega
      have e2:Hy ((((aR (lE l bad good) 32).take 0)++[q]).map (iL l))=(min (iL l q) (iL l q),max (iL l q) (iL l q)):=by show(iL l q,iL l q)=_;rw[Int.min_self,Int.max_self]
      have e3:decide (0+1=0)=false:=rfl
      refine af ?_
      refine Kc (Kl (.p (.int .i64 (iL l q)))) ?_
      refine Kc (Kl (.p (.int .i64 (iL l q)))) ?_
      iterate 7 refine af ?_
      refine Kc (Kl (.p (.int .i64 (iL l q)))) ?_
      refine Kc (aa.min2 rfl rfl rfl) ?_
      iterate 2 refine af ?_
      refine Kc (Kl (.p (.int .i64 (iL l q)))) ?_
      refine Kc (aa.max2 rfl rfl rfl) ?_
      iterate 3 refine af ?_
      refine⟨_,rfl,To.done [0,1,2,3,4,5] rfl Sub.nil ?_⟩
      rw[fR hq,e2,e3]
      rfl
     ·have hk0:¬ k=0:=Zl pG
      have e2:Hy ((((aR (lE l bad good) 32).take k)++[q]).map (iL l))=(min (Hy (((aR (lE l bad good) 32).take k).map (iL l))).1 (iL l q),max (Hy (((aR (lE l bad good) 32).take k).map (iL l))).2 (iL l q)):=by rw[ZA];exact LG _ _ (by intro h;have h2:=congrArg List.length h;have h3:=(Za.1 hq).1;rw[Zp,ZU,KG] at h2;omega)
      have e3:decide (k+1=0)=decide (k=0):=by rw[decide_eq_false hk0,decide_eq_false (by omega)]
      iterate 4 refine af ?_
      refine Kc (Kl (.p (.int .i64 (iL l q)))) ?_
      refine Kc (aa.min2 rfl rfl rfl) ?_
      iterate 2 refine af ?_
      refine Kc (Kl (.p (.int .i64 (iL l q)))) ?_
      refine Kc (aa.max2 rfl rfl rfl) ?_
      iterate 3 refine af ?_
      refine⟨_,rfl,To.done [0,1,2,3,4,5] rfl Sub.nil ?_⟩
      rw[fR hq,e2,e3]
      rfl
    ·exact gZ
   ·intro h hJ
    subst hJ
    rw[iB,ZP]
    refine af ?_
    refine aF.aD 4 mixed (by kernel_rfl) (by decide) ?_
    refine Kq (Kl (.p (.int .u32 ((yY l (lE l bad good):Nat):Int)))) ?_
    refine Kq (aa.dY rfl rfl (by rw[tT];rfl) CR (aK ?_)) ?_
    ·have:=IK oO hcl;omega
    refine Kq (Kl (.p (.agg [.int .i64 (vW l (lE l bad good)).1,.int .i64 (vW l (lE l bad good)).2]))) ?_
    refine af ?_
    refine aA.nil ?_
    iterate 4 refine af ?_
    refine Fin.ep (xs:=[.int .i64 ((yY l (lE l bad good):Nat):Int),.agg [.int .i64 (vW l (lE l bad good)).1,.int .i64 (vW l (lE l bad good)).2],.int .i64 0]) rfl (⟨_,_,rfl,rfl,⟨_,_,rfl,⟨_,_,_,rfl,an,rfl⟩,⟨_,_,rfl,rfl,rfl⟩⟩⟩) rfl ?_
    unfold xU lS;rw[hE,if_pos rfl,if_pos rfl]
   ·exact gZ
end Go.Proofs.YtibffijhebobmaaGreatDoor.Rx
end
