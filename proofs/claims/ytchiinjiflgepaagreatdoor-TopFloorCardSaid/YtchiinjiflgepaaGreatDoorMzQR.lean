/-
 Plain data of chapter 11: cards; sets by bits; the lowest bit of a set. No program in sight.
 Plain data of chapter 11: what a batch comes from, and what comes from it; a walk that marks what it met. No program in sight.
 Plain data of chapter 11: which batches can be to blame, what is called back, and what batches have in common. No program in sight.
 From what the statements' arguments of chapter 11 may hold to plain data; what the statements about ways ask. No program in sight.
 What the statements of chapter 11 about blame ask: the true one can be to blame, and what comes from it is called back. No program in sight.
 What the statement about no other batch of chapter 11 asks. No program in sight.
 What the document's own functions of chapter 11 compute, step by step. No program in sight.
 Small functions; sets by bits; what is valid.
 Ways, and all that they lead to.
 All that a way leads to.
 Ways from a batch; which batches can be to blame.
 What is called back.
 The document's own functions: sets, and what each batch comes from.
 The document's own functions: blame, and what batches have in common.
 The document's own function: what is called back.
-/
import Derived.Test.YtchiinjiflgepaaGreatDoorPmQ
import Derived.Test.YtchiinjiflgepaaGreatDoorFaQD
import Derived.Test.YtchiinjiflgepaaGreatDoorMzQF
import Derived.Test.YtchiinjiflgepaaGreatDoorMzQZ
theorem U6{A:Prop}(h:A:=by
 refine Kc (aa.add rfl rfl rfl (aH ?_)) ?_
 ·omega
 iterate 2 refine af ?_
 refine⟨i+1,?_,?_,?_⟩
 ·omega
 ·omega
 refine To.done [0,1] rfl KS ?_
 rw[hF]
 rfl):A:=h
theorem Yp{A:Prop}(h:A:=by
 intro a
 rw[RD,ih,LY,E2]
 simp only[Zt,exists_eq_or_imp,or_assoc]):A:=h
set_option linter.unusedSimpArgs false
set_option linter.unusedVariables false
section
namespace Go.Proofs.YtchiinjiflgepaaGreatDoor.Rx
open Go.AF
structure bM where
 f:Int
 s:Int
deriving DecidableEq
def bM.cells(b:bM):List PV:=[.int .i64 b.f,.int .i64 b.s]
def fO(l:List bM):PV:= .is (l.flatMap bM.cells) l.length
def bt(l:List bM)(i:Nat):bM:=l.getD i ⟨0,0⟩
theorem tQ{l:List bM}:∀ k (h:k<l.length),l[k]=bt l k:=fun k h=>by
 unfold bt
 exact Kb
def cJ:Nat:=9223372036854775807
def iL(n lo hi:Int):Bool:=decide (lo<=n)&&decide (n<=hi)
def i1(n:Int):List PV:=[.int .i64 n]
def u1(n:Nat):List PV:=[.int .u32 (n:Int)]
theorem HK:∀ n:Nat,n≠0->∃ k m,n=2^k*(2*m+1):=by
 intro n
 induction n using Nat.strongRecOn with
 | ind n ih=>
  intro h
  rcases Nat.mod_two_eq_zero_or_one n with h1 | h1
  ·obtain⟨k,m,e⟩:=ih (n / 2) (by omega) (by omega)
   refine⟨k+1,m,?_⟩
   have:n=2*(n / 2):=by omega
   rw[UM,Nat.mul_comm (2^k) 2,Nat.mul_assoc,<- e]
   exact this
  ·exact⟨0,n / 2,by omega⟩
theorem M6(m j:Nat):(2*m+1).testBit j=if j=0 then true else m.testBit (j - 1):=by
 cases j with
 | zero=>simp[Ya]
 | succ j=>rw[Nat.testBit_succ,show(2*m+1) / 2=m by omega,if_neg (by omega),Nat.add_sub_cancel]
theorem Im(m j:Nat):(2*m).testBit j=if j=0 then false else m.testBit (j - 1):=by
 cases j with
 | zero=>simp[Ya]
 | succ j=>rw[Nat.testBit_succ,show 2*m / 2=m by omega,if_neg (by omega),Nat.add_sub_cancel]
theorem sW(k m i:Nat):(2^k*(2*m+1)).testBit i=(decide (k<=i)&&if i=k then true else m.testBit (i - k - 1)):=by
 rw[Y2,M6]
 by_cases h:k<=i
 ·by_cases h2:i=k
  ·subst h2;simp
  ·rw[if_neg (by omega),if_neg h2]
 ·simp[h]
theorem tA(k m i:Nat):(2^k*(2*m+1) - 1).testBit i=if i<k then true else if i=k then false else m.testBit (i - k - 1):=by
 have hp:=MU k
 have e:2^k*(2*m+1) - 1=2^k*(2*m)+(2^k - 1):=by rw[Nat.mul_add,Gv];omega
 rw[e,TK _ (by omega)]
 split
 ·rename_i h
  rw[Nat.testBit_two_pow_sub_one];simp[h]
 ·rename_i h
  rw[Im]
  by_cases h2:i=k
  ·rw[if_pos (by omega),if_pos h2]
  ·rw[if_neg (by omega),if_neg h2]
theorem Fx(k m:Nat):2^k*(2*m+1)&&& (2^k*(2*m+1) - 1)=2^(k+1)*m:=by
 apply GD
 intro i
 rw[Gw,sW,tA,Y2]
 by_cases h:i<k
 ·simp[show ¬ k<=i by omega,show ¬ k+1<=i by omega]
 ·by_cases h2:i=k
  ·subst h2;simp[show ¬ i+1<=i by omega]
  ·simp[h,h2,show k<=i by omega,show k+1<=i by omega,Nat.sub_sub]
theorem BG(k m:Nat)(h:2^k*(2*m+1)<2^32):2^k*(2*m+1)&&& (2^32 - 2^k*(2*m+1))=2^k:=by
 have hp:=MU k
 have h1:1<=2^k*(2*m+1):=Nat.mul_pos hp (by omega)
 have hk:k<32:=by
  rcases ZT k 32 with h2 | h2
  ·exact h2
  ·exact O0
 apply GD
 intro i
 have e:2^32 - 2^k*(2*m+1)=2^32 - ((2^k*(2*m+1) - 1)+1):=by omega
 rw[e,Gw,Nat.testBit_two_pow_sub_succ (by omega),sW,tA,JQ]
 by_cases h2:i<k
 ·simp[show ¬ k<=i by omega,show ¬ k=i by omega]
 ·exact aaa
theorem TC{k m:Nat}(h:2^k*(2*m+1)<2^32):k<32:=by
 rcases ZT k 32 with h2 | h2
 ·exact h2
 ·exact O0
def HP:List Int:=[0,1,28,2,29,14,24,3,30,22,20,15,25,17,4,8,31,27,13,23,21,19,16,7,26,12,18,6,11,5,10,9]
theorem RI:∀ k:Nat,k<32->HP[2^k*125613361%4294967296 / 2^27]? =some (k:Int):=by decide
def pX(n p:Nat):Nat:=n / 2^p*2^p
theorem CE(n p i:Nat):(pX n p).testBit i=(decide (p<=i)&&n.testBit i):=by
 unfold pX
 rw[Nat.mul_comm,Y2,Nat.testBit_div_two_pow]
 by_cases h:p<=i
 ·simp[h]
 ·simp[h]
def aM(n p:Nat):List Nat:=(List.range p).filter fun i=>n.testBit i
theorem oM(n p:Nat):aM n (p+1)=if n.testBit p then aM n p++[p] else aM n p:=by
 unfold aM
 rw[List.range_succ,List.filter_append]
 cases h:n.testBit p <;> simp[h]
theorem oK{n p:Nat}:∀{k:Nat},p<=k->(∀ i,p<=i->i<k->n.testBit i=false)->aM n k=aM n p:=by
 intro k
 induction k with
 | zero=>intro h _;obtain rfl:p=0:=by omega
         rfl
 | succ k ih=>
  intro h h2
  rcases ZT p (k+1) with h1 | h1
  ·rw[oM,h2 k (by omega) (by omega)]
   exact ih (by omega) fun i a b=>h2 i a (by omega)
  ·obtain rfl:p=k+1:=by omega
   rfl
theorem DG{n p:Nat}(hn:n<2^32)(hp:p<=32)(h:pX n p≠0):∃ k,p<=k∧k<32∧pX n p&&& (2^32 - pX n p)=2^k∧pX n p&&& (pX n p - 1)=pX n (k+1)∧aM n (k+1)=aM n p++[k]:=by
 obtain⟨k,m,e⟩:=HK _ h
 have hlt:pX n p<2^32:=Nat.lt_of_le_of_lt (Nat.div_mul_le_self _ _) hn
 have hk:=TC (e▸hlt)
 have hb:∀ i,(decide (p<=i)&&n.testBit i)=(decide (k<=i)&&if i=k then true else m.testBit (i - k - 1)):=fun i=>by rw[<- CE,e,sW]
 have hpk:p<=k∧n.testBit k=true:=by
  have:=hb k
  simp at this
  exact this
 have hlow:∀ i,p<=i->i<k->n.testBit i=false:=fun i h1 h2=>by
  have:=hb i
  simp[h1,show ¬ k<=i by omega] at this
  exact this
 refine⟨k,hpk.1,hk,by rw[e];exact BG k m (e▸hlt),?_,?_⟩
 ·rw[e,Fx]
  apply GD
  intro i
  rw[CE,Y2]
  by_cases h1:k+1<=i
  ·have:=hb i
   simp[show p<=i by omega,show k<=i by omega,show ¬ i=k by omega] at this
   simp[h1,this,Nat.sub_sub]
  ·simp[h1]
 ·rw[oM,hpk.2,if_pos rfl,oK hpk.1 hlow]
theorem EI{n p:Nat}(hp:p<=32)(h:pX n p=0):aM n 32=aM n p:=by
 refine oK hp fun i h1 h2=> ?_
 have:=CE n p i
 rw[h] at this
 simp[h1] at this
 exact this
theorem DM(n:Nat):pX n 0=n:=by simp[pX]
theorem QY(n p:Nat):pX n p<=n:=Nat.div_mul_le_self _ _
theorem E1(n:Nat){p q:Nat}(h:p<=q):aM n p<+:aM n q:=by
 induction q with
 | zero=>obtain rfl:p=0:=by omega
         exact ZE _
 | succ q ih=>
  rcases ZT p (q+1) with h1 | h1
  ·refine(ih (by omega)).trans ?_
   rw[oM]
   split
   ·exact UT _ _
   ·exact ZE _
  ·obtain rfl:p=q+1:=by omega
   exact ZE _
theorem HL{n p k:Nat}(hk:k<32)(h:aM n (k+1)=aM n p++[k]):(aM n 32)[(aM n p).length]? =some k:=by
 obtain⟨t,ht⟩:=E1 n (show k+1<=32 by omega)
 rw[<- ht,h,ZL,Zk (Zg _),Ox]
 rfl
theorem b7{n p i:Nat}:i∈aM n p↔i<p∧n.testBit i=true:=by
 unfold aM
 rw[List.mem_filter,ZY]
theorem CZ{n p:Nat}:p<=32->(aM n p).length<=32:=fun h=>by
 unfold aM
 exact Zz (List.length_filter_le _ _) (by rw[GI];exact h)
def kM(n:Nat):List (List V):=(aM n 32).map fun k=>[V.p (.int .i64 ((k:Nat):Int))]
theorem hO(n:Nat):(kM n).length=(aM n 32).length:=by simp[kM]
theorem IG{n p k:Nat}(hk:k<32)(h:aM n (k+1)=aM n p++[k]):(kM n)[(aM n p).length]? =some [V.p (.int .i64 ((k:Nat):Int))]:=by
 unfold kM
 rw[Zu,HL hk h];rfl
theorem Ds(n:Int):IntKind.u32.wrap n=n%4294967296:=by simp[IntKind.wrap,IntKind.bits,IntKind.signed]
theorem Ud{n:Nat}(h:0<n)(h2:n<2^32):IntKind.u32.wrap (0 - (n:Int))=((2^32 - n:Nat):Int):=by
 rw[Ds]
 omega
theorem TL(k:Nat):IntKind.u32.wrap (((2^k:Nat):Int)*125613361)=((2^k*125613361%4294967296:Nat):Int):=by
 rw[Ds]
 omega
def we(l:List Nat):Nat:=l.foldl (· ||| ·) 0
theorem JC{l:List Nat}{k:Nat}(h:k<l.length):we (l.take (k+1))=we (l.take k)||| l[k]:=by
 unfold we
 rw[OY h,Ri];rfl
theorem CP{l:List Nat}(h:∀ x∈l,x<2^32):we l<2^32:=by
 unfold we
 have:∀(l:List Nat) (a:Nat),a<2^32->(∀ x∈l,x<2^32)->l.foldl (· ||| ·) a<2^32:=fun l=>by
  induction l with
  | nil=>intro a h _;exact h
  | cons x l ih=>intro a h h2;exact ih _ (My h (h2 x (by simp))) fun y hy=>h2 y (by simp[hy])
 exact this l 0 (by decide) h
theorem Y7(a b:Nat):we [a,b]=a||| b:=by unfold we;simp
def ut(l:List Nat)(i:Nat):Nat:=l.getD i 0
theorem Cl{l:List Nat}:∀ k (h:k<l.length),l[k]=ut l k:=fun k h=>by
 unfold ut
 exact Kb
theorem S7{l:List Nat}{i:Nat}(h:i<l.length):ut l i∈l:=by rw[<- Cl i h];exact A4 _
def pw(n:Nat):Int:=((2^n:Nat):Int)
theorem aaZ{n m:Nat}(h:n<=m):1<=pw n∧pw n<=pw m:=by
 unfold pw
 have h1:=MU n
 have h2:=Zy (show 0<2 by omega) h
 omega
theorem CM{n:Nat}(h:n<=24):1<=pw n∧pw n<=16777216:=aaZ h
def AZ(l:List bM)(j:Nat):Prop:=j<24∧(0<=(bt l j).f∧(bt l j).f<=pw j - 1)∧0<=(bt l j).s∧(bt l j).s<=1048576
instance (l:List bM) (j:Nat):Decidable (AZ l j):=by unfold AZ;infer_instance
def bR(l:List bM):Prop:=∀ j,j<l.length->AZ l j
instance (l:List bM):Decidable (bR l):=by unfold bR;infer_instance
theorem cx{l:List bM}(h:bR l):l.length<=24:=by
 rcases ZT 24 l.length with h1 | h1
 ·have:=(h 24 h1).1;omega
 ·exact h1
def iR(l:List bM)(sets:List Int):Int:=if bR l then(if (sets.any fun n=> !iL n 0 (pw l.length - 1))=true then 2 else 0) else 1
def bI(l:List Int):PV:= .is (l.flatMap i1) l.length
def iI{α:Type}(p:α->Bool)(xs:List α):Int:=match xs.findIdx? p with
 | some i=>(i:Int)
 | none=> -1
theorem o3{α:Type}(p:α->Bool)(xs:List α)(i:Nat)(hi:i<xs.length)(hb:∀ j (h:j<i),p (xs[j]'(by omega))=false)(hp:p xs[i]=true):iI p xs=(i:Int):=by
 unfold iI
 have:xs.findIdx? p=some i:=by
  rw[YH]
  exact⟨hi,hp,fun j h=>by rw[hb j h];decide⟩
 rw[this]
theorem ki{α:Type}(p:α->Bool)(xs:List α)(hb:∀ j (h:j<xs.length),p xs[j]=false):iI p xs= -1:=by
 unfold iI
 have:xs.findIdx? p=none:=by
  rw[List.findIdx?_eq_none_iff]
  intro x hx
  obtain⟨j,hj,rfl⟩:=Ni hx
  exact hb j hj
 rw[this]
theorem kA{α:Type}(p:α->Bool)(xs:List α):decide (iI p xs>=0)=xs.any p:=by
 unfold iI
 cases h:xs.findIdx? p with
 | none=>
  rw[List.findIdx?_eq_none_iff] at h
  have:xs.any p=false:=LV.2 fun x hx=>by rw[h x hx];decide
  rw[this];rfl
 | some i=>
  obtain⟨hi,hp,_⟩:=YH.1 h
  have:xs.any p=true:=List.any_eq_true.2 ⟨_,A4 hi,hp⟩
  rw[this]
  exact decide_eq_true (by show(0:Int)<=(i:Int);omega)
def oo(l:List bM)(i:Nat):Nat:=(bt l i).f.toNat
def jk(p:Nat->Bool):Nat->Nat
 | 0=>0
 | n+1=>if p n then jk p n+2^n else jk p n
theorem fZ(p:Nat->Bool):∀ n,jk p n<2^n
 | 0=>Nat.lt_succ_self 0
 | n+1=>by
  have:=fZ p n
  unfold jk
  rw[UM]
  split <;> omega
theorem yL{a n:Nat}(h:a<2^n)(i:Nat):(a+2^n).testBit i=if i<n then a.testBit i else decide (i=n):=by
 have:=TK 1 h i
 rw[Gv,UG] at this
 rw[this]
 by_cases h1:i<n
 ·rw[if_pos h1,if_pos h1]
 ·rw[if_neg h1,if_neg h1]
  by_cases h2:i=n
  ·subst h2;simp
  ·rw[decide_eq_false h2]
   exact Tf (Nat.one_lt_two_pow (by omega))
theorem hY(p:Nat->Bool):∀ n i,(jk p n).testBit i=(decide (i<n)&&p i)
 | 0,i=>by simp[jk]
 | n+1,i=>by
  have hlt:=fZ p n
  have ih:=hY p n i
  unfold jk
  cases hp:p n with
  | true=>
   rw[if_pos rfl,yL hlt,ih]
   by_cases h1:i<n
   ·simp[h1,show i<n+1 by omega]
   ·by_cases h2:i=n
    ·subst h2;simp[hp]
    ·simp[h1,h2,show ¬ i<n+1 by omega]
  | false=>
   rw[if_neg (by decide),ih]
   by_cases h1:i<n
   ·simp[h1,show i<n+1 by omega]
   ·by_cases h2:i=n
    ·subst h2;simp[hp]
    ·simp[h1,show ¬ i<n+1 by omega]
def pM(l:List bM)(t:List Nat)(n:Nat):Nat->Nat
 | 0=>2^n
 | k+1=>if (oo l n).testBit k then pM l t n k||| ut t k else pM l t n k
def kN(l:List bM):Nat->List Nat
 | 0=>[]
 | n+1=>kN l n++[pM l (kN l n) n n]
theorem nO(l:List bM):∀ n,(kN l n).length=n
 | 0=>rfl
 | n+1=>by rw[kN,Zb,nO l n];rfl
def bE(l:List bM)(i:Nat):Nat:=ut (kN l (i+1)) i
theorem IM(l:List bM){i:Nat}:∀{n:Nat},i<n->ut (kN l n) i=bE l i:=by
 intro n
 induction n with
 | zero=>intro h;omega
 | succ n ih=>
  intro h
  rcases ZT i n with h1 | h1
  ·rw[<- ih h1]
   unfold ut
   rw[kN,Ze,Ze,Zc (by rw[nO];exact h1)]
  ·obtain rfl:i=n:=by omega
   rfl
theorem B3(l:List bM)(i:Nat):bE l i=pM l (kN l i) i i:=by
 unfold bE ut
 rw[kN,Ze,Zk (by rw[nO];exact Zg _),nO,Ox]
 rfl
theorem xy(l:List bM)(i x:Nat):∀ n,n<=i->((pM l (kN l i) i n).testBit x=true↔x=i∨∃ k,k<n∧(oo l i).testBit k=true∧(bE l k).testBit x=true)
 | 0,_=>by
  show(2^i).testBit x=true↔_
  rw[JQ,Zs]
  constructor
  ·intro h;exact .inl h.symm
  ·rintro(h | ⟨k,h,_⟩)
   ·exact h.symm
   ·omega
 | n+1,hn=>by
  have ih:=xy l i x n (by omega)
  unfold pM
  split
  ·rename_i hb
   rw[LY,E2,ih,IM l (show n<i by omega)]
   constructor
   ·rintro((h | ⟨k,h1,h2⟩) | h)
    ·exact .inl h
    ·exact .inr ⟨k,by omega,h2⟩
    ·exact .inr ⟨n,by omega,hb,h⟩
   ·rintro(h | ⟨k,h1,h2,h3⟩)
    ·exact .inl (.inl h)
    ·rcases ZZ.1 h1 with h4 | rfl
     ·exact .inl (.inr ⟨k,h4,h2,h3⟩)
     ·exact .inr h3
  ·rename_i hb
   rw[ih]
   constructor
   ·rintro(h | ⟨k,h1,h2⟩)
    ·exact .inl h
    ·exact .inr ⟨k,by omega,h2⟩
   ·rintro(h | ⟨k,h1,h2,h3⟩)
    ·exact .inl h
    ·rcases ZZ.1 h1 with h4 | rfl
     ·exact .inr ⟨k,h4,h2,h3⟩
     ·exact absurd h2 hb
theorem iD(l:List bM)(i x:Nat):(bE l i).testBit x=true↔x=i∨∃ k,k<i∧(oo l i).testBit k=true∧(bE l k).testBit x=true:=by
 rw[B3]
 exact xy l i x i (Zg _)
theorem rB(l:List bM)(i:Nat):(bE l i).testBit i=true:=(iD l i i).2 (.inl rfl)
theorem Oa(l:List bM):∀{i x:Nat},(bE l i).testBit x=true->x<=i:=by
 intro i
 induction i using Nat.strongRecOn with
 | ind i ih=>
  intro x h
  rcases(iD l i x).1 h with rfl | ⟨k,h1,_,h3⟩
  ·exact Zg _
  ·have:=ih k h1 h3;omega
theorem Cu(l:List bM):∀{i j x:Nat},(bE l i).testBit j=true->(bE l j).testBit x=true->(bE l i).testBit x=true:=by
 intro i
 induction i using Nat.strongRecOn with
 | ind i ih=>
  intro j x h1 h2
  rcases(iD l i j).1 h1 with rfl | ⟨k,h3,h4,h5⟩
  ·exact h2
  ·exact(iD l i x).2 (.inr ⟨k,h3,h4,ih k h3 h5 h2⟩)
theorem yl(l:List bM)(i:Nat):bE l i<2^(i+1):=by
 apply Nat.lt_pow_two_of_testBit
 intro x hx
 cases h:(bE l i).testBit x with
 | false=>rfl
 | true=>have:=Oa l h;omega
theorem tv{l:List bM}(h:bR l){i k:Nat}(hi:i<l.length)(hk:(oo l i).testBit k=true):k<i:=by
 have h1:=(h i hi).2.1
 rcases ZT k i with h2 | h2
 ·exact h2
 ·exfalso
  have h3:oo l i<2^i:=by unfold oo;unfold pw at h1;omega
  rw[Tf (ZM h3 (Zy (by omega) h2))] at hk
  cases hk
def lE(l:List bM)(b:Nat):Nat:=jk (fun i=>(bE l i).testBit b) l.length
theorem kP(l:List bM)(b i:Nat):(lE l b).testBit i=(decide (i<l.length)&&(bE l i).testBit b):=hY _ _ _
def xX(l:List bM)(b:Nat):Nat:=jk (fun i=>(oo l i).testBit b) l.length
theorem qk(l:List bM)(b i:Nat):(xX l b).testBit i=(decide (i<l.length)&&(oo l i).testBit b):=hY _ _ _
structure Way (N:Nat) (nx R rk:Nat->Nat):Prop where
 lt:∀ b,b<N->nx b<2^N
 Yi:∀ b,b<N->R b<2^N
 iff:∀ b,b<N->∀ x,(R b).testBit x=true↔x=b∨∃ k,(nx b).testBit k=true∧(R k).testBit x=true
 rk:∀ b,b<N->∀ k,(nx b).testBit k=true->rk k<rk b
 Sg:∀ b,b<N->∀ k,(nx b).testBit k=true->k<N
theorem Way.self{N:Nat}{nx R rk:Nat->Nat}(w:Way N nx R rk){b:Nat}(h:b<N):(R b).testBit b=true:=(w.iff b h b).2 (.inl rfl)
theorem Way.WU{N:Nat}{nx R rk:Nat->Nat}(w:Way N nx R rk):∀(m b:Nat),b<N->rk b<=m->∀ x,(R b).testBit x=true->x<N∧(x=b∨rk x<rk b)
 | m,b,hb,hm,x,hx=>by
  rcases(w.iff b hb x).1 hx with rfl | ⟨k,h1,h2⟩
  ·exact⟨hb,.inl rfl⟩
  ·have h3:=w.rk b hb k h1
   have h4:=w.Sg b hb k h1
   match m,hm with
   | 0,hm=>omega
   | m+1,hm=>
    have:=w.WU m k h4 (by omega) x h2
    refine⟨this.1,.inr ?_⟩
    rcases this.2 with rfl | h5 <;> omega
theorem Way.trans{N:Nat}{nx R rk:Nat->Nat}(w:Way N nx R rk):∀(m b:Nat),b<N->rk b<=m->∀ x y,(R b).testBit x=true->(R x).testBit y=true->(R b).testBit y=true
 | m,b,hb,hm,x,y,h1,h2=>by
  rcases(w.iff b hb x).1 h1 with rfl | ⟨k,h3,h4⟩
  ·exact h2
  ·have h5:=w.rk b hb k h3
   match m,hm with
   | 0,hm=>omega
   | m+1,hm=>exact(w.iff b hb y).2 (.inr ⟨k,h3,w.trans m k (w.Sg b hb k h3) (by omega) x y h4 h2⟩)
def DS(R:Nat->Nat)(b M:Nat):Prop:=∀ x,M.testBit x=true->(R b).testBit x=true->∀ y,(R x).testBit y=true->M.testBit y=true
def qn(R:Nat->Nat)(M b:Nat):List Nat->Nat
 | ks=>ks.foldl (fun a k=>a||| R k) (M||| 2^b)
theorem ua(R:Nat->Nat)(M b x:Nat)(ks:List Nat):(qn R M b ks).testBit x=true↔M.testBit x=true∨x=b∨∃ k∈ks,(R k).testBit x=true:=by
 have:∀(ks:List Nat) (a:Nat),(ks.foldl (fun a k=>a||| R k) a).testBit x=true↔a.testBit x=true∨∃ k∈ks,(R k).testBit x=true:=fun ks=>by
  induction ks with
  | nil=>intro a;simp
  | cons k ks ih=>
   exact Yp
 unfold qn
 rw[this,LY,E2,JQ,Zs,or_assoc,eq_comm (a:=b)]
theorem F8(R:Nat->Nat)(M b:Nat)(ks:List Nat)(k:Nat):qn R M b (ks++[k])=qn R M b ks||| R k:=by
 unfold qn
 rw[Ri];rfl
theorem KA{N:Nat}{nx R rk:Nat->Nat}(w:Way N nx R rk){b M:Nat}(hb:b<N)(h:DS R b M){ks:List Nat}(hk:∀ k∈ks,(nx b).testBit k=true){k:Nat}(hkb:(nx b).testBit k=true):DS R k (qn R M b ks):=by
 intro x hx hxk y hy
 rw[ua] at hx ⊢
 have hxb:(R b).testBit x=true:=(w.iff b hb x).2 (.inr ⟨k,hkb,hxk⟩)
 rcases hx with h1 | rfl | ⟨k2,h2,h3⟩
 ·exact .inl (h x h1 hxb y hy)
 ·exfalso
  have h4:=w.rk x hb k hkb
  have h5:=(w.WU (rk k) k (w.Sg x hb k hkb) (Zg _) x hxk).2
  rcases h5 with rfl | h5
  ·omega
  ·omega
 ·exact .inr (.inr ⟨k2,h2,w.trans (rk k2) k2 (w.Sg b hb k2 (hk k2 h2)) (Zg _) x y h3 hy⟩)
theorem NT{N:Nat}{nx R rk:Nat->Nat}(w:Way N nx R rk){b M:Nat}(hb:b<N):qn R M b (aM (nx b) 32)=M||| R b∨32<N:=by
 rcases ZT 32 N with hN | hN
 ·exact .inr hN
 left
 apply GD
 intro x
 have key:(qn R M b (aM (nx b) 32)).testBit x=true↔(M||| R b).testBit x=true:=by
  rw[ua,LY,E2,w.iff b hb x]
  constructor
  ·rintro(h | h | ⟨k,h1,h2⟩)
   ·exact .inl h
   ·exact .inr (.inl h)
   ·exact .inr (.inr ⟨k,(b7.1 h1).2,h2⟩)
  ·rintro(h | h | ⟨k,h1,h2⟩)
   ·exact .inl h
   ·exact .inr (.inl h)
   ·exact .inr (.inr ⟨k,b7.2 ⟨by have:=w.Sg b hb k h1;omega,h1⟩,h2⟩)
 cases h1:(qn R M b (aM (nx b) 32)).testBit x with
 | true=>exact(key.1 h1).symm
 | false=>
  cases h2:(M||| R b).testBit x with
  | false=>rfl
  | true=>rw[key.2 h2] at h1;cases h1
theorem Nv{N:Nat}{nx R rk:Nat->Nat}(w:Way N nx R rk){b M:Nat}(hb:b<N)(h:DS R b M)(hm:M.testBit b=true):M||| R b=M:=by
 apply GD
 intro x
 rw[LY]
 cases h1:(R b).testBit x with
 | false=>rw[Bool.or_false]
 | true=>rw[h b hm (w.self hb) x h1];rfl
theorem nq{l:List bM}(h:bR l):Way l.length (oo l) (bE l) (fun b=>b):=by
 have mC:=cx h
 refine⟨fun b hb=> ?_,fun b hb=> ?_,fun b hb x=> ?_,fun b hb k hk=>tv h hb hk,fun b hb k hk=>by have:=tv h hb hk;omega⟩
 ·have h1:=(h b hb).2.1
  have h2:=Zy (show 0<2 by omega) (show b<=l.length by omega)
  unfold oo
  unfold pw at h1
  omega
 ·exact ZM (yl l b) (Zy (by omega) hb)
 ·rw[iD]
  constructor
  ·rintro(h1 | ⟨k,_,h2⟩)
   ·exact .inl h1
   ·exact .inr ⟨k,h2⟩
  ·rintro(h1 | ⟨k,h2,h3⟩)
   ·exact .inl h1
   ·exact .inr ⟨k,tv h hb h2,h2,h3⟩
theorem Gh{l:List bM}(h:bR l){b:Nat}(hb:b<l.length)(x:Nat):(lE l b).testBit x=true↔x=b∨∃ k,(xX l b).testBit k=true∧(lE l k).testBit x=true:=by
 rw[kP,Zo,Zs]
 constructor
 ·rintro⟨hx,h1⟩
  -- go back from x until the last step before b
  have key:∀ x,x<l.length->(bE l x).testBit b=true->x=b∨∃ k,(xX l b).testBit k=true∧(bE l x).testBit k=true:=by
   intro x
   induction x using Nat.strongRecOn with
   | ind x ih=>
    intro hx h1
    rcases(iD l x b).1 h1 with rfl | ⟨k,h2,h3,h4⟩
    ·exact .inl rfl
    ·rcases ih k h2 (by omega) h4 with rfl | ⟨m,h5,h6⟩
     ·refine .inr ⟨x,?_,rB l x⟩
      rw[qk,h3];simp[hx]
     ·exact .inr ⟨m,h5,(iD l x m).2 (.inr ⟨k,h2,h3,h6⟩)⟩
  rcases key x hx h1 with h2 | ⟨k,h2,h3⟩
  ·exact .inl h2
  ·refine .inr ⟨k,h2,?_⟩
   rw[kP,h3];simp[hx]
 ·rintro(rfl | ⟨k,h1,h2⟩)
  ·exact⟨hb,rB l x⟩
  ·rw[kP,Zo,Zs] at h2
   rw[qk,Zo,Zs] at h1
   have h3:(bE l k).testBit b=true:=(iD l k b).2 (.inr ⟨b,tv h h1.1 h1.2,h1.2,rB l b⟩)
   exact⟨h2.1,Cu l h2.2 h3⟩
theorem qX{l:List bM}(h:bR l):Way l.length (xX l) (lE l) (fun b=>l.length - b):=by
 refine⟨fun b _=>fZ _ _,fun b _=>fZ _ _,fun b hb x=>Gh h hb x,fun b hb k hk=> ?_,fun b hb k hk=> ?_⟩
 ·rw[qk,Zo,Zs] at hk
  have:=tv h hk.1 hk.2
  show l.length - k<l.length - b
  omega
 ·rw[qk,Zo,Zs] at hk
  exact hk.1
def qD(i:Nat)(ms:List (Int×Nat))(ks:List Nat):List (Int×Nat):=ks.foldl (fun ms k=>aW ((k:Nat):Int) (((cD ((k:Nat):Int) ms).getD 0)||| 2^i) ms) ms
theorem Fh(i:Nat)(ms:List (Int×Nat))(ks:List Nat)(k:Nat):qD i ms (ks++[k])=aW ((k:Nat):Int) (((cD ((k:Nat):Int) (qD i ms ks)).getD 0)||| 2^i) (qD i ms ks):=by
 unfold qD
 rw[Ri];rfl
theorem vL(i k:Nat):∀(ks:List Nat) (ms:List (Int×Nat)),ks.Nodup->(cD ((k:Nat):Int) (qD i ms ks)).getD 0=if k∈ks then(cD ((k:Nat):Int) ms).getD 0||| 2^i else(cD ((k:Nat):Int) ms).getD 0
 | [],ms,_=>by simp[qD]
 | q::ks,ms,hn=>by
  rw[ZC] at hn
  have ih:=vL i k ks (aW ((q:Nat):Int) (((cD ((q:Nat):Int) ms).getD 0)||| 2^i) ms) hn.2
  rw[j9] at ih
  have e:qD i ms (q::ks)=qD i (aW ((q:Nat):Int) (((cD ((q:Nat):Int) ms).getD 0)||| 2^i) ms) ks:=rfl
  rw[e,ih]
  by_cases h:k=q
  ·subst h
   rw[if_neg hn.1,if_pos rfl,if_pos (by simp)]
   rfl
  ·have h2:¬ ((k:Nat):Int)=((q:Nat):Int):=by omega
   simp[h,h2]
theorem tO(n p:Nat):(aM n p).Nodup:=by
 unfold aM
 exact List.Pairwise.filter _ List.nodup_range
def uJ(l:List bM):Nat->List (Int×Nat)
 | 0=>[]
 | i+1=>qD i (uJ l i) (aM (oo l i) 32)
theorem ux{l:List bM}(h:bR l)(k:Nat):∀ n,n<=l.length->(cD ((k:Nat):Int) (uJ l n)).getD 0=jk (fun i=>(oo l i).testBit k) n
 | 0,_=>rfl
 | n+1,hn=>by
  have mC:=cx h
  have ih:=ux h k n (by omega)
  rw[uJ,vL _ _ _ _ (tO _ _),ih,jk]
  by_cases hb:(oo l n).testBit k=true
  ·have hk:=tv h (show n<l.length by omega) hb
   rw[if_pos (b7.2 ⟨by omega,hb⟩),if_pos hb]
   apply GD
   intro x
   have hlt:=fZ (fun i=>(oo l i).testBit k) n
   rw[yL hlt,LY,JQ]
   by_cases h1:x<n
   ·simp[h1,show ¬ n=x by omega]
   ·rw[if_neg h1,hY]
    simp[h1,eq_comm]
  ·rw[if_neg (fun h2=>hb (b7.1 h2).2),if_neg hb]
theorem je{n k:Nat}{x:List V}(h:(kM n)[k]? =some x):∃ q,(aM n 32)[k]? =some q∧x=[V.p (.int .i64 ((q:Nat):Int))]:=by
 unfold kM at h
 rw[Zu,Zm] at h
 obtain⟨q,h1,h2⟩:=h
 exact⟨q,h1,h2.symm⟩
theorem fk{α:Type}{l:List α}{k:Nat}{q:α}(h:l[k]? =some q):l.take (k+1)=l.take k++[q]:=by
 obtain⟨h1,h2⟩:=Za.1 h
 rw[OY h1,h2]
theorem ML{l:List bM}(h:bR l){i:Nat}(hi:i<l.length)(q k:Nat):(cD ((q:Nat):Int) (qD i (uJ l i) ((aM (oo l i) 32).take k))).getD 0<2^32:=by
 have mC:=cx h
 rw[vL _ _ _ _ ((List.take_sublist _ _).nodup (tO _ _)),ux h q i (by omega)]
 have h1:=fZ (fun i=>(oo l i).testBit q) i
 have h2:=Zy (show 0<2 by omega) (show i<=31 by omega)
 have h3:jk (fun i=>(oo l i).testBit q) i<2^32:=by omega
 split
 ·exact My h3 (by omega)
 ·exact h3
def yg(n:Nat):PV:= .int .u32 (n:Int)
def FX(l:List bM):PV:=lG (PV.int .i64) yg (uJ l l.length)
def uP(M:Nat):List Bool:=(List.range 24).map fun i=>M.testBit i
def b1(b:Bool):List PV:=[.bool b]
theorem vq{M i:Nat}(h:i<(uP M).length):(uP M)[i]=M.testBit i:=by simp[uP]
theorem uX(M:Nat):(uP M).length=24:=by simp[uP]
theorem HN{M b:Nat}(h:b<24):(uP M).set b true=uP (M||| 2^b):=by
 apply List.ext_getElem
 ·simp[uP]
 ·intro i h1 h2
  rw[uX] at h2
  rw[List.getElem_set,vq,vq,LY,JQ]
  by_cases h3:b=i
  ·subst h3;simp
  ·rw[if_neg h3]
   simp[h3]
theorem zB{a b:Nat}(h:∀ i,a.testBit i=true↔b.testBit i=true):a=b:=by
 apply GD
 intro i
 have:=h i
 cases h1:a.testBit i <;> cases h2:b.testBit i <;> simp_all
theorem B9{a n:Nat}(h:∀ i,a.testBit i=true->i<n):a<2^n:=by
 apply Nat.lt_pow_two_of_testBit
 intro i hi
 cases h1:a.testBit i with
 | false=>rfl
 | true=>have:=h i h1;omega
theorem dy{a n i:Nat}(h:a<2^n)(hi:a.testBit i=true):i<n:=by
 rcases ZT i n with h1 | h1
 ·exact h1
 ·rw[Tf (ZM h (Zy (by omega) h1))] at hi
  cases hi
theorem ni{a:Nat}:a=0↔∀ i,a.testBit i=false:=by
 constructor
 ·rintro rfl i;exact Nat.zero_testBit i
 ·intro h;exact zB fun i=>by rw[h i,Nat.zero_testBit]
theorem Iy(n i:Nat):(2^n - 1).testBit i=decide (i<n):=Nat.testBit_two_pow_sub_one n i
def D8(l:List bM)(bad good i:Nat):Bool:=(List.range l.length).all fun k=>(!bad.testBit k||(bE l k).testBit i)&&(!good.testBit k|| !(bE l k).testBit i)
def dj(l:List bM)(bad good:Nat):Nat:=jk (D8 l bad good) l.length
theorem EM(l:List bM)(bad good i:Nat):D8 l bad good i=true↔(∀ k,k<l.length->bad.testBit k=true->(bE l k).testBit i=true)∧∀ k,k<l.length->good.testBit k=true->(bE l k).testBit i=false:=by
 unfold D8
 simp only[ZA,ZY,Zo,E2,D0]
 constructor
 ·intro h
  refine⟨fun k hk hb=> ?_,fun k hk hg=> ?_⟩
  ·rcases(h k hk).1 with h1 | h1
   ·rw[hb] at h1;cases h1
   ·exact h1
  ·rcases(h k hk).2 with h1 | h1
   ·rw[hg] at h1;cases h1
   ·exact h1
 ·rintro⟨h1,h2⟩ k hk
  refine⟨?_,?_⟩
  ·cases hb:bad.testBit k with
   | false=>exact .inl rfl
   | true=>exact .inr (h1 k hk hb)
  ·cases hg:good.testBit k with
   | false=>exact .inl rfl
   | true=>exact .inr (h2 k hk hg)
theorem Fy(l:List bM)(bad good i:Nat):(dj l bad good).testBit i=(decide (i<l.length)&&D8 l bad good i):=hY _ _ _
theorem AO(l:List bM)(bad good:Nat):dj l bad good<2^l.length:=fZ _ _
theorem nH(l:List bM)(bad good i:Nat):(dj l bad good).testBit i=true↔i<l.length∧(∀ k,k<l.length->bad.testBit k=true->(bE l k).testBit i=true)∧∀ k,k<l.length->good.testBit k=true->(bE l k).testBit i=false:=by
 rw[Fy,Zo,Zs,EM]
def Cc(l:List bM)(a:Nat)(ks:List Nat):Nat:=ks.foldl (fun a k=>a&&& bE l k) a
def F4(l:List bM)(a:Nat)(ks:List Nat):Nat:=ks.foldl (fun a k=>a^^^(a&&& bE l k)) a
theorem Ht(l:List bM)(a:Nat)(ks:List Nat)(k:Nat):Cc l a (ks++[k])=Cc l a ks&&& bE l k:=by unfold Cc;rw[Ri];rfl
theorem La(l:List bM)(a:Nat)(ks:List Nat)(k:Nat):F4 l a (ks++[k])=F4 l a ks^^^(F4 l a ks&&& bE l k):=by unfold F4;rw[Ri];rfl
theorem ye(l:List bM)(i:Nat):∀(ks:List Nat) (a:Nat),(Cc l a ks).testBit i=true↔a.testBit i=true∧∀ k∈ks,(bE l k).testBit i=true
 | [],a=>by simp[Cc]
 | k::ks,a=>by
  have e:Cc l a (k::ks)=Cc l (a&&& bE l k) ks:=rfl
  rw[e,ye l i ks,Gw,Zo]
  simp only[Zt,forall_eq_or_imp,and_assoc]
theorem LD(a b i:Nat):(a^^^(a&&& b)).testBit i=true↔a.testBit i=true∧b.testBit i=false:=by
 rw[Nat.testBit_xor,Gw]
 cases a.testBit i <;> cases b.testBit i <;> simp
theorem yh(l:List bM)(i:Nat):∀(ks:List Nat) (a:Nat),(F4 l a ks).testBit i=true↔a.testBit i=true∧∀ k∈ks,(bE l k).testBit i=false
 | [],a=>by simp[F4]
 | k::ks,a=>by
  have e:F4 l a (k::ks)=F4 l (a^^^(a&&& bE l k)) ks:=rfl
  rw[e,yh l i ks,LD]
  simp only[Zt,forall_eq_or_imp,and_assoc]
theorem JS(l:List bM){n a:Nat}(h:a<2^n)(ks:List Nat):Cc l a ks<2^n:=B9 fun i hi=>dy h ((ye l i ks a).1 hi).1
theorem Tp(l:List bM){n a:Nat}(h:a<2^n)(ks:List Nat):F4 l a ks<2^n:=B9 fun i hi=>dy h ((yh l i ks a).1 hi).1
theorem Ji{l:List bM}(mC:l.length<=24){bad good:Nat}(hb:bad<2^l.length)(hg:good<2^l.length):F4 l (Cc l (2^l.length - 1) (aM bad 32)) (aM good 32)=dj l bad good:=by
 apply zB
 intro i
 rw[yh,ye,Iy,Zs,nH]
 constructor
 ·rintro⟨⟨h1,h2⟩,h3⟩
  exact⟨h1,fun k hk hb=>h2 k (b7.2 ⟨by omega,hb⟩),fun k hk hg=>h3 k (b7.2 ⟨by omega,hg⟩)⟩
 ·rintro⟨h1,h2,h3⟩
  exact⟨⟨h1,fun k hk=>h2 k (dy hb (b7.1 hk).2) (b7.1 hk).2⟩,fun k hk=>h3 k (dy hg (b7.1 hk).2) (b7.1 hk).2⟩
def fW(l:List bM)(bad good:Int):Int:=if iR l [bad,good]≠0 then iR l [bad,good] else if bad=0 then 4 else if dj l bad.toNat good.toNat=0 then 6 else 0
def jg(l:List bM)(bad good:Int):Nat:=if fW l bad good=0 then dj l bad.toNat good.toNat else 0
def jr(l:List bM)(n:Nat):Nat:=jk (fun k=>decide ((bt l k).s>0)) n
def sF(l:List bM):Nat:=jr l l.length
def iQ(l:List bM)(i:Nat):Nat:=lE l i&&& sF l
def pW(l:List bM)(ks:List Nat):Int:=(ks.map fun k=>(bt l k).s).sum
theorem FG(l:List bM)(ks:List Nat)(k:Nat):pW l (ks++[k])=pW l ks+(bt l k).s:=by
 unfold pW;rw[ZH,List.sum_append];simp
def ir(l:List bM)(i:Nat):Int:=pW l (aM (iQ l i) 32)
theorem C3(l:List bM)(i:Nat):iQ l i<2^l.length:=Nat.lt_of_le_of_lt Nat.and_le_right (fZ _ _)
theorem Ev(l:List bM)(n:Nat):jr l n<2^n:=fZ _ _
theorem Ot(l:List bM)(i k:Nat):(iQ l i).testBit k=true↔k<l.length∧(bE l k).testBit i=true∧(bt l k).s>0:=by
 unfold iQ sF jr
 rw[Gw,kP,hY]
 simp only[Zo,Zs]
 constructor
 ·rintro⟨⟨h1,h2⟩,_,h3⟩;exact⟨h1,h2,h3⟩
 ·rintro⟨h1,h2,h3⟩;exact⟨⟨h1,h2⟩,h1,h3⟩
theorem zN(l:List bM)(n:Nat):jr l (n+1)=if (bt l n).s>0 then jr l n||| 2^n else jr l n:=by
 have hlt:=fZ (fun k=>decide ((bt l k).s>0)) n
 unfold jr
 rw[jk]
 by_cases h:(bt l n).s>0
 ·rw[if_pos h,if_pos (decide_eq_true h)]
  apply zB
  intro i
  rw[yL hlt,LY,JQ,hY]
  by_cases h1:i<n
  ·simp[h1,show ¬ n=i by omega]
  ·simp[h1,eq_comm]
 ·rw[if_neg h,if_neg (by simpa using h)]
theorem LG{l:List bM}(h:bR l):∀(ks:List Nat),(∀ k∈ks,k<l.length)->0<=pW l ks∧pW l ks<=ks.length*1048576
 | [],_=>by simp[pW]
 | k::ks,hk=>by
  have ih:=LG h ks fun q hq=>hk q (by simp[hq])
  have h1:=(h k (hk k (by simp))).2.2
  have e:pW l (k::ks)=(bt l k).s+pW l ks:=by unfold pW;simp
  rw[e,Zn]
  push_cast
  omega
theorem JH{l:List bM}{i q:Nat}(h:q∈aM (iQ l i) 32):q<l.length:=((Ot l i q).1 (b7.1 h).2).1
theorem Pz{l:List bM}(h:bR l)(i k:Nat):0<=pW l ((aM (iQ l i) 32).take k)∧pW l ((aM (iQ l i) 32).take k)<=33554432:=by
 have h1:=LG h ((aM (iQ l i) 32).take k) fun q hq=>JH (GG hq)
 have h2:((aM (iQ l i) 32).take k).length<=32:=Zz (List.length_take_le' _ _) (CZ (Zg _))
 omega
theorem IZ{l:List bM}(h:bR l)(i:Nat):0<=ir l i∧ir l i<=33554432:=by
 have:=Pz h i (aM (iQ l i) 32).length
 rw[ZQ] at this
 exact this
def Dn:List Int->Int×Int
 | []=>(0,0)
 | n::ns=>ns.foldl (fun p n=>(min p.1 n,max p.2 n)) (n,n)
theorem I7(ns:List Int)(n:Int)(h:ns≠[]):Dn (ns++[n])=(min (Dn ns).1 n,max (Dn ns).2 n):=by
 cases ns with
 | nil=>exact absurd rfl h
 | cons m ns=>show(ns++[n]).foldl _ _=_;rw[Ri];rfl
theorem Mx:∀(ns:List Int),ns≠[]->(∀ n∈ns,(Dn ns).1<=n∧n<=(Dn ns).2)∧(Dn ns).1∈ns∧(Dn ns).2∈ns:=by
 intro ns
 cases ns with
 | nil=>intro h;exact absurd rfl h
 | cons m ns=>
  intro _
  show(∀ n∈m::ns,(ns.foldl (fun p n=>(min p.1 n,max p.2 n)) (m,m)).1<=n∧n<=(ns.foldl (fun p n=>(min p.1 n,max p.2 n)) (m,m)).2)∧_∧_
  have key:∀(ns:List Int) (p:Int×Int),((ns.foldl (fun p n=>(min p.1 n,max p.2 n)) p).1<=p.1∧p.2<=(ns.foldl (fun p n=>(min p.1 n,max p.2 n)) p).2)∧(∀ n∈ns,(ns.foldl (fun p n=>(min p.1 n,max p.2 n)) p).1<=n∧n<=(ns.foldl (fun p n=>(min p.1 n,max p.2 n)) p).2)∧((ns.foldl (fun p n=>(min p.1 n,max p.2 n)) p).1=p.1∨(ns.foldl (fun p n=>(min p.1 n,max p.2 n)) p).1∈ns)∧((ns.foldl (fun p n=>(min p.1 n,max p.2 n)) p).2=p.2∨(ns.foldl (fun p n=>(min p.1 n,max p.2 n)) p).2∈ns):=by
   intro ns
   induction ns with
   | nil=>intro p;simp
   | cons a ns ih=>
    intro p
    obtain⟨h1,h2,h3,h4⟩:=ih (min p.1 a,max p.2 a)
    simp only[RD,Zt]
    refine⟨⟨by omega,by omega⟩,fun n hn=> ?_,?_,?_⟩
    ·rcases hn with rfl | hn
     ·omega
     ·exact h2 n hn
    ·rcases h3 with h3 | h3
     ·rw[h3];show min p.1 a=_∨_;omega
     ·exact .inr (.inr h3)
    ·rcases h4 with h4 | h4
     ·rw[h4];show max p.2 a=_∨_;omega
     ·exact .inr (.inr h4)
  obtain⟨h1,h2,h3,h4⟩:=key ns (m,m)
  refine⟨fun n hn=> ?_,?_,?_⟩
  ·rcases Zt.1 hn with rfl | hn
   ·exact h1
   ·exact h2 n hn
  ·show(ns.foldl (fun p n=>(min p.1 n,max p.2 n)) (m,m)).1∈_
   rcases h3 with h3 | h3
   ·rw[h3];simp
   ·exact Zj _ h3
  ·show(ns.foldl (fun p n=>(min p.1 n,max p.2 n)) (m,m)).2∈_
   rcases h4 with h4 | h4
   ·rw[h4];simp
   ·exact Zj _ h4
def xk(l:List bM)(can:Nat):Nat:=we ((aM can 32).map (iQ l))
def vf(l:List bM)(can:Nat):Int×Int:=Dn ((aM can 32).map (ir l))
theorem KH(ns:List Nat)(n:Nat):we (ns++[n])=we ns||| n:=by unfold we;rw[Ri];rfl
theorem Mk(ns:List Nat)(i:Nat):(we ns).testBit i=true↔∃ n∈ns,n.testBit i=true:=by
 have:∀(ns:List Nat) (a:Nat),(ns.foldl (· ||| ·) a).testBit i=true↔a.testBit i=true∨∃ n∈ns,n.testBit i=true:=fun ns=>by
  induction ns with
  | nil=>intro a;simp
  | cons n ns ih=>
   exact Yp
 unfold we
 rw[this,Nat.zero_testBit]
 simp
theorem G8{l:List bM}(mC:l.length<=24){can:Nat}(hc:can<2^l.length)(k:Nat):(xk l can).testBit k=true↔∃ i,can.testBit i=true∧(iQ l i).testBit k=true:=by
 unfold xk
 rw[Mk]
 constructor
 ·rintro⟨n,h1,h2⟩
  obtain⟨i,h3,rfl⟩:=zn.1 h1
  exact⟨i,(b7.1 h3).2,h2⟩
 ·rintro⟨i,h1,h2⟩
  exact⟨_,zn.2 ⟨i,b7.2 ⟨by have:=dy hc h1;omega,h1⟩,rfl⟩,h2⟩
theorem za{l:List bM}(mC:l.length<=24){can:Nat}(hc:can<2^l.length):xk l can<2^l.length:=B9 fun i hi=>by
 obtain⟨k,_,h⟩:=(G8 mC hc i).1 hi
 exact dy (C3 l k) h
def lf(l:List bM)(bad good:Int):Nat:=if fW l bad good=0 then xk l (jg l bad good) else 0
def fF(l:List bM)(bad good:Int):Int×Int:=if fW l bad good=0 then vf l (jg l bad good) else(0,0)
def W0(l:List bM)(own i k:Nat):Bool:=decide (k≠i)&&own.testBit k
def ON(l:List bM)(own i:Nat):Bool:= !(aM (lE l i) 32).any (W0 l own i)
theorem UU{l:List bM}(mC:l.length<=24)(own i:Nat):ON l own i=true↔∀ k,(lE l i).testBit k=true->k≠i->own.testBit k=false:=by
 unfold ON W0
 simp only[D0,LV,b7,Zo,Zs,not_and]
 constructor
 ·intro h k h1 h2
  have h3:k<l.length:=by rw[kP,Zo,Zs] at h1;exact h1.1
  cases h4:own.testBit k with
  | false=>rfl
  | true=>exact absurd h4 (h k ⟨by omega,h1⟩ h2)
 ·intro h k h1 h2 h3
  rw[h k h1.2 h2] at h3;cases h3
def dV(l:List bM)(b:Int):Int:=if bR l then(if iL b 0 ((l.length:Int) - 1)=true then 0 else 2) else 1
def gE(l:List bM)(R:Nat->Nat)(b:Int):Nat:=if dV l b=0 then R b.toNat else 0
theorem MD(l:List bM):iR l []=if bR l then 0 else 1:=by unfold iR;simp
theorem tU{l:List bM}{sets:List Int}(h:iR l sets=0):bR l∧∀ s∈sets,0<=s∧s<=pw l.length - 1:=by
 unfold iR at h
 split at h
 ·rename_i hC
  refine⟨hC,fun s hs=> ?_⟩
  split at h
  ·cases h
  ·rename_i hn
   simp only[Bool.not_eq_true,LV] at hn
   have:=hn s hs
   simp[iL] at this
   exact this
 ·cases h
theorem toNat_lt{l:List bM}{s:Int}(h:0<=s∧s<=pw l.length - 1):s.toNat<2^l.length:=by unfold pw at h;omega
theorem Ln{x:List PV}(h:l7 [.leaf (.int .u8)] x):∃ n:Nat,x=[.int .u8 (n:Int)]∧n<=255:=by
 exact Po
theorem FU{l:List bM}{can:Nat}(h:can≠0)(h32:can<2^32):((vf l can).1∈(aM can 32).map (ir l))∧(vf l can).2∈(aM can 32).map (ir l):=by
 have hne:(aM can 32).map (ir l)≠[]:=by
  intro h1
  rw[List.map_eq_nil_iff] at h1
  refine h (ni.2 fun i=> ?_)
  cases h2:can.testBit i with
  | false=>rfl
  | true=>
   have h3:i∈aM can 32:=b7.2 ⟨dy h32 h2,h2⟩
   rw[h1] at h3;cases h3
 exact(Mx _ hne).2
set_option maxRecDepth 100000
set_option maxHeartbeats 4000000
theorem aaE:(1,HP.map (PV.int .u8))∈kO Tryz.prog:=by
 have e:(kO Tryz.prog)[0]? =some (1,HP.map (PV.int .u8)):=by kernel_rfl
 exact Zi e
theorem cM(n lo hi:Int):Pure Tryz.prog 137 [.int .i64 n,.int .i64 lo,.int .i64 hi] (.bool (iL n lo hi)):=by
 refine Kf (N:=15) Tryz.func137 ?_
 exact WR
theorem Ld(n k:Nat)(h0:0<n)(h:n<2^32)(hl:n&&& (2^32 - n)=2^k)(hk:k<32):Pure Tryz.prog 145 [.int .u32 (n:Int)] (.int .i64 ((k:Nat):Int)):=by
 have hT:(HP.map (PV.int .u8))[(((2^k*125613361%4294967296 / 2^27:Nat):Int)).toNat*1]? =some (.int .u8 ((k:Nat):Int)):=by rw[Gv,BN,Zu,RI k hk];rfl
 refine Kf (N:=14) Tryz.func145 ?_
 iterate 10 refine af ?_
 refine Ki (fun hc0=> ?_) fun hc0=> ?_
 ·exact BZ
 ·iterate 5 refine af ?_
  refine Kc (aa.neg (m:=((2^32 - n:Nat):Int)) rfl rfl ?_) ?_
  ·exact Ud h0 h
  refine Kc (aa.nh n (2^32 - n) rfl rfl rfl (by first | (show _<=(9223372036854775807:Int);omega) | (show _<=(4294967295:Int);omega) | (show _<=(18446744073709551615:Int);omega) | (show _<=(255:Int);omega) | (show _<=(65535:Int);omega)) (by first | decide | (show _<=(9223372036854775807:Int);omega) | (show _<=(4294967295:Int);omega) | (show _<=(18446744073709551615:Int);omega) | (show _<=(255:Int);omega) | (show _<=(65535:Int);omega))) ?_
  rw[hl]
  refine Kc (aa.mul (m:=((2^k*125613361%4294967296:Nat):Int)) rfl rfl rfl ?_) ?_
  ·exact TL k
  refine Kc (aa.vQ (2^k*125613361%4294967296) 27 rfl rfl rfl (by first | decide | (show _<=(9223372036854775807:Int);omega) | (show _<=(4294967295:Int);omega) | (show _<=(18446744073709551615:Int);omega) | (show _<=(255:Int);omega) | (show _<=(65535:Int);omega))) ?_
  refine Kc (aa.xJ (Qn:=HP.map (PV.int .u8)) aaE rfl rfl Xu V7 (by omega) (by omega)) ?_
  exact V4
theorem nu(n:Nat)(hn:n<2^32):Li Tryz.prog 144 (fun y=>[y,.p (.ip [.int .u32 (n:Int)] 0)]) (kM n):=by
 intro l κ nn inv fin hκ Sl KX hb h0 ov
 refine iX.gR (N:=16) Tryz.func144 rfl rfl Kn ?_
 iterate 6 refine af ?_
 refine aB.sG [3,5,6,7,8,9,10,11,12,13,14,15] (fun g=>[(3,.p (.int .u32 ((pX n g.1:Nat):Int)))]) (fun g=>g.2) (fun g=>g.1<=32∧inv (aM n g.1).length g.2) (fun g=>32 - g.1) (0,h0) (show(0:Nat)<=32∧inv (aM n 0).length h0 from⟨Zl _,ov⟩) (To.sub (Sub.Qk (Sub.cons (by show some (V.p (.int .u32 ((n:Nat):Int)))=_;rw[DM]) Sub.nil))) (fun g hg=> ?_)
 obtain⟨p,Lf⟩:=g
 obtain⟨hp,hinv⟩:=hg
 dsimp only at hp hinv ⊢
 have hle:=QY n p
 iterate 6 refine af ?_
 refine Ki (fun hc0=> ?_) fun hc0=> ?_
 ·have hne:pX n p≠0:=by intro h;rw[h] at hc0;simp at hc0
  obtain⟨k,hpk,R2,hlow,RY,JJ⟩:=DG hn hp hne
  iterate 7 refine af ?_
  refine Kc (Kp (Ld (pX n p) k (by omega) (by omega) hlow R2)) ?_
  refine aj.yield 14 rfl rfl rfl rfl rfl rfl (hb _ _ _ hinv (IG R2 JJ)) ?_
  intro b2 h2 BD
  iterate 2 refine af ?_
  refine Ki (fun cF=> ?_) fun cF=> ?_
  ·have iq:b2=false:=by simpa using cF
   subst iq
   refine af ?_
   exact⟨.inr rfl,_,eK.none_ rfl,.inr BD⟩
  ·have iq:b2=true:=by simpa using cF
   subst iq
   iterate 4 refine af ?_
   refine Kc (aa.iC (m:=((pX n p - 1:Nat):Int)) rfl rfl rfl ((uA ?_).trans ?_)) ?_
   ·omega
   ·omega
   refine Kc (aa.nh (pX n p) (pX n p - 1) rfl rfl rfl (by first | (show _<=(9223372036854775807:Int);omega) | (show _<=(4294967295:Int);omega) | (show _<=(18446744073709551615:Int);omega) | (show _<=(255:Int);omega) | (show _<=(65535:Int);omega)) (by first | decide | (show _<=(9223372036854775807:Int);omega) | (show _<=(4294967295:Int);omega) | (show _<=(18446744073709551615:Int);omega) | (show _<=(255:Int);omega) | (show _<=(65535:Int);omega))) ?_
   iterate 2 refine af ?_
   refine⟨(k+1,h2),?_,?_,?_⟩
   ·exact⟨by dsimp only;omega,by dsimp only;rw[JJ,Zb];exact BD⟩
   ·show 32 - (k+1)<32 - p
    omega
   exact To.sub (Sub.cons (by show some (V.p (.int .u32 _))=_;rw[RY]) KS)
 ·have hz:pX n p=0:=by have h:((pX n p:Nat):Int)=0:=(by simpa using hc0);omega
  have hall:=EI hp hz
  refine aB.exit ?_
  exact⟨.inl rfl,_,eK.none_ rfl,.inl (by rw[hO,hall];exact hinv)⟩
theorem rR(n:Nat):Pure Tryz.prog 71 [.int .u32 (n:Int)] (.func (.func 144) [] [.ip [.int .u32 (n:Int)] 0]):=by
 refine Kf (N:=4) Tryz.func71 ?_
 exact NR
theorem nG(l:List Nat)(hl:∀ x∈l,x<2^32)(hb:l.length<=cJ):Pure Tryz.prog 69 [.is (l.flatMap u1) l.length] (.int .u32 ((we l:Nat):Int)):=by
 unfold cJ at hb
 refine Kf (N:=16) Tryz.func69 ?_
 iterate 12 refine af ?_
 refine aB.Ul [5,6,15] (fun g=>[(7,.p (.int .i64 ((g:Nat):Int))),(2,.p (.int .u32 ((we (l.take g):Nat):Int)))]) (fun g=>g<=l.length) (fun g=>l.length - g) 0 (Zl _) (Sub.cons rfl (Sub.cons rfl (Sub.nil))) (fun i hg=> ?_)
 iterate 5 refine af ?_
 refine Ki (fun hc0=> ?_) fun hc0=> ?_
 ·have hk0:i<l.length:=by have h:=Zf hc0;omega
  have hx:=hl _ (S7 hk0)
  have ho:=CP (l:=l.take i) fun x hx=>hl x (GG hx)
  have UD:=CP (l:=l.take (i+1)) fun x hx=>hl x (GG hx)
  have hT:=JC hk0
  rw[Cl i hk0] at hT
  rw[hT] at UD
  iterate 5 refine af ?_
  refine Kc (aa.aJ (g:=ut l) Cl rfl rfl rfl an WE rfl (fun _=>rfl) (by decide) hk0) ?_
  iterate 6 refine af ?_
  refine Kc (aa.UI (we (l.take i)) (ut l i) rfl rfl rfl (by show _<=(4294967295:Int);omega) (by show _<=(4294967295:Int);omega) (by show _<=(4294967295:Int);omega)) ?_
  iterate 3 refine af ?_
  refine Kc (aa.add rfl rfl rfl (aH ?_)) ?_
  ·omega
  iterate 2 refine af ?_
  refine⟨i+1,?_,?_,?_⟩
  ·omega
  ·omega
  refine To.done [] rfl (Sub.cons rfl (Sub.cons (by rw[hT];rfl) KS)) rfl
 ·obtain rfl:i=l.length:=by have h:=Zh hc0;omega
  rw[ZQ]
  refine aB.exit ?_
  iterate 6 refine af ?_
  exact xQ
theorem Fv(xs:List Int)(f:PV)(p:Int->Bool)(hx:xs.length<=cJ)(hf:∀ x∈xs,ju Tryz.prog f [.int .i64 x] (.bool (p x))):Pure Tryz.prog 175 [.is (xs.flatMap i1) xs.length,f] (.int .i64 (iI p xs)):=by
 unfold cJ at hx
 refine Kf (N:=19) Tryz.func175 ?_
 iterate 12 refine af ?_
 refine aB.xS [4,5,8,9,10,11,12,13,14,15,16,17,18] (fun g=>[(8,.p (.int .i64 ((g:Nat):Int)))]) (fun g=>g<=xs.length∧∀ j (hj:j<g) (h:g<=xs.length),p (xs[j]'(by omega))=false) (fun g=>xs.length - g) 0 ⟨Zl _,fun j hj=>absurd hj (by omega)⟩ (Sub.cons rfl (Sub.nil)) (fun i hg=> ?_)
 obtain⟨zF,ou⟩:=hg
 iterate 5 refine af ?_
 refine Ki (fun hc0=> ?_) fun hc0=> ?_
 ·iterate 13 refine af ?_
  refine Kc (aa.jK rfl rfl rfl an dA rfl (fun _=>rfl) (by decide) ?_) ?_
  ·simp at hc0;omega
  exact KD
 ·exact LC
theorem yF(xs:List Int)(f:PV)(p:Int->Bool)(hx:xs.length<=cJ)(hf:∀ x∈xs,ju Tryz.prog f [.int .i64 x] (.bool (p x))):Pure Tryz.prog 139 [.is (xs.flatMap i1) xs.length,f] (.bool (xs.any p)):=by
 refine Kf (N:=9) Tryz.func139 ?_
 iterate 8 refine af ?_
 refine Kc (Kp (Fv _ _ p ?_ ?_)) ?_
 ·exact hx
 ·exact hf
 exact O2
theorem F3(n:Int)(l:List bM)(hl:l.length<=24):Pure Tryz.prog 136 [.int .i64 n,.ip [fO l] 0] (.bool (!iL n 0 (pw l.length - 1))):=by
 have hp:=CM hl
 have O4:((2^l.length:Nat):Int)=pw l.length:=rfl
 refine Kf (N:=11) Tryz.func136 ?_
 iterate 9 refine af ?_
 refine Kc (aa.qg 1 l.length rfl rfl rfl (by show _<=(64:Nat);omega) (by show _<=(9223372036854775807:Int);rw[ZN];omega)) ?_
 rw[ZN]
 refine Kc (aa.iC (m:=(pw l.length - 1)) rfl rfl rfl ((aH ?_).trans ?_)) ?_
 ·omega
 ·rfl
 refine Kc (Kp (cM _ _ _)) ?_
 iterate 4 refine af ?_
 exact xQ
theorem Ax(l:List bM)(hb:l.length<=cJ):Pure Tryz.prog 138 [fO l] (.bool (decide (bR l))):=by
 unfold cJ at hb
 refine Kf (N:=30) Tryz.func138 ?_
 iterate 12 refine af ?_
 refine aB.cR [5,6] (fun g=>[(7,.p (.int .i64 ((g:Nat):Int)))]) (fun g=>[]) (fun g=>g<=l.length∧∀ i,i<g->AZ l i) (fun g=>l.length - g) 0 ⟨Zl _,fun j hj=>absurd hj (by omega)⟩ (To.sub (Sub.xx (Sub.cons rfl (Sub.nil)))) (fun j hg=> ?_)
 obtain⟨zF,ou⟩:=hg
 iterate 5 refine af ?_
 refine Ki (fun hc0=> ?_) fun hc0=> ?_
 ·have hk0:j<l.length:=by have h:=Zf hc0;omega
  iterate 6 refine af ?_
  refine Kc (aa.aJ (g:=bt l) tQ rfl rfl rfl an FO rfl (fun _=>rfl) (by decide) hk0) ?_
  refine Kc (Kl (.p (.agg (bt l j).cells))) ?_
  iterate 2 refine af ?_
  refine Kz (aa.store (H':=[.cells ((bt l j).cells.map .p) 128]) rfl rfl rfl rfl rfl an rfl rfl) ?_
  iterate 2 refine af ?_
  refine aB.az 17 mixed (by kernel_rfl) (by decide) ?_
  refine af ?_
  refine Kq (aa.geq rfl rfl rfl) ?_
  refine af ?_
  refine ay.guard 15 14 rfl rfl rfl rfl rfl rfl rfl [(4,_)] (fun h=>And.intro (.inl rfl) (trivial)) (fun h=>(aa.fieldAddr rfl rfl an rfl)) ?_
  refine ay.guard 16 14 rfl rfl rfl rfl rfl rfl rfl [(15,_)] (fun h=>And.intro (.inr ⟨_,rfl,h⟩) (trivial)) (fun h=>(Kl (.p (.int .i64 (bt l j).f)))) ?_
  refine ay.guard 17 14 rfl rfl rfl rfl rfl rfl rfl [(3,_)] (fun h=>And.intro (.inl rfl) (trivial)) (fun h=>(aa.move rfl rfl)) ?_
  refine ay.guard 18 14 rfl rfl rfl rfl rfl rfl rfl [(17,_)] (fun h=>And.intro (.inr ⟨_,rfl,h⟩) (trivial)) (fun h=>(aa.qg 1 j rfl rfl rfl (by show _<=(64:Nat);have hj:j<=24:=(by simp at h;omega);omega) (by show _<=(9223372036854775807:Int);rw[ZN];have hj:j<=24:=(by simp at h;omega);have:=CM hj;unfold pw at this;omega))) ?_
  refine ay.guard 19 14 rfl rfl rfl rfl rfl rfl rfl [(18,_)] (fun h=>And.intro (.inr ⟨_,rfl,h⟩) (trivial)) (fun h=>(aa.iC (m:=(pw j - 1)) rfl rfl rfl ((aH (by rw[ZN];have hj:j<=24:=(by simp at h;omega);have:=CM hj;unfold pw at this;omega)).trans (by rw[ZN];rfl)))) ?_
  refine ay.guard 20 14 rfl rfl rfl rfl rfl rfl rfl [(16,_),(19,_)] (fun h=>And.intro (.inr ⟨_,rfl,h⟩) (And.intro (.inr ⟨_,rfl,h⟩) (trivial))) (fun h=>(Kp (cM _ _ _))) ?_
  refine ay.guard 21 14 rfl rfl rfl rfl rfl rfl rfl [(20,_)] (fun h=>And.intro (.inr ⟨_,rfl,h⟩) (trivial)) (fun h=>(aa.iZ rfl rfl)) ?_
  refine Kq (aa.me rfl rfl rfl ?_) ?_
  ·exact eM
  refine af ?_
  refine ay.guard 24 23 rfl rfl rfl rfl rfl rfl rfl [(4,_)] (fun h=>And.intro (.inl rfl) (trivial)) (fun h=>(aa.fieldAddr rfl rfl an rfl)) ?_
  refine ay.guard 25 23 rfl rfl rfl rfl rfl rfl rfl [(24,_)] (fun h=>And.intro (.inr ⟨_,rfl,h⟩) (trivial)) (fun h=>(Kl (.p (.int .i64 (bt l j).s)))) ?_
  refine ay.guard 26 23 rfl rfl rfl rfl rfl rfl rfl [(25,_)] (fun h=>And.intro (.inr ⟨_,rfl,h⟩) (trivial)) (fun h=>(Kp (cM _ _ _))) ?_
  refine ay.guard 27 23 rfl rfl rfl rfl rfl rfl rfl [(26,_)] (fun h=>And.intro (.inr ⟨_,rfl,h⟩) (trivial)) (fun h=>(aa.iZ rfl rfl)) ?_
  refine Kq (aa.me rfl rfl rfl ?_) ?_
  ·exact eM
  refine ay.nil ?_
  refine af ?_
  refine Ki (fun cF=> ?_) fun cF=> ?_
  ·iterate 5 refine af ?_
   refine Fin.gw rfl rfl ?_
   have h3:((decide ((j:Int)>=24)|| !iL (bt l j).f 0 (pw j - 1))|| !iL (bt l j).s 0 1048576)=true:=cF
   rw[decide_eq_false (p:=bR l) (fun h=>by have h1:=h j hk0;unfold AZ at h1;simp[iL] at h3;omega)]
  ·have hst:AZ l j:=by
    have h3:((decide ((j:Int)>=24)|| !iL (bt l j).f 0 (pw j - 1))|| !iL (bt l j).s 0 1048576)=false:=cF
    simp[iL] at h3
    unfold AZ
    omega
   iterate 2 refine af ?_
   refine Kc (aa.add rfl rfl rfl (aH ?_)) ?_
   ·omega
   iterate 2 refine af ?_
   refine⟨j+1,?_,?_,?_⟩
   ·refine⟨by omega,fun i hi=> ?_⟩
    rcases ZZ.1 hi with h1 | rfl
    ·exact ou i h1
    ·exact hst
   ·omega
   exact wQ
 ·obtain rfl:j=l.length:=by have h:=Zh hc0;omega
  refine aB.exit ?_
  iterate 5 refine af ?_
  refine Fin.gw rfl rfl ?_
  rw[decide_eq_true (p:=bR l) ou]
theorem Aw(l:List bM)(sets:List Int)(hb:l.length<=cJ)(hs:sets.length<=cJ):Pure Tryz.prog 63 [fO l,bI sets] (.int .i64 (iR l sets)):=by
 refine Kf (N:=15) Tryz.func63 ?_
 iterate 7 refine af ?_
 refine Kc (aa.makeFunc rfl rfl rfl) ?_
 iterate 7 refine af ?_
 refine Kc (Kp (Ax _ ?_)) ?_
 ·assumption
 iterate 3 refine af ?_
 refine Ki (fun hc0=> ?_) fun hc0=> ?_
 ·have hC:¬ bR l:=by simpa using hc0
  iterate 5 refine af ?_
  refine Fin.gw rfl rfl ?_
  unfold iR;rw[if_neg hC]
 ·have hC:bR l:=by simpa using hc0
  have mC:=cx hC
  iterate 4 refine af ?_
  refine Kc (Kp (yF sets _ (fun n=> !iL n 0 (pw l.length - 1)) hs (fun x _=>⟨136,[.int .i64 x,.ip [fO l] 0],rfl,an,F3 x l mC⟩))) ?_
  iterate 2 refine af ?_
  refine Ki (fun cF=> ?_) fun cF=> ?_
  ·have hS:(sets.any fun n=> !iL n 0 (pw l.length - 1))=true:=cF
   iterate 5 refine af ?_
   refine Fin.gw rfl rfl ?_
   unfold iR;rw[if_pos hC,if_pos hS]
  ·have hS:(sets.any fun n=> !iL n 0 (pw l.length - 1))=false:=cF
   iterate 6 refine af ?_
   refine Fin.gw rfl rfl ?_
   unfold iR;rw[if_pos hC,if_neg (by rw[hS];decide)]
theorem KF(l:List bM)(b:Nat)(hC:bR l)(hb:b<l.length):Pure Tryz.prog 246 [fO l,.int .i64 (b:Int)] (.int .u32 ((oo l b:Nat):Int)):=by
 have hf:=(hC b hb).2.1
 have hp:=CM (n:=b) (by have:=cx hC;omega)
 have hfr:(bt l b).f=((oo l b:Nat):Int):=by unfold oo;omega
 refine Kf (N:=11) Tryz.func246 ?_
 iterate 8 refine af ?_
 refine Kc (aa.aJ (g:=bt l) tQ rfl rfl rfl an X5 rfl (fun _=>rfl) (by decide) hb) ?_
 refine af ?_
 refine Kc (Kl (.p (.int .i64 (bt l b).f))) ?_
 refine Kc (aa.di rfl rfl (by rw[yj];rfl) rY (uA ?_)) ?_
 ·omega
 iterate 3 refine af ?_
 refine Fin.gw rfl rfl ?_
 rw[hfr]
theorem G4(l:List bM)(b:Nat)(hC:bR l)(hb:b<l.length):Pure Tryz.prog 245 [FX l,.int .i64 (b:Int)] (.int .u32 ((xX l b:Nat):Int)):=by
 refine Kf (N:=8) Tryz.func245 ?_
 iterate 8 refine af ?_
 refine Kc (aa.FV (dx.int .i64 .i64) (gp:=yg) 0 rfl rfl rfl HI rfl) ?_
 iterate 3 refine af ?_
 refine Fin.gw rfl rfl ?_
 have e:=ux hC b l.length (Zg _)
 show yg ((cD ((b:Nat):Int) (uJ l l.length)).getD 0)=_
 rw[e]
 rfl
theorem AY(l:List bM)(hC:bR l):Pure Tryz.prog 70 [fO l] (FX l):=by
 have mC:=cx hC
 refine Kf (N:=31) Tryz.func70 ?_
 iterate 6 refine af ?_
 refine Kc (aa.makeMap (K:=Int) (α:=Nat) (enc:=PV.int .i64) (g:=fun n=> .p (yg n)) rfl) ?_
 iterate 11 refine af ?_
 refine aB.cR [2,3,8,9,19,30] (fun g=>[(10,.p (.int .i64 ((g:Nat):Int)))]) (fun g=>[mV (PV.int .i64) (fun n=> .p (yg n)) (uJ l g),.cells [.map 0] 145]) (fun g=>g<=l.length) (fun g=>l.length - g) 0 (Zl _) (To.sub (Sub.xx (Sub.cons rfl (Sub.nil)))) (fun i hg=> ?_)
 iterate 5 refine af ?_
 refine Ki (fun hc0=> ?_) fun hc0=> ?_
 ·have hk0:i<l.length:=by have h:=Zf hc0;omega
  have hf:=(hC i hk0).2.1
  have hp:=CM (n:=i) (by omega)
  have hfr:(bt l i).f=((oo l i:Nat):Int):=by unfold oo;omega
  have hlt:oo l i<2^32:=by omega
  iterate 6 refine af ?_
  refine Kc (aa.aJ (g:=bt l) tQ rfl rfl rfl an FO rfl (fun _=>rfl) (by decide) hk0) ?_
  refine Kc (Kl (.p (.agg (bt l i).cells))) ?_
  iterate 8 refine af ?_
  refine Kc (Kl (.p (.int .i64 (bt l i).f))) ?_
  refine Kc (aa.di rfl rfl (by rw[yj];rfl) rY (uA ?_)) ?_
  ·omega
  rw[hfr]
  refine Kc (Kp (rR (oo l i))) ?_
  iterate 2 refine af ?_
  refine aB.rangeFunc 0 rfl (fun _=>rfl) an (nu (oo l i) hlt) (Zg _) (Zl _) (fun _ h=>by cases h) (fun x hx=>by unfold kM at hx;simp at hx;obtain⟨j,_,rfl⟩:=hx;rfl) rfl (fun k h=>h=[mV (PV.int .i64) (fun n=> .p (yg n)) (qD i (uJ l i) ((aM (oo l i) 32).take k)),.cells [.map 0] 145,.cells [.p (.int .i64 ((i:Nat):Int))] 3,.cells ((bt l i).cells.map .p) 128]) (fun c h=>False) (fun _ _ h=>by rw[h];rfl) (fun _ _ h=>h.elim) rfl ?_ ?_ ?_
  ·intro lx tmps k h x hJ hx
   subst hJ
   obtain⟨q,hq,rfl⟩:=je hx
   have LO:=b7.1 (Zi hq)
   have hqi:=tv hC hk0 LO.2
   have hval:=ML hC hk0 q k
   have hjl:∀ x∈[(cD ((q:Nat):Int) (qD i (uJ l i) ((aM (oo l i) 32).take k))).getD 0,1*2^i],x<2^32:=by intro x hx2;simp at hx2;rcases hx2 with rfl | rfl;{omega};{unfold pw at hp;omega}
   iterate 3 refine af ?_
   refine⟨rfl,rfl,?_⟩
   refine af ?_
   refine aB.az 9 mixed (by kernel_rfl) (by decide) ?_
   refine Kq (Kl (.map 0)) ?_
   refine af ?_
   refine Kq (Kl (.map 0)) ?_
   refine af ?_
   refine Kq (aa.vM (dx.int .i64 .i64) (gp:=yg) 0 rfl rfl rfl rfl HI rfl) ?_
   refine Kq (Kl (.p (.int .i64 ((i:Nat):Int)))) ?_
   refine Kq (aa.qg 1 i rfl rfl rfl (by show _<=(32:Nat);omega) (by show _<=(4294967295:Int);rw[ZN];unfold pw at hp;omega)) ?_
   refine Kq (aa.aU rfl an (by decide) rfl rfl rfl) ?_
   refine Kq (Kp (nG [(cD ((q:Nat):Int) (qD i (uJ l i) ((aM (oo l i) 32).take k))).getD 0,1*2^i] hjl (by unfold cJ;show 2<=_;omega))) ?_
   rw[Y7,ZN]
   refine ay.nil ?_
   refine Kz (aa.mapUpdate (dx.int .i64 .i64) (g:=fun n=> .p (yg n)) (.inl rfl) rfl rfl rfl rfl HI) ?_
   refine af ?_
   exact⟨_,rfl,by rw[fk hq,Fh];exact To.sub Sub.nil⟩
  ·intro h hJ
   subst hJ
   rw[hO,ZQ]
   refine af ?_
   refine Kc (aa.add rfl rfl rfl (aH ?_)) ?_
   ·omega
   iterate 2 refine af ?_
   refine⟨i+1,?_,?_,?_⟩
   ·omega
   ·omega
   exact To.done [0,1] rfl KS (congrArg (fun z=>[z,ai.cells [V.map 0] 145]) (xq _ (PV.int .i64) yg (uJ l (i+1))))
  ·exact o4
 ·obtain rfl:i=l.length:=by have h:=Zh hc0;omega
  refine aB.exit ?_
  iterate 5 refine af ?_
  refine aB.to (To.rM 0 rfl) ?_
  refine af ?_
  exact Df
def JZ(W:PV):List V:=[.ptr 1 0,.ptr 0 0,.p (.ip [W] 0),.ptr 2 0]
def XR(W:PV)(M:Nat):List ai:=[.cells [.p (.int .u32 (M:Int))] 137,.cells (((uP M).flatMap b1).map .p) 206,.cells [.func (.func 146) [] (JZ W)] 207]
def Fe(N:Nat)(nx:Nat->Nat)(W:PV):Prop:=∀ b,b<N->J3 Tryz.prog "pencilworks/recall.next" W [.int .i64 ((b:Nat):Int)] (.int .u32 ((nx b:Nat):Int))
def RO(R:Nat->Nat)(W:PV)(b:Nat):Prop:=∀ M,M<2^24->DS R b M->ax Tryz.prog 146 (.p (.int .i64 ((b:Nat):Int))::JZ W) (XR W M) fun v H'=>H'=XR W (M||| R b)
theorem Nd{N:Nat}{nx R rk:Nat->Nat}(w:Way N nx R rk)(hN:N<=24){b M:Nat}(hb:b<N)(hM:M<2^24){ks:List Nat}(hk:∀ k∈ks,k<N):qn R M b ks<2^24:=by
 apply Nat.lt_pow_two_of_testBit
 intro x hx
 cases h:(qn R M b ks).testBit x with
 | false=>rfl
 | true=>
  exfalso
  rcases(ua R M b x ks).1 h with h1 | h1 | ⟨k,h1,h2⟩
  ·rw[Tf (ZM hM (Zy (by omega) hx))] at h1
   cases h1
  ·omega
  ·rw[Tf (ZM (w.Yi k (hk k h1)) (Zy (by omega) (by omega)))] at h2
   cases h2
theorem DE{N:Nat}{nx R rk:Nat->Nat}(w:Way N nx R rk)(hN:N<=24)(W:PV)(NF:Fe N nx W)(b:Nat)(hb:b<N)(IH:∀ k,(nx b).testBit k=true->RO R W k):RO R W b:=by
 intro M hM Xo
 refine ax.start (N:=25) Tryz.func146 rfl rfl Kn ?_
 have vZ:nx b<2^32:=ZM (w.lt b hb) (Zy (by omega) (by omega))
 have js:b<24:=by omega
 have h2b:=Zy (show 0<2 by omega) (show b<=23 by omega)
 iterate 4 refine af ?_
 refine Kc (aa.wY rfl rfl rfl QT Pv (by omega)) ?_
 refine Kc (aa.kR (f:=b1) (c:=1) (k:=b) (j:=0) (xs:=(uP M)) rfl rfl an rfl rfl (by omega) (fun _=>rfl) (by rw[uX];omega) (by decide) (show _=PV.bool (M.testBit b) from by rw[vq];rfl)) ?_
 refine af ?_
 refine Ki (fun hc0=> ?_) fun hc0=> ?_
 ·have hm:M.testBit b=true:=hc0
  refine af ?_
  exact⟨.inr rfl,_,eK.none_ rfl,by rw[Nv w hb Xo hm]⟩
 ·iterate 4 refine af ?_
  refine Kc (aa.wY rfl rfl rfl QT Pv (by omega)) ?_
  refine Kz (aa.storeCells (f:=b1) (c:=1) (k:=b) (j:=0) (xs:=(uP M)) (z:=true) (ws:=[.bool true]) rfl rfl rfl rfl rfl an rfl rfl rfl (by omega) (fun _=>rfl) (by rw[uX];omega) (by decide) rfl) ?_
  iterate 2 refine af ?_
  rw[HN js]
  refine aB.az 5 mixed (by kernel_rfl) (by decide) ?_
  refine Kq (Kl (.p (.int .u32 (M:Int)))) ?_
  refine af ?_
  refine Kq (aa.qg 1 b rfl rfl rfl (by show _<=(32:Nat);omega) (by show _<=(4294967295:Int);rw[ZN];omega)) ?_
  refine Kq (aa.aU rfl an (by decide) rfl rfl rfl) ?_
  refine Kq (Kp (nG [M,1*2^b] (by intro x hx;simp at hx;rcases hx with rfl | rfl;{omega};{omega}) (by unfold cJ;show 2<=_;omega))) ?_
  rw[Y7,ZN]
  refine ay.nil ?_
  refine Kz (aa.store (H':=XR W (M||| 2^b)) rfl rfl rfl rfl rfl an rfl rfl) ?_
  iterate 3 refine af ?_
  refine Kc (Kl (.p W)) ?_
  refine af ?_
  refine Kc (aa.invoke (NF b hb) rfl rfl rfl) ?_
  refine Kc (Kp (rR (nx b))) ?_
  refine af ?_
  refine aB.toEnd ?_
  refine af ?_
  refine aB.rangeFunc 3 rfl (fun _=>rfl) an (nu (nx b) vZ) (Zg 3) (Zg 3) (fun _ h=>by cases h) (fun x hx=>by unfold kM at hx;simp at hx;obtain⟨j,_,rfl⟩:=hx;rfl) rfl (fun k h=>h=XR W (qn R M b ((aM (nx b) 32).take k))) (fun c h=>False) (fun _ _ h=>by rw[h];rfl) (fun _ _ h=>h.elim) rfl ?_ ?_ ?_
  ·intro lx tmps k h x hJ hx
   subst hJ
   obtain⟨q,hq,rfl⟩:=je hx
   have LO:=b7.1 (Zi hq)
   have hks:∀ p∈(aM (nx b) 32).take k,(nx b).testBit p=true:=fun p hp=>(b7.1 (GG hp)).2
   have hIH:=IH q LO.2 (qn R M b ((aM (nx b) 32).take k)) (Nd w hN hb hM fun p hp=>w.Sg b hb p (hks p hp)) (KA w hb Xo hks LO.2)
   iterate 3 refine af ?_
   refine⟨rfl,rfl,?_⟩
   iterate 2 refine af ?_
   refine Kc (Kl (.func (.func 146) [] (JZ W))) ?_
   refine af ?_
   refine aj.Ur 24 [0,1,2] (all:= .p (.int .i64 ((q:Nat):Int))::JZ W) (by show ax _ _ _ [ai.cells _ _,ai.cells (bn _ (List.map V.p _)) _,ai.cells _ _] _;rw[aY];exact hIH) (fun v H2 h=>by rw[h];rfl) (by rfl) (by rfl) rfl rfl rfl rfl rfl rfl rfl an (fun v H2 gJ=> ?_)
   subst gJ
   refine af ?_
   exact⟨_,rfl,by rw[fk hq,F8];exact To.sub Sub.nil⟩
  ·intro h hJ
   subst hJ
   have hall:qn R M b (aM (nx b) 32)=M||| R b:=by
    rcases NT w (M:=M) hb with h | h
    ·exact h
    ·omega
   rw[hO,ZQ,hall]
   exact⟨[],_,To.done [0,1,2] rfl Sub.nil (by show[ai.cells _ _,ai.cells (bn _ (List.map V.p _)) _,ai.cells _ _]=_;rw[aY];rfl),.inl rfl,_,eK.none_ rfl,rfl⟩
  ·exact o4
theorem GS{N:Nat}{nx R rk:Nat->Nat}(w:Way N nx R rk)(hN:N<=24)(W:PV)(NF:Fe N nx W):∀(m b:Nat),b<N->rk b<=m->RO R W b
 | 0,b,hb,hm=>DE w hN W NF b hb fun k hk=>by have:=w.rk b hb k hk;omega
 | m+1,b,hb,hm=>DE w hN W NF b hb fun k hk=>GS w hN W NF m k (w.Sg b hb k hk) (by have:=w.rk b hb k hk;omega)
theorem mu{N:Nat}{nx R rk:Nat->Nat}(w:Way N nx R rk)(hN:N<=24)(t:Nat)(y:PV)(NF:Fe N nx (.iface t y))(b:Nat)(hb:b<N):Pure Tryz.prog 72 [.iface t y,.int .i64 (b:Int)] (.int .u32 ((R b:Nat):Int)):=by
 refine Kf (N:=12) Tryz.func72 ?_
 iterate 15 refine af ?_
 refine Kc (aa.makeFunc rfl rfl rfl) ?_
 refine Kz (aa.store (H':=XR (.iface t y) 0) rfl rfl rfl rfl rfl an rfl rfl) ?_
 iterate 3 refine af ?_
 refine Kc (Kl (.func (.func 146) [] (JZ (.iface t y)))) ?_
 refine af ?_
 refine aj.qA 10 (GS w hN (.iface t y) NF (rk b) b hb (Zg _) 0 (by decide) (fun x hx=>by simp at hx)) rfl rfl rfl rfl rfl rfl rfl an (fun v H2 gJ=> ?_)
 subst gJ
 rw[Nat.zero_or]
 iterate 3 refine af ?_
 refine Kc (Kl (.p (.int .u32 ((R b:Nat):Int)))) ?_
 exact NL
theorem yP(l:List bM)(hC:bR l):Fe l.length (oo l) (.iface 152 (fO l)):=fun b hb=>⟨152,_,246,rfl,by kernel_rfl,an,KF l b hC hb⟩
theorem A2(l:List bM)(hC:bR l):Fe l.length (xX l) (.iface 145 (FX l)):=fun b hb=>⟨145,_,245,rfl,by kernel_rfl,an,G4 l b hC hb⟩
theorem Pure.Th{P:Program}{f:FuncId}{x r:PV}(h:Pure P f [x,.is [] 0] r):Pure P f [x,.nilSlice] r:=by
 intro w I ρ us hi gv
 refine h w I ρ us hi ?_
 obtain⟨u,us',rfl,h1,u2,us2,rfl,h2,h3⟩:=gv
 exact⟨u,_,rfl,h1,u2,us2,rfl,aA.wk (.p .nilSlice) u2 h2,h3⟩
theorem Gf(l:List bM)(hb:l.length<=cJ):Pure Tryz.prog 63 [fO l,.nilSlice] (.int .i64 (iR l [])):=Pure.Th (Aw l [] hb (Zl _))
theorem N7(l:List bM)(b:Int)(hb:l.length<=cJ)(f:PV)(t:Nat)(y:PV)(nx R rk:Nat->Nat)(hw:bR l->Way l.length nx R rk)(NF:bR l->Fe l.length nx (.iface t y))(hf:bR l->ju Tryz.prog f [] (.iface t y)):Pure Tryz.prog 73 [fO l,f,.int .i64 b] (.tuple [.int .i64 ((gE l R b:Nat):Int),.int .i64 (dV l b)]):=by
 have iq:=hb
 unfold cJ at iq
 refine Kf (N:=25) Tryz.func73 ?_
 iterate 9 refine af ?_
 refine Kc (Kp (Gf l hb)) ?_
 iterate 7 refine af ?_
 refine Ki (fun hc0=> ?_) fun hc0=> ?_
 ·have hE:iR l []≠0:=by simpa using hc0
  iterate 7 refine af ?_
  refine Fin.dW (xs:=[.int .i64 0,.int .i64 (iR l [])]) rfl (⟨_,_,rfl,rfl,⟨_,_,rfl,rfl,rfl⟩⟩) rfl ?_
  have e:dV l b=iR l []:=by rw[MD] at hE ⊢;unfold dV;split <;> simp_all
  unfold gE;rw[e,if_neg hE];rfl
 ·have hE:iR l []=0:=by simpa using hc0
  have hC:=(tU hE).1
  have hS:=(tU hE).2
  have mC:=cx hC
  have Fk:=CM mC
  iterate 7 refine af ?_
  refine Kc (aa.iC rfl rfl rfl (aH ?_)) ?_
  ·omega
  refine Kc (Kp (cM _ _ _)) ?_
  iterate 2 refine af ?_
  refine Ki (fun cF=> ?_) fun cF=> ?_
  ·have hI:¬ iL b 0 ((l.length:Int) - 1)=true:=by intro h;rw[h] at cF;cases cF
   iterate 6 refine af ?_
   refine Fin.dW (xs:=[.int .i64 0,.int .i64 2]) rfl (⟨_,_,rfl,rfl,⟨_,_,rfl,rfl,rfl⟩⟩) rfl ?_
   have e:dV l b=2:=by unfold dV;rw[if_pos hC,if_neg hI]
   unfold gE;rw[e,if_neg (by decide)];rfl
  ·have hI:iL b 0 ((l.length:Int) - 1)=true:=by simpa using cF
   have hI2:=hI
   simp[iL] at hI2
   obtain⟨b,rfl⟩:∃ m:Nat,b=(m:Int):=⟨b.toNat,by omega⟩
   have Sv:b<l.length:=by omega
   iterate 4 refine af ?_
   refine Kc (aa.Ak (hf hC) rfl rfl rfl) ?_
   refine af ?_
   refine Kc (Kp (mu (hw hC) mC t y (NF hC) b Sv)) ?_
   refine Kc (aa.di rfl rfl (by rw[rY];rfl) yj (aH ?_)) ?_
   ·have h2:=(hw hC).Yi b Sv;have h3:=Zy (show 0<2 by omega) mC;omega
   iterate 4 refine af ?_
   refine Fin.dW (xs:=[.int .i64 ((R b:Nat):Int),.int .i64 0]) rfl (⟨_,_,rfl,rfl,⟨_,_,rfl,rfl,rfl⟩⟩) rfl ?_
   have e:dV l (b:Int)=0:=by unfold dV;rw[if_pos hC,if_pos hI]
   unfold gE;rw[e,if_pos rfl];rfl
theorem Ke(l:List bM):Pure Tryz.prog 74 [.ip [fO l] 0] (.iface 152 (fO l)):=by
 refine Kf (N:=4) Tryz.func74 ?_
 iterate 7 refine af ?_
 refine Kc (aa.aD rfl rfl CG) ?_
 exact kL
theorem Dy(l:List bM)(b:Int)(hb:l.length<=cJ):Pure Tryz.prog 31 [fO l,.int .i64 b] (.tuple [.int .i64 ((gE l (bE l) b:Nat):Int),.int .i64 (dV l b)]):=by
 refine Kf (N:=12) Tryz.func31 ?_
 iterate 9 refine af ?_
 refine Kc (aa.makeFunc rfl rfl rfl) ?_
 refine af ?_
 refine Kc (Kp (N7 l b hb _ _ _ (oo l) (bE l) (fun b=>b) nq (fun h=>yP l h) (fun _=>⟨74,[.ip [fO l] 0],rfl,an,Ke l⟩))) ?_
 iterate 6 refine af ?_
 exact Fin.many (xs:=[.int .i64 ((gE l (bE l) b:Nat):Int),.int .i64 (dV l b)]) rfl (⟨_,_,rfl,rfl,⟨_,_,rfl,rfl,rfl⟩⟩) rfl
theorem JK(l:List bM)(bad good:Nat)(hC:bR l)(hbd:bad<2^l.length)(hgd:good<2^l.length):Pure Tryz.prog 64 [fO l,.int .u32 (bad:Int),.int .u32 (good:Int)] (.int .u32 ((dj l bad good:Nat):Int)):=by
 have mC:=cx hC
 have Fk:=Zy (show 0<2 by omega) mC
 have Yy:=MU l.length
 have hfull:2^l.length - 1<2^l.length:=by omega
 have aaC:bad<2^32:=by omega
 have aaS:good<2^32:=by omega
 refine Kf (N:=33) Tryz.func64 ?_
 iterate 9 refine af ?_
 refine Kc (aa.qg 1 l.length rfl rfl rfl (by show _<=(32:Nat);omega) (by show _<=(4294967295:Int);rw[ZN];omega)) ?_
 rw[ZN]
 refine Kc (aa.iC (m:=((2^l.length - 1:Nat):Int)) rfl rfl rfl ((uA ?_).trans ?_)) ?_
 ·omega
 ·omega
 iterate 7 refine af ?_
 refine Kc (Kp (rR bad)) ?_
 iterate 2 refine af ?_
 refine aB.rangeFunc 0 rfl (fun _=>rfl) an (nu bad aaC) (Zg _) (Zl _) (fun _ h=>by cases h) (fun x hx=>by unfold kM at hx;simp at hx;obtain⟨j,_,rfl⟩:=hx;rfl) rfl (fun k h=>h=[.cells [.p (.int .u32 (((Cc l (2^l.length - 1) ((aM bad 32).take k)):Nat):Int))] 137]) (fun c h=>False) (fun _ _ h=>by rw[h];rfl) (fun _ _ h=>h.elim) rfl ?_ ?_ ?_
 ·intro lx tmps k h x hJ hx
  subst hJ
  obtain⟨q,hq,rfl⟩:=je hx
  have LO:=b7.1 (Zi hq)
  have KY:q<l.length:=dy hbd LO.2
  have hr:=(nq hC).Yi q KY
  have ha:=JS l hfull ((aM bad 32).take k)
  iterate 3 refine af ?_
  refine⟨rfl,rfl,?_⟩
  refine af ?_
  refine aB.az 6 mixed (by kernel_rfl) (by decide) ?_
  refine Kq (Kl (.p (.int .u32 (((Cc l (2^l.length - 1) ((aM bad 32).take k)):Nat):Int)))) ?_
  refine af ?_
  refine Kq (aa.aD rfl rfl CG) ?_
  refine af ?_
  refine Kq (Kp (mu (nq hC) mC _ _ (yP l hC) q KY)) ?_
  refine Kq (aa.nh (Cc l (2^l.length - 1) ((aM bad 32).take k)) (bE l q) rfl rfl rfl (by first | (show _<=(9223372036854775807:Int);omega) | (show _<=(4294967295:Int);omega) | (show _<=(18446744073709551615:Int);omega) | (show _<=(255:Int);omega) | (show _<=(65535:Int);omega)) (by first | decide | (show _<=(9223372036854775807:Int);omega) | (show _<=(4294967295:Int);omega) | (show _<=(18446744073709551615:Int);omega) | (show _<=(255:Int);omega) | (show _<=(65535:Int);omega))) ?_
  refine ay.nil ?_
  iterate 2 refine af ?_
  exact⟨_,rfl,by rw[fk hq,Ht];exact To.sub Sub.nil⟩
 ·intro h hJ
  subst hJ
  rw[hO,ZQ]
  iterate 4 refine af ?_
  refine Kc (Kp (rR good)) ?_
  iterate 2 refine af ?_
  refine aB.rangeFunc 0 rfl (fun _=>rfl) an (nu good aaS) (Zg _) (Zl _) (fun _ h=>by cases h) (fun x hx=>by unfold kM at hx;simp at hx;obtain⟨j,_,rfl⟩:=hx;rfl) rfl (fun k h=>h=[.cells [.p (.int .u32 (((F4 l (Cc l (2^l.length - 1) (aM bad 32)) ((aM good 32).take k)):Nat):Int))] 137,.dead]) (fun c h=>False) (fun _ _ h=>by rw[h];rfl) (fun _ _ h=>h.elim) rfl ?_ ?_ ?_
  ·intro lx tmps k h x hJ hx
   subst hJ
   obtain⟨q,hq,rfl⟩:=je hx
   have LO:=b7.1 (Zi hq)
   have KY:q<l.length:=dy hgd LO.2
   have hr:=(nq hC).Yi q KY
   have ha:=Tp l (JS l hfull (aM bad 32)) ((aM good 32).take k)
   iterate 3 refine af ?_
   refine⟨rfl,rfl,?_⟩
   refine af ?_
   refine aB.az 6 mixed (by kernel_rfl) (by decide) ?_
   refine Kq (Kl (.p (.int .u32 (((F4 l (Cc l (2^l.length - 1) (aM bad 32)) ((aM good 32).take k)):Nat):Int)))) ?_
   refine af ?_
   refine Kq (aa.aD rfl rfl CG) ?_
   refine af ?_
   refine Kq (Kp (mu (nq hC) mC _ _ (yP l hC) q KY)) ?_
   refine Kq (aa.Oq (F4 l (Cc l (2^l.length - 1) (aM bad 32)) ((aM good 32).take k)) (bE l q) rfl rfl rfl (by first | (show _<=(9223372036854775807:Int);omega) | (show _<=(4294967295:Int);omega) | (show _<=(18446744073709551615:Int);omega) | (show _<=(255:Int);omega) | (show _<=(65535:Int);omega))) ?_
   refine ay.nil ?_
   iterate 2 refine af ?_
   exact⟨_,rfl,by rw[fk hq,La];exact To.sub Sub.nil⟩
  ·intro h hJ
   subst hJ
   rw[hO,ZQ,Ji mC hbd hgd]
   iterate 2 refine af ?_
   refine Kc (Kl (.p (.int .u32 ((dj l bad good:Nat):Int)))) ?_
   exact kL
  ·exact o4
 ·exact o4
theorem kD(l:List bM)(bad good:Int)(hb:l.length<=cJ):Pure Tryz.prog 22 [fO l,.int .i64 bad,.int .i64 good] (.tuple [.int .i64 ((jg l bad good:Nat):Int),.int .i64 (fW l bad good)]):=by
 refine Kf (N:=30) Tryz.func22 ?_
 iterate 11 refine af ?_
 refine Kc (aa.aU rfl an (by decide) rfl rfl rfl) ?_
 refine Kc (Kp (Aw l [bad,good] hb (by unfold cJ;show 2<=_;omega))) ?_
 iterate 7 refine af ?_
 refine Ki (fun hc0=> ?_) fun hc0=> ?_
 ·have hE:iR l [bad,good]≠0:=by simpa using hc0
  iterate 7 refine af ?_
  refine Fin.dW (xs:=[.int .i64 0,.int .i64 (iR l [bad,good])]) rfl (⟨_,_,rfl,rfl,⟨_,_,rfl,rfl,rfl⟩⟩) rfl ?_
  have e:fW l bad good=iR l [bad,good]:=by unfold fW;rw[if_pos hE]
  unfold jg;rw[e,if_neg hE];rfl
 ·have hE:iR l [bad,good]=0:=by simpa using hc0
  have hC:=(tU hE).1
  have hS:=(tU hE).2
  have mC:=cx hC
  have Fk:=CM mC
  have YT:=hS bad (by simp)
  have hS2:=hS good (by simp)
  iterate 7 refine af ?_
  refine Ki (fun cF=> ?_) fun cF=> ?_
  ·have hz:bad=0:=by simpa using cF
   iterate 6 refine af ?_
   refine Fin.dW (xs:=[.int .i64 0,.int .i64 4]) rfl (⟨_,_,rfl,rfl,⟨_,_,rfl,rfl,rfl⟩⟩) rfl ?_
   have e:fW l bad good=4:=by unfold fW;rw[if_neg (not_not_intro hE),if_pos hz]
   unfold jg;rw[e,if_neg (by decide)];rfl
  ·have hz:¬ bad=0:=by simpa using cF
   obtain⟨bad,rfl⟩:∃ m:Nat,bad=(m:Int):=⟨bad.toNat,by omega⟩
   obtain⟨good,rfl⟩:∃ m:Nat,good=(m:Int):=⟨good.toNat,by omega⟩
   iterate 5 refine af ?_
   refine Kc (aa.di rfl rfl (by rw[yj];rfl) rY (uA ?_)) ?_
   ·unfold pw at Fk YT;omega
   refine af ?_
   refine Kc (aa.di rfl rfl (by rw[yj];rfl) rY (uA ?_)) ?_
   ·unfold pw at Fk hS2;omega
   refine Kc (Kp (JK l bad good hC (by unfold pw at YT;omega) (by unfold pw at hS2;omega))) ?_
   iterate 8 refine af ?_
   refine Ki (fun gW=> ?_) fun gW=> ?_
   ·have hn:dj l bad good=0:=by have h:((dj l bad good:Nat):Int)=0:=(by simpa using gW);omega
    iterate 6 refine af ?_
    refine Fin.dW (xs:=[.int .i64 0,.int .i64 6]) rfl (⟨_,_,rfl,rfl,⟨_,_,rfl,rfl,rfl⟩⟩) rfl ?_
    have e:fW l (bad:Int) (good:Int)=6:=by unfold fW;rw[if_neg (not_not_intro hE),if_neg hz,if_pos (show dj l (bad:Int).toNat (good:Int).toNat=0 from hn)]
    unfold jg;rw[e,if_neg (by decide)];rfl
   ·have hn:¬ dj l bad good=0:=by intro h;rw[h] at gW;simp at gW
    iterate 4 refine af ?_
    refine Kc (aa.di rfl rfl (by rw[rY];rfl) yj (aH ?_)) ?_
    ·have h2:=AO l bad good;unfold pw at Fk;omega
    iterate 4 refine af ?_
    refine Fin.dW (xs:=[.int .i64 ((dj l bad good:Nat):Int),.int .i64 0]) rfl (⟨_,_,rfl,rfl,⟨_,_,rfl,rfl,rfl⟩⟩) rfl ?_
    have e:fW l (bad:Int) (good:Int)=0:=by unfold fW;rw[if_neg (not_not_intro hE),if_neg hz,if_neg (show ¬ dj l (bad:Int).toNat (good:Int).toNat=0 from hn)]
    unfold jg;rw[e,if_pos rfl];rfl
theorem qI{l:List bM}{bad good:Int}(h:fW l bad good=0):bR l∧(0<=bad∧bad<=pw l.length - 1)∧(0<=good∧good<=pw l.length - 1)∧bad≠0∧jg l bad good=dj l bad.toNat good.toNat∧jg l bad good≠0∧jg l bad good<2^l.length:=by
 have hR:jg l bad good=dj l bad.toNat good.toNat:=by unfold jg;rw[if_pos h]
 have h2:=h
 unfold fW at h2
 split at h2
 ·rename_i h3;exact absurd h2 h3
 ·rename_i h3
  have h3:iR l [bad,good]=0:=by omega
  obtain⟨hC,hS⟩:=tU h3
  split at h2
  ·cases h2
  ·rename_i h4
   split at h2
   ·cases h2
   ·rename_i h5
    exact⟨hC,hS bad (by simp),hS good (by simp),h4,hR,by rw[hR];exact h5,by rw[hR];exact AO _ _ _⟩
theorem wV(l:List bM)(bad good:Int)(hb:l.length<=cJ):Pure Tryz.prog 30 [fO l,.int .i64 bad,.int .i64 good] (.tuple [.int .i64 ((lf l bad good:Nat):Int),.agg [.int .i64 (fF l bad good).1,.int .i64 (fF l bad good).2],.int .i64 (fW l bad good)]):=by
 have iq:=hb
 unfold cJ at iq
 refine Kf (N:=89) Tryz.func30 ?_
 iterate 12 refine af ?_
 refine Kc (Kp (kD l bad good hb)) ?_
 iterate 12 refine af ?_
 refine Ki (fun hc0=> ?_) fun hc0=> ?_
 ·have hE:fW l bad good≠0:=by simpa using hc0
  iterate 9 refine af ?_
  refine Fin.dW (xs:=[.int .i64 0,.agg [.int .i64 0,.int .i64 0],.int .i64 (fW l bad good)]) rfl (⟨_,_,rfl,rfl,⟨_,_,rfl,⟨_,_,_,rfl,an,rfl⟩,⟨_,_,rfl,rfl,rfl⟩⟩⟩) rfl ?_
  unfold lf fF;rw[if_neg hE,if_neg hE];rfl
 ·have hE:fW l bad good=0:=by simpa using hc0
  obtain⟨hC,_,_,_,hR,hne,hcl⟩:=qI hE
  have mC:=cx hC
  have Fk:=Zy (show 0<2 by omega) mC
  have aah:jg l bad good<2^32:=by omega
  have hso:sF l<2^l.length:=Ev l l.length
  iterate 13 refine af ?_
  refine aB.norm [0,1] [(3,_),(7,_),(9,_),(10,_),(31,_),(32,_),(33,_)] [_,_] rfl KS rfl ?_
  refine aB.cR [3,6,7,8,9,10,13,14,15,16,17,18,19,31,32,47,48,49,50,51,52,53,54,55,56,57,58,59,60,61,62,63,64,65,66,67,68,69,70,71,72,73,74,75,76,77,78,79,80,81,82,83,84,85,86,87,88] (fun g=>[(33,.p (.int .i64 ((g:Nat):Int)))]) (fun g=>[.cells [.p (.int .i64 0),.p (.int .i64 0)] 24,.cells [.p (.int .u32 ((jr l g:Nat):Int))] 137]) (fun g=>g<=l.length) (fun g=>l.length - g) 0 (Zl _) (To.sub (Sub.xx (Sub.cons rfl (Sub.nil)))) (fun i hg=> ?_)
  iterate 5 refine af ?_
  refine Ki (fun cF=> ?_) fun cF=> ?_
  ·have hk0:i<l.length:=by have h:=Zf cF;omega
   have hsi:=Ev l i
   have hpi:=Zy (show 0<2 by omega) (show i<=24 by omega)
   iterate 6 refine af ?_
   refine Kc (aa.aJ (g:=bt l) tQ rfl rfl rfl an FO rfl (fun _=>rfl) (by decide) hk0) ?_
   refine Kc (Kl (.p (.agg (bt l i).cells))) ?_
   iterate 2 refine af ?_
   refine Kz (aa.store (H':=[.cells [.p (.int .i64 0),.p (.int .i64 0)] 24,.cells [.p (.int .u32 ((jr l i:Nat):Int))] 137,.cells ((bt l i).cells.map .p) 128]) rfl rfl rfl rfl rfl an rfl rfl) ?_
   iterate 4 refine af ?_
   refine Kc (Kl (.p (.int .i64 (bt l i).s))) ?_
   iterate 2 refine af ?_
   refine Ki (fun gW=> ?_) fun gW=> ?_
   ·have hF:jr l (i+1)=jr l i||| 2^i:=by rw[zN,if_pos (Zf gW)]
    refine aB.az 5 mixed (by kernel_rfl) (by decide) ?_
    refine Kq (Kl (.p (.int .u32 ((jr l i:Nat):Int)))) ?_
    refine af ?_
    refine Kq (aa.qg 1 i rfl rfl rfl (by show _<=(32:Nat);omega) (by show _<=(4294967295:Int);rw[ZN];omega)) ?_
    refine Kq (aa.aU rfl an (by decide) rfl rfl rfl) ?_
    refine Kq (Kp (nG [jr l i,1*2^i] (by intro x hx;simp at hx;rcases hx with rfl | rfl;{omega};{omega}) (by unfold cJ;show 2<=_;omega))) ?_
    rw[Y7,ZN,<- hF]
    refine ay.nil ?_
    iterate 3 refine af ?_
    exact U6
   ·have hF:jr l (i+1)=jr l i:=by rw[zN,if_neg (Zh gW)]
    iterate 2 refine af ?_
    exact U6
  ·obtain rfl:i=l.length:=by have h:=Zh cF;omega
   refine aB.exit ?_
   iterate 7 refine af ?_
   refine Kc (Kp (AY l hC)) ?_
   iterate 12 refine af ?_
   refine Kc (aa.di rfl rfl (by rw[yj];rfl) rY (uA ?_)) ?_
   ·omega
   refine Kc (Kp (rR (jg l bad good))) ?_
   iterate 2 refine af ?_
   refine aB.rangeFunc 0 rfl (fun _=>rfl) an (nu (jg l bad good) aah) (Zg _) (Zl _) (fun _ h=>by cases h) (fun x hx=>by unfold kM at hx;simp at hx;obtain⟨j,_,rfl⟩:=hx;rfl) rfl (fun k h=>h=[.cells [.p (.int .i64 (Dn (((aM (jg l bad good) 32).take k).map (ir l))).1),.p (.int .i64 (Dn (((aM (jg l bad good) 32).take k).map (ir l))).2)] 24,.cells [.p (.int .u32 ((sF l:Nat):Int))] 137,.cells [.p (.int .u32 ((we (((aM (jg l bad good) 32).take k).map (iQ l)):Nat):Int))] 137,.cells [.p (FX l)] 145,.cells [.p (.bool (decide (k=0)))] 4]) (fun c h=>False) (fun _ _ h=>by rw[h];rfl) (fun _ _ h=>h.elim) rfl ?_ ?_ ?_
   ·intro lx tmps k h x hJ hx
    subst hJ
    obtain⟨q,hq,rfl⟩:=je hx
    have LO:=b7.1 (Zi hq)
    have KY:q<l.length:=dy hcl LO.2
    have hol:=C3 l q
    have hal:=(qX hC).Yi q KY
    have how:iQ l q<2^32:=by omega
    have aak:we (((aM (jg l bad good) 32).take k).map (iQ l))<2^32:=CP fun x hx=>by obtain⟨j,_,rfl⟩:=zn.1 hx;have:=C3 l j;omega
    have eO:we ((((aM (jg l bad good) 32).take k)++[q]).map (iQ l))=we (((aM (jg l bad good) 32).take k).map (iQ l)++[iQ l q]):=by rw[ZH];rfl
    iterate 3 refine af ?_
    refine⟨rfl,rfl,?_⟩
    iterate 2 refine af ?_
    refine aB.so 9 mixed (by kernel_rfl) (by decide) ?_
    refine aN.cons 53 rfl rfl rfl (Kl (.p (FX l))) (fun _=>(Kl (.p (FX l)))) ?_
    refine aN.cons 54 rfl rfl rfl (aa.aD rfl rfl Hv) (fun _=>(aa.aD rfl rfl Hv)) ?_
    refine aN.cons 55 rfl rfl rfl (aa.move rfl rfl) (fun _=>(aa.move rfl rfl)) ?_
    refine aN.cons 56 rfl rfl rfl (Kp (mu (qX hC) mC _ _ (A2 l hC) q KY)) (fun _=>(Kp (mu (qX hC) mC _ _ (A2 l hC) q KY))) ?_
    refine aN.cons 57 rfl rfl rfl (Kl (.p (.int .u32 ((sF l:Nat):Int)))) (fun _=>(Kl (.p (.int .u32 ((sF l:Nat):Int))))) ?_
    refine aN.cons 58 rfl rfl rfl (aa.nh (lE l q) (sF l) rfl rfl rfl (by first | (show _<=(9223372036854775807:Int);omega) | (show _<=(4294967295:Int);omega) | (show _<=(18446744073709551615:Int);omega) | (show _<=(255:Int);omega) | (show _<=(65535:Int);omega)) (by first | decide | (show _<=(9223372036854775807:Int);omega) | (show _<=(4294967295:Int);omega) | (show _<=(18446744073709551615:Int);omega) | (show _<=(255:Int);omega) | (show _<=(65535:Int);omega))) (fun _=>(aa.nh (lE l q) (sF l) rfl rfl rfl (by first | (show _<=(9223372036854775807:Int);omega) | (show _<=(4294967295:Int);omega) | (show _<=(18446744073709551615:Int);omega) | (show _<=(255:Int);omega) | (show _<=(65535:Int);omega)) (by first | decide | (show _<=(9223372036854775807:Int);omega) | (show _<=(4294967295:Int);omega) | (show _<=(18446744073709551615:Int);omega) | (show _<=(255:Int);omega) | (show _<=(65535:Int);omega)))) ?_
    refine aN.lay 18 rfl rfl rfl (aa.aO rfl an rfl) ?_
    refine aN.cons 17 rfl rfl rfl (aa.assign rfl rfl) (fun _=>(aa.assign rfl rfl)) ?_
    refine aN.put rfl rfl (by decide) (aa.store rfl rfl rfl rfl rfl an rfl rfl) rfl ?_
    refine aN.nil ?_
    iterate 5 refine af ?_
    refine Kc (Kp (rR (iQ l q))) ?_
    iterate 2 refine af ?_
    refine aB.Cz 0 rfl (fun _=>rfl) an (nu (iQ l q) how) (Zg _) (Zl _) (fun l0 h=>⟨5,_,_,_,Zw h,rfl⟩) (fun x hx=>by unfold kM at hx;simp at hx;obtain⟨j,_,rfl⟩:=hx;rfl) rfl (fun H k2 h=>h=H.set 6 (.cells [.p (.int .i64 (pW l ((aM (iQ l q) 32).take k2)))] 3)) (fun H c h=>False) (fun _ _ h=>by rw[h];rfl) (fun _ _ h=>h.elim) rfl ?_ ?_ ?_
    ·intro lx2 Ra k2 h x hJ hx
     subst hJ
     obtain⟨q2,BD,rfl⟩:=je hx
     have X6:=JH (Zi BD)
     have hB1:=Pz hC q k2
     have hB2:=(hC q2 X6).2.2
     iterate 3 refine af ?_
     refine⟨rfl,rfl,?_⟩
     refine af ?_
     refine aB.az 7 mixed (by kernel_rfl) (by decide) ?_
     refine Kq (Kl (.p (.int .i64 (pW l ((aM (iQ l q) 32).take k2))))) ?_
     iterate 2 refine af ?_
     refine Kq (aa.aJ (g:=bt l) tQ rfl rfl rfl an FO rfl (fun _=>rfl) (by decide) X6) ?_
     refine af ?_
     refine Kq (Kl (.p (.int .i64 (bt l q2).s))) ?_
     refine Kq (aa.add rfl rfl rfl (aH ?_)) ?_
     ·omega
     refine ay.nil ?_
     iterate 2 refine af ?_
     exact⟨_,rfl,by rw[fk BD,FG];exact To.sub Sub.nil⟩
    ·intro h hJ
     subst hJ
     rw[hO,ZQ]
     iterate 2 refine af ?_
     refine Kc (Kl (.p (.int .u32 ((we (((aM (jg l bad good) 32).take k).map (iQ l)):Nat):Int)))) ?_
     refine af ?_
     refine Kc (aa.aU rfl an (by decide) rfl rfl rfl) ?_
     refine Kc (Kp (nG [we (((aM (jg l bad good) 32).take k).map (iQ l)),iQ l q] (by intro x hx;simp only[Zt,KZ,or_false] at hx;rcases hx with rfl | rfl;{exact aak};{omega}) (by unfold cJ;show 2<=_;omega))) ?_
     rw[Y7,<- KH,<- eO]
     iterate 5 refine af ?_
     refine Kc (Kl (.p (.bool (decide (k=0))))) ?_
     refine af ?_
     refine Ki (fun mc=> ?_) fun mc=> ?_
     ·obtain rfl:0=k:=by have h:=Zf mc;omega
      have e2:Dn ((((aM (jg l bad good) 32).take 0)++[q]).map (ir l))=(min (ir l q) (ir l q),max (ir l q) (ir l q)):=by show(ir l q,ir l q)=_;rw[Int.min_self,Int.max_self]
      have e3:decide (0+1=0)=false:=rfl
      refine af ?_
      refine Kc (Kl (.p (.int .i64 (ir l q)))) ?_
      refine Kc (Kl (.p (.int .i64 (ir l q)))) ?_
      iterate 7 refine af ?_
      refine Kc (Kl (.p (.int .i64 (ir l q)))) ?_
      refine Kc (aa.min2 rfl rfl rfl) ?_
      iterate 2 refine af ?_
      refine Kc (Kl (.p (.int .i64 (ir l q)))) ?_
      refine Kc (aa.max2 rfl rfl rfl) ?_
      iterate 3 refine af ?_
      refine⟨_,rfl,To.done [0,1,2,3,4,5] rfl Sub.nil ?_⟩
      rw[fk hq,e2,e3]
      rfl
     ·have hk0:¬ k=0:=Zh mc
      have e2:Dn ((((aM (jg l bad good) 32).take k)++[q]).map (ir l))=(min (Dn (((aM (jg l bad good) 32).take k).map (ir l))).1 (ir l q),max (Dn (((aM (jg l bad good) 32).take k).map (ir l))).2 (ir l q)):=by rw[ZH];exact I7 _ _ (by intro h;have h2:=congrArg List.length h;have h3:=(Za.1 hq).1;rw[Zq,ZW,Gu] at h2;omega)
      have e3:decide (k+1=0)=decide (k=0):=by rw[decide_eq_false hk0,decide_eq_false (by omega)]
      iterate 4 refine af ?_
      refine Kc (Kl (.p (.int .i64 (ir l q)))) ?_
      refine Kc (aa.min2 rfl rfl rfl) ?_
      iterate 2 refine af ?_
      refine Kc (Kl (.p (.int .i64 (ir l q)))) ?_
      refine Kc (aa.max2 rfl rfl rfl) ?_
      iterate 3 refine af ?_
      refine⟨_,rfl,To.done [0,1,2,3,4,5] rfl Sub.nil ?_⟩
      rw[fk hq,e2,e3]
      rfl
    ·exact o4
   ·intro h hJ
    subst hJ
    rw[hO,ZQ]
    refine af ?_
    refine aB.az 4 mixed (by kernel_rfl) (by decide) ?_
    refine Kq (Kl (.p (.int .u32 ((xk l (jg l bad good):Nat):Int)))) ?_
    refine Kq (aa.di rfl rfl (by rw[rY];rfl) yj (aH ?_)) ?_
    ·have:=za mC hcl;omega
    refine Kq (Kl (.p (.agg [.int .i64 (vf l (jg l bad good)).1,.int .i64 (vf l (jg l bad good)).2]))) ?_
    refine af ?_
    refine ay.nil ?_
    iterate 4 refine af ?_
    refine Fin.dW (xs:=[.int .i64 ((xk l (jg l bad good):Nat):Int),.agg [.int .i64 (vf l (jg l bad good)).1,.int .i64 (vf l (jg l bad good)).2],.int .i64 0]) rfl (⟨_,_,rfl,rfl,⟨_,_,rfl,⟨_,_,_,rfl,an,rfl⟩,⟨_,_,rfl,rfl,rfl⟩⟩⟩) rfl ?_
    unfold lf fF;rw[hE,if_pos rfl,if_pos rfl]
   ·exact o4
end Go.Proofs.YtchiinjiflgepaaGreatDoor.Rx
end
