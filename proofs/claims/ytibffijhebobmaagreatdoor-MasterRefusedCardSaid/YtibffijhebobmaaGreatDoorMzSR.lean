/-
 Plain data of chapter 11: cards; sets by bits; the lowest bit of a set. No program in sight.
 Plain data of chapter 11: what a batch comes from, and what comes from it; a walk that marks what it met. No program in sight.
 Plain data of chapter 11: which batches can be to blame, what is called back, and what batches have in common. No program in sight.
 From what the statements' arguments of chapter 11 may hold to plain data; what the statements about ways ask. No program in sight.
 What the statements of chapter 11 about blame ask: the true one can be to blame, and what comes from it is called back. No program in sight.
 What the statement about no other batch of chapter 11 asks. No program in sight.
 What the document's own functions of chapter 11 compute, step by step. No program in sight.
 Small functions; sets by bits; what is valid.
 Ways, and all that they lead to.
 All that a way leads to.
 Ways from a batch; which batches can be to blame.
 What is called back.
 The document's own functions: sets, and what each batch comes from.
 The document's own functions: blame, and what batches have in common.
 The document's own function: what is called back.
-/
import Derived.Test.YtibffijhebobmaaGreatDoorPmS
import Derived.Test.YtibffijhebobmaaGreatDoorFaSD
import Derived.Test.YtibffijhebobmaaGreatDoorMzSF
import Derived.Test.YtibffijhebobmaaGreatDoorMzSZ
theorem DW{A:Prop}(h:A:=by
 refine Kc (aa.add rfl rfl rfl (aI ?_)) ?_
 ·omega
 iterate 2 refine af ?_
 refine⟨i+1,?_,?_,?_⟩
 ·omega
 ·omega
 refine To.done [0,1] rfl KS ?_
 rw[hF]
 rfl):A:=h
theorem BI{A:Prop}(h:A:=by
 intro a
 rw[UC,ih,O9,Fc]
 simp only[Zw,exists_eq_or_imp,or_assoc]):A:=h
set_option linter.unusedSimpArgs false
set_option linter.unusedVariables false
section
namespace Go.Proofs.YtibffijhebobmaaGreatDoor.Rx
open Go.AF
structure bY where
 f:Int
 s:Int
deriving DecidableEq
def bY.cells(b:bY):List PV:=[.int .i64 b.f,.int .i64 b.s]
def fF(l:List bY):PV:= .is (l.flatMap bY.cells) l.length
def bt(l:List bY)(i:Nat):bY:=l.getD i ⟨0,0⟩
theorem wv{l:List bY}:∀ k (h:k<l.length),l[k]=bt l k:=fun k h=>by
 unfold bt
 exact wW
def cN:Nat:=9223372036854775807
def jg(n lo hi:Int):Bool:=decide (lo<=n)&&decide (n<=hi)
def i1(n:Int):List PV:=[.int .i64 n]
def u1(n:Nat):List PV:=[.int .u32 (n:Int)]
theorem MV:∀ n:Nat,n≠0->∃ k m,n=2^k*(2*m+1):=by
 intro n
 induction n using Nat.strongRecOn with
 | ind n ih=>
  intro h
  rcases Nat.mod_two_eq_zero_or_one n with h1 | h1
  ·obtain⟨k,m,e⟩:=ih (n / 2) (by omega) (by omega)
   refine⟨k+1,m,?_⟩
   have:n=2*(n / 2):=by omega
   rw[Wc,Nat.mul_comm (2^k) 2,Nat.mul_assoc,<- e]
   exact this
  ·exact⟨0,n / 2,by omega⟩
theorem Ph(m j:Nat):(2*m+1).testBit j=if j=0 then true else m.testBit (j - 1):=by
 cases j with
 | zero=>simp[Yh]
 | succ j=>rw[Nat.testBit_succ,show(2*m+1) / 2=m by omega,if_neg (by omega),Nat.add_sub_cancel]
theorem Mr(m j:Nat):(2*m).testBit j=if j=0 then false else m.testBit (j - 1):=by
 cases j with
 | zero=>simp[Yh]
 | succ j=>rw[Nat.testBit_succ,show 2*m / 2=m by omega,if_neg (by omega),Nat.add_sub_cancel]
theorem ue(k m i:Nat):(2^k*(2*m+1)).testBit i=(decide (k<=i)&&if i=k then true else m.testBit (i - k - 1)):=by
 rw[ZbE,Ph]
 by_cases h:k<=i
 ·by_cases h2:i=k
  ·subst h2;simp
  ·rw[if_neg (by omega),if_neg h2]
 ·simp[h]
theorem wE(k m i:Nat):(2^k*(2*m+1) - 1).testBit i=if i<k then true else if i=k then false else m.testBit (i - k - 1):=by
 have hp:=RM k
 have e:2^k*(2*m+1) - 1=2^k*(2*m)+(2^k - 1):=by rw[Nat.mul_add,Ks];omega
 rw[e,V5 _ (by omega)]
 split
 ·rename_i h
  rw[Nat.testBit_two_pow_sub_one];simp[h]
 ·rename_i h
  rw[Mr]
  by_cases h2:i=k
  ·rw[if_pos (by omega),if_pos h2]
  ·rw[if_neg (by omega),if_neg h2]
theorem JB(k m:Nat):2^k*(2*m+1)&&& (2^k*(2*m+1) - 1)=2^(k+1)*m:=by
 apply Kt
 intro i
 rw[MN,ue,wE,ZbE]
 by_cases h:i<k
 ·simp[show ¬ k<=i by omega,show ¬ k+1<=i by omega]
 ·by_cases h2:i=k
  ·subst h2;simp[show ¬ i+1<=i by omega]
  ·simp[h,h2,show k<=i by omega,show k+1<=i by omega,Nat.sub_sub]
theorem C7(k m:Nat)(h:2^k*(2*m+1)<2^32):2^k*(2*m+1)&&& (2^32 - 2^k*(2*m+1))=2^k:=by
 have hp:=RM k
 have h1:1<=2^k*(2*m+1):=Nat.mul_pos hp (by omega)
 have hk:k<32:=by
  rcases ZM k 32 with h2 | h2
  ·exact h2
  ·exact u7
 apply Kt
 intro i
 have e:2^32 - 2^k*(2*m+1)=2^32 - ((2^k*(2*m+1) - 1)+1):=by omega
 rw[e,MN,Nat.testBit_two_pow_sub_succ (by omega),ue,wE,LN]
 by_cases h2:i<k
 ·simp[show ¬ k<=i by omega,show ¬ k=i by omega]
 ·exact B1
theorem Up{k m:Nat}(h:2^k*(2*m+1)<2^32):k<32:=by
 rcases ZM k 32 with h2 | h2
 ·exact h2
 ·exact u7
def Ln:List Int:=[0,1,28,2,29,14,24,3,30,22,20,15,25,17,4,8,31,27,13,23,21,19,16,7,26,12,18,6,11,5,10,9]
theorem Ub:∀ k:Nat,k<32->Ln[2^k*125613361%4294967296 / 2^27]? =some (k:Int):=by decide
def qG(n p:Nat):Nat:=n / 2^p*2^p
theorem F9(n p i:Nat):(qG n p).testBit i=(decide (p<=i)&&n.testBit i):=by
 unfold qG
 rw[Nat.mul_comm,ZbE,Nat.testBit_div_two_pow]
 by_cases h:p<=i
 ·simp[h]
 ·simp[h]
def aM(n p:Nat):List Nat:=(List.range p).filter fun i=>n.testBit i
theorem pI(n p:Nat):aM n (p+1)=if n.testBit p then aM n p++[p] else aM n p:=by
 unfold aM
 rw[List.range_succ,List.filter_append]
 cases h:n.testBit p <;> simp[h]
theorem pP{n p:Nat}:∀{k:Nat},p<=k->(∀ i,p<=i->i<k->n.testBit i=false)->aM n k=aM n p:=by
 intro k
 induction k with
 | zero=>intro h _;obtain rfl:p=0:=by omega
         rfl
 | succ k ih=>
  intro h h2
  rcases ZM p (k+1) with h1 | h1
  ·rw[pI,h2 k (by omega) (by omega)]
   exact ih (by omega) fun i a b=>h2 i a (by omega)
  ·obtain rfl:p=k+1:=by omega
   rfl
theorem HJ{n p:Nat}(hn:n<2^32)(hp:p<=32)(h:qG n p≠0):∃ k,p<=k∧k<32∧qG n p&&& (2^32 - qG n p)=2^k∧qG n p&&& (qG n p - 1)=qG n (k+1)∧aM n (k+1)=aM n p++[k]:=by
 obtain⟨k,m,e⟩:=MV _ h
 have hlt:qG n p<2^32:=Nat.lt_of_le_of_lt (Nat.div_mul_le_self _ _) hn
 have hk:=Up (e▸hlt)
 have hb:∀ i,(decide (p<=i)&&n.testBit i)=(decide (k<=i)&&if i=k then true else m.testBit (i - k - 1)):=fun i=>by rw[<- F9,e,ue]
 have hpk:p<=k∧n.testBit k=true:=by
  have:=hb k
  simp at this
  exact this
 have hlow:∀ i,p<=i->i<k->n.testBit i=false:=fun i h1 h2=>by
  have:=hb i
  simp[h1,show ¬ k<=i by omega] at this
  exact this
 refine⟨k,hpk.1,hk,by rw[e];exact C7 k m (e▸hlt),?_,?_⟩
 ·rw[e,JB]
  apply Kt
  intro i
  rw[F9,ZbE]
  by_cases h1:k+1<=i
  ·have:=hb i
   simp[show p<=i by omega,show k<=i by omega,show ¬ i=k by omega] at this
   simp[h1,this,Nat.sub_sub]
  ·simp[h1]
 ·rw[pI,hpk.2,if_pos rfl,pP hpk.1 hlow]
theorem HR{n p:Nat}(hp:p<=32)(h:qG n p=0):aM n 32=aM n p:=by
 refine pP hp fun i h1 h2=> ?_
 have:=F9 n p i
 rw[h] at this
 simp[h1] at this
 exact this
theorem GV(n:Nat):qG n 0=n:=by simp[qG]
theorem SH(n p:Nat):qG n p<=n:=Nat.div_mul_le_self _ _
theorem IK(n:Nat){p q:Nat}(h:p<=q):aM n p<+:aM n q:=by
 induction q with
 | zero=>obtain rfl:p=0:=by omega
         exact ZE _
 | succ q ih=>
  rcases ZM p (q+1) with h1 | h1
  ·refine(ih (by omega)).trans ?_
   rw[pI]
   split
   ·exact V6 _ _
   ·exact ZE _
  ·obtain rfl:p=q+1:=by omega
   exact ZE _
theorem LD{n p k:Nat}(hk:k<32)(h:aM n (k+1)=aM n p++[k]):(aM n 32)[(aM n p).length]? =some k:=by
 obtain⟨t,ht⟩:=IK n (show k+1<=32 by omega)
 rw[<- ht,h,ZQ,Zj (Zf _),OX]
 rfl
theorem cg{n p i:Nat}:i∈aM n p↔i<p∧n.testBit i=true:=by
 unfold aM
 rw[List.mem_filter,ZZ]
theorem Fv{n p:Nat}:p<=32->(aM n p).length<=32:=fun h=>by
 unfold aM
 exact ZS (List.length_filter_le _ _) (by rw[Mi];exact h)
def lA(n:Nat):List (List V):=(aM n 32).map fun k=>[V.p (.int .i64 ((k:Nat):Int))]
theorem iF(n:Nat):(lA n).length=(aM n 32).length:=by simp[lA]
theorem Nx{n p k:Nat}(hk:k<32)(h:aM n (k+1)=aM n p++[k]):(lA n)[(aM n p).length]? =some [V.p (.int .i64 ((k:Nat):Int))]:=by
 unfold lA
 rw[Zs,LD hk h];rfl
theorem Hz(n:Int):IntKind.u32.wrap n=n%4294967296:=by simp[IntKind.wrap,IntKind.bits,IntKind.signed]
theorem Ug{n:Nat}(h:0<n)(h2:n<2^32):IntKind.u32.wrap (0 - (n:Int))=((2^32 - n:Nat):Int):=by
 rw[Hz]
 omega
theorem Vk(k:Nat):IntKind.u32.wrap (((2^k:Nat):Int)*125613361)=((2^k*125613361%4294967296:Nat):Int):=by
 rw[Hz]
 omega
def xN(l:List Nat):Nat:=l.foldl (· ||| ·) 0
theorem K2{l:List Nat}{k:Nat}(h:k<l.length):xN (l.take (k+1))=xN (l.take k)||| l[k]:=by
 unfold xN
 rw[ZT h,Sf];rfl
theorem EW{l:List Nat}(h:∀ x∈l,x<2^32):xN l<2^32:=by
 unfold xN
 have:∀(l:List Nat) (a:Nat),a<2^32->(∀ x∈l,x<2^32)->l.foldl (· ||| ·) a<2^32:=fun l=>by
  induction l with
  | nil=>intro a h _;exact h
  | cons x l ih=>intro a h h2;exact ih _ (NI h (h2 x (by simp))) fun y hy=>h2 y (by simp[hy])
 exact this l 0 (by decide) h
theorem or2(a b:Nat):xN [a,b]=a||| b:=by unfold xN;simp
def ut(l:List Nat)(i:Nat):Nat:=l.getD i 0
theorem Fo{l:List Nat}:∀ k (h:k<l.length),l[k]=ut l k:=fun k h=>by
 unfold ut
 exact wW
theorem Uu{l:List Nat}{i:Nat}(h:i<l.length):ut l i∈l:=by rw[<- Fo i h];exact Cg _
def pw(n:Nat):Int:=((2^n:Nat):Int)
theorem aaE{n m:Nat}(h:n<=m):1<=pw n∧pw n<=pw m:=by
 unfold pw
 have h1:=RM n
 have h2:=Zu (show 0<2 by omega) h
 omega
theorem E5{n:Nat}(h:n<=24):1<=pw n∧pw n<=16777216:=aaE h
def CD(l:List bY)(j:Nat):Prop:=j<24∧(0<=(bt l j).f∧(bt l j).f<=pw j - 1)∧0<=(bt l j).s∧(bt l j).s<=1048576
instance (l:List bY) (j:Nat):Decidable (CD l j):=by unfold CD;infer_instance
def cJ(l:List bY):Prop:=∀ j,j<l.length->CD l j
instance (l:List bY):Decidable (cJ l):=by unfold cJ;infer_instance
theorem cG{l:List bY}(h:cJ l):l.length<=24:=by
 rcases ZM 24 l.length with h1 | h1
 ·have:=(h 24 h1).1;omega
 ·exact h1
def jA(l:List bY)(sets:List Int):Int:=if cJ l then(if (sets.any fun n=> !jg n 0 (pw l.length - 1))=true then 2 else 0) else 1
def bh(l:List Int):PV:= .is (l.flatMap i1) l.length
def iL{α:Type}(p:α->Bool)(xs:List α):Int:=match xs.findIdx? p with
 | some i=>(i:Int)
 | none=> -1
theorem qT{α:Type}(p:α->Bool)(xs:List α)(i:Nat)(hi:i<xs.length)(hb:∀ j (h:j<i),p (xs[j]'(by omega))=false)(hp:p xs[i]=true):iL p xs=(i:Int):=by
 unfold iL
 have:xs.findIdx? p=some i:=by
  rw[ZaS]
  exact⟨hi,hp,fun j h=>by rw[hb j h];decide⟩
 rw[this]
theorem kN{α:Type}(p:α->Bool)(xs:List α)(hb:∀ j (h:j<xs.length),p xs[j]=false):iL p xs= -1:=by
 unfold iL
 have:xs.findIdx? p=none:=by
  rw[List.findIdx?_eq_none_iff]
  intro x hx
  obtain⟨j,hj,rfl⟩:=Pu hx
  exact hb j hj
 rw[this]
theorem lf{α:Type}(p:α->Bool)(xs:List α):decide (iL p xs>=0)=xs.any p:=by
 unfold iL
 cases h:xs.findIdx? p with
 | none=>
  rw[List.findIdx?_eq_none_iff] at h
  have:xs.any p=false:=Ru.2 fun x hx=>by rw[h x hx];decide
  rw[this];rfl
 | some i=>
  obtain⟨hi,hp,_⟩:=ZaS.1 h
  have:xs.any p=true:=List.any_eq_true.2 ⟨_,Cg hi,hp⟩
  rw[this]
  exact decide_eq_true (by show(0:Int)<=(i:Int);omega)
def pW(l:List bY)(i:Nat):Nat:=(bt l i).f.toNat
def jQ(p:Nat->Bool):Nat->Nat
 | 0=>0
 | n+1=>if p n then jQ p n+2^n else jQ p n
theorem gC(p:Nat->Bool):∀ n,jQ p n<2^n
 | 0=>Nat.lt_succ_self 0
 | n+1=>by
  have:=gC p n
  unfold jQ
  rw[Wc]
  split <;> omega
theorem AG{a n:Nat}(h:a<2^n)(i:Nat):(a+2^n).testBit i=if i<n then a.testBit i else decide (i=n):=by
 have:=V5 1 h i
 rw[Ks,Wl] at this
 rw[this]
 by_cases h1:i<n
 ·rw[if_pos h1,if_pos h1]
 ·rw[if_neg h1,if_neg h1]
  by_cases h2:i=n
  ·subst h2;simp
  ·rw[decide_eq_false h2]
   exact VH (Nat.one_lt_two_pow (by omega))
theorem iA(p:Nat->Bool):∀ n i,(jQ p n).testBit i=(decide (i<n)&&p i)
 | 0,i=>by simp[jQ]
 | n+1,i=>by
  have hlt:=gC p n
  have ih:=iA p n i
  unfold jQ
  cases hp:p n with
  | true=>
   rw[if_pos rfl,AG hlt,ih]
   by_cases h1:i<n
   ·simp[h1,show i<n+1 by omega]
   ·by_cases h2:i=n
    ·subst h2;simp[hp]
    ·simp[h1,h2,show ¬ i<n+1 by omega]
  | false=>
   rw[if_neg (by decide),ih]
   by_cases h1:i<n
   ·simp[h1,show i<n+1 by omega]
   ·by_cases h2:i=n
    ·subst h2;simp[hp]
    ·simp[h1,show ¬ i<n+1 by omega]
def y5(l:List bY)(t:List Nat)(n:Nat):Nat->Nat
 | 0=>2^n
 | k+1=>if (pW l n).testBit k then y5 l t n k||| ut t k else y5 l t n k
def oY(l:List bY):Nat->List Nat
 | 0=>[]
 | n+1=>oY l n++[y5 l (oY l n) n n]
theorem oP(l:List bY):∀ n,(oY l n).length=n
 | 0=>rfl
 | n+1=>by rw[oY,Zc,oP l n];rfl
def b6(l:List bY)(i:Nat):Nat:=ut (oY l (i+1)) i
theorem K8(l:List bY){i:Nat}:∀{n:Nat},i<n->ut (oY l n) i=b6 l i:=by
 intro n
 induction n with
 | zero=>intro h;omega
 | succ n ih=>
  intro h
  rcases ZM i n with h1 | h1
  ·rw[<- ih h1]
   unfold ut
   rw[oY,Ze,Ze,Zd (by rw[oP];exact h1)]
  ·obtain rfl:i=n:=by omega
   rfl
theorem EX(l:List bY)(i:Nat):b6 l i=y5 l (oY l i) i i:=by
 unfold b6 ut
 rw[oY,Ze,Zj (by rw[oP];exact Zf _),oP,OX]
 rfl
theorem y7(l:List bY)(i x:Nat):∀ n,n<=i->((y5 l (oY l i) i n).testBit x=true↔x=i∨∃ k,k<n∧(pW l i).testBit k=true∧(b6 l k).testBit x=true)
 | 0,_=>by
  show(2^i).testBit x=true↔_
  rw[LN,Zn]
  constructor
  ·intro h;exact .inl h.symm
  ·rintro(h | ⟨k,h,_⟩)
   ·exact h.symm
   ·omega
 | n+1,hn=>by
  have ih:=y7 l i x n (by omega)
  unfold y5
  split
  ·rename_i hb
   rw[O9,Fc,ih,K8 l (show n<i by omega)]
   constructor
   ·rintro((h | ⟨k,h1,h2⟩) | h)
    ·exact .inl h
    ·exact .inr ⟨k,by omega,h2⟩
    ·exact .inr ⟨n,by omega,hb,h⟩
   ·rintro(h | ⟨k,h1,h2,h3⟩)
    ·exact .inl (.inl h)
    ·rcases O2.1 h1 with h4 | rfl
     ·exact .inl (.inr ⟨k,h4,h2,h3⟩)
     ·exact .inr h3
  ·rename_i hb
   rw[ih]
   constructor
   ·rintro(h | ⟨k,h1,h2⟩)
    ·exact .inl h
    ·exact .inr ⟨k,by omega,h2⟩
   ·rintro(h | ⟨k,h1,h2,h3⟩)
    ·exact .inl h
    ·rcases O2.1 h1 with h4 | rfl
     ·exact .inr ⟨k,h4,h2,h3⟩
     ·exact absurd h2 hb
theorem iP(l:List bY)(i x:Nat):(b6 l i).testBit x=true↔x=i∨∃ k,k<i∧(pW l i).testBit k=true∧(b6 l k).testBit x=true:=by
 rw[EX]
 exact y7 l i x i (Zf _)
theorem su(l:List bY)(i:Nat):(b6 l i).testBit i=true:=(iP l i i).2 (.inl rfl)
theorem QA(l:List bY):∀{i x:Nat},(b6 l i).testBit x=true->x<=i:=by
 intro i
 induction i using Nat.strongRecOn with
 | ind i ih=>
  intro x h
  rcases(iP l i x).1 h with rfl | ⟨k,h1,_,h3⟩
  ·exact Zf _
  ·have:=ih k h1 h3;omega
theorem FP(l:List bY):∀{i j x:Nat},(b6 l i).testBit j=true->(b6 l j).testBit x=true->(b6 l i).testBit x=true:=by
 intro i
 induction i using Nat.strongRecOn with
 | ind i ih=>
  intro j x h1 h2
  rcases(iP l i j).1 h1 with rfl | ⟨k,h3,h4,h5⟩
  ·exact h2
  ·exact(iP l i x).2 (.inr ⟨k,h3,h4,ih k h3 h5 h2⟩)
theorem Hl(l:List bY)(i:Nat):b6 l i<2^(i+1):=by
 apply Nat.lt_pow_two_of_testBit
 intro x hx
 cases h:(b6 l i).testBit x with
 | false=>rfl
 | true=>have:=QA l h;omega
theorem vW{l:List bY}(h:cJ l){i k:Nat}(hi:i<l.length)(hk:(pW l i).testBit k=true):k<i:=by
 have h1:=(h i hi).2.1
 rcases ZM k i with h2 | h2
 ·exact h2
 ·exfalso
  have h3:pW l i<2^i:=by unfold pW;unfold pw at h1;omega
  rw[VH (ZJ h3 (Zu (by omega) h2))] at hk
  cases hk
def mu(l:List bY)(b:Nat):Nat:=jQ (fun i=>(b6 l i).testBit b) l.length
theorem lE(l:List bY)(b i:Nat):(mu l b).testBit i=(decide (i<l.length)&&(b6 l i).testBit b):=iA _ _ _
def ym(l:List bY)(b:Nat):Nat:=jQ (fun i=>(pW l i).testBit b) l.length
theorem ql(l:List bY)(b i:Nat):(ym l b).testBit i=(decide (i<l.length)&&(pW l i).testBit b):=iA _ _ _
structure Way (N:Nat) (nx R rk:Nat->Nat):Prop where
 lt:∀ b,b<N->nx b<2^N
 Xw:∀ b,b<N->R b<2^N
 iff:∀ b,b<N->∀ x,(R b).testBit x=true↔x=b∨∃ k,(nx b).testBit k=true∧(R k).testBit x=true
 rk:∀ b,b<N->∀ k,(nx b).testBit k=true->rk k<rk b
 Vf:∀ b,b<N->∀ k,(nx b).testBit k=true->k<N
theorem Way.self{N:Nat}{nx R rk:Nat->Nat}(w:Way N nx R rk){b:Nat}(h:b<N):(R b).testBit b=true:=(w.iff b h b).2 (.inl rfl)
theorem Way.Xo{N:Nat}{nx R rk:Nat->Nat}(w:Way N nx R rk):∀(m b:Nat),b<N->rk b<=m->∀ x,(R b).testBit x=true->x<N∧(x=b∨rk x<rk b)
 | m,b,hb,hm,x,hx=>by
  rcases(w.iff b hb x).1 hx with rfl | ⟨k,h1,h2⟩
  ·exact⟨hb,.inl rfl⟩
  ·have h3:=w.rk b hb k h1
   have h4:=w.Vf b hb k h1
   match m,hm with
   | 0,hm=>omega
   | m+1,hm=>
    have:=w.Xo m k h4 (by omega) x h2
    refine⟨this.1,.inr ?_⟩
    rcases this.2 with rfl | h5 <;> omega
theorem Way.trans{N:Nat}{nx R rk:Nat->Nat}(w:Way N nx R rk):∀(m b:Nat),b<N->rk b<=m->∀ x y,(R b).testBit x=true->(R x).testBit y=true->(R b).testBit y=true
 | m,b,hb,hm,x,y,h1,h2=>by
  rcases(w.iff b hb x).1 h1 with rfl | ⟨k,h3,h4⟩
  ·exact h2
  ·have h5:=w.rk b hb k h3
   match m,hm with
   | 0,hm=>omega
   | m+1,hm=>exact(w.iff b hb y).2 (.inr ⟨k,h3,w.trans m k (w.Vf b hb k h3) (by omega) x y h4 h2⟩)
def Gv(R:Nat->Nat)(b M:Nat):Prop:=∀ x,M.testBit x=true->(R b).testBit x=true->∀ y,(R x).testBit y=true->M.testBit y=true
def pY(R:Nat->Nat)(M b:Nat):List Nat->Nat
 | ks=>ks.foldl (fun a k=>a||| R k) (M||| 2^b)
theorem v7(R:Nat->Nat)(M b x:Nat)(ks:List Nat):(pY R M b ks).testBit x=true↔M.testBit x=true∨x=b∨∃ k∈ks,(R k).testBit x=true:=by
 have:∀(ks:List Nat) (a:Nat),(ks.foldl (fun a k=>a||| R k) a).testBit x=true↔a.testBit x=true∨∃ k∈ks,(R k).testBit x=true:=fun ks=>by
  induction ks with
  | nil=>intro a;simp
  | cons k ks ih=>
   exact BI
 unfold pY
 rw[this,O9,Fc,LN,Zn,or_assoc,eq_comm (a:=b)]
theorem Iw(R:Nat->Nat)(M b:Nat)(ks:List Nat)(k:Nat):pY R M b (ks++[k])=pY R M b ks||| R k:=by
 unfold pY
 rw[Sf];rfl
theorem Lg{N:Nat}{nx R rk:Nat->Nat}(w:Way N nx R rk){b M:Nat}(hb:b<N)(h:Gv R b M){ks:List Nat}(hk:∀ k∈ks,(nx b).testBit k=true){k:Nat}(hkb:(nx b).testBit k=true):Gv R k (pY R M b ks):=by
 intro x hx hxk y hy
 rw[v7] at hx ⊢
 have hxb:(R b).testBit x=true:=(w.iff b hb x).2 (.inr ⟨k,hkb,hxk⟩)
 rcases hx with h1 | rfl | ⟨k2,h2,h3⟩
 ·exact .inl (h x h1 hxb y hy)
 ·exfalso
  have h4:=w.rk x hb k hkb
  have h5:=(w.Xo (rk k) k (w.Vf x hb k hkb) (Zf _) x hxk).2
  rcases h5 with rfl | h5
  ·omega
  ·omega
 ·exact .inr (.inr ⟨k2,h2,w.trans (rk k2) k2 (w.Vf b hb k2 (hk k2 h2)) (Zf _) x y h3 hy⟩)
theorem PD{N:Nat}{nx R rk:Nat->Nat}(w:Way N nx R rk){b M:Nat}(hb:b<N):pY R M b (aM (nx b) 32)=M||| R b∨32<N:=by
 rcases ZM 32 N with hN | hN
 ·exact .inr hN
 left
 apply Kt
 intro x
 have key:(pY R M b (aM (nx b) 32)).testBit x=true↔(M||| R b).testBit x=true:=by
  rw[v7,O9,Fc,w.iff b hb x]
  constructor
  ·rintro(h | h | ⟨k,h1,h2⟩)
   ·exact .inl h
   ·exact .inr (.inl h)
   ·exact .inr (.inr ⟨k,(cg.1 h1).2,h2⟩)
  ·rintro(h | h | ⟨k,h1,h2⟩)
   ·exact .inl h
   ·exact .inr (.inl h)
   ·exact .inr (.inr ⟨k,cg.2 ⟨by have:=w.Vf b hb k h1;omega,h1⟩,h2⟩)
 cases h1:(pY R M b (aM (nx b) 32)).testBit x with
 | true=>exact(key.1 h1).symm
 | false=>
  cases h2:(M||| R b).testBit x with
  | false=>rfl
  | true=>rw[key.2 h2] at h1;cases h1
theorem RY{N:Nat}{nx R rk:Nat->Nat}(w:Way N nx R rk){b M:Nat}(hb:b<N)(h:Gv R b M)(hm:M.testBit b=true):M||| R b=M:=by
 apply Kt
 intro x
 rw[O9]
 cases h1:(R b).testBit x with
 | false=>rw[Bool.or_false]
 | true=>rw[h b hm (w.self hb) x h1];rfl
theorem nG{l:List bY}(h:cJ l):Way l.length (pW l) (b6 l) (fun b=>b):=by
 have nK:=cG h
 refine⟨fun b hb=> ?_,fun b hb=> ?_,fun b hb x=> ?_,fun b hb k hk=>vW h hb hk,fun b hb k hk=>by have:=vW h hb hk;omega⟩
 ·have h1:=(h b hb).2.1
  have h2:=Zu (show 0<2 by omega) (show b<=l.length by omega)
  unfold pW
  unfold pw at h1
  omega
 ·exact ZJ (Hl l b) (Zu (by omega) hb)
 ·rw[iP]
  constructor
  ·rintro(h1 | ⟨k,_,h2⟩)
   ·exact .inl h1
   ·exact .inr ⟨k,h2⟩
  ·rintro(h1 | ⟨k,h2,h3⟩)
   ·exact .inl h1
   ·exact .inr ⟨k,vW h hb h2,h2,h3⟩
theorem Jh{l:List bY}(h:cJ l){b:Nat}(hb:b<l.length)(x:Nat):(mu l b).testBit x=true↔x=b∨∃ k,(ym l b).testBit k=true∧(mu l k).testBit x=true:=by
 rw[lE,Zm,Zn]
 constructor
 ·rintro⟨hx,h1⟩
  -- go back from x until the last step before b
  have key:∀ x,x<l.length->(b6 l x).testBit b=true->x=b∨∃ k,(ym l b).testBit k=true∧(b6 l x).testBit k=true:=by
   intro x
   induction x using Nat.strongRecOn with
   | ind x ih=>
    intro hx h1
    rcases(iP l x b).1 h1 with rfl | ⟨k,h2,h3,h4⟩
    ·exact .inl rfl
    ·rcases ih k h2 (by omega) h4 with rfl | ⟨m,h5,h6⟩
     ·refine .inr ⟨x,?_,su l x⟩
      rw[ql,h3];simp[hx]
     ·exact .inr ⟨m,h5,(iP l x m).2 (.inr ⟨k,h2,h3,h6⟩)⟩
  rcases key x hx h1 with h2 | ⟨k,h2,h3⟩
  ·exact .inl h2
  ·refine .inr ⟨k,h2,?_⟩
   rw[lE,h3];simp[hx]
 ·rintro(rfl | ⟨k,h1,h2⟩)
  ·exact⟨hb,su l x⟩
  ·rw[lE,Zm,Zn] at h2
   rw[ql,Zm,Zn] at h1
   have h3:(b6 l k).testBit b=true:=(iP l k b).2 (.inr ⟨b,vW h h1.1 h1.2,h1.2,su l b⟩)
   exact⟨h2.1,FP l h2.2 h3⟩
theorem sE{l:List bY}(h:cJ l):Way l.length (ym l) (mu l) (fun b=>l.length - b):=by
 refine⟨fun b _=>gC _ _,fun b _=>gC _ _,fun b hb x=>Jh h hb x,fun b hb k hk=> ?_,fun b hb k hk=> ?_⟩
 ·rw[ql,Zm,Zn] at hk
  have:=vW h hk.1 hk.2
  show l.length - k<l.length - b
  omega
 ·rw[ql,Zm,Zn] at hk
  exact hk.1
def rU(i:Nat)(ms:List (Int×Nat))(ks:List Nat):List (Int×Nat):=ks.foldl (fun ms k=>aV ((k:Nat):Int) (((cD ((k:Nat):Int) ms).getD 0)||| 2^i) ms) ms
theorem IN(i:Nat)(ms:List (Int×Nat))(ks:List Nat)(k:Nat):rU i ms (ks++[k])=aV ((k:Nat):Int) (((cD ((k:Nat):Int) (rU i ms ks)).getD 0)||| 2^i) (rU i ms ks):=by
 unfold rU
 rw[Sf];rfl
theorem wS(i k:Nat):∀(ks:List Nat) (ms:List (Int×Nat)),ks.Nodup->(cD ((k:Nat):Int) (rU i ms ks)).getD 0=if k∈ks then(cD ((k:Nat):Int) ms).getD 0||| 2^i else(cD ((k:Nat):Int) ms).getD 0
 | [],ms,_=>by simp[rU]
 | q::ks,ms,hn=>by
  rw[ZB] at hn
  have ih:=wS i k ks (aV ((q:Nat):Int) (((cD ((q:Nat):Int) ms).getD 0)||| 2^i) ms) hn.2
  rw[lg] at ih
  have e:rU i ms (q::ks)=rU i (aV ((q:Nat):Int) (((cD ((q:Nat):Int) ms).getD 0)||| 2^i) ms) ks:=rfl
  rw[e,ih]
  by_cases h:k=q
  ·subst h
   rw[if_neg hn.1,if_pos rfl,if_pos (by simp)]
   rfl
  ·have h2:¬ ((k:Nat):Int)=((q:Nat):Int):=by omega
   simp[h,h2]
theorem uN(n p:Nat):(aM n p).Nodup:=by
 unfold aM
 exact List.Pairwise.filter _ List.nodup_range
def vw(l:List bY):Nat->List (Int×Nat)
 | 0=>[]
 | i+1=>rU i (vw l i) (aM (pW l i) 32)
theorem vM{l:List bY}(h:cJ l)(k:Nat):∀ n,n<=l.length->(cD ((k:Nat):Int) (vw l n)).getD 0=jQ (fun i=>(pW l i).testBit k) n
 | 0,_=>rfl
 | n+1,hn=>by
  have nK:=cG h
  have ih:=vM h k n (by omega)
  rw[vw,wS _ _ _ _ (uN _ _),ih,jQ]
  by_cases hb:(pW l n).testBit k=true
  ·have hk:=vW h (show n<l.length by omega) hb
   rw[if_pos (cg.2 ⟨by omega,hb⟩),if_pos hb]
   apply Kt
   intro x
   have hlt:=gC (fun i=>(pW l i).testBit k) n
   rw[AG hlt,O9,LN]
   by_cases h1:x<n
   ·simp[h1,show ¬ n=x by omega]
   ·rw[if_neg h1,iA]
    simp[h1,eq_comm]
  ·rw[if_neg (fun h2=>hb (cg.1 h2).2),if_neg hb]
theorem jr{n k:Nat}{x:List V}(h:(lA n)[k]? =some x):∃ q,(aM n 32)[k]? =some q∧x=[V.p (.int .i64 ((q:Nat):Int))]:=by
 unfold lA at h
 rw[Zs,Zi] at h
 obtain⟨q,h1,h2⟩:=h
 exact⟨q,h1,h2.symm⟩
theorem gP{α:Type}{l:List α}{k:Nat}{q:α}(h:l[k]? =some q):l.take (k+1)=l.take k++[q]:=by
 obtain⟨h1,h2⟩:=Za.1 h
 rw[ZT h1,h2]
theorem RH{l:List bY}(h:cJ l){i:Nat}(hi:i<l.length)(q k:Nat):(cD ((q:Nat):Int) (rU i (vw l i) ((aM (pW l i) 32).take k))).getD 0<2^32:=by
 have nK:=cG h
 rw[wS _ _ _ _ ((List.take_sublist _ _).nodup (uN _ _)),vM h q i (by omega)]
 have h1:=gC (fun i=>(pW l i).testBit q) i
 have h2:=Zu (show 0<2 by omega) (show i<=31 by omega)
 have h3:jQ (fun i=>(pW l i).testBit q) i<2^32:=by omega
 split
 ·exact NI h3 (by omega)
 ·exact h3
def Ap(n:Nat):PV:= .int .u32 (n:Int)
def IY(l:List bY):PV:=lW (PV.int .i64) Ap (vw l l.length)
def uY(M:Nat):List Bool:=(List.range 24).map fun i=>M.testBit i
def b1(b:Bool):List PV:=[.bool b]
theorem vm{M i:Nat}(h:i<(uY M).length):(uY M)[i]=M.testBit i:=by simp[uY]
theorem vK(M:Nat):(uY M).length=24:=by simp[uY]
theorem Lc{M b:Nat}(h:b<24):(uY M).set b true=uY (M||| 2^b):=by
 apply List.ext_getElem
 ·simp[uY]
 ·intro i h1 h2
  rw[vK] at h2
  rw[List.getElem_set,vm,vm,O9,LN]
  by_cases h3:b=i
  ·subst h3;simp
  ·rw[if_neg h3]
   simp[h3]
theorem Ae{a b:Nat}(h:∀ i,a.testBit i=true↔b.testBit i=true):a=b:=by
 apply Kt
 intro i
 have:=h i
 cases h1:a.testBit i <;> cases h2:b.testBit i <;> simp_all
theorem FQ{a n:Nat}(h:∀ i,a.testBit i=true->i<n):a<2^n:=by
 apply Nat.lt_pow_two_of_testBit
 intro i hi
 cases h1:a.testBit i with
 | false=>rfl
 | true=>have:=h i h1;omega
theorem fB{a n i:Nat}(h:a<2^n)(hi:a.testBit i=true):i<n:=by
 rcases ZM i n with h1 | h1
 ·exact h1
 ·rw[VH (ZJ h (Zu (by omega) h1))] at hi
  cases hi
theorem LJ{a:Nat}:a=0↔∀ i,a.testBit i=false:=by
 constructor
 ·rintro rfl i;exact Nat.zero_testBit i
 ·intro h;exact Ae fun i=>by rw[h i,Nat.zero_testBit]
theorem Ky(n i:Nat):(2^n - 1).testBit i=decide (i<n):=Nat.testBit_two_pow_sub_one n i
def HK(l:List bY)(bad good i:Nat):Bool:=(List.range l.length).all fun k=>(!bad.testBit k||(b6 l k).testBit i)&&(!good.testBit k|| !(b6 l k).testBit i)
def gv(l:List bY)(bad good:Nat):Nat:=jQ (HK l bad good) l.length
theorem Jv(l:List bY)(bad good i:Nat):HK l bad good i=true↔(∀ k,k<l.length->bad.testBit k=true->(b6 l k).testBit i=true)∧∀ k,k<l.length->good.testBit k=true->(b6 l k).testBit i=false:=by
 unfold HK
 simp only[Zz,ZZ,Zm,Fc,Ku]
 constructor
 ·intro h
  refine⟨fun k hk hb=> ?_,fun k hk hg=> ?_⟩
  ·rcases(h k hk).1 with h1 | h1
   ·rw[hb] at h1;cases h1
   ·exact h1
  ·rcases(h k hk).2 with h1 | h1
   ·rw[hg] at h1;cases h1
   ·exact h1
 ·rintro⟨h1,h2⟩ k hk
  refine⟨?_,?_⟩
  ·cases hb:bad.testBit k with
   | false=>exact .inl rfl
   | true=>exact .inr (h1 k hk hb)
  ·cases hg:good.testBit k with
   | false=>exact .inl rfl
   | true=>exact .inr (h2 k hk hg)
theorem Jp(l:List bY)(bad good i:Nat):(gv l bad good).testBit i=(decide (i<l.length)&&HK l bad good i):=iA _ _ _
theorem BC(l:List bY)(bad good:Nat):gv l bad good<2^l.length:=gC _ _
theorem Jc(l:List bY)(bad good i:Nat):(gv l bad good).testBit i=true↔i<l.length∧(∀ k,k<l.length->bad.testBit k=true->(b6 l k).testBit i=true)∧∀ k,k<l.length->good.testBit k=true->(b6 l k).testBit i=false:=by
 rw[Jp,Zm,Zn,Jv]
def Gf(l:List bY)(a:Nat)(ks:List Nat):Nat:=ks.foldl (fun a k=>a&&& b6 l k) a
def JR(l:List bY)(a:Nat)(ks:List Nat):Nat:=ks.foldl (fun a k=>a^^^(a&&& b6 l k)) a
theorem On(l:List bY)(a:Nat)(ks:List Nat)(k:Nat):Gf l a (ks++[k])=Gf l a ks&&& b6 l k:=by unfold Gf;rw[Sf];rfl
theorem N2(l:List bY)(a:Nat)(ks:List Nat)(k:Nat):JR l a (ks++[k])=JR l a ks^^^(JR l a ks&&& b6 l k):=by unfold JR;rw[Sf];rfl
theorem zn(l:List bY)(i:Nat):∀(ks:List Nat) (a:Nat),(Gf l a ks).testBit i=true↔a.testBit i=true∧∀ k∈ks,(b6 l k).testBit i=true
 | [],a=>by simp[Gf]
 | k::ks,a=>by
  have e:Gf l a (k::ks)=Gf l (a&&& b6 l k) ks:=rfl
  rw[e,zn l i ks,MN,Zm]
  simp only[Zw,forall_eq_or_imp,and_assoc]
theorem NW(a b i:Nat):(a^^^(a&&& b)).testBit i=true↔a.testBit i=true∧b.testBit i=false:=by
 rw[Nat.testBit_xor,MN]
 cases a.testBit i <;> cases b.testBit i <;> simp
theorem Al(l:List bY)(i:Nat):∀(ks:List Nat) (a:Nat),(JR l a ks).testBit i=true↔a.testBit i=true∧∀ k∈ks,(b6 l k).testBit i=false
 | [],a=>by simp[JR]
 | k::ks,a=>by
  have e:JR l a (k::ks)=JR l (a^^^(a&&& b6 l k)) ks:=rfl
  rw[e,Al l i ks,NW]
  simp only[Zw,forall_eq_or_imp,and_assoc]
theorem MH(l:List bY){n a:Nat}(h:a<2^n)(ks:List Nat):Gf l a ks<2^n:=FQ fun i hi=>fB h ((zn l i ks a).1 hi).1
theorem UM(l:List bY){n a:Nat}(h:a<2^n)(ks:List Nat):JR l a ks<2^n:=FQ fun i hi=>fB h ((Al l i ks a).1 hi).1
theorem L0{l:List bY}(nK:l.length<=24){bad good:Nat}(hb:bad<2^l.length)(hg:good<2^l.length):JR l (Gf l (2^l.length - 1) (aM bad 32)) (aM good 32)=gv l bad good:=by
 apply Ae
 intro i
 rw[Al,zn,Ky,Zn,Jc]
 constructor
 ·rintro⟨⟨h1,h2⟩,h3⟩
  exact⟨h1,fun k hk hb=>h2 k (cg.2 ⟨by omega,hb⟩),fun k hk hg=>h3 k (cg.2 ⟨by omega,hg⟩)⟩
 ·rintro⟨h1,h2,h3⟩
  exact⟨⟨h1,fun k hk=>h2 k (fB hb (cg.1 hk).2) (cg.1 hk).2⟩,fun k hk=>h3 k (fB hg (cg.1 hk).2) (cg.1 hk).2⟩
def ji(l:List bY)(bad good:Int):Int:=if jA l [bad,good]≠0 then jA l [bad,good] else if bad=0 then 4 else if gv l bad.toNat good.toNat=0 then 6 else 0
def lG(l:List bY)(bad good:Int):Nat:=if ji l bad good=0 then gv l bad.toNat good.toNat else 0
def jC(l:List bY)(n:Nat):Nat:=jQ (fun k=>decide ((bt l k).s>0)) n
def tO(l:List bY):Nat:=jC l l.length
def jc(l:List bY)(i:Nat):Nat:=mu l i&&& tO l
def qO(l:List bY)(ks:List Nat):Int:=(ks.map fun k=>(bt l k).s).sum
theorem JW(l:List bY)(ks:List Nat)(k:Nat):qO l (ks++[k])=qO l ks+(bt l k).s:=by
 unfold qO;rw[ZC,List.sum_append];simp
def iS(l:List bY)(i:Nat):Int:=qO l (aM (jc l i) 32)
theorem E0(l:List bY)(i:Nat):jc l i<2^l.length:=Nat.lt_of_le_of_lt Nat.and_le_right (gC _ _)
theorem HS(l:List bY)(n:Nat):jC l n<2^n:=gC _ _
theorem Qn(l:List bY)(i k:Nat):(jc l i).testBit k=true↔k<l.length∧(b6 l k).testBit i=true∧(bt l k).s>0:=by
 unfold jc tO jC
 rw[MN,lE,iA]
 simp only[Zm,Zn]
 constructor
 ·rintro⟨⟨h1,h2⟩,_,h3⟩;exact⟨h1,h2,h3⟩
 ·rintro⟨h1,h2,h3⟩;exact⟨⟨h1,h2⟩,h1,h3⟩
theorem Ds(l:List bY)(n:Nat):jC l (n+1)=if (bt l n).s>0 then jC l n||| 2^n else jC l n:=by
 have hlt:=gC (fun k=>decide ((bt l k).s>0)) n
 unfold jC
 rw[jQ]
 by_cases h:(bt l n).s>0
 ·rw[if_pos h,if_pos (decide_eq_true h)]
  apply Ae
  intro i
  rw[AG hlt,O9,LN,iA]
  by_cases h1:i<n
  ·simp[h1,show ¬ n=i by omega]
  ·simp[h1,eq_comm]
 ·rw[if_neg h,if_neg (by simpa using h)]
theorem OK{l:List bY}(h:cJ l):∀(ks:List Nat),(∀ k∈ks,k<l.length)->0<=qO l ks∧qO l ks<=ks.length*1048576
 | [],_=>by simp[qO]
 | k::ks,hk=>by
  have ih:=OK h ks fun q hq=>hk q (by simp[hq])
  have h1:=(h k (hk k (by simp))).2.2
  have e:qO l (k::ks)=(bt l k).s+qO l ks:=by unfold qO;simp
  rw[e,Zo]
  push_cast
  omega
theorem Ov{l:List bY}{i q:Nat}(h:q∈aM (jc l i) 32):q<l.length:=((Qn l i q).1 (cg.1 h).2).1
theorem So{l:List bY}(h:cJ l)(i k:Nat):0<=qO l ((aM (jc l i) 32).take k)∧qO l ((aM (jc l i) 32).take k)<=33554432:=by
 have h1:=OK h ((aM (jc l i) 32).take k) fun q hq=>Ov (WB hq)
 have h2:((aM (jc l i) 32).take k).length<=32:=ZS (List.length_take_le' _ _) (Fv (Zf _))
 omega
theorem Ob{l:List bY}(h:cJ l)(i:Nat):0<=iS l i∧iS l i<=33554432:=by
 have:=So h i (aM (jc l i) 32).length
 rw[ZV] at this
 exact this
def GZ:List Int->Int×Int
 | []=>(0,0)
 | n::ns=>ns.foldl (fun p n=>(min p.1 n,max p.2 n)) (n,n)
theorem Ll(ns:List Int)(n:Int)(h:ns≠[]):GZ (ns++[n])=(min (GZ ns).1 n,max (GZ ns).2 n):=by
 cases ns with
 | nil=>exact absurd rfl h
 | cons m ns=>show(ns++[n]).foldl _ _=_;rw[Sf];rfl
theorem Rv:∀(ns:List Int),ns≠[]->(∀ n∈ns,(GZ ns).1<=n∧n<=(GZ ns).2)∧(GZ ns).1∈ns∧(GZ ns).2∈ns:=by
 intro ns
 cases ns with
 | nil=>intro h;exact absurd rfl h
 | cons m ns=>
  intro _
  show(∀ n∈m::ns,(ns.foldl (fun p n=>(min p.1 n,max p.2 n)) (m,m)).1<=n∧n<=(ns.foldl (fun p n=>(min p.1 n,max p.2 n)) (m,m)).2)∧_∧_
  have key:∀(ns:List Int) (p:Int×Int),((ns.foldl (fun p n=>(min p.1 n,max p.2 n)) p).1<=p.1∧p.2<=(ns.foldl (fun p n=>(min p.1 n,max p.2 n)) p).2)∧(∀ n∈ns,(ns.foldl (fun p n=>(min p.1 n,max p.2 n)) p).1<=n∧n<=(ns.foldl (fun p n=>(min p.1 n,max p.2 n)) p).2)∧((ns.foldl (fun p n=>(min p.1 n,max p.2 n)) p).1=p.1∨(ns.foldl (fun p n=>(min p.1 n,max p.2 n)) p).1∈ns)∧((ns.foldl (fun p n=>(min p.1 n,max p.2 n)) p).2=p.2∨(ns.foldl (fun p n=>(min p.1 n,max p.2 n)) p).2∈ns):=by
   intro ns
   induction ns with
   | nil=>intro p;simp
   | cons a ns ih=>
    intro p
    obtain⟨h1,h2,h3,h4⟩:=ih (min p.1 a,max p.2 a)
    simp only[UC,Zw]
    refine⟨⟨by omega,by omega⟩,fun n hn=> ?_,?_,?_⟩
    ·rcases hn with rfl | hn
     ·omega
     ·exact h2 n hn
    ·rcases h3 with h3 | h3
     ·rw[h3];show min p.1 a=_∨_;omega
     ·exact .inr (.inr h3)
    ·rcases h4 with h4 | h4
     ·rw[h4];show max p.2 a=_∨_;omega
     ·exact .inr (.inr h4)
  obtain⟨h1,h2,h3,h4⟩:=key ns (m,m)
  refine⟨fun n hn=> ?_,?_,?_⟩
  ·rcases Zw.1 hn with rfl | hn
   ·exact h1
   ·exact h2 n hn
  ·show(ns.foldl (fun p n=>(min p.1 n,max p.2 n)) (m,m)).1∈_
   rcases h3 with h3 | h3
   ·rw[h3];simp
   ·exact Zl _ h3
  ·show(ns.foldl (fun p n=>(min p.1 n,max p.2 n)) (m,m)).2∈_
   rcases h4 with h4 | h4
   ·rw[h4];simp
   ·exact Zl _ h4
def yD(l:List bY)(can:Nat):Nat:=xN ((aM can 32).map (jc l))
def xd(l:List bY)(can:Nat):Int×Int:=GZ ((aM can 32).map (iS l))
theorem Od(ns:List Nat)(n:Nat):xN (ns++[n])=xN ns||| n:=by unfold xN;rw[Sf];rfl
theorem Q2(ns:List Nat)(i:Nat):(xN ns).testBit i=true↔∃ n∈ns,n.testBit i=true:=by
 have:∀(ns:List Nat) (a:Nat),(ns.foldl (· ||| ·) a).testBit i=true↔a.testBit i=true∨∃ n∈ns,n.testBit i=true:=fun ns=>by
  induction ns with
  | nil=>intro a;simp
  | cons n ns ih=>
   exact BI
 unfold xN
 rw[this,Nat.zero_testBit]
 simp
theorem MR{l:List bY}(nK:l.length<=24){can:Nat}(hc:can<2^l.length)(k:Nat):(yD l can).testBit k=true↔∃ i,can.testBit i=true∧(jc l i).testBit k=true:=by
 unfold yD
 rw[Q2]
 constructor
 ·rintro⟨n,h1,h2⟩
  obtain⟨i,h3,rfl⟩:=zl.1 h1
  exact⟨i,(cg.1 h3).2,h2⟩
 ·rintro⟨i,h1,h2⟩
  exact⟨_,zl.2 ⟨i,cg.2 ⟨by have:=fB hc h1;omega,h1⟩,rfl⟩,h2⟩
theorem GH{l:List bY}(nK:l.length<=24){can:Nat}(hc:can<2^l.length):yD l can<2^l.length:=FQ fun i hi=>by
 obtain⟨k,_,h⟩:=(MR nK hc i).1 hi
 exact fB (E0 l k) h
def xY(l:List bY)(bad good:Int):Nat:=if ji l bad good=0 then yD l (lG l bad good) else 0
def lS(l:List bY)(bad good:Int):Int×Int:=if ji l bad good=0 then xd l (lG l bad good) else(0,0)
def WO(l:List bY)(own i k:Nat):Bool:=decide (k≠i)&&own.testBit k
def SB(l:List bY)(own i:Nat):Bool:= !(aM (mu l i) 32).any (WO l own i)
theorem Wp{l:List bY}(nK:l.length<=24)(own i:Nat):SB l own i=true↔∀ k,(mu l i).testBit k=true->k≠i->own.testBit k=false:=by
 unfold SB WO
 simp only[Ku,Ru,cg,Zm,Zn,not_and]
 constructor
 ·intro h k h1 h2
  have h3:k<l.length:=by rw[lE,Zm,Zn] at h1;exact h1.1
  cases h4:own.testBit k with
  | false=>rfl
  | true=>exact absurd h4 (h k ⟨by omega,h1⟩ h2)
 ·intro h k h1 h2 h3
  rw[h k h1.2 h2] at h3;cases h3
def gf(l:List bY)(b:Int):Int:=if cJ l then(if jg b 0 ((l.length:Int) - 1)=true then 0 else 2) else 1
def mB(l:List bY)(R:Nat->Nat)(b:Int):Nat:=if gf l b=0 then R b.toNat else 0
theorem PX(l:List bY):jA l []=if cJ l then 0 else 1:=by unfold jA;simp
theorem xJ{l:List bY}{sets:List Int}(h:jA l sets=0):cJ l∧∀ s∈sets,0<=s∧s<=pw l.length - 1:=by
 unfold jA at h
 split at h
 ·rename_i hC
  refine⟨hC,fun s hs=> ?_⟩
  split at h
  ·cases h
  ·rename_i hn
   simp only[Bool.not_eq_true,Ru] at hn
   have:=hn s hs
   simp[jg] at this
   exact this
 ·cases h
theorem toNat_lt{l:List bY}{s:Int}(h:0<=s∧s<=pw l.length - 1):s.toNat<2^l.length:=by unfold pw at h;omega
theorem J4{l:List bY}{can:Nat}(h:can≠0)(h32:can<2^32):((xd l can).1∈(aM can 32).map (iS l))∧(xd l can).2∈(aM can 32).map (iS l):=by
 have hne:(aM can 32).map (iS l)≠[]:=by
  intro h1
  rw[List.map_eq_nil_iff] at h1
  refine h (LJ.2 fun i=> ?_)
  cases h2:can.testBit i with
  | false=>rfl
  | true=>
   have h3:i∈aM can 32:=cg.2 ⟨fB h32 h2,h2⟩
   rw[h1] at h3;cases h3
 exact(Rv _ hne).2
set_option maxRecDepth 100000
set_option maxHeartbeats 4000000
theorem aay:(6,Ln.map (PV.int .u8))∈nO Tryz.prog:=by
 have e:(nO Tryz.prog)[0]? =some (6,Ln.map (PV.int .u8)):=by kernel_rfl
 exact Zh e
theorem cP(n lo hi:Int):Pure Tryz.prog 185 [.int .i64 n,.int .i64 lo,.int .i64 hi] (.bool (jg n lo hi)):=by
 refine Kf (N:=15) Tryz.func185 ?_
 exact C9
theorem Lf(n k:Nat)(h0:0<n)(h:n<2^32)(hl:n&&& (2^32 - n)=2^k)(hk:k<32):Pure Tryz.prog 188 [.int .u32 (n:Int)] (.int .i64 ((k:Nat):Int)):=by
 have hT:(Ln.map (PV.int .u8))[(((2^k*125613361%4294967296 / 2^27:Nat):Int)).toNat*1]? =some (.int .u8 ((k:Nat):Int)):=by rw[Ks,G7,Zs,Ub k hk];rfl
 refine Kf (N:=14) Tryz.func188 ?_
 iterate 10 refine af ?_
 refine Ki (fun hc0=> ?_) fun hc0=> ?_
 ·exfalso
  simp at hc0
  omega
 ·iterate 5 refine af ?_
  refine Kc (aa.neg (m:=((2^32 - n:Nat):Int)) rfl rfl ?_) ?_
  ·exact Ug h0 h
  refine Kc (aa.pR n (2^32 - n) rfl rfl rfl (by first | (show _<=(9223372036854775807:Int);omega) | (show _<=(4294967295:Int);omega) | (show _<=(18446744073709551615:Int);omega) | (show _<=(255:Int);omega) | (show _<=(65535:Int);omega)) (by first | decide | (show _<=(9223372036854775807:Int);omega) | (show _<=(4294967295:Int);omega) | (show _<=(18446744073709551615:Int);omega) | (show _<=(255:Int);omega) | (show _<=(65535:Int);omega))) ?_
  rw[hl]
  refine Kc (aa.mul (m:=((2^k*125613361%4294967296:Nat):Int)) rfl rfl rfl ?_) ?_
  ·exact Vk k
  refine Kc (aa.xS (2^k*125613361%4294967296) 27 rfl rfl rfl (by first | decide | (show _<=(9223372036854775807:Int);omega) | (show _<=(4294967295:Int);omega) | (show _<=(18446744073709551615:Int);omega) | (show _<=(255:Int);omega) | (show _<=(65535:Int);omega))) ?_
  refine Kc (aa.yy (SD:=Ln.map (PV.int .u8)) aay rfl rfl YW YT (by omega) (by omega)) ?_
  exact BH
theorem oJ(n:Nat)(hn:n<2^32):LR Tryz.prog 190 (fun y=>[y,.p (.ip [.int .u32 (n:Int)] 0)]) (lA n):=by
 intro l κ nn inv fin hκ Uc FD hb h0 uV
 refine j4.ir (N:=16) Tryz.func190 rfl rfl Kn ?_
 iterate 6 refine af ?_
 refine aF.tM [3,5,6,7,8,9,10,11,12,13,14,15] (fun g=>[(3,.p (.int .u32 ((qG n g.1:Nat):Int)))]) (fun g=>g.2) (fun g=>g.1<=32∧inv (aM n g.1).length g.2) (fun g=>32 - g.1) (0,h0) (show(0:Nat)<=32∧inv (aM n 0).length h0 from⟨Zp _,uV⟩) (To.sub (Sub.SK (Sub.cons (by show some (V.p (.int .u32 ((n:Nat):Int)))=_;rw[GV]) Sub.nil))) (fun g hg=> ?_)
 obtain⟨p,Lh⟩:=g
 obtain⟨hp,hinv⟩:=hg
 dsimp only at hp hinv ⊢
 have hle:=SH n p
 iterate 6 refine af ?_
 refine Ki (fun hc0=> ?_) fun hc0=> ?_
 ·have hne:qG n p≠0:=by intro h;rw[h] at hc0;simp at hc0
  obtain⟨k,hpk,Tp,hlow,TU,Mv⟩:=HJ hn hp hne
  iterate 7 refine af ?_
  refine Kc (Kp (Lf (qG n p) k (by omega) (by omega) hlow Tp)) ?_
  refine aj.yield 14 rfl rfl rfl rfl rfl rfl (hb _ _ _ hinv (Nx Tp Mv)) ?_
  intro b2 h2 Bb
  iterate 2 refine af ?_
  refine Ki (fun cK=> ?_) fun cK=> ?_
  ·have iW:b2=false:=by simpa using cK
   subst iW
   refine af ?_
   exact⟨.inr rfl,_,eX.none_ rfl,.inr Bb⟩
  ·have iW:b2=true:=by simpa using cK
   subst iW
   iterate 4 refine af ?_
   refine Kc (aa.fN (m:=((qG n p - 1:Nat):Int)) rfl rfl rfl ((xz ?_).trans ?_)) ?_
   ·omega
   ·omega
   refine Kc (aa.pR (qG n p) (qG n p - 1) rfl rfl rfl (by first | (show _<=(9223372036854775807:Int);omega) | (show _<=(4294967295:Int);omega) | (show _<=(18446744073709551615:Int);omega) | (show _<=(255:Int);omega) | (show _<=(65535:Int);omega)) (by first | decide | (show _<=(9223372036854775807:Int);omega) | (show _<=(4294967295:Int);omega) | (show _<=(18446744073709551615:Int);omega) | (show _<=(255:Int);omega) | (show _<=(65535:Int);omega))) ?_
   iterate 2 refine af ?_
   refine⟨(k+1,h2),?_,?_,?_⟩
   ·exact⟨by dsimp only;omega,by dsimp only;rw[Mv,Zc];exact Bb⟩
   ·show 32 - (k+1)<32 - p
    omega
   exact To.sub (Sub.cons (by show some (V.p (.int .u32 _))=_;rw[TU]) KS)
 ·have hz:qG n p=0:=by have h:((qG n p:Nat):Int)=0:=(by simpa using hc0);omega
  have hall:=HR hp hz
  refine aF.exit ?_
  exact⟨.inl rfl,_,eX.none_ rfl,.inl (by rw[iF,hall];exact hinv)⟩
theorem sJ(n:Nat):Pure Tryz.prog 150 [.int .u32 (n:Int)] (.func (.func 190) [] [.ip [.int .u32 (n:Int)] 0]):=by
 refine Kf (N:=4) Tryz.func150 ?_
 exact uM
theorem oB(l:List Nat)(hl:∀ x∈l,x<2^32)(hb:l.length<=cN):Pure Tryz.prog 148 [.is (l.flatMap u1) l.length] (.int .u32 ((xN l:Nat):Int)):=by
 unfold cN at hb
 refine Kf (N:=16) Tryz.func148 ?_
 iterate 12 refine af ?_
 refine aF.Un [5,6,15] (fun g=>[(7,.p (.int .i64 ((g:Nat):Int))),(2,.p (.int .u32 ((xN (l.take g):Nat):Int)))]) (fun g=>g<=l.length) (fun g=>l.length - g) 0 (Zp _) (Sub.cons rfl (Sub.cons rfl (Sub.nil))) (fun i hg=> ?_)
 iterate 5 refine af ?_
 refine Ki (fun hc0=> ?_) fun hc0=> ?_
 ·have hk0:i<l.length:=by have h:=Zg hc0;omega
  have hx:=hl _ (Uu hk0)
  have ho:=EW (l:=l.take i) fun x hx=>hl x (WB hx)
  have Pj:=EW (l:=l.take (i+1)) fun x hx=>hl x (WB hx)
  have hT:=K2 hk0
  rw[Fo i hk0] at hT
  rw[hT] at Pj
  iterate 5 refine af ?_
  refine Kc (aa.aP (g:=ut l) Fo rfl rfl rfl an WR rfl (fun _=>rfl) (by decide) hk0) ?_
  iterate 6 refine af ?_
  refine Kc (aa.Qv (xN (l.take i)) (ut l i) rfl rfl rfl (by show _<=(4294967295:Int);omega) (by show _<=(4294967295:Int);omega) (by show _<=(4294967295:Int);omega)) ?_
  iterate 3 refine af ?_
  refine Kc (aa.add rfl rfl rfl (aI ?_)) ?_
  ·omega
  iterate 2 refine af ?_
  refine⟨i+1,?_,?_,?_⟩
  ·omega
  ·omega
  refine To.done [] rfl (Sub.cons rfl (Sub.cons (by rw[hT];rfl) KS)) rfl
 ·obtain rfl:i=l.length:=by have h:=Zk hc0;omega
  rw[ZV]
  refine aF.exit ?_
  iterate 6 refine af ?_
  exact jO
theorem Jz(xs:List Int)(f:PV)(p:Int->Bool)(hx:xs.length<=cN)(hf:∀ x∈xs,jG Tryz.prog f [.int .i64 x] (.bool (p x))):Pure Tryz.prog 207 [.is (xs.flatMap i1) xs.length,f] (.int .i64 (iL p xs)):=by
 unfold cN at hx
 refine Kf (N:=19) Tryz.func207 ?_
 iterate 12 refine af ?_
 refine aF.yW [4,5,8,9,10,11,12,13,14,15,16,17,18] (fun g=>[(8,.p (.int .i64 ((g:Nat):Int)))]) (fun g=>g<=xs.length∧∀ j (hj:j<g) (h:g<=xs.length),p (xs[j]'(by omega))=false) (fun g=>xs.length - g) 0 ⟨Zp _,fun j hj=>absurd hj (by omega)⟩ (Sub.cons rfl (Sub.nil)) (fun i hg=> ?_)
 obtain⟨zE,nk⟩:=hg
 iterate 5 refine af ?_
 refine Ki (fun hc0=> ?_) fun hc0=> ?_
 ·iterate 13 refine af ?_
  refine Kc (aa.j7 rfl rfl rfl an dF rfl (fun _=>rfl) (by decide) ?_) ?_
  ·simp at hc0;omega
  exact xA
 ·exact xG
theorem z7(xs:List Int)(f:PV)(p:Int->Bool)(hx:xs.length<=cN)(hf:∀ x∈xs,jG Tryz.prog f [.int .i64 x] (.bool (p x))):Pure Tryz.prog 187 [.is (xs.flatMap i1) xs.length,f] (.bool (xs.any p)):=by
 refine Kf (N:=9) Tryz.func187 ?_
 iterate 8 refine af ?_
 refine Kc (Kp (Jz _ _ p ?_ ?_)) ?_
 ·exact hx
 ·exact hf
 exact ve
theorem Jj(n:Int)(l:List bY)(hl:l.length<=24):Pure Tryz.prog 184 [.int .i64 n,.ip [fF l] 0] (.bool (!jg n 0 (pw l.length - 1))):=by
 have hp:=E5 hl
 have Ss:((2^l.length:Nat):Int)=pw l.length:=rfl
 refine Kf (N:=11) Tryz.func184 ?_
 iterate 9 refine af ?_
 refine Kc (aa.pE 1 l.length rfl rfl rfl (by show _<=(64:Nat);omega) (by show _<=(9223372036854775807:Int);rw[ZL];omega)) ?_
 rw[ZL]
 refine Kc (aa.fN (m:=(pw l.length - 1)) rfl rfl rfl ((aI ?_).trans ?_)) ?_
 ·omega
 ·rfl
 refine Kc (Kp (cP _ _ _)) ?_
 iterate 4 refine af ?_
 exact jO
theorem Be(l:List bY)(hb:l.length<=cN):Pure Tryz.prog 186 [fF l] (.bool (decide (cJ l))):=by
 unfold cN at hb
 refine Kf (N:=30) Tryz.func186 ?_
 iterate 12 refine af ?_
 refine aF.eU [5,6] (fun g=>[(7,.p (.int .i64 ((g:Nat):Int)))]) (fun g=>[]) (fun g=>g<=l.length∧∀ i,i<g->CD l i) (fun g=>l.length - g) 0 ⟨Zp _,fun j hj=>absurd hj (by omega)⟩ (To.sub (Sub.zY (Sub.cons rfl (Sub.nil)))) (fun j hg=> ?_)
 obtain⟨zE,nk⟩:=hg
 iterate 5 refine af ?_
 refine Ki (fun hc0=> ?_) fun hc0=> ?_
 ·have hk0:j<l.length:=by have h:=Zg hc0;omega
  iterate 6 refine af ?_
  refine Kc (aa.aP (g:=bt l) wv rfl rfl rfl an Gd rfl (fun _=>rfl) (by decide) hk0) ?_
  refine Kc (Kl (.p (.agg (bt l j).cells))) ?_
  iterate 2 refine af ?_
  refine Kz (aa.store (H':=[.cells ((bt l j).cells.map .p) 92]) rfl rfl rfl rfl rfl an rfl rfl) ?_
  iterate 2 refine af ?_
  refine aF.aB 17 mixed (by kernel_rfl) (by decide) ?_
  refine af ?_
  refine Kq (aa.geq rfl rfl rfl) ?_
  refine af ?_
  refine av.guard 15 14 rfl rfl rfl rfl rfl rfl rfl [(4,_)] (fun h=>And.intro (.inl rfl) (trivial)) (fun h=>(aa.fieldAddr rfl rfl an rfl)) ?_
  refine av.guard 16 14 rfl rfl rfl rfl rfl rfl rfl [(15,_)] (fun h=>And.intro (.inr ⟨_,rfl,h⟩) (trivial)) (fun h=>(Kl (.p (.int .i64 (bt l j).f)))) ?_
  refine av.guard 17 14 rfl rfl rfl rfl rfl rfl rfl [(3,_)] (fun h=>And.intro (.inl rfl) (trivial)) (fun h=>(aa.move rfl rfl)) ?_
  refine av.guard 18 14 rfl rfl rfl rfl rfl rfl rfl [(17,_)] (fun h=>And.intro (.inr ⟨_,rfl,h⟩) (trivial)) (fun h=>(aa.pE 1 j rfl rfl rfl (by show _<=(64:Nat);have hj:j<=24:=(by simp at h;omega);omega) (by show _<=(9223372036854775807:Int);rw[ZL];have hj:j<=24:=(by simp at h;omega);have:=E5 hj;unfold pw at this;omega))) ?_
  refine av.guard 19 14 rfl rfl rfl rfl rfl rfl rfl [(18,_)] (fun h=>And.intro (.inr ⟨_,rfl,h⟩) (trivial)) (fun h=>(aa.fN (m:=(pw j - 1)) rfl rfl rfl ((aI (by rw[ZL];have hj:j<=24:=(by simp at h;omega);have:=E5 hj;unfold pw at this;omega)).trans (by rw[ZL];rfl)))) ?_
  refine av.guard 20 14 rfl rfl rfl rfl rfl rfl rfl [(16,_),(19,_)] (fun h=>And.intro (.inr ⟨_,rfl,h⟩) (And.intro (.inr ⟨_,rfl,h⟩) (trivial))) (fun h=>(Kp (cP _ _ _))) ?_
  refine av.guard 21 14 rfl rfl rfl rfl rfl rfl rfl [(20,_)] (fun h=>And.intro (.inr ⟨_,rfl,h⟩) (trivial)) (fun h=>(aa.gW rfl rfl)) ?_
  refine Kq (aa.kA rfl rfl rfl ?_) ?_
  ·exact ax
  refine af ?_
  refine av.guard 24 23 rfl rfl rfl rfl rfl rfl rfl [(4,_)] (fun h=>And.intro (.inl rfl) (trivial)) (fun h=>(aa.fieldAddr rfl rfl an rfl)) ?_
  refine av.guard 25 23 rfl rfl rfl rfl rfl rfl rfl [(24,_)] (fun h=>And.intro (.inr ⟨_,rfl,h⟩) (trivial)) (fun h=>(Kl (.p (.int .i64 (bt l j).s)))) ?_
  refine av.guard 26 23 rfl rfl rfl rfl rfl rfl rfl [(25,_)] (fun h=>And.intro (.inr ⟨_,rfl,h⟩) (trivial)) (fun h=>(Kp (cP _ _ _))) ?_
  refine av.guard 27 23 rfl rfl rfl rfl rfl rfl rfl [(26,_)] (fun h=>And.intro (.inr ⟨_,rfl,h⟩) (trivial)) (fun h=>(aa.gW rfl rfl)) ?_
  refine Kq (aa.kA rfl rfl rfl ?_) ?_
  ·exact ax
  refine av.nil ?_
  refine af ?_
  refine Ki (fun cK=> ?_) fun cK=> ?_
  ·iterate 5 refine af ?_
   refine Fin.gL rfl rfl ?_
   have h3:((decide ((j:Int)>=24)|| !jg (bt l j).f 0 (pw j - 1))|| !jg (bt l j).s 0 1048576)=true:=cK
   rw[decide_eq_false (p:=cJ l) (fun h=>by have h1:=h j hk0;unfold CD at h1;simp[jg] at h3;omega)]
  ·have hst:CD l j:=by
    have h3:((decide ((j:Int)>=24)|| !jg (bt l j).f 0 (pw j - 1))|| !jg (bt l j).s 0 1048576)=false:=cK
    simp[jg] at h3
    unfold CD
    omega
   iterate 2 refine af ?_
   refine Kc (aa.add rfl rfl rfl (aI ?_)) ?_
   ·omega
   iterate 2 refine af ?_
   refine⟨j+1,?_,?_,?_⟩
   ·refine⟨by omega,fun i hi=> ?_⟩
    rcases O2.1 hi with h1 | rfl
    ·exact nk i h1
    ·exact hst
   ·omega
   exact To.done [] rfl KS rfl
 ·obtain rfl:j=l.length:=by have h:=Zk hc0;omega
  refine aF.exit ?_
  iterate 5 refine af ?_
  refine Fin.gL rfl rfl ?_
  rw[decide_eq_true (p:=cJ l) nk]
theorem EE(l:List bY)(sets:List Int)(hb:l.length<=cN)(hs:sets.length<=cN):Pure Tryz.prog 145 [fF l,bh sets] (.int .i64 (jA l sets)):=by
 refine Kf (N:=15) Tryz.func145 ?_
 iterate 7 refine af ?_
 refine Kc (aa.makeFunc rfl rfl rfl) ?_
 iterate 7 refine af ?_
 refine Kc (Kp (Be _ ?_)) ?_
 ·assumption
 iterate 3 refine af ?_
 refine Ki (fun hc0=> ?_) fun hc0=> ?_
 ·have hC:¬ cJ l:=by simpa using hc0
  iterate 5 refine af ?_
  refine Fin.gL rfl rfl ?_
  unfold jA;rw[if_neg hC]
 ·have hC:cJ l:=by simpa using hc0
  have nK:=cG hC
  iterate 4 refine af ?_
  refine Kc (Kp (z7 sets _ (fun n=> !jg n 0 (pw l.length - 1)) hs (fun x _=>⟨184,[.int .i64 x,.ip [fF l] 0],rfl,an,Jj x l nK⟩))) ?_
  iterate 2 refine af ?_
  refine Ki (fun cK=> ?_) fun cK=> ?_
  ·have hS:(sets.any fun n=> !jg n 0 (pw l.length - 1))=true:=cK
   iterate 5 refine af ?_
   refine Fin.gL rfl rfl ?_
   unfold jA;rw[if_pos hC,if_pos hS]
  ·have hS:(sets.any fun n=> !jg n 0 (pw l.length - 1))=false:=cK
   iterate 6 refine af ?_
   refine Fin.gL rfl rfl ?_
   unfold jA;rw[if_pos hC,if_neg (by rw[hS];decide)]
theorem N4(l:List bY)(b:Nat)(hC:cJ l)(hb:b<l.length):Pure Tryz.prog 234 [fF l,.int .i64 (b:Int)] (.int .u32 ((pW l b:Nat):Int)):=by
 have hf:=(hC b hb).2.1
 have hp:=E5 (n:=b) (by have:=cG hC;omega)
 have hfr:(bt l b).f=((pW l b:Nat):Int):=by unfold pW;omega
 refine Kf (N:=11) Tryz.func234 ?_
 iterate 8 refine af ?_
 refine Kc (aa.aP (g:=bt l) wv rfl rfl rfl an Y3 rfl (fun _=>rfl) (by decide) hb) ?_
 refine af ?_
 refine Kc (Kl (.p (.int .i64 (bt l b).f))) ?_
 refine Kc (aa.dS rfl rfl (by rw[B0];rfl) tw (xz ?_)) ?_
 ·omega
 iterate 3 refine af ?_
 refine Fin.gL rfl rfl ?_
 rw[hfr]
theorem OB(l:List bY)(b:Nat)(hC:cJ l)(hb:b<l.length):Pure Tryz.prog 233 [IY l,.int .i64 (b:Int)] (.int .u32 ((ym l b:Nat):Int)):=by
 refine Kf (N:=8) Tryz.func233 ?_
 iterate 8 refine af ?_
 refine Kc (aa.Ja (dw.int .i64 .i64) (gp:=Ap) 0 rfl rfl rfl Nk rfl) ?_
 iterate 3 refine af ?_
 refine Fin.gL rfl rfl ?_
 have e:=vM hC b l.length (Zf _)
 show Ap ((cD ((b:Nat):Int) (vw l l.length)).getD 0)=_
 rw[e]
 rfl
theorem Cs(l:List bY)(hC:cJ l):Pure Tryz.prog 149 [fF l] (IY l):=by
 have nK:=cG hC
 refine Kf (N:=31) Tryz.func149 ?_
 iterate 6 refine af ?_
 refine Kc (aa.makeMap (K:=Int) (α:=Nat) (enc:=PV.int .i64) (g:=fun n=> .p (Ap n)) rfl) ?_
 iterate 11 refine af ?_
 refine aF.eU [2,3,8,9,19,30] (fun g=>[(10,.p (.int .i64 ((g:Nat):Int)))]) (fun g=>[nI (PV.int .i64) (fun n=> .p (Ap n)) (vw l g),.cells [.map 0] 213]) (fun g=>g<=l.length) (fun g=>l.length - g) 0 (Zp _) (To.sub (Sub.zY (Sub.cons rfl (Sub.nil)))) (fun i hg=> ?_)
 iterate 5 refine af ?_
 refine Ki (fun hc0=> ?_) fun hc0=> ?_
 ·have hk0:i<l.length:=by have h:=Zg hc0;omega
  have hf:=(hC i hk0).2.1
  have hp:=E5 (n:=i) (by omega)
  have hfr:(bt l i).f=((pW l i:Nat):Int):=by unfold pW;omega
  have hlt:pW l i<2^32:=by omega
  iterate 6 refine af ?_
  refine Kc (aa.aP (g:=bt l) wv rfl rfl rfl an Gd rfl (fun _=>rfl) (by decide) hk0) ?_
  refine Kc (Kl (.p (.agg (bt l i).cells))) ?_
  iterate 8 refine af ?_
  refine Kc (Kl (.p (.int .i64 (bt l i).f))) ?_
  refine Kc (aa.dS rfl rfl (by rw[B0];rfl) tw (xz ?_)) ?_
  ·omega
  rw[hfr]
  refine Kc (Kp (sJ (pW l i))) ?_
  iterate 2 refine af ?_
  refine aF.rangeFunc 0 rfl (fun _=>rfl) an (oJ (pW l i) hlt) (Zf _) (Zp _) (fun _ h=>by cases h) (fun x hx=>by unfold lA at hx;simp at hx;obtain⟨j,_,rfl⟩:=hx;rfl) rfl (fun k h=>h=[nI (PV.int .i64) (fun n=> .p (Ap n)) (rU i (vw l i) ((aM (pW l i) 32).take k)),.cells [.map 0] 213,.cells [.p (.int .i64 ((i:Nat):Int))] 3,.cells ((bt l i).cells.map .p) 92]) (fun c h=>False) (fun _ _ h=>by rw[h];rfl) (fun _ _ h=>h.elim) rfl ?_ ?_ ?_
  ·intro lx tmps k h x hJ hx
   subst hJ
   obtain⟨q,hq,rfl⟩:=jr hx
   have OV:=cg.1 (Zh hq)
   have hqi:=vW hC hk0 OV.2
   have hval:=RH hC hk0 q k
   have hjl:∀ x∈[(cD ((q:Nat):Int) (rU i (vw l i) ((aM (pW l i) 32).take k))).getD 0,1*2^i],x<2^32:=by intro x hx2;simp at hx2;rcases hx2 with rfl | rfl;{omega};{unfold pw at hp;omega}
   iterate 3 refine af ?_
   refine⟨rfl,rfl,?_⟩
   refine af ?_
   refine aF.aB 9 mixed (by kernel_rfl) (by decide) ?_
   refine Kq (Kl (.map 0)) ?_
   refine af ?_
   refine Kq (Kl (.map 0)) ?_
   refine af ?_
   refine Kq (aa.wA (dw.int .i64 .i64) (gp:=Ap) 0 rfl rfl rfl rfl Nk rfl) ?_
   refine Kq (Kl (.p (.int .i64 ((i:Nat):Int)))) ?_
   refine Kq (aa.pE 1 i rfl rfl rfl (by show _<=(32:Nat);omega) (by show _<=(4294967295:Int);rw[ZL];unfold pw at hp;omega)) ?_
   refine Kq (aa.aR rfl an (by decide) rfl rfl rfl) ?_
   refine Kq (Kp (oB [(cD ((q:Nat):Int) (rU i (vw l i) ((aM (pW l i) 32).take k))).getD 0,1*2^i] hjl (by unfold cN;show 2<=_;omega))) ?_
   rw[or2,ZL]
   refine av.nil ?_
   refine Kz (aa.mapUpdate (dw.int .i64 .i64) (g:=fun n=> .p (Ap n)) (.inl rfl) rfl rfl rfl rfl Nk) ?_
   refine af ?_
   exact⟨_,rfl,by rw[gP hq,IN];exact To.sub Sub.nil⟩
  ·intro h hJ
   subst hJ
   rw[iF,ZV]
   refine af ?_
   refine Kc (aa.add rfl rfl rfl (aI ?_)) ?_
   ·omega
   iterate 2 refine af ?_
   refine⟨i+1,?_,?_,?_⟩
   ·omega
   ·omega
   exact To.done [0,1] rfl KS (congrArg (fun z=>[z,ai.cells [V.map 0] 213]) (za _ (PV.int .i64) Ap (vw l (i+1))))
  ·exact gY
 ·obtain rfl:i=l.length:=by have h:=Zk hc0;omega
  refine aF.exit ?_
  iterate 5 refine af ?_
  refine aF.to (To.sM 0 rfl) ?_
  refine af ?_
  exact kU
def OQ(W:PV):List V:=[.ptr 1 0,.ptr 0 0,.p (.ip [W] 0),.ptr 2 0]
def YA(W:PV)(M:Nat):List ai:=[.cells [.p (.int .u32 (M:Int))] 209,.cells (((uY M).flatMap b1).map .p) 266,.cells [.func (.func 191) [] (OQ W)] 255]
def Io(N:Nat)(nx:Nat->Nat)(W:PV):Prop:=∀ b,b<N->N5 Tryz.prog "pencilworks/recall.next" W [.int .i64 ((b:Nat):Int)] (.int .u32 ((nx b:Nat):Int))
def Vy(R:Nat->Nat)(W:PV)(b:Nat):Prop:=∀ M,M<2^24->Gv R b M->az Tryz.prog 191 (.p (.int .i64 ((b:Nat):Int))::OQ W) (YA W M) fun v H'=>H'=YA W (M||| R b)
theorem Rq{N:Nat}{nx R rk:Nat->Nat}(w:Way N nx R rk)(hN:N<=24){b M:Nat}(hb:b<N)(hM:M<2^24){ks:List Nat}(hk:∀ k∈ks,k<N):pY R M b ks<2^24:=by
 apply Nat.lt_pow_two_of_testBit
 intro x hx
 cases h:(pY R M b ks).testBit x with
 | false=>rfl
 | true=>
  exfalso
  rcases(v7 R M b x ks).1 h with h1 | h1 | ⟨k,h1,h2⟩
  ·rw[VH (ZJ hM (Zu (by omega) hx))] at h1
   cases h1
  ·omega
  ·rw[VH (ZJ (w.Xw k (hk k h1)) (Zu (by omega) (by omega)))] at h2
   cases h2
theorem Hf{N:Nat}{nx R rk:Nat->Nat}(w:Way N nx R rk)(hN:N<=24)(W:PV)(Rj:Io N nx W)(b:Nat)(hb:b<N)(IH:∀ k,(nx b).testBit k=true->Vy R W k):Vy R W b:=by
 intro M hM WN
 refine az.start (N:=25) Tryz.func191 rfl rfl Kn ?_
 have tT:nx b<2^32:=ZJ (w.lt b hb) (Zu (by omega) (by omega))
 have jz:b<24:=by omega
 have h2b:=Zu (show 0<2 by omega) (show b<=23 by omega)
 iterate 4 refine af ?_
 refine Kc (aa.yU rfl rfl rfl SE SS (by omega)) ?_
 refine Kc (aa.kT (f:=b1) (c:=1) (k:=b) (j:=0) (xs:=(uY M)) rfl rfl an rfl rfl (by omega) (fun _=>rfl) (by rw[vK];omega) (by decide) (show _=PV.bool (M.testBit b) from by rw[vm];rfl)) ?_
 refine af ?_
 refine Ki (fun hc0=> ?_) fun hc0=> ?_
 ·have hm:M.testBit b=true:=hc0
  refine af ?_
  exact⟨.inr rfl,_,eX.none_ rfl,by rw[RY w hb WN hm]⟩
 ·iterate 4 refine af ?_
  refine Kc (aa.yU rfl rfl rfl SE SS (by omega)) ?_
  refine Kz (aa.storeCells (f:=b1) (c:=1) (k:=b) (j:=0) (xs:=(uY M)) (z:=true) (ws:=[.bool true]) rfl rfl rfl rfl rfl an rfl rfl rfl (by omega) (fun _=>rfl) (by rw[vK];omega) (by decide) rfl) ?_
  iterate 2 refine af ?_
  rw[Lc jz]
  refine aF.aB 5 mixed (by kernel_rfl) (by decide) ?_
  refine Kq (Kl (.p (.int .u32 (M:Int)))) ?_
  refine af ?_
  refine Kq (aa.pE 1 b rfl rfl rfl (by show _<=(32:Nat);omega) (by show _<=(4294967295:Int);rw[ZL];omega)) ?_
  refine Kq (aa.aR rfl an (by decide) rfl rfl rfl) ?_
  refine Kq (Kp (oB [M,1*2^b] (by intro x hx;simp at hx;rcases hx with rfl | rfl;{omega};{omega}) (by unfold cN;show 2<=_;omega))) ?_
  rw[or2,ZL]
  refine av.nil ?_
  refine Kz (aa.store (H':=YA W (M||| 2^b)) rfl rfl rfl rfl rfl an rfl rfl) ?_
  iterate 3 refine af ?_
  refine Kc (Kl (.p W)) ?_
  refine af ?_
  refine Kc (aa.invoke (Rj b hb) rfl rfl rfl) ?_
  refine Kc (Kp (sJ (nx b))) ?_
  refine af ?_
  refine aF.toEnd ?_
  refine af ?_
  refine aF.rangeFunc 3 rfl (fun _=>rfl) an (oJ (nx b) tT) (Zf 3) (Zf 3) (fun _ h=>by cases h) (fun x hx=>by unfold lA at hx;simp at hx;obtain⟨j,_,rfl⟩:=hx;rfl) rfl (fun k h=>h=YA W (pY R M b ((aM (nx b) 32).take k))) (fun c h=>False) (fun _ _ h=>by rw[h];rfl) (fun _ _ h=>h.elim) rfl ?_ ?_ ?_
  ·intro lx tmps k h x hJ hx
   subst hJ
   obtain⟨q,hq,rfl⟩:=jr hx
   have OV:=cg.1 (Zh hq)
   have hks:∀ p∈(aM (nx b) 32).take k,(nx b).testBit p=true:=fun p hp=>(cg.1 (WB hp)).2
   have hIH:=IH q OV.2 (pY R M b ((aM (nx b) 32).take k)) (Rq w hN hb hM fun p hp=>w.Vf b hb p (hks p hp)) (Lg w hb WN hks OV.2)
   iterate 3 refine af ?_
   refine⟨rfl,rfl,?_⟩
   iterate 2 refine af ?_
   refine Kc (Kl (.func (.func 191) [] (OQ W))) ?_
   refine af ?_
   refine aj.VB 24 [0,1,2] (all:= .p (.int .i64 ((q:Nat):Int))::OQ W) (by show az _ _ _ [ai.cells _ _,ai.cells (bw _ (List.map V.p _)) _,ai.cells _ _] _;rw[aX];exact hIH) (fun v H2 h=>by rw[h];rfl) (by rfl) (by rfl) rfl rfl rfl rfl rfl rfl rfl an (fun v H2 iz=> ?_)
   subst iz
   refine af ?_
   exact⟨_,rfl,by rw[gP hq,Iw];exact To.sub Sub.nil⟩
  ·intro h hJ
   subst hJ
   have hall:pY R M b (aM (nx b) 32)=M||| R b:=by
    rcases PD w (M:=M) hb with h | h
    ·exact h
    ·omega
   rw[iF,ZV,hall]
   exact⟨[],_,To.done [0,1,2] rfl Sub.nil (by show[ai.cells _ _,ai.cells (bw _ (List.map V.p _)) _,ai.cells _ _]=_;rw[aX];rfl),.inl rfl,_,eX.none_ rfl,rfl⟩
  ·exact gY
theorem Lm{N:Nat}{nx R rk:Nat->Nat}(w:Way N nx R rk)(hN:N<=24)(W:PV)(Rj:Io N nx W):∀(m b:Nat),b<N->rk b<=m->Vy R W b
 | 0,b,hb,hm=>Hf w hN W Rj b hb fun k hk=>by have:=w.rk b hb k hk;omega
 | m+1,b,hb,hm=>Hf w hN W Rj b hb fun k hk=>Lm w hN W Rj m k (w.Vf b hb k hk) (by have:=w.rk b hb k hk;omega)
theorem nC{N:Nat}{nx R rk:Nat->Nat}(w:Way N nx R rk)(hN:N<=24)(t:Nat)(y:PV)(Rj:Io N nx (.iface t y))(b:Nat)(hb:b<N):Pure Tryz.prog 151 [.iface t y,.int .i64 (b:Int)] (.int .u32 ((R b:Nat):Int)):=by
 refine Kf (N:=12) Tryz.func151 ?_
 iterate 15 refine af ?_
 refine Kc (aa.makeFunc rfl rfl rfl) ?_
 refine Kz (aa.store (H':=YA (.iface t y) 0) rfl rfl rfl rfl rfl an rfl rfl) ?_
 iterate 3 refine af ?_
 refine Kc (Kl (.func (.func 191) [] (OQ (.iface t y)))) ?_
 refine af ?_
 refine aj.tN 10 (Lm w hN (.iface t y) Rj (rk b) b hb (Zf _) 0 (by decide) (fun x hx=>by simp at hx)) rfl rfl rfl rfl rfl rfl rfl an (fun v H2 iz=> ?_)
 subst iz
 rw[Nat.zero_or]
 iterate 3 refine af ?_
 refine Kc (Kl (.p (.int .u32 ((R b:Nat):Int)))) ?_
 exact vJ
theorem zx(l:List bY)(hC:cJ l):Io l.length (pW l) (.iface 220 (fF l)):=fun b hb=>⟨220,_,234,rfl,by kernel_rfl,an,N4 l b hC hb⟩
theorem B4(l:List bY)(hC:cJ l):Io l.length (ym l) (.iface 213 (IY l)):=fun b hb=>⟨213,_,233,rfl,by kernel_rfl,an,OB l b hC hb⟩
theorem Pure.Yb{P:Program}{f:FuncId}{x r:PV}(h:Pure P f [x,.is [] 0] r):Pure P f [x,.nilSlice] r:=by
 intro w I ρ us hi gz
 refine h w I ρ us hi ?_
 obtain⟨u,us',rfl,h1,u2,us2,rfl,h2,h3⟩:=gz
 exact⟨u,_,rfl,h1,u2,us2,rfl,aC.wk (.p .nilSlice) u2 h2,h3⟩
theorem JP(l:List bY)(hb:l.length<=cN):Pure Tryz.prog 145 [fF l,.nilSlice] (.int .i64 (jA l [])):=Pure.Yb (EE l [] hb (Zp _))
theorem R6(l:List bY)(b:Int)(hb:l.length<=cN)(f:PV)(t:Nat)(y:PV)(nx R rk:Nat->Nat)(hw:cJ l->Way l.length nx R rk)(Rj:cJ l->Io l.length nx (.iface t y))(hf:cJ l->jG Tryz.prog f [] (.iface t y)):Pure Tryz.prog 152 [fF l,f,.int .i64 b] (.tuple [.int .i64 ((mB l R b:Nat):Int),.int .i64 (gf l b)]):=by
 have iW:=hb
 unfold cN at iW
 refine Kf (N:=25) Tryz.func152 ?_
 iterate 9 refine af ?_
 refine Kc (Kp (JP l hb)) ?_
 iterate 7 refine af ?_
 refine Ki (fun hc0=> ?_) fun hc0=> ?_
 ·have hE:jA l []≠0:=by simpa using hc0
  iterate 7 refine af ?_
  refine Fin.dI (xs:=[.int .i64 0,.int .i64 (jA l [])]) rfl (⟨_,_,rfl,rfl,⟨_,_,rfl,rfl,rfl⟩⟩) rfl ?_
  have e:gf l b=jA l []:=by rw[PX] at hE ⊢;unfold gf;split <;> simp_all
  unfold mB;rw[e,if_neg hE];rfl
 ·have hE:jA l []=0:=by simpa using hc0
  have hC:=(xJ hE).1
  have hS:=(xJ hE).2
  have nK:=cG hC
  have IU:=E5 nK
  iterate 7 refine af ?_
  refine Kc (aa.fN rfl rfl rfl (aI ?_)) ?_
  ·omega
  refine Kc (Kp (cP _ _ _)) ?_
  iterate 2 refine af ?_
  refine Ki (fun cK=> ?_) fun cK=> ?_
  ·have hI:¬ jg b 0 ((l.length:Int) - 1)=true:=by intro h;rw[h] at cK;cases cK
   iterate 6 refine af ?_
   refine Fin.dI (xs:=[.int .i64 0,.int .i64 2]) rfl (⟨_,_,rfl,rfl,⟨_,_,rfl,rfl,rfl⟩⟩) rfl ?_
   have e:gf l b=2:=by unfold gf;rw[if_pos hC,if_neg hI]
   unfold mB;rw[e,if_neg (by decide)];rfl
  ·have hI:jg b 0 ((l.length:Int) - 1)=true:=by simpa using cK
   have hI2:=hI
   simp[jg] at hI2
   obtain⟨b,rfl⟩:∃ m:Nat,b=(m:Int):=⟨b.toNat,by omega⟩
   have hbl:b<l.length:=by omega
   iterate 4 refine af ?_
   refine Kc (aa.DC (hf hC) rfl rfl rfl) ?_
   refine af ?_
   refine Kc (Kp (nC (hw hC) nK t y (Rj hC) b hbl)) ?_
   refine Kc (aa.dS rfl rfl (by rw[tw];rfl) B0 (aI ?_)) ?_
   ·have h2:=(hw hC).Xw b hbl;have h3:=Zu (show 0<2 by omega) nK;omega
   iterate 4 refine af ?_
   refine Fin.dI (xs:=[.int .i64 ((R b:Nat):Int),.int .i64 0]) rfl (⟨_,_,rfl,rfl,⟨_,_,rfl,rfl,rfl⟩⟩) rfl ?_
   have e:gf l (b:Int)=0:=by unfold gf;rw[if_pos hC,if_pos hI]
   unfold mB;rw[e,if_pos rfl];rfl
theorem No(l:List bY):Pure Tryz.prog 153 [.ip [fF l] 0] (.iface 220 (fF l)):=by
 refine Kf (N:=4) Tryz.func153 ?_
 iterate 7 refine af ?_
 refine Kc (aa.aG rfl rfl FI) ?_
 exact dO
theorem PR(l:List bY)(b:Int)(hb:l.length<=cN):Pure Tryz.prog 100 [fF l,.int .i64 b] (.tuple [.int .i64 ((mB l (b6 l) b:Nat):Int),.int .i64 (gf l b)]):=by
 refine Kf (N:=12) Tryz.func100 ?_
 iterate 9 refine af ?_
 refine Kc (aa.makeFunc rfl rfl rfl) ?_
 refine af ?_
 refine Kc (Kp (R6 l b hb _ _ _ (pW l) (b6 l) (fun b=>b) nG (fun h=>zx l h) (fun _=>⟨153,[.ip [fF l] 0],rfl,an,No l⟩))) ?_
 iterate 6 refine af ?_
 exact Fin.many (xs:=[.int .i64 ((mB l (b6 l) b:Nat):Int),.int .i64 (gf l b)]) rfl (⟨_,_,rfl,rfl,⟨_,_,rfl,rfl,rfl⟩⟩) rfl
theorem Ou(l:List bY)(bad good:Nat)(hC:cJ l)(hbd:bad<2^l.length)(hgd:good<2^l.length):Pure Tryz.prog 146 [fF l,.int .u32 (bad:Int),.int .u32 (good:Int)] (.int .u32 ((gv l bad good:Nat):Int)):=by
 have nK:=cG hC
 have IU:=Zu (show 0<2 by omega) nK
 have hp1:=RM l.length
 have hfull:2^l.length - 1<2^l.length:=by omega
 have aaY:bad<2^32:=by omega
 have aaO:good<2^32:=by omega
 refine Kf (N:=33) Tryz.func146 ?_
 iterate 9 refine af ?_
 refine Kc (aa.pE 1 l.length rfl rfl rfl (by show _<=(32:Nat);omega) (by show _<=(4294967295:Int);rw[ZL];omega)) ?_
 rw[ZL]
 refine Kc (aa.fN (m:=((2^l.length - 1:Nat):Int)) rfl rfl rfl ((xz ?_).trans ?_)) ?_
 ·omega
 ·omega
 iterate 7 refine af ?_
 refine Kc (Kp (sJ bad)) ?_
 iterate 2 refine af ?_
 refine aF.rangeFunc 0 rfl (fun _=>rfl) an (oJ bad aaY) (Zf _) (Zp _) (fun _ h=>by cases h) (fun x hx=>by unfold lA at hx;simp at hx;obtain⟨j,_,rfl⟩:=hx;rfl) rfl (fun k h=>h=[.cells [.p (.int .u32 (((Gf l (2^l.length - 1) ((aM bad 32).take k)):Nat):Int))] 209]) (fun c h=>False) (fun _ _ h=>by rw[h];rfl) (fun _ _ h=>h.elim) rfl ?_ ?_ ?_
 ·intro lx tmps k h x hJ hx
  subst hJ
  obtain⟨q,hq,rfl⟩:=jr hx
  have OV:=cg.1 (Zh hq)
  have OP:q<l.length:=fB hbd OV.2
  have hr:=(nG hC).Xw q OP
  have ha:=MH l hfull ((aM bad 32).take k)
  iterate 3 refine af ?_
  refine⟨rfl,rfl,?_⟩
  refine af ?_
  refine aF.aB 6 mixed (by kernel_rfl) (by decide) ?_
  refine Kq (Kl (.p (.int .u32 (((Gf l (2^l.length - 1) ((aM bad 32).take k)):Nat):Int)))) ?_
  refine af ?_
  refine Kq (aa.aG rfl rfl FI) ?_
  refine af ?_
  refine Kq (Kp (nC (nG hC) nK _ _ (zx l hC) q OP)) ?_
  refine Kq (aa.pR (Gf l (2^l.length - 1) ((aM bad 32).take k)) (b6 l q) rfl rfl rfl (by first | (show _<=(9223372036854775807:Int);omega) | (show _<=(4294967295:Int);omega) | (show _<=(18446744073709551615:Int);omega) | (show _<=(255:Int);omega) | (show _<=(65535:Int);omega)) (by first | decide | (show _<=(9223372036854775807:Int);omega) | (show _<=(4294967295:Int);omega) | (show _<=(18446744073709551615:Int);omega) | (show _<=(255:Int);omega) | (show _<=(65535:Int);omega))) ?_
  refine av.nil ?_
  iterate 2 refine af ?_
  exact⟨_,rfl,by rw[gP hq,On];exact To.sub Sub.nil⟩
 ·intro h hJ
  subst hJ
  rw[iF,ZV]
  iterate 4 refine af ?_
  refine Kc (Kp (sJ good)) ?_
  iterate 2 refine af ?_
  refine aF.rangeFunc 0 rfl (fun _=>rfl) an (oJ good aaO) (Zf _) (Zp _) (fun _ h=>by cases h) (fun x hx=>by unfold lA at hx;simp at hx;obtain⟨j,_,rfl⟩:=hx;rfl) rfl (fun k h=>h=[.cells [.p (.int .u32 (((JR l (Gf l (2^l.length - 1) (aM bad 32)) ((aM good 32).take k)):Nat):Int))] 209,.dead]) (fun c h=>False) (fun _ _ h=>by rw[h];rfl) (fun _ _ h=>h.elim) rfl ?_ ?_ ?_
  ·intro lx tmps k h x hJ hx
   subst hJ
   obtain⟨q,hq,rfl⟩:=jr hx
   have OV:=cg.1 (Zh hq)
   have OP:q<l.length:=fB hgd OV.2
   have hr:=(nG hC).Xw q OP
   have ha:=UM l (MH l hfull (aM bad 32)) ((aM good 32).take k)
   iterate 3 refine af ?_
   refine⟨rfl,rfl,?_⟩
   refine af ?_
   refine aF.aB 6 mixed (by kernel_rfl) (by decide) ?_
   refine Kq (Kl (.p (.int .u32 (((JR l (Gf l (2^l.length - 1) (aM bad 32)) ((aM good 32).take k)):Nat):Int)))) ?_
   refine af ?_
   refine Kq (aa.aG rfl rfl FI) ?_
   refine af ?_
   refine Kq (Kp (nC (nG hC) nK _ _ (zx l hC) q OP)) ?_
   refine Kq (aa.QU (JR l (Gf l (2^l.length - 1) (aM bad 32)) ((aM good 32).take k)) (b6 l q) rfl rfl rfl (by first | (show _<=(9223372036854775807:Int);omega) | (show _<=(4294967295:Int);omega) | (show _<=(18446744073709551615:Int);omega) | (show _<=(255:Int);omega) | (show _<=(65535:Int);omega))) ?_
   refine av.nil ?_
   iterate 2 refine af ?_
   exact⟨_,rfl,by rw[gP hq,N2];exact To.sub Sub.nil⟩
  ·intro h hJ
   subst hJ
   rw[iF,ZV,L0 nK hbd hgd]
   iterate 2 refine af ?_
   refine Kc (Kl (.p (.int .u32 ((gv l bad good:Nat):Int)))) ?_
   exact dO
  ·exact gY
 ·exact gY
theorem qg(l:List bY)(bad good:Int)(hb:l.length<=cN):Pure Tryz.prog 94 [fF l,.int .i64 bad,.int .i64 good] (.tuple [.int .i64 ((lG l bad good:Nat):Int),.int .i64 (ji l bad good)]):=by
 refine Kf (N:=30) Tryz.func94 ?_
 iterate 11 refine af ?_
 refine Kc (aa.aR rfl an (by decide) rfl rfl rfl) ?_
 refine Kc (Kp (EE l [bad,good] hb (by unfold cN;show 2<=_;omega))) ?_
 iterate 7 refine af ?_
 refine Ki (fun hc0=> ?_) fun hc0=> ?_
 ·have hE:jA l [bad,good]≠0:=by simpa using hc0
  iterate 7 refine af ?_
  refine Fin.dI (xs:=[.int .i64 0,.int .i64 (jA l [bad,good])]) rfl (⟨_,_,rfl,rfl,⟨_,_,rfl,rfl,rfl⟩⟩) rfl ?_
  have e:ji l bad good=jA l [bad,good]:=by unfold ji;rw[if_pos hE]
  unfold lG;rw[e,if_neg hE];rfl
 ·have hE:jA l [bad,good]=0:=by simpa using hc0
  have hC:=(xJ hE).1
  have hS:=(xJ hE).2
  have nK:=cG hC
  have IU:=E5 nK
  have hS1:=hS bad (by simp)
  have hS2:=hS good (by simp)
  iterate 7 refine af ?_
  refine Ki (fun cK=> ?_) fun cK=> ?_
  ·have hz:bad=0:=by simpa using cK
   iterate 6 refine af ?_
   refine Fin.dI (xs:=[.int .i64 0,.int .i64 4]) rfl (⟨_,_,rfl,rfl,⟨_,_,rfl,rfl,rfl⟩⟩) rfl ?_
   have e:ji l bad good=4:=by unfold ji;rw[if_neg (not_not_intro hE),if_pos hz]
   unfold lG;rw[e,if_neg (by decide)];rfl
  ·have hz:¬ bad=0:=by simpa using cK
   obtain⟨bad,rfl⟩:∃ m:Nat,bad=(m:Int):=⟨bad.toNat,by omega⟩
   obtain⟨good,rfl⟩:∃ m:Nat,good=(m:Int):=⟨good.toNat,by omega⟩
   iterate 5 refine af ?_
   refine Kc (aa.dS rfl rfl (by rw[B0];rfl) tw (xz ?_)) ?_
   ·unfold pw at IU hS1;omega
   refine af ?_
   refine Kc (aa.dS rfl rfl (by rw[B0];rfl) tw (xz ?_)) ?_
   ·unfold pw at IU hS2;omega
   refine Kc (Kp (Ou l bad good hC (by unfold pw at hS1;omega) (by unfold pw at hS2;omega))) ?_
   iterate 8 refine af ?_
   refine Ki (fun jb=> ?_) fun jb=> ?_
   ·have hn:gv l bad good=0:=by have h:((gv l bad good:Nat):Int)=0:=(by simpa using jb);omega
    iterate 6 refine af ?_
    refine Fin.dI (xs:=[.int .i64 0,.int .i64 6]) rfl (⟨_,_,rfl,rfl,⟨_,_,rfl,rfl,rfl⟩⟩) rfl ?_
    have e:ji l (bad:Int) (good:Int)=6:=by unfold ji;rw[if_neg (not_not_intro hE),if_neg hz,if_pos (show gv l (bad:Int).toNat (good:Int).toNat=0 from hn)]
    unfold lG;rw[e,if_neg (by decide)];rfl
   ·have hn:¬ gv l bad good=0:=by intro h;rw[h] at jb;simp at jb
    iterate 4 refine af ?_
    refine Kc (aa.dS rfl rfl (by rw[tw];rfl) B0 (aI ?_)) ?_
    ·have h2:=BC l bad good;unfold pw at IU;omega
    iterate 4 refine af ?_
    refine Fin.dI (xs:=[.int .i64 ((gv l bad good:Nat):Int),.int .i64 0]) rfl (⟨_,_,rfl,rfl,⟨_,_,rfl,rfl,rfl⟩⟩) rfl ?_
    have e:ji l (bad:Int) (good:Int)=0:=by unfold ji;rw[if_neg (not_not_intro hE),if_neg hz,if_neg (show ¬ gv l (bad:Int).toNat (good:Int).toNat=0 from hn)]
    unfold lG;rw[e,if_pos rfl];rfl
theorem Ah{l:List bY}{bad good:Int}(h:ji l bad good=0):cJ l∧(0<=bad∧bad<=pw l.length - 1)∧(0<=good∧good<=pw l.length - 1)∧bad≠0∧lG l bad good=gv l bad.toNat good.toNat∧lG l bad good≠0∧lG l bad good<2^l.length:=by
 have hR:lG l bad good=gv l bad.toNat good.toNat:=by unfold lG;rw[if_pos h]
 have h2:=h
 unfold ji at h2
 split at h2
 ·rename_i h3;exact absurd h2 h3
 ·rename_i h3
  have h3:jA l [bad,good]=0:=by omega
  obtain⟨hC,hS⟩:=xJ h3
  split at h2
  ·cases h2
  ·rename_i h4
   split at h2
   ·cases h2
   ·rename_i h5
    exact⟨hC,hS bad (by simp),hS good (by simp),h4,hR,by rw[hR];exact h5,by rw[hR];exact BC _ _ _⟩
theorem IB(l:List bY)(bad good:Int)(hb:l.length<=cN):Pure Tryz.prog 98 [fF l,.int .i64 bad,.int .i64 good] (.tuple [.int .i64 ((xY l bad good:Nat):Int),.agg [.int .i64 (lS l bad good).1,.int .i64 (lS l bad good).2],.int .i64 (ji l bad good)]):=by
 have iW:=hb
 unfold cN at iW
 refine Kf (N:=89) Tryz.func98 ?_
 iterate 12 refine af ?_
 refine Kc (Kp (qg l bad good hb)) ?_
 iterate 12 refine af ?_
 refine Ki (fun hc0=> ?_) fun hc0=> ?_
 ·have hE:ji l bad good≠0:=by simpa using hc0
  iterate 9 refine af ?_
  refine Fin.dI (xs:=[.int .i64 0,.agg [.int .i64 0,.int .i64 0],.int .i64 (ji l bad good)]) rfl (⟨_,_,rfl,rfl,⟨_,_,rfl,⟨_,_,_,rfl,an,rfl⟩,⟨_,_,rfl,rfl,rfl⟩⟩⟩) rfl ?_
  unfold xY lS;rw[if_neg hE,if_neg hE];rfl
 ·have hE:ji l bad good=0:=by simpa using hc0
  obtain⟨hC,_,_,_,hR,hne,hcl⟩:=Ah hE
  have nK:=cG hC
  have IU:=Zu (show 0<2 by omega) nK
  have aaP:lG l bad good<2^32:=by omega
  have hso:tO l<2^l.length:=HS l l.length
  iterate 13 refine af ?_
  refine aF.norm [0,1] [(3,_),(7,_),(9,_),(10,_),(31,_),(32,_),(33,_)] [_,_] rfl KS rfl ?_
  refine aF.eU [3,6,7,8,9,10,13,14,15,16,17,18,19,31,32,47,48,49,50,51,52,53,54,55,56,57,58,59,60,61,62,63,64,65,66,67,68,69,70,71,72,73,74,75,76,77,78,79,80,81,82,83,84,85,86,87,88] (fun g=>[(33,.p (.int .i64 ((g:Nat):Int)))]) (fun g=>[.cells [.p (.int .i64 0),.p (.int .i64 0)] 24,.cells [.p (.int .u32 ((jC l g:Nat):Int))] 209]) (fun g=>g<=l.length) (fun g=>l.length - g) 0 (Zp _) (To.sub (Sub.zY (Sub.cons rfl (Sub.nil)))) (fun i hg=> ?_)
  iterate 5 refine af ?_
  refine Ki (fun cK=> ?_) fun cK=> ?_
  ·have hk0:i<l.length:=by have h:=Zg cK;omega
   have hsi:=HS l i
   have hpi:=Zu (show 0<2 by omega) (show i<=24 by omega)
   iterate 6 refine af ?_
   refine Kc (aa.aP (g:=bt l) wv rfl rfl rfl an Gd rfl (fun _=>rfl) (by decide) hk0) ?_
   refine Kc (Kl (.p (.agg (bt l i).cells))) ?_
   iterate 2 refine af ?_
   refine Kz (aa.store (H':=[.cells [.p (.int .i64 0),.p (.int .i64 0)] 24,.cells [.p (.int .u32 ((jC l i:Nat):Int))] 209,.cells ((bt l i).cells.map .p) 92]) rfl rfl rfl rfl rfl an rfl rfl) ?_
   iterate 4 refine af ?_
   refine Kc (Kl (.p (.int .i64 (bt l i).s))) ?_
   iterate 2 refine af ?_
   refine Ki (fun jb=> ?_) fun jb=> ?_
   ·have hF:jC l (i+1)=jC l i||| 2^i:=by rw[Ds,if_pos (Zg jb)]
    refine aF.aB 5 mixed (by kernel_rfl) (by decide) ?_
    refine Kq (Kl (.p (.int .u32 ((jC l i:Nat):Int)))) ?_
    refine af ?_
    refine Kq (aa.pE 1 i rfl rfl rfl (by show _<=(32:Nat);omega) (by show _<=(4294967295:Int);rw[ZL];omega)) ?_
    refine Kq (aa.aR rfl an (by decide) rfl rfl rfl) ?_
    refine Kq (Kp (oB [jC l i,1*2^i] (by intro x hx;simp at hx;rcases hx with rfl | rfl;{omega};{omega}) (by unfold cN;show 2<=_;omega))) ?_
    rw[or2,ZL,<- hF]
    refine av.nil ?_
    iterate 3 refine af ?_
    exact DW
   ·have hF:jC l (i+1)=jC l i:=by rw[Ds,if_neg (Zk jb)]
    iterate 2 refine af ?_
    exact DW
  ·obtain rfl:i=l.length:=by have h:=Zk cK;omega
   refine aF.exit ?_
   iterate 7 refine af ?_
   refine Kc (Kp (Cs l hC)) ?_
   iterate 12 refine af ?_
   refine Kc (aa.dS rfl rfl (by rw[B0];rfl) tw (xz ?_)) ?_
   ·omega
   refine Kc (Kp (sJ (lG l bad good))) ?_
   iterate 2 refine af ?_
   refine aF.rangeFunc 0 rfl (fun _=>rfl) an (oJ (lG l bad good) aaP) (Zf _) (Zp _) (fun _ h=>by cases h) (fun x hx=>by unfold lA at hx;simp at hx;obtain⟨j,_,rfl⟩:=hx;rfl) rfl (fun k h=>h=[.cells [.p (.int .i64 (GZ (((aM (lG l bad good) 32).take k).map (iS l))).1),.p (.int .i64 (GZ (((aM (lG l bad good) 32).take k).map (iS l))).2)] 24,.cells [.p (.int .u32 ((tO l:Nat):Int))] 209,.cells [.p (.int .u32 ((xN (((aM (lG l bad good) 32).take k).map (jc l)):Nat):Int))] 209,.cells [.p (IY l)] 213,.cells [.p (.bool (decide (k=0)))] 4]) (fun c h=>False) (fun _ _ h=>by rw[h];rfl) (fun _ _ h=>h.elim) rfl ?_ ?_ ?_
   ·intro lx tmps k h x hJ hx
    subst hJ
    obtain⟨q,hq,rfl⟩:=jr hx
    have OV:=cg.1 (Zh hq)
    have OP:q<l.length:=fB hcl OV.2
    have hol:=E0 l q
    have hal:=(sE hC).Xw q OP
    have how:jc l q<2^32:=by omega
    have aaT:xN (((aM (lG l bad good) 32).take k).map (jc l))<2^32:=EW fun x hx=>by obtain⟨j,_,rfl⟩:=zl.1 hx;have:=E0 l j;omega
    have eO:xN ((((aM (lG l bad good) 32).take k)++[q]).map (jc l))=xN (((aM (lG l bad good) 32).take k).map (jc l)++[jc l q]):=by rw[ZC];rfl
    iterate 3 refine af ?_
    refine⟨rfl,rfl,?_⟩
    iterate 2 refine af ?_
    refine aF.CA 9 mixed (by kernel_rfl) (by decide) ?_
    refine br.cons 53 rfl rfl rfl (Kl (.p (IY l))) (fun _=>(Kl (.p (IY l)))) ?_
    refine br.cons 54 rfl rfl rfl (aa.aG rfl rfl KU) (fun _=>(aa.aG rfl rfl KU)) ?_
    refine br.cons 55 rfl rfl rfl (aa.move rfl rfl) (fun _=>(aa.move rfl rfl)) ?_
    refine br.cons 56 rfl rfl rfl (Kp (nC (sE hC) nK _ _ (B4 l hC) q OP)) (fun _=>(Kp (nC (sE hC) nK _ _ (B4 l hC) q OP))) ?_
    refine br.cons 57 rfl rfl rfl (Kl (.p (.int .u32 ((tO l:Nat):Int)))) (fun _=>(Kl (.p (.int .u32 ((tO l:Nat):Int))))) ?_
    refine br.cons 58 rfl rfl rfl (aa.pR (mu l q) (tO l) rfl rfl rfl (by first | (show _<=(9223372036854775807:Int);omega) | (show _<=(4294967295:Int);omega) | (show _<=(18446744073709551615:Int);omega) | (show _<=(255:Int);omega) | (show _<=(65535:Int);omega)) (by first | decide | (show _<=(9223372036854775807:Int);omega) | (show _<=(4294967295:Int);omega) | (show _<=(18446744073709551615:Int);omega) | (show _<=(255:Int);omega) | (show _<=(65535:Int);omega))) (fun _=>(aa.pR (mu l q) (tO l) rfl rfl rfl (by first | (show _<=(9223372036854775807:Int);omega) | (show _<=(4294967295:Int);omega) | (show _<=(18446744073709551615:Int);omega) | (show _<=(255:Int);omega) | (show _<=(65535:Int);omega)) (by first | decide | (show _<=(9223372036854775807:Int);omega) | (show _<=(4294967295:Int);omega) | (show _<=(18446744073709551615:Int);omega) | (show _<=(255:Int);omega) | (show _<=(65535:Int);omega)))) ?_
    refine br.lay 18 rfl rfl rfl (aa.aO rfl an rfl) ?_
    refine br.cons 17 rfl rfl rfl (aa.assign rfl rfl) (fun _=>(aa.assign rfl rfl)) ?_
    refine br.put rfl rfl (by decide) (aa.store rfl rfl rfl rfl rfl an rfl rfl) rfl ?_
    refine br.nil ?_
    iterate 5 refine af ?_
    refine Kc (Kp (sJ (jc l q))) ?_
    iterate 2 refine af ?_
    refine aF.Gh 0 rfl (fun _=>rfl) an (oJ (jc l q) how) (Zf _) (Zp _) (fun l0 h=>⟨5,_,_,_,Zy h,rfl⟩) (fun x hx=>by unfold lA at hx;simp at hx;obtain⟨j,_,rfl⟩:=hx;rfl) rfl (fun H k2 h=>h=H.set 6 (.cells [.p (.int .i64 (qO l ((aM (jc l q) 32).take k2)))] 3)) (fun H c h=>False) (fun _ _ h=>by rw[h];rfl) (fun _ _ h=>h.elim) rfl ?_ ?_ ?_
    ·intro lx2 SZ k2 h x hJ hx
     subst hJ
     obtain⟨q2,Bb,rfl⟩:=jr hx
     have WH:=Ov (Zh Bb)
     have hB1:=So hC q k2
     have hB2:=(hC q2 WH).2.2
     iterate 3 refine af ?_
     refine⟨rfl,rfl,?_⟩
     refine af ?_
     refine aF.aB 7 mixed (by kernel_rfl) (by decide) ?_
     refine Kq (Kl (.p (.int .i64 (qO l ((aM (jc l q) 32).take k2))))) ?_
     iterate 2 refine af ?_
     refine Kq (aa.aP (g:=bt l) wv rfl rfl rfl an Gd rfl (fun _=>rfl) (by decide) WH) ?_
     refine af ?_
     refine Kq (Kl (.p (.int .i64 (bt l q2).s))) ?_
     refine Kq (aa.add rfl rfl rfl (aI ?_)) ?_
     ·omega
     refine av.nil ?_
     iterate 2 refine af ?_
     exact⟨_,rfl,by rw[gP Bb,JW];exact To.sub Sub.nil⟩
    ·intro h hJ
     subst hJ
     rw[iF,ZV]
     iterate 2 refine af ?_
     refine Kc (Kl (.p (.int .u32 ((xN (((aM (lG l bad good) 32).take k).map (jc l)):Nat):Int)))) ?_
     refine af ?_
     refine Kc (aa.aR rfl an (by decide) rfl rfl rfl) ?_
     refine Kc (Kp (oB [xN (((aM (lG l bad good) 32).take k).map (jc l)),jc l q] (by intro x hx;simp only[Zw,R5,or_false] at hx;rcases hx with rfl | rfl;{exact aaT};{omega}) (by unfold cN;show 2<=_;omega))) ?_
     rw[or2,<- Od,<- eO]
     iterate 5 refine af ?_
     refine Kc (Kl (.p (.bool (decide (k=0))))) ?_
     refine af ?_
     refine Ki (fun mc=> ?_) fun mc=> ?_
     ·obtain rfl:0=k:=by have h:=Zg mc;omega
      have e2:GZ ((((aM (lG l bad good) 32).take 0)++[q]).map (iS l))=(min (iS l q) (iS l q),max (iS l q) (iS l q)):=by show(iS l q,iS l q)=_;rw[Int.min_self,Int.max_self]
      have e3:decide (0+1=0)=false:=rfl
      refine af ?_
      refine Kc (Kl (.p (.int .i64 (iS l q)))) ?_
      refine Kc (Kl (.p (.int .i64 (iS l q)))) ?_
      iterate 7 refine af ?_
      refine Kc (Kl (.p (.int .i64 (iS l q)))) ?_
      refine Kc (aa.min2 rfl rfl rfl) ?_
      iterate 2 refine af ?_
      refine Kc (Kl (.p (.int .i64 (iS l q)))) ?_
      refine Kc (aa.max2 rfl rfl rfl) ?_
      iterate 3 refine af ?_
      refine⟨_,rfl,To.done [0,1,2,3,4,5] rfl Sub.nil ?_⟩
      rw[gP hq,e2,e3]
      rfl
     ·have hk0:¬ k=0:=Zk mc
      have e2:GZ ((((aM (lG l bad good) 32).take k)++[q]).map (iS l))=(min (GZ (((aM (lG l bad good) 32).take k).map (iS l))).1 (iS l q),max (GZ (((aM (lG l bad good) 32).take k).map (iS l))).2 (iS l q)):=by rw[ZC];exact Ll _ _ (by intro h;have h2:=congrArg List.length h;have h3:=(Za.1 hq).1;rw[Zr,EA,Km] at h2;omega)
      have e3:decide (k+1=0)=decide (k=0):=by rw[decide_eq_false hk0,decide_eq_false (by omega)]
      iterate 4 refine af ?_
      refine Kc (Kl (.p (.int .i64 (iS l q)))) ?_
      refine Kc (aa.min2 rfl rfl rfl) ?_
      iterate 2 refine af ?_
      refine Kc (Kl (.p (.int .i64 (iS l q)))) ?_
      refine Kc (aa.max2 rfl rfl rfl) ?_
      iterate 3 refine af ?_
      refine⟨_,rfl,To.done [0,1,2,3,4,5] rfl Sub.nil ?_⟩
      rw[gP hq,e2,e3]
      rfl
    ·exact gY
   ·intro h hJ
    subst hJ
    rw[iF,ZV]
    refine af ?_
    refine aF.aB 4 mixed (by kernel_rfl) (by decide) ?_
    refine Kq (Kl (.p (.int .u32 ((yD l (lG l bad good):Nat):Int)))) ?_
    refine Kq (aa.dS rfl rfl (by rw[tw];rfl) B0 (aI ?_)) ?_
    ·have:=GH nK hcl;omega
    refine Kq (Kl (.p (.agg [.int .i64 (xd l (lG l bad good)).1,.int .i64 (xd l (lG l bad good)).2]))) ?_
    refine af ?_
    refine av.nil ?_
    iterate 4 refine af ?_
    refine Fin.dI (xs:=[.int .i64 ((yD l (lG l bad good):Nat):Int),.agg [.int .i64 (xd l (lG l bad good)).1,.int .i64 (xd l (lG l bad good)).2],.int .i64 0]) rfl (⟨_,_,rfl,rfl,⟨_,_,rfl,⟨_,_,_,rfl,an,rfl⟩,⟨_,_,rfl,rfl,rfl⟩⟩⟩) rfl ?_
    unfold xY lS;rw[hE,if_pos rfl,if_pos rfl]
   ·exact gY
end Go.Proofs.YtibffijhebobmaaGreatDoor.Rx
end
