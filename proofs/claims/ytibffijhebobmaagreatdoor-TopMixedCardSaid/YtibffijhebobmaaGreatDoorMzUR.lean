/-
 Plain data of chapter 11: cards; sets by bits; the lowest bit of a set. No program in sight.
 Plain data of chapter 11: what a batch comes from, and what comes from it; a walk that marks what it met. No program in sight.
 Plain data of chapter 11: which batches can be to blame, what is called back, and what batches have in common. No program in sight.
 From what the statements' arguments of chapter 11 may hold to plain data; what the statements about ways ask. No program in sight.
 What the statements of chapter 11 about blame ask: the true one can be to blame, and what comes from it is called back. No program in sight.
 What the statement about no other batch of chapter 11 asks. No program in sight.
 What the document's own functions of chapter 11 compute, step by step. No program in sight.
 Small functions; sets by bits; what is valid.
 Ways, and all that they lead to.
 All that a way leads to.
 Ways from a batch; which batches can be to blame.
 What is called back.
 The document's own functions: sets, and what each batch comes from.
 The document's own functions: blame, and what batches have in common.
 The document's own function: what is called back.
-/
import Derived.Test.YtibffijhebobmaaGreatDoorPmU
import Derived.Test.YtibffijhebobmaaGreatDoorFaUD
import Derived.Test.YtibffijhebobmaaGreatDoorMzUF
import Derived.Test.YtibffijhebobmaaGreatDoorMzUZ
theorem Cj{A:Prop}(h:A:=by
 refine Kc (aa.add rfl rfl rfl (aG ?_)) ?_
 ·omega
 iterate 2 refine af ?_
 refine⟨i+1,?_,?_,?_⟩
 ·omega
 ·omega
 refine To.done [0,1] rfl KS ?_
 rw[hF]
 rfl):A:=h
theorem Dx{A:Prop}(h:A:=by
 intro a
 rw[Sq,ih,Oy,NC]
 simp only[Zr,exists_eq_or_imp,or_assoc]):A:=h
set_option linter.unusedSimpArgs false
set_option linter.unusedVariables false
section
namespace Go.Proofs.YtibffijhebobmaaGreatDoor.Rx
open Go.AF
structure b6 where
 f:Int
 s:Int
deriving DecidableEq
def b6.cells(b:b6):List PV:=[.int .i64 b.f,.int .i64 b.s]
def jX(l:List b6):PV:= .is (l.flatMap b6.cells) l.length
def bt(l:List b6)(i:Nat):b6:=l.getD i ⟨0,0⟩
theorem vp{l:List b6}:∀ k (h:k<l.length),l[k]=bt l k:=fun k h=>by
 unfold bt
 exact vE
def cj:Nat:=9223372036854775807
def iR(n lo hi:Int):Bool:=decide (lo<=n)&&decide (n<=hi)
def i1(n:Int):List PV:=[.int .i64 n]
def u1(n:Nat):List PV:=[.int .u32 (n:Int)]
theorem K9:∀ n:Nat,n≠0->∃ k m,n=2^k*(2*m+1):=by
 intro n
 induction n using Nat.strongRecOn with
 | ind n ih=>
  intro h
  rcases Nat.mod_two_eq_zero_or_one n with h1 | h1
  ·obtain⟨k,m,e⟩:=ih (n / 2) (by omega) (by omega)
   refine⟨k+1,m,?_⟩
   have:n=2*(n / 2):=by omega
   rw[Vi,Nat.mul_comm (2^k) 2,Nat.mul_assoc,<- e]
   exact this
  ·exact⟨0,n / 2,by omega⟩
theorem Rc(m j:Nat):(2*m+1).testBit j=if j=0 then true else m.testBit (j - 1):=by
 cases j with
 | zero=>simp[XH]
 | succ j=>rw[Nat.testBit_succ,show(2*m+1) / 2=m by omega,if_neg (by omega),Nat.add_sub_cancel]
theorem LV(m j:Nat):(2*m).testBit j=if j=0 then false else m.testBit (j - 1):=by
 cases j with
 | zero=>simp[XH]
 | succ j=>rw[Nat.testBit_succ,show 2*m / 2=m by omega,if_neg (by omega),Nat.add_sub_cancel]
theorem tM(k m i:Nat):(2^k*(2*m+1)).testBit i=(decide (k<=i)&&if i=k then true else m.testBit (i - k - 1)):=by
 rw[YQ,Rc]
 by_cases h:k<=i
 ·by_cases h2:i=k
  ·subst h2;simp
  ·rw[if_neg (by omega),if_neg h2]
 ·simp[h]
theorem wR(k m i:Nat):(2^k*(2*m+1) - 1).testBit i=if i<k then true else if i=k then false else m.testBit (i - k - 1):=by
 have hp:=PE k
 have e:2^k*(2*m+1) - 1=2^k*(2*m)+(2^k - 1):=by rw[Nat.mul_add,Ku];omega
 rw[e,Ti _ (by omega)]
 split
 ·rename_i h
  rw[Nat.testBit_two_pow_sub_one];simp[h]
 ·rename_i h
  rw[LV]
  by_cases h2:i=k
  ·rw[if_pos (by omega),if_pos h2]
  ·rw[if_neg (by omega),if_neg h2]
theorem JO(k m:Nat):2^k*(2*m+1)&&& (2^k*(2*m+1) - 1)=2^(k+1)*m:=by
 apply Ky
 intro i
 rw[N8,tM,wR,YQ]
 by_cases h:i<k
 ·simp[show ¬ k<=i by omega,show ¬ k+1<=i by omega]
 ·by_cases h2:i=k
  ·subst h2;simp[show ¬ i+1<=i by omega]
  ·simp[h,h2,show k<=i by omega,show k+1<=i by omega,Nat.sub_sub]
theorem Bd(k m:Nat)(h:2^k*(2*m+1)<2^32):2^k*(2*m+1)&&& (2^32 - 2^k*(2*m+1))=2^k:=by
 have hp:=PE k
 have h1:1<=2^k*(2*m+1):=Nat.mul_pos hp (by omega)
 have hk:k<32:=by
  rcases ZD k 32 with h2 | h2
  ·exact h2
  ·exact uE
 apply Ky
 intro i
 have e:2^32 - 2^k*(2*m+1)=2^32 - ((2^k*(2*m+1) - 1)+1):=by omega
 rw[e,N8,Nat.testBit_two_pow_sub_succ (by omega),tM,wR,K4]
 by_cases h2:i<k
 ·simp[show ¬ k<=i by omega,show ¬ k=i by omega]
 ·exact B6
theorem UT{k m:Nat}(h:2^k*(2*m+1)<2^32):k<32:=by
 rcases ZD k 32 with h2 | h2
 ·exact h2
 ·exact uE
def LW:List Int:=[0,1,28,2,29,14,24,3,30,22,20,15,25,17,4,8,31,27,13,23,21,19,16,7,26,12,18,6,11,5,10,9]
theorem Ue:∀ k:Nat,k<32->LW[2^k*125613361%4294967296 / 2^27]? =some (k:Int):=by decide
def pS(n p:Nat):Nat:=n / 2^p*2^p
theorem F3(n p i:Nat):(pS n p).testBit i=(decide (p<=i)&&n.testBit i):=by
 unfold pS
 rw[Nat.mul_comm,YQ,Nat.testBit_div_two_pow]
 by_cases h:p<=i
 ·simp[h]
 ·simp[h]
def aM(n p:Nat):List Nat:=(List.range p).filter fun i=>n.testBit i
theorem o5(n p:Nat):aM n (p+1)=if n.testBit p then aM n p++[p] else aM n p:=by
 unfold aM
 rw[List.range_succ,List.filter_append]
 cases h:n.testBit p <;> simp[h]
theorem oY{n p:Nat}:∀{k:Nat},p<=k->(∀ i,p<=i->i<k->n.testBit i=false)->aM n k=aM n p:=by
 intro k
 induction k with
 | zero=>intro h _;obtain rfl:p=0:=by omega
         rfl
 | succ k ih=>
  intro h h2
  rcases ZD p (k+1) with h1 | h1
  ·rw[o5,h2 k (by omega) (by omega)]
   exact ih (by omega) fun i a b=>h2 i a (by omega)
  ·obtain rfl:p=k+1:=by omega
   rfl
theorem GP{n p:Nat}(hn:n<2^32)(hp:p<=32)(h:pS n p≠0):∃ k,p<=k∧k<32∧pS n p&&& (2^32 - pS n p)=2^k∧pS n p&&& (pS n p - 1)=pS n (k+1)∧aM n (k+1)=aM n p++[k]:=by
 obtain⟨k,m,e⟩:=K9 _ h
 have hlt:pS n p<2^32:=Yg (Nat.div_mul_le_self _ _) hn
 have hk:=UT (e▸hlt)
 have hb:∀ i,(decide (p<=i)&&n.testBit i)=(decide (k<=i)&&if i=k then true else m.testBit (i - k - 1)):=fun i=>by rw[<- F3,e,tM]
 have hpk:p<=k∧n.testBit k=true:=by
  have:=hb k
  simp at this
  exact this
 have hlow:∀ i,p<=i->i<k->n.testBit i=false:=fun i h1 h2=>by
  have:=hb i
  simp[h1,show ¬ k<=i by omega] at this
  exact this
 refine⟨k,hpk.1,hk,by rw[e];exact Bd k m (e▸hlt),?_,?_⟩
 ·rw[e,JO]
  apply Ky
  intro i
  rw[F3,YQ]
  by_cases h1:k+1<=i
  ·have:=hb i
   simp[show p<=i by omega,show k<=i by omega,show ¬ i=k by omega] at this
   simp[h1,this,Nat.sub_sub]
  ·simp[h1]
 ·rw[o5,hpk.2,if_pos rfl,oY hpk.1 hlow]
theorem Gt{n p:Nat}(hp:p<=32)(h:pS n p=0):aM n 32=aM n p:=by
 refine oY hp fun i h1 h2=> ?_
 have:=F3 n p i
 rw[h] at this
 simp[h1] at this
 exact this
theorem HF(n:Nat):pS n 0=n:=by simp[pS]
theorem RI(n p:Nat):pS n p<=n:=Nat.div_mul_le_self _ _
theorem Ix(n:Nat){p q:Nat}(h:p<=q):aM n p<+:aM n q:=by
 induction q with
 | zero=>obtain rfl:p=0:=by omega
         exact ZI _
 | succ q ih=>
  rcases ZD p (q+1) with h1 | h1
  ·refine(ih (by omega)).trans ?_
   rw[o5]
   split
   ·exact U3 _ _
   ·exact ZI _
  ·obtain rfl:p=q+1:=by omega
   exact ZI _
theorem K1{n p k:Nat}(hk:k<32)(h:aM n (k+1)=aM n p++[k]):(aM n 32)[(aM n p).length]? =some k:=by
 obtain⟨t,ht⟩:=Ix n (show k+1<=32 by omega)
 rw[<- ht,h,ZH,Zi (Ze _),OX]
 rfl
theorem b7{n p i:Nat}:i∈aM n p↔i<p∧n.testBit i=true:=by
 unfold aM
 rw[List.mem_filter,xe]
theorem E1{n p:Nat}:p<=32->(aM n p).length<=32:=fun h=>by
 unfold aM
 exact ZT (List.length_filter_le _ _) (by rw[Ko];exact h)
def kX(n:Nat):List (List V):=(aM n 32).map fun k=>[V.p (.int .i64 ((k:Nat):Int))]
theorem ij(n:Nat):(kX n).length=(aM n 32).length:=by simp[kX]
theorem Lz{n p k:Nat}(hk:k<32)(h:aM n (k+1)=aM n p++[k]):(kX n)[(aM n p).length]? =some [V.p (.int .i64 ((k:Nat):Int))]:=by
 unfold kX
 rw[Zt,K1 hk h];rfl
theorem Ik(n:Int):IntKind.u32.wrap n=n%4294967296:=by simp[IntKind.wrap,IntKind.bits,IntKind.signed]
theorem SD{n:Nat}(h:0<n)(h2:n<2^32):IntKind.u32.wrap (0 - (n:Int))=((2^32 - n:Nat):Int):=by
 rw[Ik]
 omega
theorem Uh(k:Nat):IntKind.u32.wrap (((2^k:Nat):Int)*125613361)=((2^k*125613361%4294967296:Nat):Int):=by
 rw[Ik]
 omega
def xk(l:List Nat):Nat:=l.foldl (· ||| ·) 0
theorem Nl{l:List Nat}{k:Nat}(h:k<l.length):xk (l.take (k+1))=xk (l.take k)||| l[k]:=by
 unfold xk
 rw[ZX h,R9];rfl
theorem FC{l:List Nat}(h:∀ x∈l,x<2^32):xk l<2^32:=by
 unfold xk
 have:∀(l:List Nat) (a:Nat),a<2^32->(∀ x∈l,x<2^32)->l.foldl (· ||| ·) a<2^32:=fun l=>by
  induction l with
  | nil=>intro a h _;exact h
  | cons x l ih=>intro a h h2;exact ih _ (Qu h (h2 x (by simp))) fun y hy=>h2 y (by simp[hy])
 exact this l 0 (by decide) h
theorem YL(a b:Nat):xk [a,b]=a||| b:=by unfold xk;simp
def ut(l:List Nat)(i:Nat):Nat:=l.getD i 0
theorem FY{l:List Nat}:∀ k (h:k<l.length),l[k]=ut l k:=fun k h=>by
 unfold ut
 exact vE
theorem T6{l:List Nat}{i:Nat}(h:i<l.length):ut l i∈l:=by rw[<- FY i h];exact ZZ _
def pw(n:Nat):Int:=((2^n:Nat):Int)
theorem aaG{n m:Nat}(h:n<=m):1<=pw n∧pw n<=pw m:=by
 unfold pw
 have h1:=PE n
 have h2:=Zy (show 0<2 by omega) h
 omega
theorem F0{n:Nat}(h:n<=24):1<=pw n∧pw n<=16777216:=aaG h
def Cl(l:List b6)(j:Nat):Prop:=j<24∧(0<=(bt l j).f∧(bt l j).f<=pw j - 1)∧0<=(bt l j).s∧(bt l j).s<=1048576
instance (l:List b6) (j:Nat):Decidable (Cl l j):=by unfold Cl;infer_instance
def cH(l:List b6):Prop:=∀ j,j<l.length->Cl l j
instance (l:List b6):Decidable (cH l):=by unfold cH;infer_instance
theorem c6{l:List b6}(h:cH l):l.length<=24:=by
 rcases ZD 24 l.length with h1 | h1
 ·have:=(h 24 h1).1;omega
 ·exact h1
def ju(l:List b6)(sets:List Int):Int:=if cH l then(if (sets.any fun n=> !iR n 0 (pw l.length - 1))=true then 2 else 0) else 1
def cg(l:List Int):PV:= .is (l.flatMap i1) l.length
def iG{α:Type}(p:α->Bool)(xs:List α):Int:=match xs.findIdx? p with
 | some i=>(i:Int)
 | none=> -1
theorem qu{α:Type}(p:α->Bool)(xs:List α)(i:Nat)(hi:i<xs.length)(hb:∀ j (h:j<i),p (xs[j]'(by omega))=false)(hp:p xs[i]=true):iG p xs=(i:Int):=by
 unfold iG
 have:xs.findIdx? p=some i:=by
  rw[Y3]
  exact⟨hi,hp,fun j h=>by rw[hb j h];decide⟩
 rw[this]
theorem ku{α:Type}(p:α->Bool)(xs:List α)(hb:∀ j (h:j<xs.length),p xs[j]=false):iG p xs= -1:=by
 unfold iG
 have:xs.findIdx? p=none:=by
  rw[List.findIdx?_eq_none_iff]
  intro x hx
  obtain⟨j,hj,rfl⟩:=Pz hx
  exact hb j hj
 rw[this]
theorem kZ{α:Type}(p:α->Bool)(xs:List α):decide (iG p xs>=0)=xs.any p:=by
 unfold iG
 cases h:xs.findIdx? p with
 | none=>
  rw[List.findIdx?_eq_none_iff] at h
  have:xs.any p=false:=Qe.2 fun x hx=>by rw[h x hx];decide
  rw[this];rfl
 | some i=>
  obtain⟨hi,hp,_⟩:=Y3.1 h
  have:xs.any p=true:=List.any_eq_true.2 ⟨_,ZZ hi,hp⟩
  rw[this]
  exact decide_eq_true (by show(0:Int)<=(i:Int);omega)
def pz(l:List b6)(i:Nat):Nat:=(bt l i).f.toNat
def jn(p:Nat->Bool):Nat->Nat
 | 0=>0
 | n+1=>if p n then jn p n+2^n else jn p n
theorem fY(p:Nat->Bool):∀ n,jn p n<2^n
 | 0=>Nat.lt_succ_self 0
 | n+1=>by
  have:=fY p n
  unfold jn
  rw[Vi]
  split <;> omega
theorem An{a n:Nat}(h:a<2^n)(i:Nat):(a+2^n).testBit i=if i<n then a.testBit i else decide (i=n):=by
 have:=Ti 1 h i
 rw[Ku,Nat.add_comm] at this
 rw[this]
 by_cases h1:i<n
 ·rw[if_pos h1,if_pos h1]
 ·rw[if_neg h1,if_neg h1]
  by_cases h2:i=n
  ·subst h2;simp
  ·rw[decide_eq_false h2]
   exact TG (Nat.one_lt_two_pow (by omega))
theorem ig(p:Nat->Bool):∀ n i,(jn p n).testBit i=(decide (i<n)&&p i)
 | 0,i=>by simp[jn]
 | n+1,i=>by
  have hlt:=fY p n
  have ih:=ig p n i
  unfold jn
  cases hp:p n with
  | true=>
   rw[if_pos rfl,An hlt,ih]
   by_cases h1:i<n
   ·simp[h1,show i<n+1 by omega]
   ·by_cases h2:i=n
    ·subst h2;simp[hp]
    ·simp[h1,h2,show ¬ i<n+1 by omega]
  | false=>
   rw[if_neg (by decide),ih]
   by_cases h1:i<n
   ·simp[h1,show i<n+1 by omega]
   ·by_cases h2:i=n
    ·subst h2;simp[hp]
    ·simp[h1,show ¬ i<n+1 by omega]
def yZ(l:List b6)(t:List Nat)(n:Nat):Nat->Nat
 | 0=>2^n
 | k+1=>if (pz l n).testBit k then yZ l t n k||| ut t k else yZ l t n k
def oK(l:List b6):Nat->List Nat
 | 0=>[]
 | n+1=>oK l n++[yZ l (oK l n) n n]
theorem nL(l:List b6):∀ n,(oK l n).length=n
 | 0=>rfl
 | n+1=>by rw[oK,Zd,nL l n];rfl
def bS(l:List b6)(i:Nat):Nat:=ut (oK l (i+1)) i
theorem Mu(l:List b6){i:Nat}:∀{n:Nat},i<n->ut (oK l n) i=bS l i:=by
 intro n
 induction n with
 | zero=>intro h;omega
 | succ n ih=>
  intro h
  rcases ZD i n with h1 | h1
  ·rw[<- ih h1]
   unfold ut
   rw[oK,Zf,Zf,Zc (by rw[nL];exact h1)]
  ·obtain rfl:i=n:=by omega
   rfl
theorem Fh(l:List b6)(i:Nat):bS l i=yZ l (oK l i) i i:=by
 unfold bS ut
 rw[oK,Zf,Zi (by rw[nL];exact Ze _),nL,OX]
 rfl
theorem yG(l:List b6)(i x:Nat):∀ n,n<=i->((yZ l (oK l i) i n).testBit x=true↔x=i∨∃ k,k<n∧(pz l i).testBit k=true∧(bS l k).testBit x=true)
 | 0,_=>by
  show(2^i).testBit x=true↔_
  rw[K4,Zj]
  constructor
  ·intro h;exact .inl h.symm
  ·rintro(h | ⟨k,h,_⟩)
   ·exact h.symm
   ·omega
 | n+1,hn=>by
  have ih:=yG l i x n (by omega)
  unfold yZ
  split
  ·rename_i hb
   rw[Oy,NC,ih,Mu l (show n<i by omega)]
   constructor
   ·rintro((h | ⟨k,h1,h2⟩) | h)
    ·exact .inl h
    ·exact .inr ⟨k,by omega,h2⟩
    ·exact .inr ⟨n,by omega,hb,h⟩
   ·rintro(h | ⟨k,h1,h2,h3⟩)
    ·exact .inl (.inl h)
    ·rcases On.1 h1 with h4 | rfl
     ·exact .inl (.inr ⟨k,h4,h2,h3⟩)
     ·exact .inr h3
  ·rename_i hb
   rw[ih]
   constructor
   ·rintro(h | ⟨k,h1,h2⟩)
    ·exact .inl h
    ·exact .inr ⟨k,by omega,h2⟩
   ·rintro(h | ⟨k,h1,h2,h3⟩)
    ·exact .inl h
    ·rcases On.1 h1 with h4 | rfl
     ·exact .inr ⟨k,h4,h2,h3⟩
     ·exact absurd h2 hb
theorem iF(l:List b6)(i x:Nat):(bS l i).testBit x=true↔x=i∨∃ k,k<i∧(pz l i).testBit k=true∧(bS l k).testBit x=true:=by
 rw[Fh]
 exact yG l i x i (Ze _)
theorem su(l:List b6)(i:Nat):(bS l i).testBit i=true:=(iF l i i).2 (.inl rfl)
theorem PY(l:List b6):∀{i x:Nat},(bS l i).testBit x=true->x<=i:=by
 intro i
 induction i using Nat.strongRecOn with
 | ind i ih=>
  intro x h
  rcases(iF l i x).1 h with rfl | ⟨k,h1,_,h3⟩
  ·exact Ze _
  ·have:=ih k h1 h3;omega
theorem F7(l:List b6):∀{i j x:Nat},(bS l i).testBit j=true->(bS l j).testBit x=true->(bS l i).testBit x=true:=by
 intro i
 induction i using Nat.strongRecOn with
 | ind i ih=>
  intro j x h1 h2
  rcases(iF l i j).1 h1 with rfl | ⟨k,h3,h4,h5⟩
  ·exact h2
  ·exact(iF l i x).2 (.inr ⟨k,h3,h4,ih k h3 h5 h2⟩)
theorem GB(l:List b6)(i:Nat):bS l i<2^(i+1):=by
 apply Nat.lt_pow_two_of_testBit
 intro x hx
 cases h:(bS l i).testBit x with
 | false=>rfl
 | true=>have:=PY l h;omega
theorem wJ{l:List b6}(h:cH l){i k:Nat}(hi:i<l.length)(hk:(pz l i).testBit k=true):k<i:=by
 have h1:=(h i hi).2.1
 rcases ZD k i with h2 | h2
 ·exact h2
 ·exfalso
  have h3:pz l i<2^i:=by unfold pz;unfold pw at h1;omega
  rw[TG (ZR h3 (Zy (by omega) h2))] at hk
  cases hk
def lJ(l:List b6)(b:Nat):Nat:=jn (fun i=>(bS l i).testBit b) l.length
theorem lf(l:List b6)(b i:Nat):(lJ l b).testBit i=(decide (i<l.length)&&(bS l i).testBit b):=ig _ _ _
def yA(l:List b6)(b:Nat):Nat:=jn (fun i=>(pz l i).testBit b) l.length
theorem qz(l:List b6)(b i:Nat):(yA l b).testBit i=(decide (i<l.length)&&(pz l i).testBit b):=ig _ _ _
structure Way (N:Nat) (nx R rk:Nat->Nat):Prop where
 lt:∀ b,b<N->nx b<2^N
 Wh:∀ b,b<N->R b<2^N
 iff:∀ b,b<N->∀ x,(R b).testBit x=true↔x=b∨∃ k,(nx b).testBit k=true∧(R k).testBit x=true
 rk:∀ b,b<N->∀ k,(nx b).testBit k=true->rk k<rk b
 Tu:∀ b,b<N->∀ k,(nx b).testBit k=true->k<N
theorem Way.self{N:Nat}{nx R rk:Nat->Nat}(w:Way N nx R rk){b:Nat}(h:b<N):(R b).testBit b=true:=(w.iff b h b).2 (.inl rfl)
theorem Way.XJ{N:Nat}{nx R rk:Nat->Nat}(w:Way N nx R rk):∀(m b:Nat),b<N->rk b<=m->∀ x,(R b).testBit x=true->x<N∧(x=b∨rk x<rk b)
 | m,b,hb,hm,x,hx=>by
  rcases(w.iff b hb x).1 hx with rfl | ⟨k,h1,h2⟩
  ·exact⟨hb,.inl rfl⟩
  ·have h3:=w.rk b hb k h1
   have h4:=w.Tu b hb k h1
   match m,hm with
   | 0,hm=>omega
   | m+1,hm=>
    have:=w.XJ m k h4 (by omega) x h2
    refine⟨this.1,.inr ?_⟩
    rcases this.2 with rfl | h5 <;> omega
theorem Way.trans{N:Nat}{nx R rk:Nat->Nat}(w:Way N nx R rk):∀(m b:Nat),b<N->rk b<=m->∀ x y,(R b).testBit x=true->(R x).testBit y=true->(R b).testBit y=true
 | m,b,hb,hm,x,y,h1,h2=>by
  rcases(w.iff b hb x).1 h1 with rfl | ⟨k,h3,h4⟩
  ·exact h2
  ·have h5:=w.rk b hb k h3
   match m,hm with
   | 0,hm=>omega
   | m+1,hm=>exact(w.iff b hb y).2 (.inr ⟨k,h3,w.trans m k (w.Tu b hb k h3) (by omega) x y h4 h2⟩)
def Gn(R:Nat->Nat)(b M:Nat):Prop:=∀ x,M.testBit x=true->(R b).testBit x=true->∀ y,(R x).testBit y=true->M.testBit y=true
def pY(R:Nat->Nat)(M b:Nat):List Nat->Nat
 | ks=>ks.foldl (fun a k=>a||| R k) (M||| 2^b)
theorem vI(R:Nat->Nat)(M b x:Nat)(ks:List Nat):(pY R M b ks).testBit x=true↔M.testBit x=true∨x=b∨∃ k∈ks,(R k).testBit x=true:=by
 have:∀(ks:List Nat) (a:Nat),(ks.foldl (fun a k=>a||| R k) a).testBit x=true↔a.testBit x=true∨∃ k∈ks,(R k).testBit x=true:=fun ks=>by
  induction ks with
  | nil=>intro a;simp
  | cons k ks ih=>
   exact Dx
 unfold pY
 rw[this,Oy,NC,K4,Zj,or_assoc,eq_comm (a:=b)]
theorem J8(R:Nat->Nat)(M b:Nat)(ks:List Nat)(k:Nat):pY R M b (ks++[k])=pY R M b ks||| R k:=by
 unfold pY
 rw[R9];rfl
theorem LZ{N:Nat}{nx R rk:Nat->Nat}(w:Way N nx R rk){b M:Nat}(hb:b<N)(h:Gn R b M){ks:List Nat}(hk:∀ k∈ks,(nx b).testBit k=true){k:Nat}(hkb:(nx b).testBit k=true):Gn R k (pY R M b ks):=by
 intro x hx hxk y hy
 rw[vI] at hx ⊢
 have hxb:(R b).testBit x=true:=(w.iff b hb x).2 (.inr ⟨k,hkb,hxk⟩)
 rcases hx with h1 | rfl | ⟨k2,h2,h3⟩
 ·exact .inl (h x h1 hxb y hy)
 ·exfalso
  have h4:=w.rk x hb k hkb
  have h5:=(w.XJ (rk k) k (w.Tu x hb k hkb) (Ze _) x hxk).2
  rcases h5 with rfl | h5
  ·omega
  ·omega
 ·exact .inr (.inr ⟨k2,h2,w.trans (rk k2) k2 (w.Tu b hb k2 (hk k2 h2)) (Ze _) x y h3 hy⟩)
theorem Pv{N:Nat}{nx R rk:Nat->Nat}(w:Way N nx R rk){b M:Nat}(hb:b<N):pY R M b (aM (nx b) 32)=M||| R b∨32<N:=by
 rcases ZD 32 N with hN | hN
 ·exact .inr hN
 left
 apply Ky
 intro x
 have key:(pY R M b (aM (nx b) 32)).testBit x=true↔(M||| R b).testBit x=true:=by
  rw[vI,Oy,NC,w.iff b hb x]
  constructor
  ·rintro(h | h | ⟨k,h1,h2⟩)
   ·exact .inl h
   ·exact .inr (.inl h)
   ·exact .inr (.inr ⟨k,(b7.1 h1).2,h2⟩)
  ·rintro(h | h | ⟨k,h1,h2⟩)
   ·exact .inl h
   ·exact .inr (.inl h)
   ·exact .inr (.inr ⟨k,b7.2 ⟨by have:=w.Tu b hb k h1;omega,h1⟩,h2⟩)
 cases h1:(pY R M b (aM (nx b) 32)).testBit x with
 | true=>exact(key.1 h1).symm
 | false=>
  cases h2:(M||| R b).testBit x with
  | false=>rfl
  | true=>rw[key.2 h2] at h1;cases h1
theorem Po{N:Nat}{nx R rk:Nat->Nat}(w:Way N nx R rk){b M:Nat}(hb:b<N)(h:Gn R b M)(hm:M.testBit b=true):M||| R b=M:=by
 apply Ky
 intro x
 rw[Oy]
 cases h1:(R b).testBit x with
 | false=>rw[Bool.or_false]
 | true=>rw[h b hm (w.self hb) x h1];rfl
theorem ny{l:List b6}(h:cH l):Way l.length (pz l) (bS l) (fun b=>b):=by
 have oA:=c6 h
 refine⟨fun b hb=> ?_,fun b hb=> ?_,fun b hb x=> ?_,fun b hb k hk=>wJ h hb hk,fun b hb k hk=>by have:=wJ h hb hk;omega⟩
 ·have h1:=(h b hb).2.1
  have h2:=Zy (show 0<2 by omega) (show b<=l.length by omega)
  unfold pz
  unfold pw at h1
  omega
 ·exact ZR (GB l b) (Zy (by omega) hb)
 ·rw[iF]
  constructor
  ·rintro(h1 | ⟨k,_,h2⟩)
   ·exact .inl h1
   ·exact .inr ⟨k,h2⟩
  ·rintro(h1 | ⟨k,h2,h3⟩)
   ·exact .inl h1
   ·exact .inr ⟨k,wJ h hb h2,h2,h3⟩
theorem Jf{l:List b6}(h:cH l){b:Nat}(hb:b<l.length)(x:Nat):(lJ l b).testBit x=true↔x=b∨∃ k,(yA l b).testBit k=true∧(lJ l k).testBit x=true:=by
 rw[lf,Zk,Zj]
 constructor
 ·rintro⟨hx,h1⟩
  -- go back from x until the last step before b
  have key:∀ x,x<l.length->(bS l x).testBit b=true->x=b∨∃ k,(yA l b).testBit k=true∧(bS l x).testBit k=true:=by
   intro x
   induction x using Nat.strongRecOn with
   | ind x ih=>
    intro hx h1
    rcases(iF l x b).1 h1 with rfl | ⟨k,h2,h3,h4⟩
    ·exact .inl rfl
    ·rcases ih k h2 (by omega) h4 with rfl | ⟨m,h5,h6⟩
     ·refine .inr ⟨x,?_,su l x⟩
      rw[qz,h3];simp[hx]
     ·exact .inr ⟨m,h5,(iF l x m).2 (.inr ⟨k,h2,h3,h6⟩)⟩
  rcases key x hx h1 with h2 | ⟨k,h2,h3⟩
  ·exact .inl h2
  ·refine .inr ⟨k,h2,?_⟩
   rw[lf,h3];simp[hx]
 ·rintro(rfl | ⟨k,h1,h2⟩)
  ·exact⟨hb,su l x⟩
  ·rw[lf,Zk,Zj] at h2
   rw[qz,Zk,Zj] at h1
   have h3:(bS l k).testBit b=true:=(iF l k b).2 (.inr ⟨b,wJ h h1.1 h1.2,h1.2,su l b⟩)
   exact⟨h2.1,F7 l h2.2 h3⟩
theorem si{l:List b6}(h:cH l):Way l.length (yA l) (lJ l) (fun b=>l.length - b):=by
 refine⟨fun b _=>fY _ _,fun b _=>fY _ _,fun b hb x=>Jf h hb x,fun b hb k hk=> ?_,fun b hb k hk=> ?_⟩
 ·rw[qz,Zk,Zj] at hk
  have:=wJ h hk.1 hk.2
  show l.length - k<l.length - b
  omega
 ·rw[qz,Zk,Zj] at hk
  exact hk.1
def rO(i:Nat)(ms:List (Int×Nat))(ks:List Nat):List (Int×Nat):=ks.foldl (fun ms k=>aS ((k:Nat):Int) (((cB ((k:Nat):Int) ms).getD 0)||| 2^i) ms) ms
theorem IZ(i:Nat)(ms:List (Int×Nat))(ks:List Nat)(k:Nat):rO i ms (ks++[k])=aS ((k:Nat):Int) (((cB ((k:Nat):Int) (rO i ms ks)).getD 0)||| 2^i) (rO i ms ks):=by
 unfold rO
 rw[R9];rfl
theorem v7(i k:Nat):∀(ks:List Nat) (ms:List (Int×Nat)),ks.Nodup->(cB ((k:Nat):Int) (rO i ms ks)).getD 0=if k∈ks then(cB ((k:Nat):Int) ms).getD 0||| 2^i else(cB ((k:Nat):Int) ms).getD 0
 | [],ms,_=>by simp[rO]
 | q::ks,ms,hn=>by
  rw[ZC] at hn
  have ih:=v7 i k ks (aS ((q:Nat):Int) (((cB ((q:Nat):Int) ms).getD 0)||| 2^i) ms) hn.2
  rw[kD] at ih
  have e:rO i ms (q::ks)=rO i (aS ((q:Nat):Int) (((cB ((q:Nat):Int) ms).getD 0)||| 2^i) ms) ks:=rfl
  rw[e,ih]
  by_cases h:k=q
  ·subst h
   rw[if_neg hn.1,if_pos rfl,if_pos (by simp)]
   rfl
  ·have h2:¬ ((k:Nat):Int)=((q:Nat):Int):=by omega
   simp[h,h2]
theorem vO(n p:Nat):(aM n p).Nodup:=by
 unfold aM
 exact List.Pairwise.filter _ List.nodup_range
def wA(l:List b6):Nat->List (Int×Nat)
 | 0=>[]
 | i+1=>rO i (wA l i) (aM (pz l i) 32)
theorem uI{l:List b6}(h:cH l)(k:Nat):∀ n,n<=l.length->(cB ((k:Nat):Int) (wA l n)).getD 0=jn (fun i=>(pz l i).testBit k) n
 | 0,_=>rfl
 | n+1,hn=>by
  have oA:=c6 h
  have ih:=uI h k n (by omega)
  rw[wA,v7 _ _ _ _ (vO _ _),ih,jn]
  by_cases hb:(pz l n).testBit k=true
  ·have hk:=wJ h (show n<l.length by omega) hb
   rw[if_pos (b7.2 ⟨by omega,hb⟩),if_pos hb]
   apply Ky
   intro x
   have hlt:=fY (fun i=>(pz l i).testBit k) n
   rw[An hlt,Oy,K4]
   by_cases h1:x<n
   ·simp[h1,show ¬ n=x by omega]
   ·rw[if_neg h1,ig]
    simp[h1,eq_comm]
  ·rw[if_neg (fun h2=>hb (b7.1 h2).2),if_neg hb]
theorem je{n k:Nat}{x:List V}(h:(kX n)[k]? =some x):∃ q,(aM n 32)[k]? =some q∧x=[V.p (.int .i64 ((q:Nat):Int))]:=by
 unfold kX at h
 rw[Zt,Zl] at h
 obtain⟨q,h1,h2⟩:=h
 exact⟨q,h1,h2.symm⟩
theorem fJ{α:Type}{l:List α}{k:Nat}{q:α}(h:l[k]? =some q):l.take (k+1)=l.take k++[q]:=by
 obtain⟨h1,h2⟩:=Za.1 h
 rw[ZX h1,h2]
theorem PT{l:List b6}(h:cH l){i:Nat}(hi:i<l.length)(q k:Nat):(cB ((q:Nat):Int) (rO i (wA l i) ((aM (pz l i) 32).take k))).getD 0<2^32:=by
 have oA:=c6 h
 rw[v7 _ _ _ _ ((List.take_sublist _ _).nodup (vO _ _)),uI h q i (by omega)]
 have h1:=fY (fun i=>(pz l i).testBit q) i
 have h2:=Zy (show 0<2 by omega) (show i<=31 by omega)
 have h3:jn (fun i=>(pz l i).testBit q) i<2^32:=by omega
 split
 ·exact Qu h3 (by omega)
 ·exact h3
def zJ(n:Nat):PV:= .int .u32 (n:Int)
def Jt(l:List b6):PV:=jZ (PV.int .i64) zJ (wA l l.length)
def uk(M:Nat):List Bool:=(List.range 24).map fun i=>M.testBit i
def b1(b:Bool):List PV:=[.bool b]
theorem uY{M i:Nat}(h:i<(uk M).length):(uk M)[i]=M.testBit i:=by simp[uk]
theorem vz(M:Nat):(uk M).length=24:=by simp[uk]
theorem L9{M b:Nat}(h:b<24):(uk M).set b true=uk (M||| 2^b):=by
 apply List.ext_getElem
 ·simp[uk]
 ·intro i h1 h2
  rw[vz] at h2
  rw[List.getElem_set,uY,uY,Oy,K4]
  by_cases h3:b=i
  ·subst h3;simp
  ·rw[if_neg h3]
   simp[h3]
theorem y9{a b:Nat}(h:∀ i,a.testBit i=true↔b.testBit i=true):a=b:=by
 apply Ky
 intro i
 have:=h i
 cases h1:a.testBit i <;> cases h2:b.testBit i <;> simp_all
theorem Fp{a n:Nat}(h:∀ i,a.testBit i=true->i<n):a<2^n:=by
 apply Nat.lt_pow_two_of_testBit
 intro i hi
 cases h1:a.testBit i with
 | false=>rfl
 | true=>have:=h i h1;omega
theorem fe{a n i:Nat}(h:a<2^n)(hi:a.testBit i=true):i<n:=by
 rcases ZD i n with h1 | h1
 ·exact h1
 ·rw[TG (ZR h (Zy (by omega) h1))] at hi
  cases hi
theorem LS{a:Nat}:a=0↔∀ i,a.testBit i=false:=by
 constructor
 ·rintro rfl i;exact Nat.zero_testBit i
 ·intro h;exact y9 fun i=>by rw[h i,Nat.zero_testBit]
theorem NK(n i:Nat):(2^n - 1).testBit i=decide (i<n):=Nat.testBit_two_pow_sub_one n i
def GX(l:List b6)(bad good i:Nat):Bool:=(List.range l.length).all fun k=>(!bad.testBit k||(bS l k).testBit i)&&(!good.testBit k|| !(bS l k).testBit i)
def fP(l:List b6)(bad good:Nat):Nat:=jn (GX l bad good) l.length
theorem Jl(l:List b6)(bad good i:Nat):GX l bad good i=true↔(∀ k,k<l.length->bad.testBit k=true->(bS l k).testBit i=true)∧∀ k,k<l.length->good.testBit k=true->(bS l k).testBit i=false:=by
 unfold GX
 simp only[Zz,xe,Zk,NC,Gc]
 constructor
 ·intro h
  refine⟨fun k hk hb=> ?_,fun k hk hg=> ?_⟩
  ·rcases(h k hk).1 with h1 | h1
   ·rw[hb] at h1;cases h1
   ·exact h1
  ·rcases(h k hk).2 with h1 | h1
   ·rw[hg] at h1;cases h1
   ·exact h1
 ·rintro⟨h1,h2⟩ k hk
  refine⟨?_,?_⟩
  ·cases hb:bad.testBit k with
   | false=>exact .inl rfl
   | true=>exact .inr (h1 k hk hb)
  ·cases hg:good.testBit k with
   | false=>exact .inl rfl
   | true=>exact .inr (h2 k hk hg)
theorem JQ(l:List b6)(bad good i:Nat):(fP l bad good).testBit i=(decide (i<l.length)&&GX l bad good i):=ig _ _ _
theorem AR(l:List b6)(bad good:Nat):fP l bad good<2^l.length:=fY _ _
theorem J9(l:List b6)(bad good i:Nat):(fP l bad good).testBit i=true↔i<l.length∧(∀ k,k<l.length->bad.testBit k=true->(bS l k).testBit i=true)∧∀ k,k<l.length->good.testBit k=true->(bS l k).testBit i=false:=by
 rw[JQ,Zk,Zj,Jl]
def Gb(l:List b6)(a:Nat)(ks:List Nat):Nat:=ks.foldl (fun a k=>a&&& bS l k) a
def IU(l:List b6)(a:Nat)(ks:List Nat):Nat:=ks.foldl (fun a k=>a^^^(a&&& bS l k)) a
theorem KW(l:List b6)(a:Nat)(ks:List Nat)(k:Nat):Gb l a (ks++[k])=Gb l a ks&&& bS l k:=by unfold Gb;rw[R9];rfl
theorem LF(l:List b6)(a:Nat)(ks:List Nat)(k:Nat):IU l a (ks++[k])=IU l a ks^^^(IU l a ks&&& bS l k):=by unfold IU;rw[R9];rfl
theorem zz(l:List b6)(i:Nat):∀(ks:List Nat) (a:Nat),(Gb l a ks).testBit i=true↔a.testBit i=true∧∀ k∈ks,(bS l k).testBit i=true
 | [],a=>by simp[Gb]
 | k::ks,a=>by
  have e:Gb l a (k::ks)=Gb l (a&&& bS l k) ks:=rfl
  rw[e,zz l i ks,N8,Zk]
  simp only[Zr,forall_eq_or_imp,and_assoc]
theorem M6(a b i:Nat):(a^^^(a&&& b)).testBit i=true↔a.testBit i=true∧b.testBit i=false:=by
 rw[Nat.testBit_xor,N8]
 cases a.testBit i <;> cases b.testBit i <;> simp
theorem zO(l:List b6)(i:Nat):∀(ks:List Nat) (a:Nat),(IU l a ks).testBit i=true↔a.testBit i=true∧∀ k∈ks,(bS l k).testBit i=false
 | [],a=>by simp[IU]
 | k::ks,a=>by
  have e:IU l a (k::ks)=IU l (a^^^(a&&& bS l k)) ks:=rfl
  rw[e,zO l i ks,M6]
  simp only[Zr,forall_eq_or_imp,and_assoc]
theorem Lx(l:List b6){n a:Nat}(h:a<2^n)(ks:List Nat):Gb l a ks<2^n:=Fp fun i hi=>fe h ((zz l i ks a).1 hi).1
theorem TT(l:List b6){n a:Nat}(h:a<2^n)(ks:List Nat):IU l a ks<2^n:=Fp fun i hi=>fe h ((zO l i ks a).1 hi).1
theorem MW{l:List b6}(oA:l.length<=24){bad good:Nat}(hb:bad<2^l.length)(hg:good<2^l.length):IU l (Gb l (2^l.length - 1) (aM bad 32)) (aM good 32)=fP l bad good:=by
 apply y9
 intro i
 rw[zO,zz,NK,Zj,J9]
 constructor
 ·rintro⟨⟨h1,h2⟩,h3⟩
  exact⟨h1,fun k hk hb=>h2 k (b7.2 ⟨by omega,hb⟩),fun k hk hg=>h3 k (b7.2 ⟨by omega,hg⟩)⟩
 ·rintro⟨h1,h2,h3⟩
  exact⟨⟨h1,fun k hk=>h2 k (fe hb (b7.1 hk).2) (b7.1 hk).2⟩,fun k hk=>h3 k (fe hg (b7.1 hk).2) (b7.1 hk).2⟩
def iS(l:List b6)(bad good:Int):Int:=if ju l [bad,good]≠0 then ju l [bad,good] else if bad=0 then 4 else if fP l bad.toNat good.toNat=0 then 6 else 0
def lz(l:List b6)(bad good:Int):Nat:=if iS l bad good=0 then fP l bad.toNat good.toNat else 0
def jy(l:List b6)(n:Nat):Nat:=jn (fun k=>decide ((bt l k).s>0)) n
def sY(l:List b6):Nat:=jy l l.length
def iN(l:List b6)(i:Nat):Nat:=lJ l i&&& sY l
def qI(l:List b6)(ks:List Nat):Int:=(ks.map fun k=>(bt l k).s).sum
theorem IQ(l:List b6)(ks:List Nat)(k:Nat):qI l (ks++[k])=qI l ks+(bt l k).s:=by
 unfold qI;rw[ZG,List.sum_append];simp
def iA(l:List b6)(i:Nat):Int:=qI l (aM (iN l i) 32)
theorem Ge(l:List b6)(i:Nat):iN l i<2^l.length:=Yg Nat.and_le_right (fY _ _)
theorem HS(l:List b6)(n:Nat):jy l n<2^n:=fY _ _
theorem Qo(l:List b6)(i k:Nat):(iN l i).testBit k=true↔k<l.length∧(bS l k).testBit i=true∧(bt l k).s>0:=by
 unfold iN sY jy
 rw[N8,lf,ig]
 simp only[Zk,Zj]
 constructor
 ·rintro⟨⟨h1,h2⟩,_,h3⟩;exact⟨h1,h2,h3⟩
 ·rintro⟨h1,h2,h3⟩;exact⟨⟨h1,h2⟩,h1,h3⟩
theorem Dz(l:List b6)(n:Nat):jy l (n+1)=if (bt l n).s>0 then jy l n||| 2^n else jy l n:=by
 have hlt:=fY (fun k=>decide ((bt l k).s>0)) n
 unfold jy
 rw[jn]
 by_cases h:(bt l n).s>0
 ·rw[if_pos h,if_pos (decide_eq_true h)]
  apply y9
  intro i
  rw[An hlt,Oy,K4,ig]
  by_cases h1:i<n
  ·simp[h1,show ¬ n=i by omega]
  ·simp[h1,eq_comm]
 ·rw[if_neg h,if_neg (by simpa using h)]
theorem Mt{l:List b6}(h:cH l):∀(ks:List Nat),(∀ k∈ks,k<l.length)->0<=qI l ks∧qI l ks<=ks.length*1048576
 | [],_=>by simp[qI]
 | k::ks,hk=>by
  have ih:=Mt h ks fun q hq=>hk q (by simp[hq])
  have h1:=(h k (hk k (by simp))).2.2
  have e:qI l (k::ks)=(bt l k).s+qI l ks:=by unfold qI;simp
  rw[e,Zn]
  push_cast
  omega
theorem MK{l:List b6}{i q:Nat}(h:q∈aM (iN l i) 32):q<l.length:=((Qo l i q).1 (b7.1 h).2).1
theorem R6{l:List b6}(h:cH l)(i k:Nat):0<=qI l ((aM (iN l i) 32).take k)∧qI l ((aM (iN l i) 32).take k)<=33554432:=by
 have h1:=Mt h ((aM (iN l i) 32).take k) fun q hq=>MK (Uf hq)
 have h2:((aM (iN l i) 32).take k).length<=32:=ZT (List.length_take_le' _ _) (E1 (Ze _))
 omega
theorem Lg{l:List b6}(h:cH l)(i:Nat):0<=iA l i∧iA l i<=33554432:=by
 have:=R6 h i (aM (iN l i) 32).length
 rw[ZS] at this
 exact this
def Hh:List Int->Int×Int
 | []=>(0,0)
 | n::ns=>ns.foldl (fun p n=>(min p.1 n,max p.2 n)) (n,n)
theorem KD(ns:List Int)(n:Int)(h:ns≠[]):Hh (ns++[n])=(min (Hh ns).1 n,max (Hh ns).2 n):=by
 cases ns with
 | nil=>exact absurd rfl h
 | cons m ns=>show(ns++[n]).foldl _ _=_;rw[R9];rfl
theorem Pg:∀(ns:List Int),ns≠[]->(∀ n∈ns,(Hh ns).1<=n∧n<=(Hh ns).2)∧(Hh ns).1∈ns∧(Hh ns).2∈ns:=by
 intro ns
 cases ns with
 | nil=>intro h;exact absurd rfl h
 | cons m ns=>
  intro _
  show(∀ n∈m::ns,(ns.foldl (fun p n=>(min p.1 n,max p.2 n)) (m,m)).1<=n∧n<=(ns.foldl (fun p n=>(min p.1 n,max p.2 n)) (m,m)).2)∧_∧_
  have key:∀(ns:List Int) (p:Int×Int),((ns.foldl (fun p n=>(min p.1 n,max p.2 n)) p).1<=p.1∧p.2<=(ns.foldl (fun p n=>(min p.1 n,max p.2 n)) p).2)∧(∀ n∈ns,(ns.foldl (fun p n=>(min p.1 n,max p.2 n)) p).1<=n∧n<=(ns.foldl (fun p n=>(min p.1 n,max p.2 n)) p).2)∧((ns.foldl (fun p n=>(min p.1 n,max p.2 n)) p).1=p.1∨(ns.foldl (fun p n=>(min p.1 n,max p.2 n)) p).1∈ns)∧((ns.foldl (fun p n=>(min p.1 n,max p.2 n)) p).2=p.2∨(ns.foldl (fun p n=>(min p.1 n,max p.2 n)) p).2∈ns):=by
   intro ns
   induction ns with
   | nil=>intro p;simp
   | cons a ns ih=>
    intro p
    obtain⟨h1,h2,h3,h4⟩:=ih (min p.1 a,max p.2 a)
    simp only[Sq,Zr]
    refine⟨⟨by omega,by omega⟩,fun n hn=> ?_,?_,?_⟩
    ·rcases hn with rfl | hn
     ·omega
     ·exact h2 n hn
    ·rcases h3 with h3 | h3
     ·rw[h3];show min p.1 a=_∨_;omega
     ·exact .inr (.inr h3)
    ·rcases h4 with h4 | h4
     ·rw[h4];show max p.2 a=_∨_;omega
     ·exact .inr (.inr h4)
  obtain⟨h1,h2,h3,h4⟩:=key ns (m,m)
  refine⟨fun n hn=> ?_,?_,?_⟩
  ·rcases Zr.1 hn with rfl | hn
   ·exact h1
   ·exact h2 n hn
  ·show(ns.foldl (fun p n=>(min p.1 n,max p.2 n)) (m,m)).1∈_
   rcases h3 with h3 | h3
   ·rw[h3];simp
   ·exact Zg _ h3
  ·show(ns.foldl (fun p n=>(min p.1 n,max p.2 n)) (m,m)).2∈_
   rcases h4 with h4 | h4
   ·rw[h4];simp
   ·exact Zg _ h4
def xZ(l:List b6)(can:Nat):Nat:=xk ((aM can 32).map (iN l))
def vv(l:List b6)(can:Nat):Int×Int:=Hh ((aM can 32).map (iA l))
theorem Nv(ns:List Nat)(n:Nat):xk (ns++[n])=xk ns||| n:=by unfold xk;rw[R9];rfl
theorem Qm(ns:List Nat)(i:Nat):(xk ns).testBit i=true↔∃ n∈ns,n.testBit i=true:=by
 have:∀(ns:List Nat) (a:Nat),(ns.foldl (· ||| ·) a).testBit i=true↔a.testBit i=true∨∃ n∈ns,n.testBit i=true:=fun ns=>by
  induction ns with
  | nil=>intro a;simp
  | cons n ns ih=>
   exact Dx
 unfold xk
 rw[this,Nat.zero_testBit]
 simp
theorem Mq{l:List b6}(oA:l.length<=24){can:Nat}(hc:can<2^l.length)(k:Nat):(xZ l can).testBit k=true↔∃ i,can.testBit i=true∧(iN l i).testBit k=true:=by
 unfold xZ
 rw[Qm]
 constructor
 ·rintro⟨n,h1,h2⟩
  obtain⟨i,h3,rfl⟩:=yu.1 h1
  exact⟨i,(b7.1 h3).2,h2⟩
 ·rintro⟨i,h1,h2⟩
  exact⟨_,yu.2 ⟨i,b7.2 ⟨by have:=fe hc h1;omega,h1⟩,rfl⟩,h2⟩
theorem G0{l:List b6}(oA:l.length<=24){can:Nat}(hc:can<2^l.length):xZ l can<2^l.length:=Fp fun i hi=>by
 obtain⟨k,_,h⟩:=(Mq oA hc i).1 hi
 exact fe (Ge l k) h
def xA(l:List b6)(bad good:Int):Nat:=if iS l bad good=0 then xZ l (lz l bad good) else 0
def lZ(l:List b6)(bad good:Int):Int×Int:=if iS l bad good=0 then vv l (lz l bad good) else(0,0)
def X7(l:List b6)(own i k:Nat):Bool:=decide (k≠i)&&own.testBit k
def R4(l:List b6)(own i:Nat):Bool:= !(aM (lJ l i) 32).any (X7 l own i)
theorem Vh{l:List b6}(oA:l.length<=24)(own i:Nat):R4 l own i=true↔∀ k,(lJ l i).testBit k=true->k≠i->own.testBit k=false:=by
 unfold R4 X7
 simp only[Gc,Qe,b7,Zk,Zj,not_and]
 constructor
 ·intro h k h1 h2
  have h3:k<l.length:=by rw[lf,Zk,Zj] at h1;exact h1.1
  cases h4:own.testBit k with
  | false=>rfl
  | true=>exact absurd h4 (h k ⟨by omega,h1⟩ h2)
 ·intro h k h1 h2 h3
  rw[h k h1.2 h2] at h3;cases h3
def fy(l:List b6)(b:Int):Int:=if cH l then(if iR b 0 ((l.length:Int) - 1)=true then 0 else 2) else 1
def kz(l:List b6)(R:Nat->Nat)(b:Int):Nat:=if fy l b=0 then R b.toNat else 0
theorem Pr(l:List b6):ju l []=if cH l then 0 else 1:=by unfold ju;simp
theorem vQ{l:List b6}{sets:List Int}(h:ju l sets=0):cH l∧∀ s∈sets,0<=s∧s<=pw l.length - 1:=by
 unfold ju at h
 split at h
 ·rename_i hC
  refine⟨hC,fun s hs=> ?_⟩
  split at h
  ·cases h
  ·rename_i hn
   simp only[Bool.not_eq_true,Qe] at hn
   have:=hn s hs
   simp[iR] at this
   exact this
 ·cases h
theorem toNat_lt{l:List b6}{s:Int}(h:0<=s∧s<=pw l.length - 1):s.toNat<2^l.length:=by unfold pw at h;omega
theorem Li{x:List PV}(h:oH [.leaf (.int .u32)] x):∃ n:Nat,x=[.int .u32 (n:Int)]∧n<2^32:=by
 obtain⟨n,e,h1,h2⟩:=Hu .u32 h
 have a1:(0:Int)<=n:=h1
 have a2:n<=4294967295:=h2
 exact⟨n.toNat,by rw[e,U9 a1],by omega⟩
theorem Iv{l:List b6}{can:Nat}(h:can≠0)(h32:can<2^32):((vv l can).1∈(aM can 32).map (iA l))∧(vv l can).2∈(aM can 32).map (iA l):=by
 have hne:(aM can 32).map (iA l)≠[]:=by
  intro h1
  rw[List.map_eq_nil_iff] at h1
  refine h (LS.2 fun i=> ?_)
  cases h2:can.testBit i with
  | false=>rfl
  | true=>
   have h3:i∈aM can 32:=b7.2 ⟨fe h32 h2,h2⟩
   rw[h1] at h3;cases h3
 exact(Pg _ hne).2
set_option maxRecDepth 100000
set_option maxHeartbeats 4000000
theorem aab:(6,LW.map (PV.int .u8))∈oQ Tryz.prog:=by
 have e:(oQ Tryz.prog)[0]? =some (6,LW.map (PV.int .u8)):=by kernel_rfl
 exact Zh e
theorem cv(n lo hi:Int):Pure Tryz.prog 185 [.int .i64 n,.int .i64 lo,.int .i64 hi] (.bool (iR n lo hi)):=by
 refine Kf (N:=15) Tryz.func185 ?_
 exact El
theorem MG(n k:Nat)(h0:0<n)(h:n<2^32)(hl:n&&& (2^32 - n)=2^k)(hk:k<32):Pure Tryz.prog 188 [.int .u32 (n:Int)] (.int .i64 ((k:Nat):Int)):=by
 have hT:(LW.map (PV.int .u8))[(((2^k*125613361%4294967296 / 2^27:Nat):Int)).toNat*1]? =some (.int .u8 ((k:Nat):Int)):=by rw[Ku,He,Zt,Ue k hk];rfl
 refine Kf (N:=14) Tryz.func188 ?_
 iterate 10 refine af ?_
 refine Ki (fun hc0=> ?_) fun hc0=> ?_
 ·exfalso
  simp at hc0
  omega
 ·iterate 5 refine af ?_
  refine Kc (aa.neg (m:=((2^32 - n:Nat):Int)) rfl rfl ?_) ?_
  ·exact SD h0 h
  refine Kc (aa.o8 n (2^32 - n) rfl rfl rfl (by first | (show _<=(9223372036854775807:Int);omega) | (show _<=(4294967295:Int);omega) | (show _<=(18446744073709551615:Int);omega) | (show _<=(255:Int);omega) | (show _<=(65535:Int);omega)) (by first | decide | (show _<=(9223372036854775807:Int);omega) | (show _<=(4294967295:Int);omega) | (show _<=(18446744073709551615:Int);omega) | (show _<=(255:Int);omega) | (show _<=(65535:Int);omega))) ?_
  rw[hl]
  refine Kc (aa.mul (m:=((2^k*125613361%4294967296:Nat):Int)) rfl rfl rfl ?_) ?_
  ·exact Uh k
  refine Kc (aa.xG (2^k*125613361%4294967296) 27 rfl rfl rfl (by first | decide | (show _<=(9223372036854775807:Int);omega) | (show _<=(4294967295:Int);omega) | (show _<=(18446744073709551615:Int);omega) | (show _<=(255:Int);omega) | (show _<=(65535:Int);omega))) ?_
  refine Kc (aa.yB (Sc:=LW.map (PV.int .u8)) aab rfl rfl WS Xd (by omega) (by omega)) ?_
  exact BU
theorem n9(n:Nat)(hn:n<2^32):K3 Tryz.prog 190 (fun y=>[y,.p (.ip [.int .u32 (n:Int)] 0)]) (kX n):=by
 intro l κ nn inv fin hκ Si Fu hb h0 vB
 refine jU.gN (N:=16) Tryz.func190 rfl rfl Kn ?_
 iterate 6 refine af ?_
 refine aI.sX [3,5,6,7,8,9,10,11,12,13,14,15] (fun g=>[(3,.p (.int .u32 ((pS n g.1:Nat):Int)))]) (fun g=>g.2) (fun g=>g.1<=32∧inv (aM n g.1).length g.2) (fun g=>32 - g.1) (0,h0) (show(0:Nat)<=32∧inv (aM n 0).length h0 from⟨Zv _,vB⟩) (To.sub (Sub.RA (Sub.cons (by show some (V.p (.int .u32 ((n:Nat):Int)))=_;rw[HF]) Sub.nil))) (fun g hg=> ?_)
 obtain⟨p,No⟩:=g
 obtain⟨hp,hinv⟩:=hg
 dsimp only at hp hinv ⊢
 have hle:=RI n p
 iterate 6 refine af ?_
 refine Ki (fun hc0=> ?_) fun hc0=> ?_
 ·have hne:pS n p≠0:=by intro h;rw[h] at hc0;simp at hc0
  obtain⟨k,hpk,TS,hlow,Uq,MN⟩:=GP hn hp hne
  iterate 7 refine af ?_
  refine Kc (Kp (MG (pS n p) k (by omega) (by omega) hlow TS)) ?_
  refine aj.yield 14 rfl rfl rfl rfl rfl rfl (hb _ _ _ hinv (Lz TS MN)) ?_
  intro b2 h2 Cz
  iterate 2 refine af ?_
  refine Ki (fun c8=> ?_) fun c8=> ?_
  ·have gZ:b2=false:=by simpa using c8
   subst gZ
   refine af ?_
   exact⟨.inr rfl,_,eT.none_ rfl,.inr Cz⟩
  ·have gZ:b2=true:=by simpa using c8
   subst gZ
   iterate 4 refine af ?_
   refine Kc (aa.fE (m:=((pS n p - 1:Nat):Int)) rfl rfl rfl ((vc ?_).trans ?_)) ?_
   ·omega
   ·omega
   refine Kc (aa.o8 (pS n p) (pS n p - 1) rfl rfl rfl (by first | (show _<=(9223372036854775807:Int);omega) | (show _<=(4294967295:Int);omega) | (show _<=(18446744073709551615:Int);omega) | (show _<=(255:Int);omega) | (show _<=(65535:Int);omega)) (by first | decide | (show _<=(9223372036854775807:Int);omega) | (show _<=(4294967295:Int);omega) | (show _<=(18446744073709551615:Int);omega) | (show _<=(255:Int);omega) | (show _<=(65535:Int);omega))) ?_
   iterate 2 refine af ?_
   refine⟨(k+1,h2),?_,?_,?_⟩
   ·exact⟨by dsimp only;omega,by dsimp only;rw[MN,Zd];exact Cz⟩
   ·show 32 - (k+1)<32 - p
    omega
   exact To.sub (Sub.cons (by show some (V.p (.int .u32 _))=_;rw[Uq]) KS)
 ·have hz:pS n p=0:=by have h:((pS n p:Nat):Int)=0:=(by simpa using hc0);omega
  have hall:=Gt hp hz
  refine aI.exit ?_
  exact⟨.inl rfl,_,eT.none_ rfl,.inl (by rw[ij,hall];exact hinv)⟩
theorem sK(n:Nat):Pure Tryz.prog 150 [.int .u32 (n:Int)] (.func (.func 190) [] [.ip [.int .u32 (n:Int)] 0]):=by
 refine Kf (N:=4) Tryz.func150 ?_
 exact uf
theorem ov(l:List Nat)(hl:∀ x∈l,x<2^32)(hb:l.length<=cj):Pure Tryz.prog 148 [.is (l.flatMap u1) l.length] (.int .u32 ((xk l:Nat):Int)):=by
 unfold cj at hb
 refine Kf (N:=16) Tryz.func148 ?_
 iterate 12 refine af ?_
 refine aI.SK [5,6,15] (fun g=>[(7,.p (.int .i64 ((g:Nat):Int))),(2,.p (.int .u32 ((xk (l.take g):Nat):Int)))]) (fun g=>g<=l.length) (fun g=>l.length - g) 0 (Zv _) (Sub.cons rfl (Sub.cons rfl (Sub.nil))) (fun i hg=> ?_)
 iterate 5 refine af ?_
 refine Ki (fun hc0=> ?_) fun hc0=> ?_
 ·have hk0:i<l.length:=by have h:=Zm hc0;omega
  have hx:=hl _ (T6 hk0)
  have ho:=FC (l:=l.take i) fun x hx=>hl x (Uf hx)
  have Vk:=FC (l:=l.take (i+1)) fun x hx=>hl x (Uf hx)
  have hT:=Nl hk0
  rw[FY i hk0] at hT
  rw[hT] at Vk
  iterate 5 refine af ?_
  refine Kc (aa.bg (g:=ut l) FY rfl rfl rfl an Wy rfl (fun _=>rfl) (by decide) hk0) ?_
  iterate 6 refine af ?_
  refine Kc (aa.Ve (xk (l.take i)) (ut l i) rfl rfl rfl (by show _<=(4294967295:Int);omega) (by show _<=(4294967295:Int);omega) (by show _<=(4294967295:Int);omega)) ?_
  iterate 3 refine af ?_
  refine Kc (aa.add rfl rfl rfl (aG ?_)) ?_
  ·omega
  iterate 2 refine af ?_
  refine⟨i+1,?_,?_,?_⟩
  ·omega
  ·omega
  refine To.done [] rfl (Sub.cons rfl (Sub.cons (by rw[hT];rfl) KS)) rfl
 ·obtain rfl:i=l.length:=by have h:=Zs hc0;omega
  rw[ZS]
  refine aI.exit ?_
  iterate 6 refine af ?_
  exact nH
theorem Jm(xs:List Int)(f:PV)(p:Int->Bool)(hx:xs.length<=cj)(hf:∀ x∈xs,gK Tryz.prog f [.int .i64 x] (.bool (p x))):Pure Tryz.prog 207 [.is (xs.flatMap i1) xs.length,f] (.int .i64 (iG p xs)):=by
 unfold cj at hx
 refine Kf (N:=19) Tryz.func207 ?_
 iterate 12 refine af ?_
 refine aI.vP [4,5,8,9,10,11,12,13,14,15,16,17,18] (fun g=>[(8,.p (.int .i64 ((g:Nat):Int)))]) (fun g=>g<=xs.length∧∀ j (hj:j<g) (h:g<=xs.length),p (xs[j]'(by omega))=false) (fun g=>xs.length - g) 0 ⟨Zv _,fun j hj=>absurd hj (by omega)⟩ (Sub.cons rfl (Sub.nil)) (fun i hg=> ?_)
 obtain⟨xp,mV⟩:=hg
 iterate 5 refine af ?_
 refine Ki (fun hc0=> ?_) fun hc0=> ?_
 ·iterate 13 refine af ?_
  refine Kc (aa.gQ rfl rfl rfl an dX rfl (fun _=>rfl) (by decide) ?_) ?_
  ·simp at hc0;omega
  exact wu
 ·exact vN
theorem zg(xs:List Int)(f:PV)(p:Int->Bool)(hx:xs.length<=cj)(hf:∀ x∈xs,gK Tryz.prog f [.int .i64 x] (.bool (p x))):Pure Tryz.prog 187 [.is (xs.flatMap i1) xs.length,f] (.bool (xs.any p)):=by
 refine Kf (N:=9) Tryz.func187 ?_
 iterate 8 refine af ?_
 refine Kc (Kp (Jm _ _ p ?_ ?_)) ?_
 ·exact hx
 ·exact hf
 exact wZ
theorem I6(n:Int)(l:List b6)(hl:l.length<=24):Pure Tryz.prog 184 [.int .i64 n,.ip [jX l] 0] (.bool (!iR n 0 (pw l.length - 1))):=by
 have hp:=F0 hl
 have Ry:((2^l.length:Nat):Int)=pw l.length:=rfl
 refine Kf (N:=11) Tryz.func184 ?_
 iterate 9 refine af ?_
 refine Kc (aa.qH 1 l.length rfl rfl rfl (by show _<=(64:Nat);omega) (by show _<=(9223372036854775807:Int);rw[ZM];omega)) ?_
 rw[ZM]
 refine Kc (aa.fE (m:=(pw l.length - 1)) rfl rfl rfl ((aG ?_).trans ?_)) ?_
 ·omega
 ·rfl
 refine Kc (Kp (cv _ _ _)) ?_
 exact qX
theorem CU(l:List b6)(hb:l.length<=cj):Pure Tryz.prog 186 [jX l] (.bool (decide (cH l))):=by
 unfold cj at hb
 refine Kf (N:=30) Tryz.func186 ?_
 iterate 12 refine af ?_
 refine aI.iK [5,6] (fun g=>[(7,.p (.int .i64 ((g:Nat):Int)))]) (fun g=>[]) (fun g=>g<=l.length∧∀ i,i<g->Cl l i) (fun g=>l.length - g) 0 ⟨Zv _,fun j hj=>absurd hj (by omega)⟩ (To.sub (Sub.Mc (Sub.cons rfl (Sub.nil)))) (fun j hg=> ?_)
 obtain⟨xp,mV⟩:=hg
 iterate 5 refine af ?_
 refine Ki (fun hc0=> ?_) fun hc0=> ?_
 ·have hk0:j<l.length:=by have h:=Zm hc0;omega
  iterate 6 refine af ?_
  refine Kc (aa.bg (g:=bt l) vp rfl rfl rfl an Q7 rfl (fun _=>rfl) (by decide) hk0) ?_
  refine Kc (Kl (.p (.agg (bt l j).cells))) ?_
  iterate 2 refine af ?_
  refine Kz (aa.store (H':=[.cells ((bt l j).cells.map .p) 92]) rfl rfl rfl rfl rfl an rfl rfl) ?_
  iterate 2 refine af ?_
  refine aI.aB 17 mixed (by kernel_rfl) (by decide) ?_
  refine af ?_
  refine Kq (aa.geq rfl rfl rfl) ?_
  refine af ?_
  refine aE.guard 15 14 rfl rfl rfl rfl rfl rfl rfl [(4,_)] (fun h=>And.intro (.inl rfl) (trivial)) (fun h=>(aa.fieldAddr rfl rfl an rfl)) ?_
  refine aE.guard 16 14 rfl rfl rfl rfl rfl rfl rfl [(15,_)] (fun h=>And.intro (.inr ⟨_,rfl,h⟩) (trivial)) (fun h=>(Kl (.p (.int .i64 (bt l j).f)))) ?_
  refine aE.guard 17 14 rfl rfl rfl rfl rfl rfl rfl [(3,_)] (fun h=>And.intro (.inl rfl) (trivial)) (fun h=>(aa.move rfl rfl)) ?_
  refine aE.guard 18 14 rfl rfl rfl rfl rfl rfl rfl [(17,_)] (fun h=>And.intro (.inr ⟨_,rfl,h⟩) (trivial)) (fun h=>(aa.qH 1 j rfl rfl rfl (by show _<=(64:Nat);have hj:j<=24:=(by simp at h;omega);omega) (by show _<=(9223372036854775807:Int);rw[ZM];have hj:j<=24:=(by simp at h;omega);have:=F0 hj;unfold pw at this;omega))) ?_
  refine aE.guard 19 14 rfl rfl rfl rfl rfl rfl rfl [(18,_)] (fun h=>And.intro (.inr ⟨_,rfl,h⟩) (trivial)) (fun h=>(aa.fE (m:=(pw j - 1)) rfl rfl rfl ((aG (by rw[ZM];have hj:j<=24:=(by simp at h;omega);have:=F0 hj;unfold pw at this;omega)).trans (by rw[ZM];rfl)))) ?_
  refine aE.guard 20 14 rfl rfl rfl rfl rfl rfl rfl [(16,_),(19,_)] (fun h=>And.intro (.inr ⟨_,rfl,h⟩) (And.intro (.inr ⟨_,rfl,h⟩) (trivial))) (fun h=>(Kp (cv _ _ _))) ?_
  refine aE.guard 21 14 rfl rfl rfl rfl rfl rfl rfl [(20,_)] (fun h=>And.intro (.inr ⟨_,rfl,h⟩) (trivial)) (fun h=>(aa.gH rfl rfl)) ?_
  refine Kq (aa.pG rfl rfl rfl ?_) ?_
  ·exact aC
  refine af ?_
  refine aE.guard 24 23 rfl rfl rfl rfl rfl rfl rfl [(4,_)] (fun h=>And.intro (.inl rfl) (trivial)) (fun h=>(aa.fieldAddr rfl rfl an rfl)) ?_
  refine aE.guard 25 23 rfl rfl rfl rfl rfl rfl rfl [(24,_)] (fun h=>And.intro (.inr ⟨_,rfl,h⟩) (trivial)) (fun h=>(Kl (.p (.int .i64 (bt l j).s)))) ?_
  refine aE.guard 26 23 rfl rfl rfl rfl rfl rfl rfl [(25,_)] (fun h=>And.intro (.inr ⟨_,rfl,h⟩) (trivial)) (fun h=>(Kp (cv _ _ _))) ?_
  refine aE.guard 27 23 rfl rfl rfl rfl rfl rfl rfl [(26,_)] (fun h=>And.intro (.inr ⟨_,rfl,h⟩) (trivial)) (fun h=>(aa.gH rfl rfl)) ?_
  refine Kq (aa.pG rfl rfl rfl ?_) ?_
  ·exact aC
  refine aE.nil ?_
  refine af ?_
  refine Ki (fun c8=> ?_) fun c8=> ?_
  ·iterate 5 refine af ?_
   refine Fin.gW rfl rfl ?_
   have h3:((decide ((j:Int)>=24)|| !iR (bt l j).f 0 (pw j - 1))|| !iR (bt l j).s 0 1048576)=true:=c8
   rw[decide_eq_false (p:=cH l) (fun h=>by have h1:=h j hk0;unfold Cl at h1;simp[iR] at h3;omega)]
  ·have hst:Cl l j:=by
    have h3:((decide ((j:Int)>=24)|| !iR (bt l j).f 0 (pw j - 1))|| !iR (bt l j).s 0 1048576)=false:=c8
    simp[iR] at h3
    unfold Cl
    omega
   iterate 2 refine af ?_
   refine Kc (aa.add rfl rfl rfl (aG ?_)) ?_
   ·omega
   iterate 2 refine af ?_
   refine⟨j+1,?_,?_,?_⟩
   ·refine⟨by omega,fun i hi=> ?_⟩
    rcases On.1 hi with h1 | rfl
    ·exact mV i h1
    ·exact hst
   ·omega
   exact kU
 ·obtain rfl:j=l.length:=by have h:=Zs hc0;omega
  refine aI.exit ?_
  iterate 5 refine af ?_
  refine Fin.gW rfl rfl ?_
  rw[decide_eq_true (p:=cH l) mV]
theorem D5(l:List b6)(sets:List Int)(hb:l.length<=cj)(hs:sets.length<=cj):Pure Tryz.prog 145 [jX l,cg sets] (.int .i64 (ju l sets)):=by
 refine Kf (N:=15) Tryz.func145 ?_
 iterate 7 refine af ?_
 refine Kc (aa.makeFunc rfl rfl rfl) ?_
 iterate 7 refine af ?_
 refine Kc (Kp (CU _ ?_)) ?_
 ·assumption
 iterate 3 refine af ?_
 refine Ki (fun hc0=> ?_) fun hc0=> ?_
 ·have hC:¬ cH l:=by simpa using hc0
  iterate 5 refine af ?_
  refine Fin.gW rfl rfl ?_
  unfold ju;rw[if_neg hC]
 ·have hC:cH l:=by simpa using hc0
  have oA:=c6 hC
  iterate 4 refine af ?_
  refine Kc (Kp (zg sets _ (fun n=> !iR n 0 (pw l.length - 1)) hs (fun x _=>⟨184,[.int .i64 x,.ip [jX l] 0],rfl,an,I6 x l oA⟩))) ?_
  iterate 2 refine af ?_
  refine Ki (fun c8=> ?_) fun c8=> ?_
  ·have hS:(sets.any fun n=> !iR n 0 (pw l.length - 1))=true:=c8
   iterate 5 refine af ?_
   refine Fin.gW rfl rfl ?_
   unfold ju;rw[if_pos hC,if_pos hS]
  ·have hS:(sets.any fun n=> !iR n 0 (pw l.length - 1))=false:=c8
   iterate 6 refine af ?_
   refine Fin.gW rfl rfl ?_
   unfold ju;rw[if_pos hC,if_neg (by rw[hS];decide)]
theorem MC(l:List b6)(b:Nat)(hC:cH l)(hb:b<l.length):Pure Tryz.prog 234 [jX l,.int .i64 (b:Int)] (.int .u32 ((pz l b:Nat):Int)):=by
 have hf:=(hC b hb).2.1
 have hp:=F0 (n:=b) (by have:=c6 hC;omega)
 have hfr:(bt l b).f=((pz l b:Nat):Int):=by unfold pz;omega
 refine Kf (N:=11) Tryz.func234 ?_
 iterate 8 refine af ?_
 refine Kc (aa.bg (g:=bt l) vp rfl rfl rfl an Xn rfl (fun _=>rfl) (by decide) hb) ?_
 refine af ?_
 refine Kc (Kl (.p (.int .i64 (bt l b).f))) ?_
 refine Kc (aa.dM rfl rfl (by rw[AI];rfl) tg (vc ?_)) ?_
 ·omega
 iterate 3 refine af ?_
 refine Fin.gW rfl rfl ?_
 rw[hfr]
theorem NM(l:List b6)(b:Nat)(hC:cH l)(hb:b<l.length):Pure Tryz.prog 233 [Jt l,.int .i64 (b:Int)] (.int .u32 ((yA l b:Nat):Int)):=by
 refine Kf (N:=8) Tryz.func233 ?_
 iterate 8 refine af ?_
 refine Kc (aa.JR (cV.int .i64 .i64) (gp:=zJ) 0 rfl rfl rfl NP rfl) ?_
 iterate 3 refine af ?_
 refine Fin.gW rfl rfl ?_
 have e:=uI hC b l.length (Ze _)
 show zJ ((cB ((b:Nat):Int) (wA l l.length)).getD 0)=_
 rw[e]
 rfl
theorem Da(l:List b6)(hC:cH l):Pure Tryz.prog 149 [jX l] (Jt l):=by
 have oA:=c6 hC
 refine Kf (N:=31) Tryz.func149 ?_
 iterate 6 refine af ?_
 refine Kc (aa.makeMap (K:=Int) (α:=Nat) (enc:=PV.int .i64) (g:=fun n=> .p (zJ n)) rfl) ?_
 iterate 11 refine af ?_
 refine aI.iK [2,3,8,9,19,30] (fun g=>[(10,.p (.int .i64 ((g:Nat):Int)))]) (fun g=>[nt (PV.int .i64) (fun n=> .p (zJ n)) (wA l g),.cells [.map 0] 213]) (fun g=>g<=l.length) (fun g=>l.length - g) 0 (Zv _) (To.sub (Sub.Mc (Sub.cons rfl (Sub.nil)))) (fun i hg=> ?_)
 iterate 5 refine af ?_
 refine Ki (fun hc0=> ?_) fun hc0=> ?_
 ·have hk0:i<l.length:=by have h:=Zm hc0;omega
  have hf:=(hC i hk0).2.1
  have hp:=F0 (n:=i) (by omega)
  have hfr:(bt l i).f=((pz l i:Nat):Int):=by unfold pz;omega
  have hlt:pz l i<2^32:=by omega
  iterate 6 refine af ?_
  refine Kc (aa.bg (g:=bt l) vp rfl rfl rfl an Q7 rfl (fun _=>rfl) (by decide) hk0) ?_
  refine Kc (Kl (.p (.agg (bt l i).cells))) ?_
  iterate 8 refine af ?_
  refine Kc (Kl (.p (.int .i64 (bt l i).f))) ?_
  refine Kc (aa.dM rfl rfl (by rw[AI];rfl) tg (vc ?_)) ?_
  ·omega
  rw[hfr]
  refine Kc (Kp (sK (pz l i))) ?_
  iterate 2 refine af ?_
  refine aI.rangeFunc 0 rfl (fun _=>rfl) an (n9 (pz l i) hlt) (Ze _) (Zv _) (fun _ h=>by cases h) (fun x hx=>by unfold kX at hx;simp at hx;obtain⟨j,_,rfl⟩:=hx;rfl) rfl (fun k h=>h=[nt (PV.int .i64) (fun n=> .p (zJ n)) (rO i (wA l i) ((aM (pz l i) 32).take k)),.cells [.map 0] 213,.cells [.p (.int .i64 ((i:Nat):Int))] 3,.cells ((bt l i).cells.map .p) 92]) (fun c h=>False) (fun _ _ h=>by rw[h];rfl) (fun _ _ h=>h.elim) rfl ?_ ?_ ?_
  ·intro lx tmps k h x hJ hx
   subst hJ
   obtain⟨q,hq,rfl⟩:=je hx
   have OF:=b7.1 (Zh hq)
   have hqi:=wJ hC hk0 OF.2
   have hval:=PT hC hk0 q k
   have hjl:∀ x∈[(cB ((q:Nat):Int) (rO i (wA l i) ((aM (pz l i) 32).take k))).getD 0,1*2^i],x<2^32:=by intro x hx2;simp at hx2;rcases hx2 with rfl | rfl;{omega};{unfold pw at hp;omega}
   iterate 3 refine af ?_
   refine⟨rfl,rfl,?_⟩
   refine af ?_
   refine aI.aB 9 mixed (by kernel_rfl) (by decide) ?_
   refine Kq (Kl (.map 0)) ?_
   refine af ?_
   refine Kq (Kl (.map 0)) ?_
   refine af ?_
   refine Kq (aa.wP (cV.int .i64 .i64) (gp:=zJ) 0 rfl rfl rfl rfl NP rfl) ?_
   refine Kq (Kl (.p (.int .i64 ((i:Nat):Int)))) ?_
   refine Kq (aa.qH 1 i rfl rfl rfl (by show _<=(32:Nat);omega) (by show _<=(4294967295:Int);rw[ZM];unfold pw at hp;omega)) ?_
   refine Kq (aa.aQ rfl an (by decide) rfl rfl rfl) ?_
   refine Kq (Kp (ov [(cB ((q:Nat):Int) (rO i (wA l i) ((aM (pz l i) 32).take k))).getD 0,1*2^i] hjl (by unfold cj;show 2<=_;omega))) ?_
   rw[YL,ZM]
   refine aE.nil ?_
   refine Kz (aa.mapUpdate (cV.int .i64 .i64) (g:=fun n=> .p (zJ n)) (.inl rfl) rfl rfl rfl rfl NP) ?_
   refine af ?_
   exact⟨_,rfl,by rw[fJ hq,IZ];exact To.sub Sub.nil⟩
  ·intro h hJ
   subst hJ
   rw[ij,ZS]
   refine af ?_
   refine Kc (aa.add rfl rfl rfl (aG ?_)) ?_
   ·omega
   iterate 2 refine af ?_
   refine⟨i+1,?_,?_,?_⟩
   ·omega
   ·omega
   exact To.done [0,1] rfl KS (congrArg (fun z=>[z,ai.cells [V.map 0] 213]) (yh _ (PV.int .i64) zJ (wA l (i+1))))
  ·exact gR
 ·obtain rfl:i=l.length:=by have h:=Zs hc0;omega
  refine aI.exit ?_
  iterate 5 refine af ?_
  refine aI.to (To.nW 0 rfl) ?_
  refine af ?_
  exact Fin.gW rfl rfl rfl
def Mj(W:PV):List V:=[.ptr 1 0,.ptr 0 0,.p (.ip [W] 0),.ptr 2 0]
def WR(W:PV)(M:Nat):List ai:=[.cells [.p (.int .u32 (M:Int))] 209,.cells (((uk M).flatMap b1).map .p) 266,.cells [.func (.func 191) [] (Mj W)] 255]
def Jz(N:Nat)(nx:Nat->Nat)(W:PV):Prop:=∀ b,b<N->MV Tryz.prog "pencilworks/recall.next" W [.int .i64 ((b:Nat):Int)] (.int .u32 ((nx b:Nat):Int))
def Ux(R:Nat->Nat)(W:PV)(b:Nat):Prop:=∀ M,M<2^24->Gn R b M->ax Tryz.prog 191 (.p (.int .i64 ((b:Nat):Int))::Mj W) (WR W M) fun v H'=>H'=WR W (M||| R b)
theorem Q2{N:Nat}{nx R rk:Nat->Nat}(w:Way N nx R rk)(hN:N<=24){b M:Nat}(hb:b<N)(hM:M<2^24){ks:List Nat}(hk:∀ k∈ks,k<N):pY R M b ks<2^24:=by
 apply Nat.lt_pow_two_of_testBit
 intro x hx
 cases h:(pY R M b ks).testBit x with
 | false=>rfl
 | true=>
  exfalso
  rcases(vI R M b x ks).1 h with h1 | h1 | ⟨k,h1,h2⟩
  ·rw[TG (ZR hM (Zy (by omega) hx))] at h1
   cases h1
  ·omega
  ·rw[TG (ZR (w.Wh k (hk k h1)) (Zy (by omega) (by omega)))] at h2
   cases h2
theorem G4{N:Nat}{nx R rk:Nat->Nat}(w:Way N nx R rk)(hN:N<=24)(W:PV)(OJ:Jz N nx W)(b:Nat)(hb:b<N)(IH:∀ k,(nx b).testBit k=true->Ux R W k):Ux R W b:=by
 intro M hM WC
 refine ax.start (N:=25) Tryz.func191 rfl rfl Kn ?_
 have tB:nx b<2^32:=ZR (w.lt b hb) (Zy (by omega) (by omega))
 have jr:b<24:=by omega
 have h2b:=Zy (show 0<2 by omega) (show b<=23 by omega)
 iterate 4 refine af ?_
 refine Kc (aa.yw rfl rfl rfl Se Rh (by omega)) ?_
 refine Kc (aa.kF (f:=b1) (c:=1) (k:=b) (j:=0) (xs:=(uk M)) rfl rfl an rfl rfl (by omega) (fun _=>rfl) (by rw[vz];omega) (by decide) (show _=PV.bool (M.testBit b) from by rw[uY];rfl)) ?_
 refine af ?_
 refine Ki (fun hc0=> ?_) fun hc0=> ?_
 ·have hm:M.testBit b=true:=hc0
  refine af ?_
  exact⟨.inr rfl,_,eT.none_ rfl,by rw[Po w hb WC hm]⟩
 ·iterate 4 refine af ?_
  refine Kc (aa.yw rfl rfl rfl Se Rh (by omega)) ?_
  refine Kz (aa.storeCells (f:=b1) (c:=1) (k:=b) (j:=0) (xs:=(uk M)) (z:=true) (ws:=[.bool true]) rfl rfl rfl rfl rfl an rfl rfl rfl (by omega) (fun _=>rfl) (by rw[vz];omega) (by decide) rfl) ?_
  iterate 2 refine af ?_
  rw[L9 jr]
  refine aI.aB 5 mixed (by kernel_rfl) (by decide) ?_
  refine Kq (Kl (.p (.int .u32 (M:Int)))) ?_
  refine af ?_
  refine Kq (aa.qH 1 b rfl rfl rfl (by show _<=(32:Nat);omega) (by show _<=(4294967295:Int);rw[ZM];omega)) ?_
  refine Kq (aa.aQ rfl an (by decide) rfl rfl rfl) ?_
  refine Kq (Kp (ov [M,1*2^b] (by intro x hx;simp at hx;rcases hx with rfl | rfl;{omega};{omega}) (by unfold cj;show 2<=_;omega))) ?_
  rw[YL,ZM]
  refine aE.nil ?_
  refine Kz (aa.store (H':=WR W (M||| 2^b)) rfl rfl rfl rfl rfl an rfl rfl) ?_
  iterate 3 refine af ?_
  refine Kc (Kl (.p W)) ?_
  refine af ?_
  refine Kc (aa.invoke (OJ b hb) rfl rfl rfl) ?_
  refine Kc (Kp (sK (nx b))) ?_
  refine af ?_
  refine aI.toEnd ?_
  refine af ?_
  refine aI.rangeFunc 3 rfl (fun _=>rfl) an (n9 (nx b) tB) (Ze 3) (Ze 3) (fun _ h=>by cases h) (fun x hx=>by unfold kX at hx;simp at hx;obtain⟨j,_,rfl⟩:=hx;rfl) rfl (fun k h=>h=WR W (pY R M b ((aM (nx b) 32).take k))) (fun c h=>False) (fun _ _ h=>by rw[h];rfl) (fun _ _ h=>h.elim) rfl ?_ ?_ ?_
  ·intro lx tmps k h x hJ hx
   subst hJ
   obtain⟨q,hq,rfl⟩:=je hx
   have OF:=b7.1 (Zh hq)
   have hks:∀ p∈(aM (nx b) 32).take k,(nx b).testBit p=true:=fun p hp=>(b7.1 (Uf hp)).2
   have hIH:=IH q OF.2 (pY R M b ((aM (nx b) 32).take k)) (Q2 w hN hb hM fun p hp=>w.Tu b hb p (hks p hp)) (LZ w hb WC hks OF.2)
   iterate 3 refine af ?_
   refine⟨rfl,rfl,?_⟩
   iterate 2 refine af ?_
   refine Kc (Kl (.func (.func 191) [] (Mj W))) ?_
   refine af ?_
   refine aj.Uk 24 [0,1,2] (all:= .p (.int .i64 ((q:Nat):Int))::Mj W) (by show ax _ _ _ [ai.cells _ _,ai.cells (bq _ (List.map V.p _)) _,ai.cells _ _] _;rw[aX];exact hIH) (fun v H2 h=>by rw[h];rfl) (by rfl) (by rfl) rfl rfl rfl rfl rfl rfl rfl an (fun v H2 iH=> ?_)
   subst iH
   refine af ?_
   exact⟨_,rfl,by rw[fJ hq,J8];exact To.sub Sub.nil⟩
  ·intro h hJ
   subst hJ
   have hall:pY R M b (aM (nx b) 32)=M||| R b:=by
    rcases Pv w (M:=M) hb with h | h
    ·exact h
    ·omega
   rw[ij,ZS,hall]
   exact⟨[],_,To.done [0,1,2] rfl Sub.nil (by show[ai.cells _ _,ai.cells (bq _ (List.map V.p _)) _,ai.cells _ _]=_;rw[aX];rfl),.inl rfl,_,eT.none_ rfl,rfl⟩
  ·exact gR
theorem NT{N:Nat}{nx R rk:Nat->Nat}(w:Way N nx R rk)(hN:N<=24)(W:PV)(OJ:Jz N nx W):∀(m b:Nat),b<N->rk b<=m->Ux R W b
 | 0,b,hb,hm=>G4 w hN W OJ b hb fun k hk=>by have:=w.rk b hb k hk;omega
 | m+1,b,hb,hm=>G4 w hN W OJ b hb fun k hk=>NT w hN W OJ m k (w.Tu b hb k hk) (by have:=w.rk b hb k hk;omega)
theorem mC{N:Nat}{nx R rk:Nat->Nat}(w:Way N nx R rk)(hN:N<=24)(t:Nat)(y:PV)(OJ:Jz N nx (.iface t y))(b:Nat)(hb:b<N):Pure Tryz.prog 151 [.iface t y,.int .i64 (b:Int)] (.int .u32 ((R b:Nat):Int)):=by
 refine Kf (N:=12) Tryz.func151 ?_
 iterate 15 refine af ?_
 refine Kc (aa.makeFunc rfl rfl rfl) ?_
 refine Kz (aa.store (H':=WR (.iface t y) 0) rfl rfl rfl rfl rfl an rfl rfl) ?_
 iterate 3 refine af ?_
 refine Kc (Kl (.func (.func 191) [] (Mj (.iface t y)))) ?_
 refine af ?_
 refine aj.BQ 10 (NT w hN (.iface t y) OJ (rk b) b hb (Ze _) 0 (by decide) (fun x hx=>by simp at hx)) rfl rfl rfl rfl rfl rfl rfl an (fun v H2 iH=> ?_)
 subst iH
 rw[Nat.zero_or]
 iterate 3 refine af ?_
 refine Kc (Kl (.p (.int .u32 ((R b:Nat):Int)))) ?_
 exact uj
theorem zF(l:List b6)(hC:cH l):Jz l.length (pz l) (.iface 220 (jX l)):=fun b hb=>⟨220,_,234,rfl,by kernel_rfl,an,MC l b hC hb⟩
theorem Be(l:List b6)(hC:cH l):Jz l.length (yA l) (.iface 213 (Jt l)):=fun b hb=>⟨213,_,233,rfl,by kernel_rfl,an,NM l b hC hb⟩
theorem Pure.V8{P:Program}{f:FuncId}{x r:PV}(h:Pure P f [x,.is [] 0] r):Pure P f [x,.nilSlice] r:=by
 intro w I ρ us hi fT
 refine h w I ρ us hi ?_
 obtain⟨u,us',rfl,h1,u2,us2,rfl,h2,h3⟩:=fT
 exact⟨u,_,rfl,h1,u2,us2,rfl,az.wk (.p .nilSlice) u2 h2,h3⟩
theorem IW(l:List b6)(hb:l.length<=cj):Pure Tryz.prog 145 [jX l,.nilSlice] (.int .i64 (ju l [])):=Pure.V8 (D5 l [] hb (Zv _))
theorem Pw(l:List b6)(b:Int)(hb:l.length<=cj)(f:PV)(t:Nat)(y:PV)(nx R rk:Nat->Nat)(hw:cH l->Way l.length nx R rk)(OJ:cH l->Jz l.length nx (.iface t y))(hf:cH l->gK Tryz.prog f [] (.iface t y)):Pure Tryz.prog 152 [jX l,f,.int .i64 b] (.tuple [.int .i64 ((kz l R b:Nat):Int),.int .i64 (fy l b)]):=by
 have gZ:=hb
 unfold cj at gZ
 refine Kf (N:=25) Tryz.func152 ?_
 iterate 9 refine af ?_
 refine Kc (Kp (IW l hb)) ?_
 iterate 7 refine af ?_
 refine Ki (fun hc0=> ?_) fun hc0=> ?_
 ·have hE:ju l []≠0:=by simpa using hc0
  iterate 7 refine af ?_
  refine Fin.dD (xs:=[.int .i64 0,.int .i64 (ju l [])]) rfl (⟨_,_,rfl,rfl,⟨_,_,rfl,rfl,rfl⟩⟩) rfl ?_
  have e:fy l b=ju l []:=by rw[Pr] at hE ⊢;unfold fy;split <;> simp_all
  unfold kz;rw[e,if_neg hE];rfl
 ·have hE:ju l []=0:=by simpa using hc0
  have hC:=(vQ hE).1
  have hS:=(vQ hE).2
  have oA:=c6 hC
  have Jq:=F0 oA
  iterate 7 refine af ?_
  refine Kc (aa.fE rfl rfl rfl (aG ?_)) ?_
  ·omega
  refine Kc (Kp (cv _ _ _)) ?_
  iterate 2 refine af ?_
  refine Ki (fun c8=> ?_) fun c8=> ?_
  ·have hI:¬ iR b 0 ((l.length:Int) - 1)=true:=by intro h;rw[h] at c8;cases c8
   iterate 6 refine af ?_
   refine Fin.dD (xs:=[.int .i64 0,.int .i64 2]) rfl (⟨_,_,rfl,rfl,⟨_,_,rfl,rfl,rfl⟩⟩) rfl ?_
   have e:fy l b=2:=by unfold fy;rw[if_pos hC,if_neg hI]
   unfold kz;rw[e,if_neg (by decide)];rfl
  ·have hI:iR b 0 ((l.length:Int) - 1)=true:=by simpa using c8
   have Z4:=hI
   simp[iR] at Z4
   obtain⟨b,rfl⟩:∃ m:Nat,b=(m:Int):=⟨b.toNat,by omega⟩
   have hbl:b<l.length:=by omega
   iterate 4 refine af ?_
   refine Kc (aa.vZ (hf hC) rfl rfl rfl) ?_
   refine af ?_
   refine Kc (Kp (mC (hw hC) oA t y (OJ hC) b hbl)) ?_
   refine Kc (aa.dM rfl rfl (by rw[tg];rfl) AI (aG ?_)) ?_
   ·have h2:=(hw hC).Wh b hbl;have h3:=Zy (show 0<2 by omega) oA;omega
   iterate 4 refine af ?_
   refine Fin.dD (xs:=[.int .i64 ((R b:Nat):Int),.int .i64 0]) rfl (⟨_,_,rfl,rfl,⟨_,_,rfl,rfl,rfl⟩⟩) rfl ?_
   have e:fy l (b:Int)=0:=by unfold fy;rw[if_pos hC,if_pos hI]
   unfold kz;rw[e,if_pos rfl];rfl
theorem Lu(l:List b6):Pure Tryz.prog 153 [.ip [jX l] 0] (.iface 220 (jX l)):=by
 refine Kf (N:=4) Tryz.func153 ?_
 iterate 7 refine af ?_
 refine Kc (aa.aA rfl rfl Fc) ?_
 exact cQ
theorem PF(l:List b6)(b:Int)(hb:l.length<=cj):Pure Tryz.prog 100 [jX l,.int .i64 b] (.tuple [.int .i64 ((kz l (bS l) b:Nat):Int),.int .i64 (fy l b)]):=by
 refine Kf (N:=12) Tryz.func100 ?_
 iterate 9 refine af ?_
 refine Kc (aa.makeFunc rfl rfl rfl) ?_
 refine af ?_
 refine Kc (Kp (Pw l b hb _ _ _ (pz l) (bS l) (fun b=>b) ny (fun h=>zF l h) (fun _=>⟨153,[.ip [jX l] 0],rfl,an,Lu l⟩))) ?_
 iterate 6 refine af ?_
 exact Fin.many (xs:=[.int .i64 ((kz l (bS l) b:Nat):Int),.int .i64 (fy l b)]) rfl (⟨_,_,rfl,rfl,⟨_,_,rfl,rfl,rfl⟩⟩) rfl
theorem K8(l:List b6)(bad good:Nat)(hC:cH l)(hbd:bad<2^l.length)(hgd:good<2^l.length):Pure Tryz.prog 146 [jX l,.int .u32 (bad:Int),.int .u32 (good:Int)] (.int .u32 ((fP l bad good:Nat):Int)):=by
 have oA:=c6 hC
 have Jq:=Zy (show 0<2 by omega) oA
 have YR:=PE l.length
 have hfull:2^l.length - 1<2^l.length:=by omega
 have aaN:bad<2^32:=by omega
 have aa8:good<2^32:=by omega
 refine Kf (N:=33) Tryz.func146 ?_
 iterate 9 refine af ?_
 refine Kc (aa.qH 1 l.length rfl rfl rfl (by show _<=(32:Nat);omega) (by show _<=(4294967295:Int);rw[ZM];omega)) ?_
 rw[ZM]
 refine Kc (aa.fE (m:=((2^l.length - 1:Nat):Int)) rfl rfl rfl ((vc ?_).trans ?_)) ?_
 ·omega
 ·omega
 iterate 7 refine af ?_
 refine Kc (Kp (sK bad)) ?_
 iterate 2 refine af ?_
 refine aI.rangeFunc 0 rfl (fun _=>rfl) an (n9 bad aaN) (Ze _) (Zv _) (fun _ h=>by cases h) (fun x hx=>by unfold kX at hx;simp at hx;obtain⟨j,_,rfl⟩:=hx;rfl) rfl (fun k h=>h=[.cells [.p (.int .u32 (((Gb l (2^l.length - 1) ((aM bad 32).take k)):Nat):Int))] 209]) (fun c h=>False) (fun _ _ h=>by rw[h];rfl) (fun _ _ h=>h.elim) rfl ?_ ?_ ?_
 ·intro lx tmps k h x hJ hx
  subst hJ
  obtain⟨q,hq,rfl⟩:=je hx
  have OF:=b7.1 (Zh hq)
  have K5:q<l.length:=fe hbd OF.2
  have hr:=(ny hC).Wh q K5
  have ha:=Lx l hfull ((aM bad 32).take k)
  iterate 3 refine af ?_
  refine⟨rfl,rfl,?_⟩
  refine af ?_
  refine aI.aB 6 mixed (by kernel_rfl) (by decide) ?_
  refine Kq (Kl (.p (.int .u32 (((Gb l (2^l.length - 1) ((aM bad 32).take k)):Nat):Int)))) ?_
  refine af ?_
  refine Kq (aa.aA rfl rfl Fc) ?_
  refine af ?_
  refine Kq (Kp (mC (ny hC) oA _ _ (zF l hC) q K5)) ?_
  refine Kq (aa.o8 (Gb l (2^l.length - 1) ((aM bad 32).take k)) (bS l q) rfl rfl rfl (by first | (show _<=(9223372036854775807:Int);omega) | (show _<=(4294967295:Int);omega) | (show _<=(18446744073709551615:Int);omega) | (show _<=(255:Int);omega) | (show _<=(65535:Int);omega)) (by first | decide | (show _<=(9223372036854775807:Int);omega) | (show _<=(4294967295:Int);omega) | (show _<=(18446744073709551615:Int);omega) | (show _<=(255:Int);omega) | (show _<=(65535:Int);omega))) ?_
  refine aE.nil ?_
  iterate 2 refine af ?_
  exact⟨_,rfl,by rw[fJ hq,KW];exact To.sub Sub.nil⟩
 ·intro h hJ
  subst hJ
  rw[ij,ZS]
  iterate 4 refine af ?_
  refine Kc (Kp (sK good)) ?_
  iterate 2 refine af ?_
  refine aI.rangeFunc 0 rfl (fun _=>rfl) an (n9 good aa8) (Ze _) (Zv _) (fun _ h=>by cases h) (fun x hx=>by unfold kX at hx;simp at hx;obtain⟨j,_,rfl⟩:=hx;rfl) rfl (fun k h=>h=[.cells [.p (.int .u32 (((IU l (Gb l (2^l.length - 1) (aM bad 32)) ((aM good 32).take k)):Nat):Int))] 209,.dead]) (fun c h=>False) (fun _ _ h=>by rw[h];rfl) (fun _ _ h=>h.elim) rfl ?_ ?_ ?_
  ·intro lx tmps k h x hJ hx
   subst hJ
   obtain⟨q,hq,rfl⟩:=je hx
   have OF:=b7.1 (Zh hq)
   have K5:q<l.length:=fe hgd OF.2
   have hr:=(ny hC).Wh q K5
   have ha:=TT l (Lx l hfull (aM bad 32)) ((aM good 32).take k)
   iterate 3 refine af ?_
   refine⟨rfl,rfl,?_⟩
   refine af ?_
   refine aI.aB 6 mixed (by kernel_rfl) (by decide) ?_
   refine Kq (Kl (.p (.int .u32 (((IU l (Gb l (2^l.length - 1) (aM bad 32)) ((aM good 32).take k)):Nat):Int)))) ?_
   refine af ?_
   refine Kq (aa.aA rfl rfl Fc) ?_
   refine af ?_
   refine Kq (Kp (mC (ny hC) oA _ _ (zF l hC) q K5)) ?_
   refine Kq (aa.Qz (IU l (Gb l (2^l.length - 1) (aM bad 32)) ((aM good 32).take k)) (bS l q) rfl rfl rfl (by first | (show _<=(9223372036854775807:Int);omega) | (show _<=(4294967295:Int);omega) | (show _<=(18446744073709551615:Int);omega) | (show _<=(255:Int);omega) | (show _<=(65535:Int);omega))) ?_
   refine aE.nil ?_
   iterate 2 refine af ?_
   exact⟨_,rfl,by rw[fJ hq,LF];exact To.sub Sub.nil⟩
  ·intro h hJ
   subst hJ
   rw[ij,ZS,MW oA hbd hgd]
   iterate 2 refine af ?_
   refine Kc (Kl (.p (.int .u32 ((fP l bad good:Nat):Int)))) ?_
   exact cQ
  ·exact gR
 ·exact gR
theorem pI(l:List b6)(bad good:Int)(hb:l.length<=cj):Pure Tryz.prog 94 [jX l,.int .i64 bad,.int .i64 good] (.tuple [.int .i64 ((lz l bad good:Nat):Int),.int .i64 (iS l bad good)]):=by
 refine Kf (N:=30) Tryz.func94 ?_
 iterate 11 refine af ?_
 refine Kc (aa.aQ rfl an (by decide) rfl rfl rfl) ?_
 refine Kc (Kp (D5 l [bad,good] hb (by unfold cj;show 2<=_;omega))) ?_
 iterate 7 refine af ?_
 refine Ki (fun hc0=> ?_) fun hc0=> ?_
 ·have hE:ju l [bad,good]≠0:=by simpa using hc0
  iterate 7 refine af ?_
  refine Fin.dD (xs:=[.int .i64 0,.int .i64 (ju l [bad,good])]) rfl (⟨_,_,rfl,rfl,⟨_,_,rfl,rfl,rfl⟩⟩) rfl ?_
  have e:iS l bad good=ju l [bad,good]:=by unfold iS;rw[if_pos hE]
  unfold lz;rw[e,if_neg hE];rfl
 ·have hE:ju l [bad,good]=0:=by simpa using hc0
  have hC:=(vQ hE).1
  have hS:=(vQ hE).2
  have oA:=c6 hC
  have Jq:=F0 oA
  have YD:=hS bad (by simp)
  have hS2:=hS good (by simp)
  iterate 7 refine af ?_
  refine Ki (fun c8=> ?_) fun c8=> ?_
  ·have hz:bad=0:=by simpa using c8
   iterate 6 refine af ?_
   refine Fin.dD (xs:=[.int .i64 0,.int .i64 4]) rfl (⟨_,_,rfl,rfl,⟨_,_,rfl,rfl,rfl⟩⟩) rfl ?_
   have e:iS l bad good=4:=by unfold iS;rw[if_neg (not_not_intro hE),if_pos hz]
   unfold lz;rw[e,if_neg (by decide)];rfl
  ·have hz:¬ bad=0:=by simpa using c8
   obtain⟨bad,rfl⟩:∃ m:Nat,bad=(m:Int):=⟨bad.toNat,by omega⟩
   obtain⟨good,rfl⟩:∃ m:Nat,good=(m:Int):=⟨good.toNat,by omega⟩
   iterate 5 refine af ?_
   refine Kc (aa.dM rfl rfl (by rw[AI];rfl) tg (vc ?_)) ?_
   ·unfold pw at Jq YD;omega
   refine af ?_
   refine Kc (aa.dM rfl rfl (by rw[AI];rfl) tg (vc ?_)) ?_
   ·unfold pw at Jq hS2;omega
   refine Kc (Kp (K8 l bad good hC (by unfold pw at YD;omega) (by unfold pw at hS2;omega))) ?_
   iterate 8 refine af ?_
   refine Ki (fun mu=> ?_) fun mu=> ?_
   ·have hn:fP l bad good=0:=by have h:((fP l bad good:Nat):Int)=0:=(by simpa using mu);omega
    iterate 6 refine af ?_
    refine Fin.dD (xs:=[.int .i64 0,.int .i64 6]) rfl (⟨_,_,rfl,rfl,⟨_,_,rfl,rfl,rfl⟩⟩) rfl ?_
    have e:iS l (bad:Int) (good:Int)=6:=by unfold iS;rw[if_neg (not_not_intro hE),if_neg hz,if_pos (show fP l (bad:Int).toNat (good:Int).toNat=0 from hn)]
    unfold lz;rw[e,if_neg (by decide)];rfl
   ·have hn:¬ fP l bad good=0:=by intro h;rw[h] at mu;simp at mu
    iterate 4 refine af ?_
    refine Kc (aa.dM rfl rfl (by rw[tg];rfl) AI (aG ?_)) ?_
    ·have h2:=AR l bad good;unfold pw at Jq;omega
    iterate 4 refine af ?_
    refine Fin.dD (xs:=[.int .i64 ((fP l bad good:Nat):Int),.int .i64 0]) rfl (⟨_,_,rfl,rfl,⟨_,_,rfl,rfl,rfl⟩⟩) rfl ?_
    have e:iS l (bad:Int) (good:Int)=0:=by unfold iS;rw[if_neg (not_not_intro hE),if_neg hz,if_neg (show ¬ fP l (bad:Int).toNat (good:Int).toNat=0 from hn)]
    unfold lz;rw[e,if_pos rfl];rfl
theorem Aq{l:List b6}{bad good:Int}(h:iS l bad good=0):cH l∧(0<=bad∧bad<=pw l.length - 1)∧(0<=good∧good<=pw l.length - 1)∧bad≠0∧lz l bad good=fP l bad.toNat good.toNat∧lz l bad good≠0∧lz l bad good<2^l.length:=by
 have hR:lz l bad good=fP l bad.toNat good.toNat:=by unfold lz;rw[if_pos h]
 have h2:=h
 unfold iS at h2
 split at h2
 ·rename_i h3;exact absurd h2 h3
 ·rename_i h3
  have h3:ju l [bad,good]=0:=by omega
  obtain⟨hC,hS⟩:=vQ h3
  split at h2
  ·cases h2
  ·rename_i h4
   split at h2
   ·cases h2
   ·rename_i h5
    exact⟨hC,hS bad (by simp),hS good (by simp),h4,hR,by rw[hR];exact h5,by rw[hR];exact AR _ _ _⟩
theorem IM(l:List b6)(bad good:Int)(hb:l.length<=cj):Pure Tryz.prog 98 [jX l,.int .i64 bad,.int .i64 good] (.tuple [.int .i64 ((xA l bad good:Nat):Int),.agg [.int .i64 (lZ l bad good).1,.int .i64 (lZ l bad good).2],.int .i64 (iS l bad good)]):=by
 have gZ:=hb
 unfold cj at gZ
 refine Kf (N:=89) Tryz.func98 ?_
 iterate 12 refine af ?_
 refine Kc (Kp (pI l bad good hb)) ?_
 iterate 12 refine af ?_
 refine Ki (fun hc0=> ?_) fun hc0=> ?_
 ·have hE:iS l bad good≠0:=by simpa using hc0
  iterate 9 refine af ?_
  refine Fin.dD (xs:=[.int .i64 0,.agg [.int .i64 0,.int .i64 0],.int .i64 (iS l bad good)]) rfl (⟨_,_,rfl,rfl,⟨_,_,rfl,⟨_,_,_,rfl,an,rfl⟩,⟨_,_,rfl,rfl,rfl⟩⟩⟩) rfl ?_
  unfold xA lZ;rw[if_neg hE,if_neg hE];rfl
 ·have hE:iS l bad good=0:=by simpa using hc0
  obtain⟨hC,_,_,_,hR,hne,hcl⟩:=Aq hE
  have oA:=c6 hC
  have Jq:=Zy (show 0<2 by omega) oA
  have aaH:lz l bad good<2^32:=by omega
  have hso:sY l<2^l.length:=HS l l.length
  iterate 13 refine af ?_
  refine aI.norm [0,1] [(3,_),(7,_),(9,_),(10,_),(31,_),(32,_),(33,_)] [_,_] rfl KS rfl ?_
  refine aI.iK [3,6,7,8,9,10,13,14,15,16,17,18,19,31,32,47,48,49,50,51,52,53,54,55,56,57,58,59,60,61,62,63,64,65,66,67,68,69,70,71,72,73,74,75,76,77,78,79,80,81,82,83,84,85,86,87,88] (fun g=>[(33,.p (.int .i64 ((g:Nat):Int)))]) (fun g=>[.cells [.p (.int .i64 0),.p (.int .i64 0)] 24,.cells [.p (.int .u32 ((jy l g:Nat):Int))] 209]) (fun g=>g<=l.length) (fun g=>l.length - g) 0 (Zv _) (To.sub (Sub.Mc (Sub.cons rfl (Sub.nil)))) (fun i hg=> ?_)
  iterate 5 refine af ?_
  refine Ki (fun c8=> ?_) fun c8=> ?_
  ·have hk0:i<l.length:=by have h:=Zm c8;omega
   have hsi:=HS l i
   have hpi:=Zy (show 0<2 by omega) (show i<=24 by omega)
   iterate 6 refine af ?_
   refine Kc (aa.bg (g:=bt l) vp rfl rfl rfl an Q7 rfl (fun _=>rfl) (by decide) hk0) ?_
   refine Kc (Kl (.p (.agg (bt l i).cells))) ?_
   iterate 2 refine af ?_
   refine Kz (aa.store (H':=[.cells [.p (.int .i64 0),.p (.int .i64 0)] 24,.cells [.p (.int .u32 ((jy l i:Nat):Int))] 209,.cells ((bt l i).cells.map .p) 92]) rfl rfl rfl rfl rfl an rfl rfl) ?_
   iterate 4 refine af ?_
   refine Kc (Kl (.p (.int .i64 (bt l i).s))) ?_
   iterate 2 refine af ?_
   refine Ki (fun mu=> ?_) fun mu=> ?_
   ·have hF:jy l (i+1)=jy l i||| 2^i:=by rw[Dz,if_pos (Zm mu)]
    refine aI.aB 5 mixed (by kernel_rfl) (by decide) ?_
    refine Kq (Kl (.p (.int .u32 ((jy l i:Nat):Int)))) ?_
    refine af ?_
    refine Kq (aa.qH 1 i rfl rfl rfl (by show _<=(32:Nat);omega) (by show _<=(4294967295:Int);rw[ZM];omega)) ?_
    refine Kq (aa.aQ rfl an (by decide) rfl rfl rfl) ?_
    refine Kq (Kp (ov [jy l i,1*2^i] (by intro x hx;simp at hx;rcases hx with rfl | rfl;{omega};{omega}) (by unfold cj;show 2<=_;omega))) ?_
    rw[YL,ZM,<- hF]
    refine aE.nil ?_
    iterate 3 refine af ?_
    exact Cj
   ·have hF:jy l (i+1)=jy l i:=by rw[Dz,if_neg (Zs mu)]
    iterate 2 refine af ?_
    exact Cj
  ·obtain rfl:i=l.length:=by have h:=Zs c8;omega
   refine aI.exit ?_
   iterate 7 refine af ?_
   refine Kc (Kp (Da l hC)) ?_
   iterate 12 refine af ?_
   refine Kc (aa.dM rfl rfl (by rw[AI];rfl) tg (vc ?_)) ?_
   ·omega
   refine Kc (Kp (sK (lz l bad good))) ?_
   iterate 2 refine af ?_
   refine aI.rangeFunc 0 rfl (fun _=>rfl) an (n9 (lz l bad good) aaH) (Ze _) (Zv _) (fun _ h=>by cases h) (fun x hx=>by unfold kX at hx;simp at hx;obtain⟨j,_,rfl⟩:=hx;rfl) rfl (fun k h=>h=[.cells [.p (.int .i64 (Hh (((aM (lz l bad good) 32).take k).map (iA l))).1),.p (.int .i64 (Hh (((aM (lz l bad good) 32).take k).map (iA l))).2)] 24,.cells [.p (.int .u32 ((sY l:Nat):Int))] 209,.cells [.p (.int .u32 ((xk (((aM (lz l bad good) 32).take k).map (iN l)):Nat):Int))] 209,.cells [.p (Jt l)] 213,.cells [.p (.bool (decide (k=0)))] 4]) (fun c h=>False) (fun _ _ h=>by rw[h];rfl) (fun _ _ h=>h.elim) rfl ?_ ?_ ?_
   ·intro lx tmps k h x hJ hx
    subst hJ
    obtain⟨q,hq,rfl⟩:=je hx
    have OF:=b7.1 (Zh hq)
    have K5:q<l.length:=fe hcl OF.2
    have hol:=Ge l q
    have hal:=(si hC).Wh q K5
    have how:iN l q<2^32:=by omega
    have aam:xk (((aM (lz l bad good) 32).take k).map (iN l))<2^32:=FC fun x hx=>by obtain⟨j,_,rfl⟩:=yu.1 hx;have:=Ge l j;omega
    have eO:xk ((((aM (lz l bad good) 32).take k)++[q]).map (iN l))=xk (((aM (lz l bad good) 32).take k).map (iN l)++[iN l q]):=by rw[ZG];rfl
    iterate 3 refine af ?_
    refine⟨rfl,rfl,?_⟩
    iterate 2 refine af ?_
    refine aI.C2 9 mixed (by kernel_rfl) (by decide) ?_
    refine bp.cons 53 rfl rfl rfl (Kl (.p (Jt l))) (fun _=>(Kl (.p (Jt l)))) ?_
    refine bp.cons 54 rfl rfl rfl (aa.aA rfl rfl Mk) (fun _=>(aa.aA rfl rfl Mk)) ?_
    refine bp.cons 55 rfl rfl rfl (aa.move rfl rfl) (fun _=>(aa.move rfl rfl)) ?_
    refine bp.cons 56 rfl rfl rfl (Kp (mC (si hC) oA _ _ (Be l hC) q K5)) (fun _=>(Kp (mC (si hC) oA _ _ (Be l hC) q K5))) ?_
    refine bp.cons 57 rfl rfl rfl (Kl (.p (.int .u32 ((sY l:Nat):Int)))) (fun _=>(Kl (.p (.int .u32 ((sY l:Nat):Int))))) ?_
    refine bp.cons 58 rfl rfl rfl (aa.o8 (lJ l q) (sY l) rfl rfl rfl (by first | (show _<=(9223372036854775807:Int);omega) | (show _<=(4294967295:Int);omega) | (show _<=(18446744073709551615:Int);omega) | (show _<=(255:Int);omega) | (show _<=(65535:Int);omega)) (by first | decide | (show _<=(9223372036854775807:Int);omega) | (show _<=(4294967295:Int);omega) | (show _<=(18446744073709551615:Int);omega) | (show _<=(255:Int);omega) | (show _<=(65535:Int);omega))) (fun _=>(aa.o8 (lJ l q) (sY l) rfl rfl rfl (by first | (show _<=(9223372036854775807:Int);omega) | (show _<=(4294967295:Int);omega) | (show _<=(18446744073709551615:Int);omega) | (show _<=(255:Int);omega) | (show _<=(65535:Int);omega)) (by first | decide | (show _<=(9223372036854775807:Int);omega) | (show _<=(4294967295:Int);omega) | (show _<=(18446744073709551615:Int);omega) | (show _<=(255:Int);omega) | (show _<=(65535:Int);omega)))) ?_
    refine bp.lay 18 rfl rfl rfl (aa.aO rfl an rfl) ?_
    refine bp.cons 17 rfl rfl rfl (aa.assign rfl rfl) (fun _=>(aa.assign rfl rfl)) ?_
    refine bp.put rfl rfl (by decide) (aa.store rfl rfl rfl rfl rfl an rfl rfl) rfl ?_
    refine bp.nil ?_
    iterate 5 refine af ?_
    refine Kc (Kp (sK (iN l q))) ?_
    iterate 2 refine af ?_
    refine aI.E3 0 rfl (fun _=>rfl) an (n9 (iN l q) how) (Ze _) (Zv _) (fun l0 h=>⟨5,_,_,_,ZB h,rfl⟩) (fun x hx=>by unfold kX at hx;simp at hx;obtain⟨j,_,rfl⟩:=hx;rfl) rfl (fun H k2 h=>h=H.set 6 (.cells [.p (.int .i64 (qI l ((aM (iN l q) 32).take k2)))] 3)) (fun H c h=>False) (fun _ _ h=>by rw[h];rfl) (fun _ _ h=>h.elim) rfl ?_ ?_ ?_
    ·intro lx2 RM k2 h x hJ hx
     subst hJ
     obtain⟨q2,Cz,rfl⟩:=je hx
     have Vy:=MK (Zh Cz)
     have hB1:=R6 hC q k2
     have hB2:=(hC q2 Vy).2.2
     iterate 3 refine af ?_
     refine⟨rfl,rfl,?_⟩
     refine af ?_
     refine aI.aB 7 mixed (by kernel_rfl) (by decide) ?_
     refine Kq (Kl (.p (.int .i64 (qI l ((aM (iN l q) 32).take k2))))) ?_
     iterate 2 refine af ?_
     refine Kq (aa.bg (g:=bt l) vp rfl rfl rfl an Q7 rfl (fun _=>rfl) (by decide) Vy) ?_
     refine af ?_
     refine Kq (Kl (.p (.int .i64 (bt l q2).s))) ?_
     refine Kq (aa.add rfl rfl rfl (aG ?_)) ?_
     ·omega
     refine aE.nil ?_
     iterate 2 refine af ?_
     exact⟨_,rfl,by rw[fJ Cz,IQ];exact To.sub Sub.nil⟩
    ·intro h hJ
     subst hJ
     rw[ij,ZS]
     iterate 2 refine af ?_
     refine Kc (Kl (.p (.int .u32 ((xk (((aM (lz l bad good) 32).take k).map (iN l)):Nat):Int)))) ?_
     refine af ?_
     refine Kc (aa.aQ rfl an (by decide) rfl rfl rfl) ?_
     refine Kc (Kp (ov [xk (((aM (lz l bad good) 32).take k).map (iN l)),iN l q] (by intro x hx;simp only[Zr,HL,or_false] at hx;rcases hx with rfl | rfl;{exact aam};{omega}) (by unfold cj;show 2<=_;omega))) ?_
     rw[YL,<- Nv,<- eO]
     iterate 5 refine af ?_
     refine Kc (Kl (.p (.bool (decide (k=0))))) ?_
     refine af ?_
     refine Ki (fun rP=> ?_) fun rP=> ?_
     ·obtain rfl:0=k:=by have h:=Zm rP;omega
      have e2:Hh ((((aM (lz l bad good) 32).take 0)++[q]).map (iA l))=(min (iA l q) (iA l q),max (iA l q) (iA l q)):=by show(iA l q,iA l q)=_;rw[Int.min_self,Int.max_self]
      have e3:decide (0+1=0)=false:=rfl
      refine af ?_
      refine Kc (Kl (.p (.int .i64 (iA l q)))) ?_
      refine Kc (Kl (.p (.int .i64 (iA l q)))) ?_
      iterate 7 refine af ?_
      refine Kc (Kl (.p (.int .i64 (iA l q)))) ?_
      refine Kc (aa.min2 rfl rfl rfl) ?_
      iterate 2 refine af ?_
      refine Kc (Kl (.p (.int .i64 (iA l q)))) ?_
      refine Kc (aa.max2 rfl rfl rfl) ?_
      iterate 3 refine af ?_
      refine⟨_,rfl,To.done [0,1,2,3,4,5] rfl Sub.nil ?_⟩
      rw[fJ hq,e2,e3]
      rfl
     ·have hk0:¬ k=0:=Zs rP
      have e2:Hh ((((aM (lz l bad good) 32).take k)++[q]).map (iA l))=(min (Hh (((aM (lz l bad good) 32).take k).map (iA l))).1 (iA l q),max (Hh (((aM (lz l bad good) 32).take k).map (iA l))).2 (iA l q)):=by rw[ZG];exact KD _ _ (by intro h;have h2:=congrArg List.length h;have h3:=(Za.1 hq).1;rw[Zo,x7,IN] at h2;omega)
      have e3:decide (k+1=0)=decide (k=0):=by rw[decide_eq_false hk0,decide_eq_false (by omega)]
      iterate 4 refine af ?_
      refine Kc (Kl (.p (.int .i64 (iA l q)))) ?_
      refine Kc (aa.min2 rfl rfl rfl) ?_
      iterate 2 refine af ?_
      refine Kc (Kl (.p (.int .i64 (iA l q)))) ?_
      refine Kc (aa.max2 rfl rfl rfl) ?_
      iterate 3 refine af ?_
      refine⟨_,rfl,To.done [0,1,2,3,4,5] rfl Sub.nil ?_⟩
      rw[fJ hq,e2,e3]
      rfl
    ·exact gR
   ·intro h hJ
    subst hJ
    rw[ij,ZS]
    refine af ?_
    refine aI.aB 4 mixed (by kernel_rfl) (by decide) ?_
    refine Kq (Kl (.p (.int .u32 ((xZ l (lz l bad good):Nat):Int)))) ?_
    refine Kq (aa.dM rfl rfl (by rw[tg];rfl) AI (aG ?_)) ?_
    ·have:=G0 oA hcl;omega
    refine Kq (Kl (.p (.agg [.int .i64 (vv l (lz l bad good)).1,.int .i64 (vv l (lz l bad good)).2]))) ?_
    refine af ?_
    refine aE.nil ?_
    iterate 4 refine af ?_
    refine Fin.dD (xs:=[.int .i64 ((xZ l (lz l bad good):Nat):Int),.agg [.int .i64 (vv l (lz l bad good)).1,.int .i64 (vv l (lz l bad good)).2],.int .i64 0]) rfl (⟨_,_,rfl,rfl,⟨_,_,rfl,⟨_,_,_,rfl,an,rfl⟩,⟨_,_,rfl,rfl,rfl⟩⟩⟩) rfl ?_
    unfold xA lZ;rw[hE,if_pos rfl,if_pos rfl]
   ·exact gR
end Go.Proofs.YtibffijhebobmaaGreatDoor.Rx
end
