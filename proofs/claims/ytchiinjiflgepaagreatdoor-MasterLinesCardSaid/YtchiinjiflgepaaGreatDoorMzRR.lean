/-
 Plain data of chapter 11: cards; sets by bits; the lowest bit of a set. No program in sight.
 Plain data of chapter 11: what a batch comes from, and what comes from it; a walk that marks what it met. No program in sight.
 Plain data of chapter 11: which batches can be to blame, what is called back, and what batches have in common. No program in sight.
 From what the statements' arguments of chapter 11 may hold to plain data; what the statements about ways ask. No program in sight.
 What the statements of chapter 11 about blame ask: the true one can be to blame, and what comes from it is called back. No program in sight.
 What the statement about no other batch of chapter 11 asks. No program in sight.
 What the document's own functions of chapter 11 compute, step by step. No program in sight.
 Small functions; sets by bits; what is valid.
 Ways, and all that they lead to.
 All that a way leads to.
 Ways from a batch; which batches can be to blame.
 What is called back.
 The document's own functions: sets, and what each batch comes from.
 The document's own functions: blame, and what batches have in common.
 The document's own function: what is called back.
-/
import Derived.Test.YtchiinjiflgepaaGreatDoorPmR
import Derived.Test.YtchiinjiflgepaaGreatDoorFaRD
import Derived.Test.YtchiinjiflgepaaGreatDoorMzRF
import Derived.Test.YtchiinjiflgepaaGreatDoorMzRZ
theorem Si{A:Prop}(h:A:=by
 obtain rfl:i=l.length:=by have h:=Zf hc0;omega
 exact Is):A:=h
theorem aac{A:Prop}(h:A:=by
 refine Kc (aa.min2 rfl rfl rfl) ?_
 iterate 3 refine af ?_
 refine Kc (aa.max2 rfl rfl rfl) ?_
 iterate 8 refine af ?_
 exact Th):A:=h
theorem CD{A:Prop}(h:A:=by
 refine Kc (aa.add rfl rfl rfl (aA ?_)) ?_
 ·omega
 iterate 2 refine af ?_
 refine⟨i+1,?_,?_,?_⟩
 ·omega
 ·omega
 refine To.done [] rfl (Sub.cons rfl (Sub.cons (by rw[hs];rfl) KS)) rfl):A:=h
theorem Th{A:Prop}(h:A:=by
 refine Kc (aa.add rfl rfl rfl (aA ?_)) ?_
 ·omega
 iterate 2 refine af ?_
 refine⟨i+1,?_,?_,?_⟩
 ·omega
 ·omega
 refine To.done [0,1] rfl (Sub.cons rfl (Sub.cons (by rw[hm];rfl) (Sub.cons (by rw[hf];rfl) KS))) ?_
 rw[hs]
 rfl):A:=h
theorem aad{A:Prop}(h:A:=by
 have hn:fZ l bad good=0:=by have h:((fZ l bad good:Nat):Int)=0:=(by simpa using eG);omega
 iterate 6 refine af ?_
 refine Fin.bq (xs:=[.int .i64 0,.int .i64 6]) rfl (⟨_,_,rfl,rfl,⟨_,_,rfl,rfl,rfl⟩⟩) rfl ?_
 have e:hY l (bad:Int) (good:Int)=6:=by unfold hY;rw[if_neg (not_not_intro hE),if_neg hz,if_pos (show fZ l (bad:Int).toNat (good:Int).toNat=0 from hn)]
 unfold kB;rw[e,if_neg (by decide)];rfl):A:=h
theorem Sc{A:Prop}(h:A:=by
 refine Fin.bq (xs:=[.int .i64 ((fZ l bad good:Nat):Int),.int .i64 0]) rfl (⟨_,_,rfl,rfl,⟨_,_,rfl,rfl,rfl⟩⟩) rfl ?_
 have e:hY l (bad:Int) (good:Int)=0:=by unfold hY;rw[if_neg (not_not_intro hE),if_neg hz,if_neg (show ¬ fZ l (bad:Int).toNat (good:Int).toNat=0 from hn)]
 unfold kB;rw[e,if_pos rfl];rfl):A:=h
theorem aap{A:Prop}(h:A:=by
 have hI:¬ gO b 0 ((l.length:Int) - 1)=true:=by intro h;rw[h] at bw;cases bw
 iterate 6 refine af ?_
 refine Fin.bq (xs:=[.int .i64 0,.int .i64 2]) rfl (⟨_,_,rfl,rfl,⟨_,_,rfl,rfl,rfl⟩⟩) rfl ?_
 have e:fH l b=2:=by unfold fH;rw[if_pos hC,if_neg hI]
 unfold jb;rw[e,if_neg (by decide)];rfl):A:=h
theorem abo{A:Prop}(h:A:=by
 have hE:hY l bad good≠0:=by simpa using hc0
 iterate 9 refine af ?_
 refine Fin.bq (xs:=[.int .i64 0,.agg [.int .i64 0,.int .i64 0],.int .i64 (hY l bad good)]) rfl (⟨_,_,rfl,rfl,⟨_,_,rfl,⟨_,_,_,rfl,ai,rfl⟩,⟨_,_,rfl,rfl,rfl⟩⟩⟩) rfl ?_
 unfold oz iZ;rw[if_neg hE,if_neg hE];rfl):A:=h
theorem Rt{A:Prop}(h:A:=by
 have hE:iL l []≠0:=by simpa using hc0
 iterate 7 refine af ?_
 refine Fin.bq (xs:=[.int .i64 0,.int .i64 (iL l [])]) rfl (⟨_,_,rfl,rfl,⟨_,_,rfl,rfl,rfl⟩⟩) rfl ?_
 have e:fH l b=iL l []:=by rw[Po] at hE ⊢;unfold fH;split <;> simp_all
 unfold jb;rw[e,if_neg hE];rfl):A:=h
theorem SH{A:Prop}(h:A:=by
 have hE:iL l [bad,good]≠0:=by simpa using hc0
 iterate 7 refine af ?_
 refine Fin.bq (xs:=[.int .i64 0,.int .i64 (iL l [bad,good])]) rfl (⟨_,_,rfl,rfl,⟨_,_,rfl,rfl,rfl⟩⟩) rfl ?_
 have e:hY l bad good=iL l [bad,good]:=by unfold hY;rw[if_pos hE]
 unfold kB;rw[e,if_neg hE];rfl):A:=h
theorem YL{A:Prop}(h:A:=by
 have hz:bad=0:=by simpa using bw
 iterate 6 refine af ?_
 refine Fin.bq (xs:=[.int .i64 0,.int .i64 4]) rfl (⟨_,_,rfl,rfl,⟨_,_,rfl,rfl,rfl⟩⟩) rfl ?_
 have e:hY l bad good=4:=by unfold hY;rw[if_neg (not_not_intro hE),if_pos hz]
 unfold kB;rw[e,if_neg (by decide)];rfl):A:=h
theorem T4{A:Prop}(h:A:=by
 refine Kc (aa.add rfl rfl rfl (aA ?_)) ?_
 ·omega
 iterate 2 refine af ?_
 refine⟨j+1,?_,?_,?_⟩
 ·refine⟨by omega,fun i hi=> ?_⟩
  rcases NX.1 hi with h1 | rfl
  ·exact jM i h1
  ·exact hst
 ·omega
 exact To.done [] rfl KS rfl):A:=h
theorem S1{A:Prop}(h:A:=by
 refine Kc (aa.add rfl rfl rfl (aA ?_)) ?_
 ·omega
 iterate 2 refine af ?_
 refine⟨k+1,?_,?_,?_⟩
 ·omega
 ·omega
 refine To.sub (Sub.cons rfl (Sub.cons (by rw[aaF];rfl) (Sub.cons (by rw[aa6];rfl) KS)))):A:=h
theorem Sq{A:Prop}(h:A:=by
 refine Kc (aa.add rfl rfl rfl (aA ?_)) ?_
 ·omega
 iterate 2 refine af ?_
 refine⟨k+1,?_,?_,?_⟩
 ·omega
 ·omega
 refine To.done [] rfl (Sub.cons rfl (Sub.cons (by rw[hx];rfl) KS)) rfl):A:=h
theorem Ru{A:Prop}(h:A:=by
 refine Kc (aa.add rfl rfl rfl (aA ?_)) ?_
 ·omega
 iterate 2 refine af ?_
 refine⟨k+1,?_,?_,?_⟩
 ·omega
 ·omega
 refine To.sub (Sub.cons rfl (Sub.cons (by rw[hst];rfl) KS))):A:=h
theorem TW{A:Prop}(h:A:=by
 refine Kc (aa.add rfl rfl rfl (aA ?_)) ?_
 ·omega
 iterate 2 refine af ?_
 refine⟨i+1,?_,?_,?_⟩
 ·omega
 ·omega
 refine To.done [0,1] rfl KS ?_
 rw[hF]
 rfl):A:=h
theorem TA{A:Prop}(h:A:=by
 have hC:¬ cv l:=by simpa using hc0
 iterate 5 refine af ?_
 refine Fin.cY rfl rfl ?_
 unfold iL;rw[if_neg hC]):A:=h
theorem aaG{A:Prop}(h:A:=by
 intro a
 rw[UL,ih,Ij,CK]
 simp only[Zv,exists_eq_or_imp,or_assoc]):A:=h
theorem Sy{A:Prop}(h:A:=by
 refine aC.exit ?_
 iterate 5 refine af ?_
 refine Fin.cY rfl rfl ?_
 rw[decide_eq_true (p:=cv l) jM]):A:=h
theorem R2{A:Prop}(h:A:=by
 have e:fH l (b:Int)=0:=by unfold fH;rw[if_pos hC,if_pos hI]
 unfold jb;rw[e,if_pos rfl];rfl):A:=h
theorem YP{A:Prop}(h:A:=by
 iterate 6 refine af ?_
 refine Fin.cY rfl rfl ?_
 unfold iL;rw[if_pos hC,if_neg (by rw[hS];decide)]):A:=h
theorem abl{A:Prop}(h:A:=by
 rw[decide_eq_false (p:=cv l) (fun h=>by have h1:=h j hk0;unfold vt at h1;simp[gO] at h3;omega)]):A:=h
theorem aah{A:Prop}(h:A:=by
 iterate 5 refine af ?_
 refine Fin.cY rfl rfl ?_
 unfold iL;rw[if_pos hC,if_pos hS]):A:=h
set_option linter.unusedSimpArgs false
set_option linter.unusedVariables false
section
namespace Go.Proofs.YtchiinjiflgepaaGreatDoor.Rx
open Go.AF
structure bF where
 f:Int
 s:Int
deriving DecidableEq
def bF.cells(b:bF):List PV:=[.int .i64 b.f,.int .i64 b.s]
def cz(l:List bF):PV:= .is (l.flatMap bF.cells) l.length
def bt(l:List bF)(i:Nat):bF:=l.getD i ⟨0,0⟩
theorem lf{l:List bF}:∀ k (h:k<l.length),l[k]=bt l k:=fun k h=>by
 unfold bt
 exact Ra
def bK:Nat:=9223372036854775807
def gO(n lo hi:Int):Bool:=decide (lo<=n)&&decide (n<=hi)
def i1(n:Int):List PV:=[.int .i64 n]
def u1(n:Nat):List PV:=[.int .u32 (n:Int)]
theorem M4:∀ n:Nat,n≠0->∃ k m,n=2^k*(2*m+1):=by
 intro n
 induction n using Nat.strongRecOn with
 | ind n ih=>
  intro h
  rcases Nat.mod_two_eq_zero_or_one n with h1 | h1
  ·obtain⟨k,m,e⟩:=ih (n / 2) (by omega) (by omega)
   refine⟨k+1,m,?_⟩
   have:n=2*(n / 2):=by omega
   rw[P8,Nat.mul_comm (2^k) 2,Nat.mul_assoc,<- e]
   exact this
  ·exact⟨0,n / 2,by omega⟩
theorem PJ(m j:Nat):(2*m+1).testBit j=if j=0 then true else m.testBit (j - 1):=by
 cases j with
 | zero=>simp[X0]
 | succ j=>rw[Nat.testBit_succ,show(2*m+1) / 2=m by omega,if_neg (by omega),Nat.add_sub_cancel]
theorem Jv(m j:Nat):(2*m).testBit j=if j=0 then false else m.testBit (j - 1):=by
 cases j with
 | zero=>simp[X0]
 | succ j=>rw[Nat.testBit_succ,show 2*m / 2=m by omega,if_neg (by omega),Nat.add_sub_cancel]
theorem uB(k m i:Nat):(2^k*(2*m+1)).testBit i=(decide (k<=i)&&if i=k then true else m.testBit (i - k - 1)):=by
 rw[ZbH,PJ]
 by_cases h:k<=i
 ·by_cases h2:i=k
  ·subst h2;simp
  ·rw[if_neg (by omega),if_neg h2]
 ·simp[h]
theorem vj(k m i:Nat):(2^k*(2*m+1) - 1).testBit i=if i<k then true else if i=k then false else m.testBit (i - k - 1):=by
 have hp:=Oi k
 have e:2^k*(2*m+1) - 1=2^k*(2*m)+(2^k - 1):=by rw[Nat.mul_add,Ig];omega
 rw[e,Vy _ (by omega)]
 split
 ·rename_i h
  rw[Nat.testBit_two_pow_sub_one];simp[h]
 ·rename_i h
  rw[Jv]
  by_cases h2:i=k
  ·rw[if_pos (by omega),if_pos h2]
  ·rw[if_neg (by omega),if_neg h2]
theorem F1(k m:Nat):2^k*(2*m+1)&&& (2^k*(2*m+1) - 1)=2^(k+1)*m:=by
 apply Ie
 intro i
 rw[J0,uB,vj,ZbH]
 by_cases h:i<k
 ·simp[show ¬ k<=i by omega,show ¬ k+1<=i by omega]
 ·by_cases h2:i=k
  ·subst h2;simp[show ¬ i+1<=i by omega]
  ·simp[h,h2,show k<=i by omega,show k+1<=i by omega,Nat.sub_sub]
theorem A3(k m:Nat)(h:2^k*(2*m+1)<2^32):2^k*(2*m+1)&&& (2^32 - 2^k*(2*m+1))=2^k:=by
 have hp:=Oi k
 have h1:1<=2^k*(2*m+1):=Nat.mul_pos hp (by omega)
 have hk:k<32:=by
  rcases ZS k 32 with h2 | h2
  ·exact h2
  ·exact OL
 apply Ie
 intro i
 have e:2^32 - 2^k*(2*m+1)=2^32 - ((2^k*(2*m+1) - 1)+1):=by omega
 rw[e,J0,Nat.testBit_two_pow_sub_succ (by omega),uB,vj,H8]
 by_cases h2:i<k
 ·simp[show ¬ k<=i by omega,show ¬ k=i by omega]
 ·exact RU
theorem Wj{k m:Nat}(h:2^k*(2*m+1)<2^32):k<32:=by
 rcases ZS k 32 with h2 | h2
 ·exact h2
 ·exact OL
def Na:List Int:=[0,1,28,2,29,14,24,3,30,22,20,15,25,17,4,8,31,27,13,23,21,19,16,7,26,12,18,6,11,5,10,9]
theorem U5:∀ k:Nat,k<32->Na[2^k*125613361%4294967296 / 2^27]? =some (k:Int):=by decide
def qL(n p:Nat):Nat:=n / 2^p*2^p
theorem DB(n p i:Nat):(qL n p).testBit i=(decide (p<=i)&&n.testBit i):=by
 unfold qL
 rw[Nat.mul_comm,ZbH,Nat.testBit_div_two_pow]
 by_cases h:p<=i
 ·simp[h]
 ·simp[h]
def aL(n p:Nat):List Nat:=(List.range p).filter fun i=>n.testBit i
theorem kA(n p:Nat):aL n (p+1)=if n.testBit p then aL n p++[p] else aL n p:=by
 unfold aL
 rw[Xt,ZbJ]
 cases h:n.testBit p <;> simp[h]
theorem mD{n p:Nat}:∀{k:Nat},p<=k->(∀ i,p<=i->i<k->n.testBit i=false)->aL n k=aL n p:=by
 intro k
 induction k with
 | zero=>intro h _;obtain rfl:p=0:=by omega
         rfl
 | succ k ih=>
  intro h h2
  rcases ZS p (k+1) with h1 | h1
  ·rw[kA,h2 k (by omega) (by omega)]
   exact ih (by omega) fun i a b=>h2 i a (by omega)
  ·obtain rfl:p=k+1:=by omega
   rfl
theorem EB{n p:Nat}(hn:n<2^32)(hp:p<=32)(h:qL n p≠0):∃ k,p<=k∧k<32∧qL n p&&& (2^32 - qL n p)=2^k∧qL n p&&& (qL n p - 1)=qL n (k+1)∧aL n (k+1)=aL n p++[k]:=by
 obtain⟨k,m,e⟩:=M4 _ h
 have hlt:qL n p<2^32:=Nat.lt_of_le_of_lt (Nat.div_mul_le_self _ _) hn
 have hk:=Wj (e▸hlt)
 have hb:∀ i,(decide (p<=i)&&n.testBit i)=(decide (k<=i)&&if i=k then true else m.testBit (i - k - 1)):=fun i=>by rw[<- DB,e,uB]
 have hpk:p<=k∧n.testBit k=true:=by
  have:=hb k
  simp at this
  exact this
 have hlow:∀ i,p<=i->i<k->n.testBit i=false:=fun i h1 h2=>by
  have:=hb i
  simp[h1,show ¬ k<=i by omega] at this
  exact this
 refine⟨k,hpk.1,hk,by rw[e];exact A3 k m (e▸hlt),?_,?_⟩
 ·rw[e,F1]
  apply Ie
  intro i
  rw[DB,ZbH]
  by_cases h1:k+1<=i
  ·have:=hb i
   simp[show p<=i by omega,show k<=i by omega,show ¬ i=k by omega] at this
   simp[h1,this,Nat.sub_sub]
  ·simp[h1]
 ·rw[kA,hpk.2,if_pos rfl,mD hpk.1 hlow]
theorem FL{n p:Nat}(hp:p<=32)(h:qL n p=0):aL n 32=aL n p:=by
 refine mD hp fun i h1 h2=> ?_
 have:=DB n p i
 rw[h] at this
 simp[h1] at this
 exact this
theorem D5(n:Nat):qL n 0=n:=by simp[qL]
theorem Tf(n p:Nat):qL n p<=n:=Nat.div_mul_le_self _ _
theorem HK(n:Nat){p q:Nat}(h:p<=q):aL n p<+:aL n q:=by
 induction q with
 | zero=>obtain rfl:p=0:=by omega
         exact ZG _
 | succ q ih=>
  rcases ZS p (q+1) with h1 | h1
  ·refine(ih (by omega)).trans ?_
   rw[kA]
   split
   ·exact Xi _ _
   ·exact ZG _
  ·obtain rfl:p=q+1:=by omega
   exact ZG _
theorem LF{n p k:Nat}(hk:k<32)(h:aL n (k+1)=aL n p++[k]):(aL n 32)[(aL n p).length]? =some k:=by
 obtain⟨t,ht⟩:=HK n (show k+1<=32 by omega)
 rw[<- ht,h,ZM,Zj (Zg _),NQ]
 rfl
theorem cy{n p i:Nat}:i∈aL n p↔i<p∧n.testBit i=true:=by
 unfold aL
 rw[List.mem_filter,wX]
theorem wu{n p:Nat}:p<=32->(aL n p).length<=32:=fun h=>by
 unfold aL
 exact Zz (List.length_filter_le _ _) (by rw[L0];exact h)
def l7(n:Nat):List (List V):=(aL n 32).map fun k=>[V.p (.int .i64 ((k:Nat):Int))]
theorem jg(n:Nat):(l7 n).length=(aL n 32).length:=by simp[l7]
theorem Jo{n p k:Nat}(hk:k<32)(h:aL n (k+1)=aL n p++[k]):(l7 n)[(aL n p).length]? =some [V.p (.int .i64 ((k:Nat):Int))]:=by
 unfold l7
 rw[Zt,LF hk h];rfl
theorem Fj(n:Int):IntKind.u32.wrap n=n%4294967296:=by simp[IntKind.wrap,IntKind.bits,IntKind.signed]
theorem WQ{n:Nat}(h:0<n)(h2:n<2^32):IntKind.u32.wrap (0 - (n:Int))=((2^32 - n:Nat):Int):=by
 rw[Fj]
 omega
theorem UK(k:Nat):IntKind.u32.wrap (((2^k:Nat):Int)*125613361)=((2^k*125613361%4294967296:Nat):Int):=by
 rw[Fj]
 omega
def vk(l:List Nat):Nat:=l.foldl (· ||| ·) 0
theorem Jk{l:List Nat}{k:Nat}(h:k<l.length):vk (l.take (k+1))=vk (l.take k)||| l[k]:=by
 unfold vk
 rw[ZV h,Su];rfl
theorem C1{l:List Nat}(h:∀ x∈l,x<2^32):vk l<2^32:=by
 unfold vk
 have:∀(l:List Nat) (a:Nat),a<2^32->(∀ x∈l,x<2^32)->l.foldl (· ||| ·) a<2^32:=fun l=>by
  induction l with
  | nil=>intro a h _;exact h
  | cons x l ih=>intro a h h2;exact ih _ (LO h (h2 x (by simp))) fun y hy=>h2 y (by simp[hy])
 exact this l 0 (by decide) h
theorem or2(a b:Nat):vk [a,b]=a||| b:=by unfold vk;simp
def ut(l:List Nat)(i:Nat):Nat:=l.getD i 0
theorem uW{l:List Nat}:∀ k (h:k<l.length),l[k]=ut l k:=fun k h=>by
 unfold ut
 exact Ra
theorem WH{l:List Nat}{i:Nat}(h:i<l.length):ut l i∈l:=by rw[<- uW i h];exact ZZ _
def pw(n:Nat):Int:=((2^n:Nat):Int)
theorem V2{n m:Nat}(h:n<=m):1<=pw n∧pw n<=pw m:=by
 unfold pw
 have h1:=Oi n
 have h2:=Zq (show 0<2 by omega) h
 omega
theorem tV{n:Nat}(h:n<=24):1<=pw n∧pw n<=16777216:=V2 h
theorem abj{n:Nat}(h:n<=62):1<=pw n∧pw n<=4611686018427387904:=V2 h
theorem Oj(n:Nat):pw (n+1)=2*pw n:=by unfold pw;rw[P8];push_cast;omega
def vt(l:List bF)(j:Nat):Prop:=j<24∧(0<=(bt l j).f∧(bt l j).f<=pw j - 1)∧0<=(bt l j).s∧(bt l j).s<=1048576
instance (l:List bF) (j:Nat):Decidable (vt l j):=by unfold vt;infer_instance
def cv(l:List bF):Prop:=∀ j,j<l.length->vt l j
instance (l:List bF):Decidable (cv l):=by unfold cv;infer_instance
theorem bM{l:List bF}(h:cv l):l.length<=24:=by
 rcases ZS 24 l.length with h1 | h1
 ·have:=(h 24 h1).1;omega
 ·exact h1
def iL(l:List bF)(sets:List Int):Int:=if cv l then(if (sets.any fun n=> !gO n 0 (pw l.length - 1))=true then 2 else 0) else 1
def aQ(l:List Int):PV:= .is (l.flatMap i1) l.length
def jw{α:Type}(p:α->Bool)(xs:List α):Int:=match xs.findIdx? p with
 | some i=>(i:Int)
 | none=> -1
theorem rE{α:Type}(p:α->Bool)(xs:List α)(i:Nat)(hi:i<xs.length)(hb:∀ j (h:j<i),p (xs[j]'(by omega))=false)(hp:p xs[i]=true):jw p xs=(i:Int):=by
 unfold jw
 have:xs.findIdx? p=some i:=by
  rw[ZaV]
  exact⟨hi,hp,fun j h=>by rw[hb j h];decide⟩
 rw[this]
theorem lM{α:Type}(p:α->Bool)(xs:List α)(hb:∀ j (h:j<xs.length),p xs[j]=false):jw p xs= -1:=by
 unfold jw
 have:xs.findIdx? p=none:=by
  rw[List.findIdx?_eq_none_iff]
  intro x hx
  obtain⟨j,hj,rfl⟩:=OX hx
  exact hb j hj
 rw[this]
theorem lK{α:Type}(p:α->Bool)(xs:List α):decide (jw p xs>=0)=xs.any p:=by
 unfold jw
 cases h:xs.findIdx? p with
 | none=>
  rw[List.findIdx?_eq_none_iff] at h
  have:xs.any p=false:=NM.2 fun x hx=>by rw[h x hx];decide
  rw[this];rfl
 | some i=>
  obtain⟨hi,hp,_⟩:=ZaV.1 h
  have:xs.any p=true:=List.any_eq_true.2 ⟨_,ZZ hi,hp⟩
  rw[this]
  exact decide_eq_true (by show(0:Int)<=(i:Int);omega)
def nX(l:List bF)(i:Nat):Nat:=(bt l i).f.toNat
def cB(p:Nat->Bool):Nat->Nat
 | 0=>0
 | n+1=>if p n then cB p n+2^n else cB p n
theorem eU(p:Nat->Bool):∀ n,cB p n<2^n
 | 0=>Nat.lt_succ_self 0
 | n+1=>by
  have:=eU p n
  unfold cB
  rw[P8]
  split <;> omega
theorem uD{a n:Nat}(h:a<2^n)(i:Nat):(a+2^n).testBit i=if i<n then a.testBit i else decide (i=n):=by
 have:=Vy 1 h i
 rw[Ig,XK] at this
 rw[this]
 by_cases h1:i<n
 ·rw[if_pos h1,if_pos h1]
 ·rw[if_neg h1,if_neg h1]
  by_cases h2:i=n
  ·subst h2;simp
  ·rw[decide_eq_false h2]
   exact WL (Nat.one_lt_two_pow (by omega))
theorem fB(p:Nat->Bool):∀ n i,(cB p n).testBit i=(decide (i<n)&&p i)
 | 0,i=>by simp[cB]
 | n+1,i=>by
  have hlt:=eU p n
  have ih:=fB p n i
  unfold cB
  cases hp:p n with
  | true=>
   rw[if_pos rfl,uD hlt,ih]
   by_cases h1:i<n
   ·simp[h1,show i<n+1 by omega]
   ·by_cases h2:i=n
    ·subst h2;simp[hp]
    ·simp[h1,h2,show ¬ i<n+1 by omega]
  | false=>
   rw[if_neg (by decide),ih]
   by_cases h1:i<n
   ·simp[h1,show i<n+1 by omega]
   ·by_cases h2:i=n
    ·subst h2;simp[hp]
    ·simp[h1,show ¬ i<n+1 by omega]
def jO(l:List bF)(t:List Nat)(n:Nat):Nat->Nat
 | 0=>2^n
 | k+1=>if (nX l n).testBit k then jO l t n k||| ut t k else jO l t n k
def dO(l:List bF):Nat->List Nat
 | 0=>[]
 | n+1=>dO l n++[jO l (dO l n) n n]
theorem fu(l:List bF):∀ n,(dO l n).length=n
 | 0=>rfl
 | n+1=>by rw[dO,Zc,fu l n];rfl
def bn(l:List bF)(i:Nat):Nat:=ut (dO l (i+1)) i
theorem wh(l:List bF){i:Nat}:∀{n:Nat},i<n->ut (dO l n) i=bn l i:=by
 intro n
 induction n with
 | zero=>intro h;omega
 | succ n ih=>
  intro h
  rcases ZS i n with h1 | h1
  ·rw[<- ih h1]
   unfold ut
   rw[dO,Zh,Zh,Zd (by rw[fu];exact h1)]
  ·obtain rfl:i=n:=by omega
   rfl
theorem C5(l:List bF)(i:Nat):bn l i=jO l (dO l i) i i:=by
 unfold bn ut
 rw[dO,Zh,Zj (by rw[fu];exact Zg _),fu,NQ]
 rfl
theorem sj(l:List bF)(i x:Nat):∀ n,n<=i->((jO l (dO l i) i n).testBit x=true↔x=i∨∃ k,k<n∧(nX l i).testBit k=true∧(bn l k).testBit x=true)
 | 0,_=>by
  show(2^i).testBit x=true↔_
  rw[H8,Zl]
  constructor
  ·intro h;exact .inl h.symm
  ·rintro(h | ⟨k,h,_⟩)
   ·exact h.symm
   ·omega
 | n+1,hn=>by
  have ih:=sj l i x n (by omega)
  unfold jO
  split
  ·rename_i hb
   rw[Ij,CK,ih,wh l (show n<i by omega)]
   constructor
   ·rintro((h | ⟨k,h1,h2⟩) | h)
    ·exact .inl h
    ·exact .inr ⟨k,by omega,h2⟩
    ·exact .inr ⟨n,by omega,hb,h⟩
   ·rintro(h | ⟨k,h1,h2,h3⟩)
    ·exact .inl (.inl h)
    ·rcases NX.1 h1 with h4 | rfl
     ·exact .inl (.inr ⟨k,h4,h2,h3⟩)
     ·exact .inr h3
  ·rename_i hb
   rw[ih]
   constructor
   ·rintro(h | ⟨k,h1,h2⟩)
    ·exact .inl h
    ·exact .inr ⟨k,by omega,h2⟩
   ·rintro(h | ⟨k,h1,h2,h3⟩)
    ·exact .inl h
    ·rcases NX.1 h1 with h4 | rfl
     ·exact .inr ⟨k,h4,h2,h3⟩
     ·exact absurd h2 hb
theorem jo(l:List bF)(i x:Nat):(bn l i).testBit x=true↔x=i∨∃ k,k<i∧(nX l i).testBit k=true∧(bn l k).testBit x=true:=by
 rw[C5]
 exact sj l i x i (Zg _)
theorem sA(l:List bF)(i:Nat):(bn l i).testBit i=true:=(jo l i i).2 (.inl rfl)
theorem Er(l:List bF):∀{i x:Nat},(bn l i).testBit x=true->x<=i:=by
 intro i
 induction i using Nat.strongRecOn with
 | ind i ih=>
  intro x h
  rcases(jo l i x).1 h with rfl | ⟨k,h1,_,h3⟩
  ·exact Zg _
  ·have:=ih k h1 h3;omega
theorem DM(l:List bF):∀{i j x:Nat},(bn l i).testBit j=true->(bn l j).testBit x=true->(bn l i).testBit x=true:=by
 intro i
 induction i using Nat.strongRecOn with
 | ind i ih=>
  intro j x h1 h2
  rcases(jo l i j).1 h1 with rfl | ⟨k,h3,h4,h5⟩
  ·exact h2
  ·exact(jo l i x).2 (.inr ⟨k,h3,h4,ih k h3 h5 h2⟩)
theorem oO(l:List bF)(i:Nat):bn l i<2^(i+1):=by
 apply Nat.lt_pow_two_of_testBit
 intro x hx
 cases h:(bn l i).testBit x with
 | false=>rfl
 | true=>have:=Er l h;omega
theorem vc{l:List bF}(h:cv l){i k:Nat}(hi:i<l.length)(hk:(nX l i).testBit k=true):k<i:=by
 have h1:=(h i hi).2.1
 rcases ZS k i with h2 | h2
 ·exact h2
 ·exfalso
  have h3:nX l i<2^i:=by unfold nX;unfold pw at h1;omega
  rw[WL (ZQ h3 (Zq (by omega) h2))] at hk
  cases hk
def jC(l:List bF)(b:Nat):Nat:=cB (fun i=>(bn l i).testBit b) l.length
theorem j3(l:List bF)(b i:Nat):(jC l b).testBit i=(decide (i<l.length)&&(bn l i).testBit b):=fB _ _ _
def yj(l:List bF)(b:Nat):Nat:=cB (fun i=>(nX l i).testBit b) l.length
theorem rD(l:List bF)(b i:Nat):(yj l b).testBit i=(decide (i<l.length)&&(nX l i).testBit b):=fB _ _ _
structure Way (N:Nat) (nx R rk:Nat->Nat):Prop where
 lt:∀ b,b<N->nx b<2^N
 Xh:∀ b,b<N->R b<2^N
 iff:∀ b,b<N->∀ x,(R b).testBit x=true↔x=b∨∃ k,(nx b).testBit k=true∧(R k).testBit x=true
 rk:∀ b,b<N->∀ k,(nx b).testBit k=true->rk k<rk b
 Ud:∀ b,b<N->∀ k,(nx b).testBit k=true->k<N
theorem Way.self{N:Nat}{nx R rk:Nat->Nat}(w:Way N nx R rk){b:Nat}(h:b<N):(R b).testBit b=true:=(w.iff b h b).2 (.inl rfl)
theorem Way.Yj{N:Nat}{nx R rk:Nat->Nat}(w:Way N nx R rk):∀(m b:Nat),b<N->rk b<=m->∀ x,(R b).testBit x=true->x<N∧(x=b∨rk x<rk b)
 | m,b,hb,hm,x,hx=>by
  rcases(w.iff b hb x).1 hx with rfl | ⟨k,h1,h2⟩
  ·exact⟨hb,.inl rfl⟩
  ·have h3:=w.rk b hb k h1
   have h4:=w.Ud b hb k h1
   match m,hm with
   | 0,hm=>omega
   | m+1,hm=>
    have:=w.Yj m k h4 (by omega) x h2
    refine⟨this.1,.inr ?_⟩
    rcases this.2 with rfl | h5 <;> omega
theorem Way.trans{N:Nat}{nx R rk:Nat->Nat}(w:Way N nx R rk):∀(m b:Nat),b<N->rk b<=m->∀ x y,(R b).testBit x=true->(R x).testBit y=true->(R b).testBit y=true
 | m,b,hb,hm,x,y,h1,h2=>by
  rcases(w.iff b hb x).1 h1 with rfl | ⟨k,h3,h4⟩
  ·exact h2
  ·have h5:=w.rk b hb k h3
   match m,hm with
   | 0,hm=>omega
   | m+1,hm=>exact(w.iff b hb y).2 (.inr ⟨k,h3,w.trans m k (w.Ud b hb k h3) (by omega) x y h4 h2⟩)
def FD(R:Nat->Nat)(b M:Nat):Prop:=∀ x,M.testBit x=true->(R b).testBit x=true->∀ y,(R x).testBit y=true->M.testBit y=true
def rG(R:Nat->Nat)(M b:Nat):List Nat->Nat
 | ks=>ks.foldl (fun a k=>a||| R k) (M||| 2^b)
theorem vF(R:Nat->Nat)(M b x:Nat)(ks:List Nat):(rG R M b ks).testBit x=true↔M.testBit x=true∨x=b∨∃ k∈ks,(R k).testBit x=true:=by
 have:∀(ks:List Nat) (a:Nat),(ks.foldl (fun a k=>a||| R k) a).testBit x=true↔a.testBit x=true∨∃ k∈ks,(R k).testBit x=true:=fun ks=>by
  induction ks with
  | nil=>intro a;simp
  | cons k ks ih=>
   exact aaG
 unfold rG
 rw[this,Ij,CK,H8,Zl,or_assoc,eq_comm (a:=b)]
theorem GZ(R:Nat->Nat)(M b:Nat)(ks:List Nat)(k:Nat):rG R M b (ks++[k])=rG R M b ks||| R k:=by
 unfold rG
 rw[Su];rfl
theorem Jf{N:Nat}{nx R rk:Nat->Nat}(w:Way N nx R rk){b M:Nat}(hb:b<N)(h:FD R b M){ks:List Nat}(hk:∀ k∈ks,(nx b).testBit k=true){k:Nat}(hkb:(nx b).testBit k=true):FD R k (rG R M b ks):=by
 intro x hx hxk y hy
 rw[vF] at hx ⊢
 have hxb:(R b).testBit x=true:=(w.iff b hb x).2 (.inr ⟨k,hkb,hxk⟩)
 rcases hx with h1 | rfl | ⟨k2,h2,h3⟩
 ·exact .inl (h x h1 hxb y hy)
 ·exfalso
  have h4:=w.rk x hb k hkb
  have h5:=(w.Yj (rk k) k (w.Ud x hb k hkb) (Zg _) x hxk).2
  rcases h5 with rfl | h5
  ·omega
  ·omega
 ·exact .inr (.inr ⟨k2,h2,w.trans (rk k2) k2 (w.Ud b hb k2 (hk k2 h2)) (Zg _) x y h3 hy⟩)
theorem O3{N:Nat}{nx R rk:Nat->Nat}(w:Way N nx R rk){b M:Nat}(hb:b<N):rG R M b (aL (nx b) 32)=M||| R b∨32<N:=by
 rcases ZS 32 N with hN | hN
 ·exact .inr hN
 left
 apply Ie
 intro x
 have key:(rG R M b (aL (nx b) 32)).testBit x=true↔(M||| R b).testBit x=true:=by
  rw[vF,Ij,CK,w.iff b hb x]
  constructor
  ·rintro(h | h | ⟨k,h1,h2⟩)
   ·exact .inl h
   ·exact .inr (.inl h)
   ·exact .inr (.inr ⟨k,(cy.1 h1).2,h2⟩)
  ·rintro(h | h | ⟨k,h1,h2⟩)
   ·exact .inl h
   ·exact .inr (.inl h)
   ·exact .inr (.inr ⟨k,cy.2 ⟨by have:=w.Ud b hb k h1;omega,h1⟩,h2⟩)
 cases h1:(rG R M b (aL (nx b) 32)).testBit x with
 | true=>exact(key.1 h1).symm
 | false=>
  cases h2:(M||| R b).testBit x with
  | false=>rfl
  | true=>rw[key.2 h2] at h1;cases h1
theorem P4{N:Nat}{nx R rk:Nat->Nat}(w:Way N nx R rk){b M:Nat}(hb:b<N)(h:FD R b M)(hm:M.testBit b=true):M||| R b=M:=by
 apply Ie
 intro x
 rw[Ij]
 cases h1:(R b).testBit x with
 | false=>rw[Xq]
 | true=>rw[h b hm (w.self hb) x h1];rfl
theorem nZ{l:List bF}(h:cv l):Way l.length (nX l) (bn l) (fun b=>b):=by
 have ja:=bM h
 refine⟨fun b hb=> ?_,fun b hb=> ?_,fun b hb x=> ?_,fun b hb k hk=>vc h hb hk,fun b hb k hk=>by have:=vc h hb hk;omega⟩
 ·have h1:=(h b hb).2.1
  have h2:=Zq (show 0<2 by omega) (show b<=l.length by omega)
  unfold nX
  unfold pw at h1
  omega
 ·exact ZQ (oO l b) (Zq (by omega) hb)
 ·rw[jo]
  constructor
  ·rintro(h1 | ⟨k,_,h2⟩)
   ·exact .inl h1
   ·exact .inr ⟨k,h2⟩
  ·rintro(h1 | ⟨k,h2,h3⟩)
   ·exact .inl h1
   ·exact .inr ⟨k,vc h hb h2,h2,h3⟩
theorem GH{l:List bF}(h:cv l){b:Nat}(hb:b<l.length)(x:Nat):(jC l b).testBit x=true↔x=b∨∃ k,(yj l b).testBit k=true∧(jC l k).testBit x=true:=by
 rw[j3,Zo,Zl]
 constructor
 ·rintro⟨hx,h1⟩
  -- go back from x until the last step before b
  have key:∀ x,x<l.length->(bn l x).testBit b=true->x=b∨∃ k,(yj l b).testBit k=true∧(bn l x).testBit k=true:=by
   intro x
   induction x using Nat.strongRecOn with
   | ind x ih=>
    intro hx h1
    rcases(jo l x b).1 h1 with rfl | ⟨k,h2,h3,h4⟩
    ·exact .inl rfl
    ·rcases ih k h2 (by omega) h4 with rfl | ⟨m,h5,h6⟩
     ·refine .inr ⟨x,?_,sA l x⟩
      rw[rD,h3];simp[hx]
     ·exact .inr ⟨m,h5,(jo l x m).2 (.inr ⟨k,h2,h3,h6⟩)⟩
  rcases key x hx h1 with h2 | ⟨k,h2,h3⟩
  ·exact .inl h2
  ·refine .inr ⟨k,h2,?_⟩
   rw[j3,h3];simp[hx]
 ·rintro(rfl | ⟨k,h1,h2⟩)
  ·exact⟨hb,sA l x⟩
  ·rw[j3,Zo,Zl] at h2
   rw[rD,Zo,Zl] at h1
   have h3:(bn l k).testBit b=true:=(jo l k b).2 (.inr ⟨b,vc h h1.1 h1.2,h1.2,sA l b⟩)
   exact⟨h2.1,DM l h2.2 h3⟩
theorem oZ{l:List bF}(h:cv l):Way l.length (yj l) (jC l) (fun b=>l.length - b):=by
 refine⟨fun b _=>eU _ _,fun b _=>eU _ _,fun b hb x=>GH h hb x,fun b hb k hk=> ?_,fun b hb k hk=> ?_⟩
 ·rw[rD,Zo,Zl] at hk
  have:=vc h hk.1 hk.2
  show l.length - k<l.length - b
  omega
 ·rw[rD,Zo,Zl] at hk
  exact hk.1
def sL(i:Nat)(ms:List (Int×Nat))(ks:List Nat):List (Int×Nat):=ks.foldl (fun ms k=>bh ((k:Nat):Int) (((cQ ((k:Nat):Int) ms).getD 0)||| 2^i) ms) ms
theorem G1(i:Nat)(ms:List (Int×Nat))(ks:List Nat)(k:Nat):sL i ms (ks++[k])=bh ((k:Nat):Int) (((cQ ((k:Nat):Int) (sL i ms ks)).getD 0)||| 2^i) (sL i ms ks):=by
 unfold sL
 rw[Su];rfl
theorem vX(i k:Nat):∀(ks:List Nat) (ms:List (Int×Nat)),ks.Nodup->(cQ ((k:Nat):Int) (sL i ms ks)).getD 0=if k∈ks then(cQ ((k:Nat):Int) ms).getD 0||| 2^i else(cQ ((k:Nat):Int) ms).getD 0
 | [],ms,_=>by simp[sL]
 | q::ks,ms,hn=>by
  rw[ZF] at hn
  have ih:=vX i k ks (bh ((q:Nat):Int) (((cQ ((q:Nat):Int) ms).getD 0)||| 2^i) ms) hn.2
  rw[lS] at ih
  have e:sL i ms (q::ks)=sL i (bh ((q:Nat):Int) (((cQ ((q:Nat):Int) ms).getD 0)||| 2^i) ms) ks:=rfl
  rw[e,ih]
  by_cases h:k=q
  ·subst h
   rw[if_neg hn.1,if_pos rfl,if_pos (by simp)]
   rfl
  ·have h2:¬ ((k:Nat):Int)=((q:Nat):Int):=by omega
   simp[h,h2]
theorem uV(n p:Nat):(aL n p).Nodup:=by
 unfold aL
 exact List.Pairwise.filter _ List.nodup_range
def vC(l:List bF):Nat->List (Int×Nat)
 | 0=>[]
 | i+1=>sL i (vC l i) (aL (nX l i) 32)
theorem uP{l:List bF}(h:cv l)(k:Nat):∀ n,n<=l.length->(cQ ((k:Nat):Int) (vC l n)).getD 0=cB (fun i=>(nX l i).testBit k) n
 | 0,_=>rfl
 | n+1,hn=>by
  have ja:=bM h
  have ih:=uP h k n (by omega)
  rw[vC,vX _ _ _ _ (uV _ _),ih,cB]
  by_cases hb:(nX l n).testBit k=true
  ·have hk:=vc h (show n<l.length by omega) hb
   rw[if_pos (cy.2 ⟨by omega,hb⟩),if_pos hb]
   apply Ie
   intro x
   have hlt:=eU (fun i=>(nX l i).testBit k) n
   rw[uD hlt,Ij,H8]
   by_cases h1:x<n
   ·simp[h1,show ¬ n=x by omega]
   ·rw[if_neg h1,fB]
    simp[h1,eq_comm]
  ·rw[if_neg (fun h2=>hb (cy.1 h2).2),if_neg hb]
theorem jZ{n k:Nat}{x:List V}(h:(l7 n)[k]? =some x):∃ q,(aL n 32)[k]? =some q∧x=[V.p (.int .i64 ((q:Nat):Int))]:=by
 unfold l7 at h
 rw[Zt,Zm] at h
 obtain⟨q,h1,h2⟩:=h
 exact⟨q,h1,h2.symm⟩
theorem jd{α:Type}{l:List α}{k:Nat}{q:α}(h:l[k]? =some q):l.take (k+1)=l.take k++[q]:=by
 obtain⟨h1,h2⟩:=Za.1 h
 rw[ZV h1,h2]
theorem QJ{l:List bF}(h:cv l){i:Nat}(hi:i<l.length)(q k:Nat):(cQ ((q:Nat):Int) (sL i (vC l i) ((aL (nX l i) 32).take k))).getD 0<2^32:=by
 have ja:=bM h
 rw[vX _ _ _ _ ((List.take_sublist _ _).nodup (uV _ _)),uP h q i (by omega)]
 have h1:=eU (fun i=>(nX l i).testBit q) i
 have h2:=Zq (show 0<2 by omega) (show i<=31 by omega)
 have h3:cB (fun i=>(nX l i).testBit q) i<2^32:=by omega
 split
 ·exact LO h3 (by omega)
 ·exact h3
def zq(n:Nat):PV:= .int .u32 (n:Int)
def GA(l:List bF):PV:=mF (PV.int .i64) zq (vC l l.length)
def vD(M:Nat):List Bool:=(List.range 24).map fun i=>M.testBit i
def b1(b:Bool):List PV:=[.bool b]
theorem uO{M i:Nat}(h:i<(vD M).length):(vD M)[i]=M.testBit i:=by simp[vD]
theorem uM(M:Nat):(vD M).length=24:=by simp[vD]
theorem Nd{M b:Nat}(h:b<24):(vD M).set b true=vD (M||| 2^b):=by
 apply List.ext_getElem
 ·simp[vD]
 ·intro i h1 h2
  rw[uM] at h2
  rw[List.getElem_set,uO,uO,Ij,H8]
  by_cases h3:b=i
  ·subst h3;simp
  ·rw[if_neg h3]
   simp[h3]
theorem oP{a b:Nat}(h:∀ i,a.testBit i=true↔b.testBit i=true):a=b:=by
 apply Ie
 intro i
 have:=h i
 cases h1:a.testBit i <;> cases h2:b.testBit i <;> simp_all
theorem rV{a n:Nat}(h:∀ i,a.testBit i=true->i<n):a<2^n:=by
 apply Nat.lt_pow_two_of_testBit
 intro i hi
 cases h1:a.testBit i with
 | false=>rfl
 | true=>have:=h i h1;omega
theorem c4{a n i:Nat}(h:a<2^n)(hi:a.testBit i=true):i<n:=by
 rcases ZS i n with h1 | h1
 ·exact h1
 ·rw[WL (ZQ h (Zq (by omega) h1))] at hi
  cases hi
theorem MO{a:Nat}:a=0↔∀ i,a.testBit i=false:=by
 constructor
 ·rintro rfl i;exact Nat.zero_testBit i
 ·intro h;exact oP fun i=>by rw[h i,Nat.zero_testBit]
theorem La(n i:Nat):(2^n - 1).testBit i=decide (i<n):=Nat.testBit_two_pow_sub_one n i
def mo(l:List bF)(bad good i:Nat):Bool:=(List.range l.length).all fun k=>(!bad.testBit k||(bn l k).testBit i)&&(!good.testBit k|| !(bn l k).testBit i)
def fZ(l:List bF)(bad good:Nat):Nat:=cB (mo l bad good) l.length
theorem Gz(l:List bF)(bad good i:Nat):mo l bad good i=true↔(∀ k,k<l.length->bad.testBit k=true->(bn l k).testBit i=true)∧∀ k,k<l.length->good.testBit k=true->(bn l k).testBit i=false:=by
 unfold mo
 simp only[ZC,wX,Zo,CK,HX]
 constructor
 ·intro h
  refine⟨fun k hk hb=> ?_,fun k hk hg=> ?_⟩
  ·rcases(h k hk).1 with h1 | h1
   ·rw[hb] at h1;cases h1
   ·exact h1
  ·rcases(h k hk).2 with h1 | h1
   ·rw[hg] at h1;cases h1
   ·exact h1
 ·rintro⟨h1,h2⟩ k hk
  refine⟨?_,?_⟩
  ·cases hb:bad.testBit k with
   | false=>exact .inl rfl
   | true=>exact .inr (h1 k hk hb)
  ·cases hg:good.testBit k with
   | false=>exact .inl rfl
   | true=>exact .inr (h2 k hk hg)
theorem GM(l:List bF)(bad good i:Nat):(fZ l bad good).testBit i=(decide (i<l.length)&&mo l bad good i):=fB _ _ _
theorem BQ(l:List bF)(bad good:Nat):fZ l bad good<2^l.length:=eU _ _
theorem Hj(l:List bF)(bad good i:Nat):(fZ l bad good).testBit i=true↔i<l.length∧(∀ k,k<l.length->bad.testBit k=true->(bn l k).testBit i=true)∧∀ k,k<l.length->good.testBit k=true->(bn l k).testBit i=false:=by
 rw[GM,Zo,Zl,Gz]
def Db(l:List bF)(a:Nat)(ks:List Nat):Nat:=ks.foldl (fun a k=>a&&& bn l k) a
def HJ(l:List bF)(a:Nat)(ks:List Nat):Nat:=ks.foldl (fun a k=>a^^^(a&&& bn l k)) a
theorem IU(l:List bF)(a:Nat)(ks:List Nat)(k:Nat):Db l a (ks++[k])=Db l a ks&&& bn l k:=by unfold Db;rw[Su];rfl
theorem KA(l:List bF)(a:Nat)(ks:List Nat)(k:Nat):HJ l a (ks++[k])=HJ l a ks^^^(HJ l a ks&&& bn l k):=by unfold HJ;rw[Su];rfl
theorem Ag(l:List bF)(i:Nat):∀(ks:List Nat) (a:Nat),(Db l a ks).testBit i=true↔a.testBit i=true∧∀ k∈ks,(bn l k).testBit i=true
 | [],a=>by simp[Db]
 | k::ks,a=>by
  have e:Db l a (k::ks)=Db l (a&&& bn l k) ks:=rfl
  rw[e,Ag l i ks,J0,Zo]
  simp only[Zv,forall_eq_or_imp,and_assoc]
theorem Kj(a b i:Nat):(a^^^(a&&& b)).testBit i=true↔a.testBit i=true∧b.testBit i=false:=by
 rw[Nat.testBit_xor,J0]
 cases a.testBit i <;> cases b.testBit i <;> simp
theorem zx(l:List bF)(i:Nat):∀(ks:List Nat) (a:Nat),(HJ l a ks).testBit i=true↔a.testBit i=true∧∀ k∈ks,(bn l k).testBit i=false
 | [],a=>by simp[HJ]
 | k::ks,a=>by
  have e:HJ l a (k::ks)=HJ l (a^^^(a&&& bn l k)) ks:=rfl
  rw[e,zx l i ks,Kj]
  simp only[Zv,forall_eq_or_imp,and_assoc]
theorem IZ(l:List bF){n a:Nat}(h:a<2^n)(ks:List Nat):Db l a ks<2^n:=rV fun i hi=>c4 h ((Ag l i ks a).1 hi).1
theorem V3(l:List bF){n a:Nat}(h:a<2^n)(ks:List Nat):HJ l a ks<2^n:=rV fun i hi=>c4 h ((zx l i ks a).1 hi).1
theorem JA{l:List bF}(ja:l.length<=24){bad good:Nat}(hb:bad<2^l.length)(hg:good<2^l.length):HJ l (Db l (2^l.length - 1) (aL bad 32)) (aL good 32)=fZ l bad good:=by
 apply oP
 intro i
 rw[zx,Ag,La,Zl,Hj]
 constructor
 ·rintro⟨⟨h1,h2⟩,h3⟩
  exact⟨h1,fun k hk hb=>h2 k (cy.2 ⟨by omega,hb⟩),fun k hk hg=>h3 k (cy.2 ⟨by omega,hg⟩)⟩
 ·rintro⟨h1,h2,h3⟩
  exact⟨⟨h1,fun k hk=>h2 k (c4 hb (cy.1 hk).2) (cy.1 hk).2⟩,fun k hk=>h3 k (c4 hg (cy.1 hk).2) (cy.1 hk).2⟩
def hY(l:List bF)(bad good:Int):Int:=if iL l [bad,good]≠0 then iL l [bad,good] else if bad=0 then 4 else if fZ l bad.toNat good.toNat=0 then 6 else 0
def kB(l:List bF)(bad good:Int):Nat:=if hY l bad good=0 then fZ l bad.toNat good.toNat else 0
def kE(l:List bF)(n:Nat):Nat:=cB (fun k=>decide ((bt l k).s>0)) n
def tJ(l:List bF):Nat:=kE l l.length
def eJ(l:List bF)(i:Nat):Nat:=jC l i&&& tJ l
def kJ(l:List bF)(ks:List Nat):Int:=(ks.map fun k=>(bt l k).s).sum
theorem yG(l:List bF)(ks:List Nat)(k:Nat):kJ l (ks++[k])=kJ l ks+(bt l k).s:=by
 unfold kJ;rw[Zy,List.sum_append];simp
def eY(l:List bF)(i:Nat):Int:=kJ l (aL (eJ l i) 32)
theorem qg(l:List bF)(i:Nat):eJ l i<2^l.length:=Nat.lt_of_le_of_lt Nat.and_le_right (eU _ _)
theorem EU(l:List bF)(n:Nat):kE l n<2^n:=eU _ _
theorem Fo(l:List bF)(i k:Nat):(eJ l i).testBit k=true↔k<l.length∧(bn l k).testBit i=true∧(bt l k).s>0:=by
 unfold eJ tJ kE
 rw[J0,j3,fB]
 simp only[Zo,Zl]
 constructor
 ·rintro⟨⟨h1,h2⟩,_,h3⟩;exact⟨h1,h2,h3⟩
 ·rintro⟨h1,h2,h3⟩;exact⟨⟨h1,h2⟩,h1,h3⟩
theorem AM(l:List bF)(n:Nat):kE l (n+1)=if (bt l n).s>0 then kE l n||| 2^n else kE l n:=by
 have hlt:=eU (fun k=>decide ((bt l k).s>0)) n
 unfold kE
 rw[cB]
 by_cases h:(bt l n).s>0
 ·rw[if_pos h,if_pos (decide_eq_true h)]
  apply oP
  intro i
  rw[uD hlt,Ij,H8,fB]
  by_cases h1:i<n
  ·simp[h1,show ¬ n=i by omega]
  ·simp[h1,eq_comm]
 ·rw[if_neg h,if_neg (by simpa using h)]
theorem C9{l:List bF}(h:cv l):∀(ks:List Nat),(∀ k∈ks,k<l.length)->0<=kJ l ks∧kJ l ks<=ks.length*1048576
 | [],_=>by simp[kJ]
 | k::ks,hk=>by
  have ih:=C9 h ks fun q hq=>hk q (by simp[hq])
  have h1:=(h k (hk k (by simp))).2.2
  have e:kJ l (k::ks)=(bt l k).s+kJ l ks:=by unfold kJ;simp
  rw[e,Zp]
  push_cast
  omega
theorem Nb{l:List bF}{i q:Nat}(h:q∈aL (eJ l i) 32):q<l.length:=((Fo l i q).1 (cy.1 h).2).1
theorem Ro{l:List bF}(h:cv l)(i k:Nat):0<=kJ l ((aL (eJ l i) 32).take k)∧kJ l ((aL (eJ l i) 32).take k)<=33554432:=by
 have h1:=C9 h ((aL (eJ l i) 32).take k) fun q hq=>Nb (Xw hq)
 have h2:((aL (eJ l i) 32).take k).length<=32:=Zz (List.length_take_le' _ _) (wu (Zg _))
 omega
theorem MZ{l:List bF}(h:cv l)(i:Nat):0<=eY l i∧eY l i<=33554432:=by
 have:=Ro h i (aL (eJ l i) 32).length
 rw[ZT] at this
 exact this
def D2:List Int->Int×Int
 | []=>(0,0)
 | n::ns=>ns.foldl (fun p n=>(min p.1 n,max p.2 n)) (n,n)
theorem Bn(ns:List Int)(n:Int)(h:ns≠[]):D2 (ns++[n])=(min (D2 ns).1 n,max (D2 ns).2 n):=by
 cases ns with
 | nil=>exact absurd rfl h
 | cons m ns=>show(ns++[n]).foldl _ _=_;rw[Su];rfl
theorem Qn:∀(ns:List Int),ns≠[]->(∀ n∈ns,(D2 ns).1<=n∧n<=(D2 ns).2)∧(D2 ns).1∈ns∧(D2 ns).2∈ns:=by
 intro ns
 cases ns with
 | nil=>intro h;exact absurd rfl h
 | cons m ns=>
  intro _
  show(∀ n∈m::ns,(ns.foldl (fun p n=>(min p.1 n,max p.2 n)) (m,m)).1<=n∧n<=(ns.foldl (fun p n=>(min p.1 n,max p.2 n)) (m,m)).2)∧_∧_
  have key:∀(ns:List Int) (p:Int×Int),((ns.foldl (fun p n=>(min p.1 n,max p.2 n)) p).1<=p.1∧p.2<=(ns.foldl (fun p n=>(min p.1 n,max p.2 n)) p).2)∧(∀ n∈ns,(ns.foldl (fun p n=>(min p.1 n,max p.2 n)) p).1<=n∧n<=(ns.foldl (fun p n=>(min p.1 n,max p.2 n)) p).2)∧((ns.foldl (fun p n=>(min p.1 n,max p.2 n)) p).1=p.1∨(ns.foldl (fun p n=>(min p.1 n,max p.2 n)) p).1∈ns)∧((ns.foldl (fun p n=>(min p.1 n,max p.2 n)) p).2=p.2∨(ns.foldl (fun p n=>(min p.1 n,max p.2 n)) p).2∈ns):=by
   intro ns
   induction ns with
   | nil=>intro p;simp
   | cons a ns ih=>
    intro p
    obtain⟨h1,h2,h3,h4⟩:=ih (min p.1 a,max p.2 a)
    simp only[UL,Zv]
    refine⟨⟨by omega,by omega⟩,fun n hn=> ?_,?_,?_⟩
    ·rcases hn with rfl | hn
     ·omega
     ·exact h2 n hn
    ·rcases h3 with h3 | h3
     ·rw[h3];show min p.1 a=_∨_;omega
     ·exact .inr (.inr h3)
    ·rcases h4 with h4 | h4
     ·rw[h4];show max p.2 a=_∨_;omega
     ·exact .inr (.inr h4)
  obtain⟨h1,h2,h3,h4⟩:=key ns (m,m)
  refine⟨fun n hn=> ?_,?_,?_⟩
  ·rcases Zv.1 hn with rfl | hn
   ·exact h1
   ·exact h2 n hn
  ·show(ns.foldl (fun p n=>(min p.1 n,max p.2 n)) (m,m)).1∈_
   rcases h3 with h3 | h3
   ·rw[h3];simp
   ·exact Zk _ h3
  ·show(ns.foldl (fun p n=>(min p.1 n,max p.2 n)) (m,m)).2∈_
   rcases h4 with h4 | h4
   ·rw[h4];simp
   ·exact Zk _ h4
def rO(l:List bF)(can:Nat):Nat:=vk ((aL can 32).map (eJ l))
def mA(l:List bF)(can:Nat):Int×Int:=D2 ((aL can 32).map (eY l))
theorem BN(ns:List Nat)(n:Nat):vk (ns++[n])=vk ns||| n:=by unfold vk;rw[Su];rfl
theorem Fy(ns:List Nat)(i:Nat):(vk ns).testBit i=true↔∃ n∈ns,n.testBit i=true:=by
 have:∀(ns:List Nat) (a:Nat),(ns.foldl (· ||| ·) a).testBit i=true↔a.testBit i=true∨∃ n∈ns,n.testBit i=true:=fun ns=>by
  induction ns with
  | nil=>intro a;simp
  | cons n ns ih=>
   exact aaG
 unfold vk
 rw[this,Nat.zero_testBit]
 simp
theorem LS{l:List bF}(ja:l.length<=24){can:Nat}(hc:can<2^l.length)(k:Nat):(rO l can).testBit k=true↔∃ i,can.testBit i=true∧(eJ l i).testBit k=true:=by
 unfold rO
 rw[Fy]
 constructor
 ·rintro⟨n,h1,h2⟩
  obtain⟨i,h3,rfl⟩:=xS.1 h1
  exact⟨i,(cy.1 h3).2,h2⟩
 ·rintro⟨i,h1,h2⟩
  exact⟨_,xS.2 ⟨i,cy.2 ⟨by have:=c4 hc h1;omega,h1⟩,rfl⟩,h2⟩
theorem zd{l:List bF}(ja:l.length<=24){can:Nat}(hc:can<2^l.length):rO l can<2^l.length:=rV fun i hi=>by
 obtain⟨k,_,h⟩:=(LS ja hc i).1 hi
 exact c4 (qg l k) h
def oz(l:List bF)(bad good:Int):Nat:=if hY l bad good=0 then rO l (kB l bad good) else 0
def iZ(l:List bF)(bad good:Int):Int×Int:=if hY l bad good=0 then mA l (kB l bad good) else(0,0)
def aaI(l:List bF)(own i k:Nat):Bool:=decide (k≠i)&&own.testBit k
def S6(l:List bF)(own i:Nat):Bool:= !(aL (jC l i) 32).any (aaI l own i)
theorem XB{l:List bF}(ja:l.length<=24)(own i:Nat):S6 l own i=true↔∀ k,(jC l i).testBit k=true->k≠i->own.testBit k=false:=by
 unfold S6 aaI
 simp only[HX,NM,cy,Zo,Zl,not_and]
 constructor
 ·intro h k h1 h2
  have h3:k<l.length:=by rw[j3,Zo,Zl] at h1;exact h1.1
  cases h4:own.testBit k with
  | false=>rfl
  | true=>exact absurd h4 (h k ⟨by omega,h1⟩ h2)
 ·intro h k h1 h2 h3
  rw[h k h1.2 h2] at h3;cases h3
def fH(l:List bF)(b:Int):Int:=if cv l then(if gO b 0 ((l.length:Int) - 1)=true then 0 else 2) else 1
def jb(l:List bF)(R:Nat->Nat)(b:Int):Nat:=if fH l b=0 then R b.toNat else 0
theorem Po(l:List bF):iL l []=if cv l then 0 else 1:=by unfold iL;simp
theorem mM{l:List bF}{sets:List Int}(h:iL l sets=0):cv l∧∀ s∈sets,0<=s∧s<=pw l.length - 1:=by
 unfold iL at h
 split at h
 ·rename_i hC
  refine⟨hC,fun s hs=> ?_⟩
  split at h
  ·cases h
  ·rename_i hn
   simp only[Bool.not_eq_true,NM] at hn
   have:=hn s hs
   simp[gO] at this
   exact this
 ·cases h
theorem toNat_lt{l:List bF}{s:Int}(h:0<=s∧s<=pw l.length - 1):s.toNat<2^l.length:=by unfold pw at h;omega
theorem LG(l:List bF)(b:Nat):∀ n,n<=b->jO l (dO l b) b n<2^(b+1):=fun n hn=>rV fun i hi=>by
 rcases(sj l b i n hn).1 hi with rfl | ⟨k,h1,h2,h3⟩
 ·omega
 ·have:=Er l h3;omega
theorem yd{a n:Nat}(h:a<2^n)(hn:n<=32):aL a 32=aL a n:=mD hn fun i h1 h2=>by
 cases h3:a.testBit i with
 | false=>rfl
 | true=>have:=c4 h h3;omega
def xh(a g:Nat):Nat:=cB (fun k=>a.testBit k) g
theorem Og(a g:Nat):xh a g<2^g:=eU _ _
theorem yy(a g:Nat):xh a (g+1)=if a.testBit g then xh a g||| 2^g else xh a g:=by
 have hlt:=Og a g
 unfold xh at hlt ⊢
 rw[cB]
 split
 ·apply oP
  intro i
  rw[uD hlt,Ij,H8,fB]
  by_cases h1:i<g
  ·simp[h1,show ¬ g=i by omega]
  ·simp[h1,eq_comm]
 ·rfl
theorem Ns{a n:Nat}(h:a<2^n):xh a n=a:=oP fun i=>by
 unfold xh
 rw[fB,Zo,Zl]
 exact⟨fun h=>h.2,fun h1=>⟨c4 h h1,h1⟩⟩
theorem O1{l:List bF}(ja:l.length<=24)(x:Nat):kJ l (aL (eJ l x) l.length)=eY l x:=by
 unfold eY
 rw[yd (qg l x) (by omega)]
theorem AH{l:List bF}{x i:Nat}(hi:i<l.length):((jC l x).testBit i&&decide ((bt l i).s>0))=(eJ l x).testBit i:=by
 have:=Fo l x i
 rw[j3,decide_eq_true hi,Bool.true_and]
 cases h:(eJ l x).testBit i with
 | true=>obtain⟨_,h1,h2⟩:=this.1 h;rw[h1,decide_eq_true h2];rfl
 | false=>
  rw[h] at this
  cases h1:(bn l i).testBit x with
  | false=>rfl
  | true=>
   by_cases h2:(bt l i).s>0
   ·exact absurd (this.2 ⟨hi,h1,h2⟩) (by decide)
   ·rw[decide_eq_false h2];rfl
theorem BM{l:List bF}(h:cv l)(x:Nat){g:Nat}(hg:g<=l.length):0<=kJ l (aL (eJ l x) g)∧kJ l (aL (eJ l x) g)<=33554432:=by
 have ja:=bM h
 have h1:=C9 h (aL (eJ l x) g) fun k hk=>by have:=(cy.1 hk).1;omega
 have h2:(aL (eJ l x) g).length<=32:=wu (by omega)
 omega
theorem Gp{l:List bF}{can:Nat}(h:can≠0)(h32:can<2^32):((mA l can).1∈(aL can 32).map (eY l))∧(mA l can).2∈(aL can 32).map (eY l):=by
 have hne:(aL can 32).map (eY l)≠[]:=by
  intro h1
  rw[List.map_eq_nil_iff] at h1
  refine h (MO.2 fun i=> ?_)
  cases h2:can.testBit i with
  | false=>rfl
  | true=>
   have h3:i∈aL can 32:=cy.2 ⟨c4 h32 h2,h2⟩
   rw[h1] at h3;cases h3
 exact(Qn _ hne).2
def n64(x:Nat):List PV:=[.int .i64 (x:Int)]
def Sm(l:List Nat):PV:= .is (l.flatMap n64) l.length
theorem K7{p:Nat->Bool}{n a:Nat}(h:a<2^n)(hp:∀ i,i<n->p i=a.testBit i):cB p n=a:=by
 apply oP
 intro i
 rw[fB]
 by_cases hi:i<n
 ·rw[decide_eq_true hi,Bool.true_and,hp i hi]
 ·rw[decide_eq_false hi,Bool.false_and]
  constructor
  ·intro h;cases h
  ·intro h2;exact absurd (c4 h h2) hi
def Q0(a b:Nat):Nat->Bool:=fun k=>a.testBit k||b.testBit k
theorem Ve{a b:Nat}(ha:a<2^24)(hb:b<2^24):cB (Q0 a b) 24=a||| b:=
 K7 (LO ha hb) fun i _=>by rw[Ij];rfl
theorem zB{p:Nat->Bool}{n:Nat}(h:p n=true):cB p (n+1)=cB p n+2^n:=by rw[cB,if_pos h]
theorem zi{p:Nat->Bool}{n:Nat}(h:p n=false):cB p (n+1)=cB p n:=by rw[cB,if_neg (by rw[h];decide)]
def exT(l:List bF)(bad good i k:Nat):Bool:=(!bad.testBit k||(bn l k).testBit i)&&(!good.testBit k|| !(bn l k).testBit i)
def Pp(l:List bF)(bad good i k:Nat):Bool:=(List.range k).all (exT l bad good i)
theorem aae{l:List bF}{bad good i k:Nat}(h:exT l bad good i k=true):Pp l bad good i (k+1)=Pp l bad good i k:=by
 unfold Pp;rw[Xt,List.all_append,P1,XH,h,Bool.and_true,Bool.and_true]
theorem abp{l:List bF}{bad good i k:Nat}(h:exT l bad good i k=false):Pp l bad good i (k+1)=false:=by
 unfold Pp;rw[Xt,List.all_append,P1,XH,h,Bool.false_and,Bool.and_false]
theorem IY{l:List bF}{bad good i k:Nat}{c:Bool}(h:(bad.testBit k&& !(bn l k).testBit i||good.testBit k&&(bn l k).testBit i)=c):exT l bad good i k= !c:=by
 subst h
 unfold exT
 cases bad.testBit k <;> cases good.testBit k <;> cases(bn l k).testBit i <;> rfl
theorem uQ{a g:Nat}(h:a.testBit g=true):aL a (g+1)=aL a g++[g]:=by rw[kA,if_pos h]
theorem Ai{a g:Nat}(h:a.testBit g=false):aL a (g+1)=aL a g:=by rw[kA,if_neg (by rw[h];decide)]
def kC(l:List bF)(can g:Nat):Nat:=vk ((aL can g).map (eJ l))
def iX(l:List bF)(can g:Nat):Int×Int:=D2 ((aL can g).map (eY l))
def sy(can g:Nat):Bool:=(aL can g).isEmpty
def nC(l:List bF)(can i k:Nat):Nat:=kC l can i||| xh (eJ l i) k
theorem N0{l:List bF}{can g:Nat}(h:can.testBit g=true):kC l can (g+1)=nC l can g l.length:=by
 unfold kC nC kC
 rw[uQ h,Zy,ZE,zF,BN,Ns (qg l g)]
theorem OT{l:List bF}{can g:Nat}(h:can.testBit g=false):kC l can (g+1)=kC l can g:=by unfold kC;rw[Ai h]
theorem Qx{l:List bF}{can g:Nat}(h:can.testBit g=false):iX l can (g+1)=iX l can g:=by unfold iX;rw[Ai h]
theorem W9{can g:Nat}(h:can.testBit g=false):sy can (g+1)=sy can g:=by unfold sy;rw[Ai h]
theorem UJ{can g:Nat}(h:can.testBit g=true):sy can (g+1)=false:=by unfold sy;rw[uQ h];simp
theorem QL{l:List bF}{can g:Nat}(h:can.testBit g=true)(h0:sy can g=true):iX l can (g+1)=(min (eY l g) (eY l g),max (eY l g) (eY l g)):=by
 unfold sy at h0
 unfold iX
 rw[uQ h,List.isEmpty_iff.1 h0]
 show(eY l g,eY l g)=_
 rw[Int.min_self,Int.max_self]
theorem O4{l:List bF}{can g:Nat}(h:can.testBit g=true)(h0:sy can g=false):iX l can (g+1)=(min (iX l can g).1 (eY l g),max (iX l can g).2 (eY l g)):=by
 unfold sy at h0
 unfold iX
 rw[uQ h,Zy]
 exact Bn _ _ (by
  intro h2
  rw[List.map_eq_nil_iff] at h2
  rw[h2] at h0
  cases h0)
theorem Uc(l:List bF)(can i:Nat):nC l can i 0=kC l can i:=by unfold nC xh cB;rw[Nat.or_zero]
theorem VM{l:List bF}{can i k:Nat}(h:(eJ l i).testBit k=true):nC l can i (k+1)=nC l can i k||| 2^k:=by
 unfold nC;rw[yy,if_pos h,Nat.or_assoc]
theorem Uk{l:List bF}{can i k:Nat}(h:(eJ l i).testBit k=false):nC l can i (k+1)=nC l can i k:=by
 unfold nC;rw[yy,if_neg (by rw[h];decide)]
theorem Nu{l:List bF}(ja:l.length<=24)(can g:Nat):kC l can g<2^24:=rV fun i hi=>by
 obtain⟨n,hn,h2⟩:=(Fy _ i).1 hi
 obtain⟨j,_,rfl⟩:=xS.1 hn
 have:=c4 (qg l j) h2
 omega
theorem Pc{l:List bF}(ja:l.length<=24)(can i k:Nat):nC l can i k<2^24:=by
 refine LO (Nu ja can i) (rV fun x hx=> ?_)
 unfold xh at hx
 rw[fB,Zo] at hx
 have:=c4 (qg l i) hx.2
 omega
theorem aaP{l:List bF}{i k:Nat}(h:(eJ l i).testBit k=true):kJ l (aL (eJ l i) (k+1))=kJ l (aL (eJ l i) k)+(bt l k).s:=by rw[uQ h,yG]
theorem Y8{l:List bF}{i k:Nat}(h:(eJ l i).testBit k=false):kJ l (aL (eJ l i) (k+1))=kJ l (aL (eJ l i) k):=by rw[Ai h]
theorem Fk{l:List bF}(ja:l.length<=24){can:Nat}(h:can<2^l.length):kC l can l.length=rO l can∧iX l can l.length=mA l can:=by
 unfold kC iX rO mA
 rw[yd h (by omega)]
 exact⟨rfl,rfl⟩
set_option maxRecDepth 100000
set_option maxHeartbeats 4000000
theorem acB:(1,Na.map (PV.int .u8))∈nN Tryz.prog:=by
 have e:(nN Tryz.prog)[0]? =some (1,Na.map (PV.int .u8)):=by kernel_rfl
 exact Zi e
theorem cW(n lo hi:Int):Pure Tryz.prog 137 [.int .i64 n,.int .i64 lo,.int .i64 hi] (.bool (gO n lo hi)):=by
 refine Kf (N:=15) Tryz.func137 ?_
 exact J3
theorem tF(n lo hi:Int):Pure Tryz.prog 169 [.int .i64 n,.int .i64 lo,.int .i64 hi] (.bool (gO n lo hi)):=by
 refine Kf (N:=15) Tryz.func169 ?_
 exact J3
theorem NB(n k:Nat)(h0:0<n)(h:n<2^32)(hl:n&&& (2^32 - n)=2^k)(hk:k<32):Pure Tryz.prog 145 [.int .u32 (n:Int)] (.int .i64 ((k:Nat):Int)):=by
 have hT:(Na.map (PV.int .u8))[(((2^k*125613361%4294967296 / 2^27:Nat):Int)).toNat*1]? =some (.int .u8 ((k:Nat):Int)):=by rw[Ig,CR,Zt,U5 k hk];rfl
 refine Kf (N:=14) Tryz.func145 ?_
 iterate 10 refine af ?_
 refine Ki (fun hc0=> ?_) fun hc0=> ?_
 ·exfalso
  simp at hc0
  omega
 ·iterate 5 refine af ?_
  refine Kc (aa.neg (m:=((2^32 - n:Nat):Int)) rfl rfl ?_) ?_
  ·exact WQ h0 h
  refine Kc (aa.qi n (2^32 - n) rfl rfl rfl (by first | (show _<=(9223372036854775807:Int);omega) | (show _<=(4294967295:Int);omega) | (show _<=(18446744073709551615:Int);omega) | (show _<=(255:Int);omega) | (show _<=(65535:Int);omega)) (by first | decide | (show _<=(9223372036854775807:Int);omega) | (show _<=(4294967295:Int);omega) | (show _<=(18446744073709551615:Int);omega) | (show _<=(255:Int);omega) | (show _<=(65535:Int);omega))) ?_
  rw[hl]
  refine Kc (aa.mul (m:=((2^k*125613361%4294967296:Nat):Int)) rfl rfl rfl ?_) ?_
  ·exact UK k
  refine Kc (aa.xj (2^k*125613361%4294967296) 27 rfl rfl rfl (by first | decide | (show _<=(9223372036854775807:Int);omega) | (show _<=(4294967295:Int);omega) | (show _<=(18446744073709551615:Int);omega) | (show _<=(255:Int);omega) | (show _<=(65535:Int);omega))) ?_
  refine Kc (aa.yq (RF:=Na.map (PV.int .u8)) acB rfl rfl YX abm (by omega) (by omega)) ?_
  exact St
theorem oY(n:Nat)(hn:n<2^32):LA Tryz.prog 144 (fun y=>[y,.p (.ip [.int .u32 (n:Int)] 0)]) (l7 n):=by
 intro l κ nn inv fin hκ UR M7 hb h0 rU
 refine jR.iS (N:=16) Tryz.func144 rfl rfl Kn ?_
 iterate 6 refine af ?_
 refine aC.nu [3,5,6,7,8,9,10,11,12,13,14,15] (fun g=>[(3,.p (.int .u32 ((qL n g.1:Nat):Int)))]) (fun g=>g.2) (fun g=>g.1<=32∧inv (aL n g.1).length g.2) (fun g=>32 - g.1) (0,h0) (show(0:Nat)<=32∧inv (aL n 0).length h0 from⟨Zn _,rU⟩) (To.sub (Sub.L8 (Sub.cons (by show some (V.p (.int .u32 ((n:Nat):Int)))=_;rw[D5]) Sub.nil))) (fun g hg=> ?_)
 obtain⟨p,Kv⟩:=g
 obtain⟨hp,hinv⟩:=hg
 dsimp only at hp hinv ⊢
 have hle:=Tf n p
 iterate 6 refine af ?_
 refine Ki (fun hc0=> ?_) fun hc0=> ?_
 ·have hne:qL n p≠0:=by intro h;rw[h] at hc0;simp at hc0
  obtain⟨k,hpk,U2,hlow,U9,KJ⟩:=EB hn hp hne
  iterate 7 refine af ?_
  refine Kc (Kp (NB (qL n p) k (by omega) (by omega) hlow U2)) ?_
  refine aq.yield 14 rfl rfl rfl rfl rfl rfl (hb _ _ _ hinv (Jo U2 KJ)) ?_
  intro b2 h2 BE
  iterate 2 refine af ?_
  refine Ki (fun bw=> ?_) fun bw=> ?_
  ·have iY:b2=false:=by simpa using bw
   subst iY
   refine af ?_
   exact⟨.inr rfl,_,fE.none_ rfl,.inr BE⟩
  ·have iY:b2=true:=by simpa using bw
   subst iY
   iterate 4 refine af ?_
   refine Kc (aa.ec (m:=((qL n p - 1:Nat):Int)) rfl rfl rfl ((u7 ?_).trans ?_)) ?_
   ·omega
   ·omega
   refine Kc (aa.qi (qL n p) (qL n p - 1) rfl rfl rfl (by first | (show _<=(9223372036854775807:Int);omega) | (show _<=(4294967295:Int);omega) | (show _<=(18446744073709551615:Int);omega) | (show _<=(255:Int);omega) | (show _<=(65535:Int);omega)) (by first | decide | (show _<=(9223372036854775807:Int);omega) | (show _<=(4294967295:Int);omega) | (show _<=(18446744073709551615:Int);omega) | (show _<=(255:Int);omega) | (show _<=(65535:Int);omega))) ?_
   iterate 2 refine af ?_
   refine⟨(k+1,h2),?_,?_,?_⟩
   ·exact⟨by dsimp only;omega,by dsimp only;rw[KJ,Zc];exact BE⟩
   ·show 32 - (k+1)<32 - p
    omega
   exact To.sub (Sub.cons (by show some (V.p (.int .u32 _))=_;rw[U9]) KS)
 ·have hz:qL n p=0:=by have h:((qL n p:Nat):Int)=0:=(by simpa using hc0);omega
  have hall:=FL hp hz
  refine aC.exit ?_
  exact⟨.inl rfl,_,fE.none_ rfl,.inl (by rw[jg,hall];exact hinv)⟩
theorem sR(n:Nat):Pure Tryz.prog 71 [.int .u32 (n:Int)] (.func (.func 144) [] [.ip [.int .u32 (n:Int)] 0]):=by
 refine Kf (N:=4) Tryz.func71 ?_
 exact MN
theorem oN(l:List Nat)(hl:∀ x∈l,x<2^32)(hb:l.length<=bK):Pure Tryz.prog 69 [.is (l.flatMap u1) l.length] (.int .u32 ((vk l:Nat):Int)):=by
 unfold bK at hb
 refine Kf (N:=16) Tryz.func69 ?_
 iterate 12 refine af ?_
 refine aC.kZ [5,6,15] (fun g=>[(7,.p (.int .i64 ((g:Nat):Int))),(2,.p (.int .u32 ((vk (l.take g):Nat):Int)))]) (fun g=>g<=l.length) (fun g=>l.length - g) 0 (Zn _) (Sub.cons rfl (Sub.cons rfl (Sub.nil))) (fun i hg=> ?_)
 iterate 5 refine af ?_
 refine Ki (fun hc0=> ?_) fun hc0=> ?_
 ·have hk0:i<l.length:=by have h:=Ze hc0;omega
  have hx:=hl _ (WH hk0)
  have ho:=C1 (l:=l.take i) fun x hx=>hl x (Xw hx)
  have XJ:=C1 (l:=l.take (i+1)) fun x hx=>hl x (Xw hx)
  have hT:=Jk hk0
  rw[uW i hk0] at hT
  rw[hT] at XJ
  iterate 5 refine af ?_
  refine Kc (aa.aB (g:=ut l) uW rfl rfl rfl ai abz rfl (fun _=>rfl) (by decide) hk0) ?_
  iterate 6 refine af ?_
  refine Kc (aa.Xr (vk (l.take i)) (ut l i) rfl rfl rfl (by show _<=(4294967295:Int);omega) (by show _<=(4294967295:Int);omega) (by show _<=(4294967295:Int);omega)) ?_
  iterate 3 refine af ?_
  refine Kc (aa.add rfl rfl rfl (aA ?_)) ?_
  ·omega
  iterate 2 refine af ?_
  refine⟨i+1,?_,?_,?_⟩
  ·omega
  ·omega
  refine To.done [] rfl (Sub.cons rfl (Sub.cons (by rw[hT];rfl) KS)) rfl
 ·obtain rfl:i=l.length:=by have h:=Zf hc0;omega
  rw[ZT]
  exact ON
theorem Gx(xs:List Int)(f:PV)(p:Int->Bool)(hx:xs.length<=bK)(hf:∀ x∈xs,kG Tryz.prog f [.int .i64 x] (.bool (p x))):Pure Tryz.prog 175 [.is (xs.flatMap i1) xs.length,f] (.int .i64 (jw p xs)):=by
 unfold bK at hx
 refine Kf (N:=19) Tryz.func175 ?_
 iterate 12 refine af ?_
 refine aC.pK [4,5,8,9,10,11,12,13,14,15,16,17,18] (fun g=>[(8,.p (.int .i64 ((g:Nat):Int)))]) (fun g=>g<=xs.length∧∀ j (hj:j<g) (h:g<=xs.length),p (xs[j]'(by omega))=false) (fun g=>xs.length - g) 0 ⟨Zn _,fun j hj=>absurd hj (by omega)⟩ (Sub.cons rfl (Sub.nil)) (fun i hg=> ?_)
 obtain⟨pQ,jM⟩:=hg
 iterate 5 refine af ?_
 refine Ki (fun hc0=> ?_) fun hc0=> ?_
 ·iterate 13 refine af ?_
  refine Kc (aa.eM rfl rfl rfl ai bB rfl (fun _=>rfl) (by decide) ?_) ?_
  ·exact oe
  exact Mm
 ·exact PO
theorem Af(xs:List Int)(f:PV)(p:Int->Bool)(hx:xs.length<=bK)(hf:∀ x∈xs,kG Tryz.prog f [.int .i64 x] (.bool (p x))):Pure Tryz.prog 139 [.is (xs.flatMap i1) xs.length,f] (.bool (xs.any p)):=by
 refine Kf (N:=9) Tryz.func139 ?_
 iterate 8 refine af ?_
 refine Kc (Kp (Gx _ _ p ?_ ?_)) ?_
 ·exact hx
 ·exact hf
 exact L1
theorem Gv(n:Int)(l:List bF)(hl:l.length<=24):Pure Tryz.prog 136 [.int .i64 n,.ip [cz l] 0] (.bool (!gO n 0 (pw l.length - 1))):=by
 have hp:=tV hl
 have D4:((2^l.length:Nat):Int)=pw l.length:=rfl
 refine Kf (N:=11) Tryz.func136 ?_
 iterate 9 refine af ?_
 refine Kc (aa.qC 1 l.length rfl rfl rfl (by show _<=(64:Nat);omega) (by show _<=(9223372036854775807:Int);rw[ZN];omega)) ?_
 rw[ZN]
 refine Kc (aa.ec (m:=(pw l.length - 1)) rfl rfl rfl ((aA ?_).trans ?_)) ?_
 ·omega
 ·rfl
 refine Kc (Kp (cW _ _ _)) ?_
 iterate 4 refine af ?_
 exact C8
theorem B5(l:List bF)(hb:l.length<=bK):Pure Tryz.prog 138 [cz l] (.bool (decide (cv l))):=by
 unfold bK at hb
 refine Kf (N:=30) Tryz.func138 ?_
 iterate 12 refine af ?_
 refine aC.dw [5,6] (fun g=>[(7,.p (.int .i64 ((g:Nat):Int)))]) (fun g=>[]) (fun g=>g<=l.length∧∀ i,i<g->vt l i) (fun g=>l.length - g) 0 ⟨Zn _,fun j hj=>absurd hj (by omega)⟩ (To.sub (Sub.tO (Sub.cons rfl (Sub.nil)))) (fun j hg=> ?_)
 obtain⟨pQ,jM⟩:=hg
 iterate 5 refine af ?_
 refine Ki (fun hc0=> ?_) fun hc0=> ?_
 ·have hk0:j<l.length:=by have h:=Ze hc0;omega
  iterate 6 refine af ?_
  refine Kc (aa.aB (g:=bt l) lf rfl rfl rfl ai we rfl (fun _=>rfl) (by decide) hk0) ?_
  refine Kc (Kl (.p (.agg (bt l j).cells))) ?_
  iterate 2 refine af ?_
  refine Kz (aa.store (H':=[.cells ((bt l j).cells.map .p) 128]) rfl rfl rfl rfl rfl ai rfl rfl) ?_
  iterate 2 refine af ?_
  refine aC.az 17 mixed (by kernel_rfl) (by decide) ?_
  refine af ?_
  refine Kq (aa.geq rfl rfl rfl) ?_
  refine af ?_
  refine ay.guard 15 14 rfl rfl rfl rfl rfl rfl rfl [(4,_)] (fun h=>And.intro (.inl rfl) (trivial)) (fun h=>(aa.fieldAddr rfl rfl ai rfl)) ?_
  refine ay.guard 16 14 rfl rfl rfl rfl rfl rfl rfl [(15,_)] (fun h=>And.intro (.inr ⟨_,rfl,h⟩) (trivial)) (fun h=>(Kl (.p (.int .i64 (bt l j).f)))) ?_
  refine ay.guard 17 14 rfl rfl rfl rfl rfl rfl rfl [(3,_)] (fun h=>And.intro (.inl rfl) (trivial)) (fun h=>(aa.move rfl rfl)) ?_
  refine ay.guard 18 14 rfl rfl rfl rfl rfl rfl rfl [(17,_)] (fun h=>And.intro (.inr ⟨_,rfl,h⟩) (trivial)) (fun h=>(aa.qC 1 j rfl rfl rfl (by show _<=(64:Nat);have hj:j<=24:=(by simp at h;omega);omega) (by show _<=(9223372036854775807:Int);rw[ZN];have hj:j<=24:=(by simp at h;omega);have:=tV hj;unfold pw at this;omega))) ?_
  refine ay.guard 19 14 rfl rfl rfl rfl rfl rfl rfl [(18,_)] (fun h=>And.intro (.inr ⟨_,rfl,h⟩) (trivial)) (fun h=>(aa.ec (m:=(pw j - 1)) rfl rfl rfl ((aA (by rw[ZN];have hj:j<=24:=(by simp at h;omega);have:=tV hj;unfold pw at this;omega)).trans (by rw[ZN];rfl)))) ?_
  refine ay.guard 20 14 rfl rfl rfl rfl rfl rfl rfl [(16,_),(19,_)] (fun h=>And.intro (.inr ⟨_,rfl,h⟩) (And.intro (.inr ⟨_,rfl,h⟩) (trivial))) (fun h=>(Kp (cW _ _ _))) ?_
  refine ay.guard 21 14 rfl rfl rfl rfl rfl rfl rfl [(20,_)] (fun h=>And.intro (.inr ⟨_,rfl,h⟩) (trivial)) (fun h=>(aa.fI rfl rfl)) ?_
  refine Kq (aa.lE rfl rfl rfl ?_) ?_
  ·exact fO
  refine af ?_
  refine ay.guard 24 23 rfl rfl rfl rfl rfl rfl rfl [(4,_)] (fun h=>And.intro (.inl rfl) (trivial)) (fun h=>(aa.fieldAddr rfl rfl ai rfl)) ?_
  refine ay.guard 25 23 rfl rfl rfl rfl rfl rfl rfl [(24,_)] (fun h=>And.intro (.inr ⟨_,rfl,h⟩) (trivial)) (fun h=>(Kl (.p (.int .i64 (bt l j).s)))) ?_
  refine ay.guard 26 23 rfl rfl rfl rfl rfl rfl rfl [(25,_)] (fun h=>And.intro (.inr ⟨_,rfl,h⟩) (trivial)) (fun h=>(Kp (cW _ _ _))) ?_
  refine ay.guard 27 23 rfl rfl rfl rfl rfl rfl rfl [(26,_)] (fun h=>And.intro (.inr ⟨_,rfl,h⟩) (trivial)) (fun h=>(aa.fI rfl rfl)) ?_
  refine Kq (aa.lE rfl rfl rfl ?_) ?_
  ·exact fO
  refine ay.nil ?_
  refine af ?_
  refine Ki (fun bw=> ?_) fun bw=> ?_
  ·iterate 5 refine af ?_
   refine Fin.cY rfl rfl ?_
   have h3:((decide ((j:Int)>=24)|| !gO (bt l j).f 0 (pw j - 1))|| !gO (bt l j).s 0 1048576)=true:=bw
   exact abl
  ·have hst:vt l j:=by
    have h3:((decide ((j:Int)>=24)|| !gO (bt l j).f 0 (pw j - 1))|| !gO (bt l j).s 0 1048576)=false:=bw
    simp[gO] at h3
    unfold vt
    omega
   iterate 2 refine af ?_
   exact T4
 ·obtain rfl:j=l.length:=by have h:=Zf hc0;omega
  exact Sy
theorem CB(l:List bF)(sets:List Int)(hb:l.length<=bK)(hs:sets.length<=bK):Pure Tryz.prog 63 [cz l,aQ sets] (.int .i64 (iL l sets)):=by
 refine Kf (N:=15) Tryz.func63 ?_
 iterate 7 refine af ?_
 refine Kc (aa.makeFunc rfl rfl rfl) ?_
 iterate 7 refine af ?_
 refine Kc (Kp (B5 _ ?_)) ?_
 ·assumption
 iterate 3 refine af ?_
 refine Ki (fun hc0=> ?_) fun hc0=> ?_
 ·exact TA
 ·have hC:cv l:=by simpa using hc0
  have ja:=bM hC
  iterate 4 refine af ?_
  refine Kc (Kp (Af sets _ (fun n=> !gO n 0 (pw l.length - 1)) hs (fun x _=>⟨136,[.int .i64 x,.ip [cz l] 0],rfl,ai,Gv x l ja⟩))) ?_
  iterate 2 refine af ?_
  refine Ki (fun bw=> ?_) fun bw=> ?_
  ·have hS:(sets.any fun n=> !gO n 0 (pw l.length - 1))=true:=bw
   exact aah
  ·have hS:(sets.any fun n=> !gO n 0 (pw l.length - 1))=false:=bw
   exact YP
theorem iT(n:Nat)(hn:n<=62):Pure Tryz.prog 168 [.int .i64 (n:Int)] (.int .i64 (pw n)):=by
 refine Kf (N:=13) Tryz.func168 ?_
 iterate 14 refine af ?_
 refine aC.kZ [0,2,12] (fun g=>[(4,.p (.int .i64 ((g:Nat):Int))),(3,.p (.int .i64 (pw g)))]) (fun g=>g<=n) (fun g=>n - g) 0 (Zn _) (Sub.cons rfl (Sub.cons rfl (Sub.nil))) (fun j hg=> ?_)
 iterate 7 refine af ?_
 refine Ki (fun hc0=> ?_) fun hc0=> ?_
 ·have hk0:j<n:=by have h:=Ze hc0;omega
  have hp:=abj (n:=j+1) (by omega)
  have hs:=Oj j
  iterate 5 refine af ?_
  refine Kc (aa.mul rfl rfl rfl (aA ?_)) ?_
  ·omega
  iterate 4 refine af ?_
  refine Kc (aa.add rfl rfl rfl (aA ?_)) ?_
  ·omega
  iterate 2 refine af ?_
  refine⟨j+1,?_,?_,?_⟩
  ·omega
  ·omega
  exact To.done [] rfl (Sub.cons rfl (Sub.cons (by rw[hs];rfl) KS)) rfl
 ·obtain rfl:j=n:=by have h:=Zf hc0;omega
  exact ON
theorem iw(s b:Nat)(hs:s<=4611686018427387904)(hb:b<=62):Pure Tryz.prog 163 [.int .i64 (s:Int),.int .i64 (b:Int)] (.bool (s.testBit b)):=by
 have hp:=abj hb
 have hd:=Nat.div_le_self s (2^b)
 refine Kf (N:=11) Tryz.func163 ?_
 iterate 8 refine af ?_
 refine Kc (Kp (iT b hb)) ?_
 refine Kc (aa.quo (m:=((s / 2^b:Nat):Int)) rfl rfl rfl (by omega) ((aA (by show _<=((s / 2^b:Nat):Int)∧((s / 2^b:Nat):Int)<=_;generalize s / 2^b=q at hd ⊢;omega)).trans rfl)) ?_
 refine Kc (aa.rem (m:=((s / 2^b%2:Nat):Int)) rfl rfl rfl ?_ ?_) ?_
 ·decide
 ·rfl
 iterate 4 refine af ?_
 refine Fin.cY rfl rfl ?_
 rw[Nat.testBit_eq_decide_div_mod_eq]
 exact congrArg PV.bool (decide_eq_decide.2 (by omega))
theorem Gd(l:List bF)(hb:l.length<=bK):Pure Tryz.prog 202 [cz l] (.bool (decide (cv l))):=by
 refine Kf (N:=32) Tryz.func202 ?_
 iterate 11 refine af ?_
 refine Ki (fun hc0=> ?_) fun hc0=> ?_
 ·iterate 5 refine af ?_
  refine Fin.cY rfl rfl ?_
  rw[decide_eq_false (p:=cv l) (fun h=>by have:=bM h;have h:=Ze hc0;omega)]
 ·have ja:l.length<=24:=by have h:=Zf hc0;omega
  iterate 7 refine af ?_
  refine aC.kZ [0] (fun g=>[(3,.p (.int .i64 ((g:Nat):Int)))]) (fun g=>g<=l.length∧∀ i,i<g->vt l i) (fun g=>l.length - g) 0 ⟨Zn _,fun j hj=>absurd hj (by omega)⟩ (Sub.cons rfl (Sub.nil)) (fun j hg=> ?_)
  obtain⟨pQ,jM⟩:=hg
  iterate 8 refine af ?_
  refine Ki (fun bw=> ?_) fun bw=> ?_
  ·have hk0:j<l.length:=by have h:=Ze bw;omega
   have hp:=tV (n:=j) (by omega)
   iterate 4 refine af ?_
   refine aC.az 19 mixed (by kernel_rfl) (by decide) ?_
   iterate 2 refine af ?_
   refine Kq (aa.aB (g:=bt l) lf rfl rfl rfl ai we rfl (fun _=>rfl) (by decide) hk0) ?_
   refine af ?_
   refine Kq (Kl (.p (.int .i64 (bt l j).f))) ?_
   refine af ?_
   refine Kq (Kp (iT j (by omega))) ?_
   refine Kq (aa.ec rfl rfl rfl (aA ?_)) ?_
   ·omega
   refine Kq (Kp (tF _ _ _)) ?_
   refine Kq (aa.fI rfl rfl) ?_
   refine af ?_
   refine ay.guard 24 23 rfl rfl rfl rfl rfl rfl rfl [(0,_)] (fun h=>And.intro (.inl rfl) (trivial)) (fun h=>(aa.move rfl rfl)) ?_
   refine ay.guard 25 23 rfl rfl rfl rfl rfl rfl rfl [(3,_)] (fun h=>And.intro (.inl rfl) (trivial)) (fun h=>(aa.move rfl rfl)) ?_
   refine ay.guard 26 23 rfl rfl rfl rfl rfl rfl rfl [(24,_),(25,_)] (fun h=>And.intro (.inr ⟨_,rfl,h⟩) (And.intro (.inr ⟨_,rfl,h⟩) (trivial))) (fun h=>(aa.aB (g:=bt l) lf rfl rfl rfl ai we rfl (fun _=>rfl) (by decide) hk0)) ?_
   refine ay.guard 27 23 rfl rfl rfl rfl rfl rfl rfl [(26,_)] (fun h=>And.intro (.inr ⟨_,rfl,h⟩) (trivial)) (fun h=>(aa.fieldAddr rfl rfl ai rfl)) ?_
   refine ay.guard 28 23 rfl rfl rfl rfl rfl rfl rfl [(27,_)] (fun h=>And.intro (.inr ⟨_,rfl,h⟩) (trivial)) (fun h=>(Kl (.p (.int .i64 (bt l j).s)))) ?_
   refine ay.guard 29 23 rfl rfl rfl rfl rfl rfl rfl [(28,_)] (fun h=>And.intro (.inr ⟨_,rfl,h⟩) (trivial)) (fun h=>(Kp (tF _ _ _))) ?_
   refine ay.guard 30 23 rfl rfl rfl rfl rfl rfl rfl [(29,_)] (fun h=>And.intro (.inr ⟨_,rfl,h⟩) (trivial)) (fun h=>(aa.fI rfl rfl)) ?_
   refine Kq (aa.lE rfl rfl rfl ?_) ?_
   ·exact fO
   refine ay.nil ?_
   refine af ?_
   refine Ki (fun eG=> ?_) fun eG=> ?_
   ·iterate 5 refine af ?_
    refine Fin.cY rfl rfl ?_
    have h3:(!gO (bt l j).f 0 (pw j - 1)|| !gO (bt l j).s 0 1048576)=true:=eG
    exact abl
   ·have hst:vt l j:=by
     have h3:(!gO (bt l j).f 0 (pw j - 1)|| !gO (bt l j).s 0 1048576)=false:=eG
     simp[gO] at h3
     unfold vt
     omega
    iterate 3 refine af ?_
    exact T4
  ·obtain rfl:j=l.length:=by have h:=Zf bw;omega
   exact Sy
theorem Ms(l:List bF)(b:Nat)(hC:cv l)(hb:b<l.length):Pure Tryz.prog 246 [cz l,.int .i64 (b:Int)] (.int .u32 ((nX l b:Nat):Int)):=by
 have hf:=(hC b hb).2.1
 have hp:=tV (n:=b) (by have:=bM hC;omega)
 have hfr:(bt l b).f=((nX l b:Nat):Int):=by unfold nX;omega
 refine Kf (N:=11) Tryz.func246 ?_
 iterate 8 refine af ?_
 refine Kc (aa.aB (g:=bt l) lf rfl rfl rfl ai Yn rfl (fun _=>rfl) (by decide) hb) ?_
 refine af ?_
 refine Kc (Kl (.p (.int .i64 (bt l b).f))) ?_
 refine Kc (aa.dP rfl rfl (by rw[y4];rfl) tS (u7 ?_)) ?_
 ·omega
 iterate 3 refine af ?_
 refine Fin.cY rfl rfl ?_
 rw[hfr]
theorem MP(l:List bF)(b:Nat)(hC:cv l)(hb:b<l.length):Pure Tryz.prog 245 [GA l,.int .i64 (b:Int)] (.int .u32 ((yj l b:Nat):Int)):=by
 refine Kf (N:=8) Tryz.func245 ?_
 iterate 8 refine af ?_
 refine Kc (aa.HW (dV.int .i64 .i64) (gp:=zq) 0 rfl rfl rfl Ky rfl) ?_
 iterate 3 refine af ?_
 refine Fin.cY rfl rfl ?_
 have e:=uP hC b l.length (Zg _)
 show zq ((cQ ((b:Nat):Int) (vC l l.length)).getD 0)=_
 rw[e]
 rfl
theorem CG(l:List bF)(hC:cv l):Pure Tryz.prog 70 [cz l] (GA l):=by
 have ja:=bM hC
 refine Kf (N:=31) Tryz.func70 ?_
 iterate 6 refine af ?_
 refine Kc (aa.makeMap (K:=Int) (α:=Nat) (enc:=PV.int .i64) (g:=fun n=> .p (zq n)) rfl) ?_
 iterate 11 refine af ?_
 refine aC.dw [2,3,8,9,19,30] (fun g=>[(10,.p (.int .i64 ((g:Nat):Int)))]) (fun g=>[nJ (PV.int .i64) (fun n=> .p (zq n)) (vC l g),.cells [.map 0] 145]) (fun g=>g<=l.length) (fun g=>l.length - g) 0 (Zn _) (To.sub (Sub.tO (Sub.cons rfl (Sub.nil)))) (fun i hg=> ?_)
 iterate 5 refine af ?_
 refine Ki (fun hc0=> ?_) fun hc0=> ?_
 ·have hk0:i<l.length:=by have h:=Ze hc0;omega
  have hf:=(hC i hk0).2.1
  have hp:=tV (n:=i) (by omega)
  have hfr:(bt l i).f=((nX l i:Nat):Int):=by unfold nX;omega
  have hlt:nX l i<2^32:=by omega
  iterate 6 refine af ?_
  refine Kc (aa.aB (g:=bt l) lf rfl rfl rfl ai we rfl (fun _=>rfl) (by decide) hk0) ?_
  refine Kc (Kl (.p (.agg (bt l i).cells))) ?_
  iterate 8 refine af ?_
  refine Kc (Kl (.p (.int .i64 (bt l i).f))) ?_
  refine Kc (aa.dP rfl rfl (by rw[y4];rfl) tS (u7 ?_)) ?_
  ·omega
  rw[hfr]
  refine Kc (Kp (sR (nX l i))) ?_
  iterate 2 refine af ?_
  refine aC.rangeFunc 0 rfl (fun _=>rfl) ai (oY (nX l i) hlt) (Zg _) (Zn _) (fun _ h=>by cases h) (fun x hx=>by unfold l7 at hx;simp at hx;obtain⟨j,_,rfl⟩:=hx;rfl) rfl (fun k h=>h=[nJ (PV.int .i64) (fun n=> .p (zq n)) (sL i (vC l i) ((aL (nX l i) 32).take k)),.cells [.map 0] 145,.cells [.p (.int .i64 ((i:Nat):Int))] 3,.cells ((bt l i).cells.map .p) 128]) (fun c h=>False) (fun _ _ h=>by rw[h];rfl) (fun _ _ h=>h.elim) rfl ?_ ?_ ?_
  ·intro lx tmps k h x hJ hx
   subst hJ
   obtain⟨q,hq,rfl⟩:=jZ hx
   have NO:=cy.1 (Zi hq)
   have hqi:=vc hC hk0 NO.2
   have hval:=QJ hC hk0 q k
   have hjl:∀ x∈[(cQ ((q:Nat):Int) (sL i (vC l i) ((aL (nX l i) 32).take k))).getD 0,1*2^i],x<2^32:=by intro x hx2;simp at hx2;rcases hx2 with rfl | rfl;{omega};{unfold pw at hp;omega}
   iterate 3 refine af ?_
   refine⟨rfl,rfl,?_⟩
   refine af ?_
   refine aC.az 9 mixed (by kernel_rfl) (by decide) ?_
   refine Kq (Kl (.map 0)) ?_
   refine af ?_
   refine Kq (Kl (.map 0)) ?_
   refine af ?_
   refine Kq (aa.vq (dV.int .i64 .i64) (gp:=zq) 0 rfl rfl rfl rfl Ky rfl) ?_
   refine Kq (Kl (.p (.int .i64 ((i:Nat):Int)))) ?_
   refine Kq (aa.qC 1 i rfl rfl rfl (by show _<=(32:Nat);omega) (by show _<=(4294967295:Int);rw[ZN];unfold pw at hp;omega)) ?_
   refine Kq (aa.aF rfl ai (by decide) rfl rfl rfl) ?_
   refine Kq (Kp (oN [(cQ ((q:Nat):Int) (sL i (vC l i) ((aL (nX l i) 32).take k))).getD 0,1*2^i] hjl (by unfold bK;show 2<=_;omega))) ?_
   rw[or2,ZN]
   refine ay.nil ?_
   refine Kz (aa.mapUpdate (dV.int .i64 .i64) (g:=fun n=> .p (zq n)) (.inl rfl) rfl rfl rfl rfl Ky) ?_
   refine af ?_
   exact⟨_,rfl,by rw[jd hq,G1];exact To.sub Sub.nil⟩
  ·intro h hJ
   subst hJ
   rw[jg,ZT]
   refine af ?_
   refine Kc (aa.add rfl rfl rfl (aA ?_)) ?_
   ·omega
   iterate 2 refine af ?_
   refine⟨i+1,?_,?_,?_⟩
   ·omega
   ·omega
   exact To.done [0,1] rfl KS (congrArg (fun z=>[z,ak.cells [V.map 0] 145]) (yD _ (PV.int .i64) zq (vC l (i+1))))
  ·exact qU
 ·obtain rfl:i=l.length:=by have h:=Zf hc0;omega
  refine aC.exit ?_
  iterate 5 refine af ?_
  refine aC.to (To.su 0 rfl) ?_
  refine af ?_
  exact Fq
def Lo(W:PV):List V:=[.ptr 1 0,.ptr 0 0,.p (.ip [W] 0),.ptr 2 0]
def Z2(W:PV)(M:Nat):List ak:=[.cells [.p (.int .u32 (M:Int))] 137,.cells (((vD M).flatMap b1).map .p) 206,.cells [.func (.func 146) [] (Lo W)] 207]
def GV(N:Nat)(nx:Nat->Nat)(W:PV):Prop:=∀ b,b<N->ML Tryz.prog "pencilworks/recall.next" W [.int .i64 ((b:Nat):Int)] (.int .u32 ((nx b:Nat):Int))
def Vc(R:Nat->Nat)(W:PV)(b:Nat):Prop:=∀ M,M<2^24->FD R b M->aE Tryz.prog 146 (.p (.int .i64 ((b:Nat):Int))::Lo W) (Z2 W M) fun v H'=>H'=Z2 W (M||| R b)
theorem PD{N:Nat}{nx R rk:Nat->Nat}(w:Way N nx R rk)(hN:N<=24){b M:Nat}(hb:b<N)(hM:M<2^24){ks:List Nat}(hk:∀ k∈ks,k<N):rG R M b ks<2^24:=by
 apply Nat.lt_pow_two_of_testBit
 intro x hx
 cases h:(rG R M b ks).testBit x with
 | false=>rfl
 | true=>
  exfalso
  rcases(vF R M b x ks).1 h with h1 | h1 | ⟨k,h1,h2⟩
  ·rw[WL (ZQ hM (Zq (by omega) hx))] at h1
   cases h1
  ·omega
  ·rw[WL (ZQ (w.Xh k (hk k h1)) (Zq (by omega) (by omega)))] at h2
   cases h2
theorem FE{N:Nat}{nx R rk:Nat->Nat}(w:Way N nx R rk)(hN:N<=24)(W:PV)(Ob:GV N nx W)(b:Nat)(hb:b<N)(IH:∀ k,(nx b).testBit k=true->Vc R W k):Vc R W b:=by
 intro M hM YI
 refine aE.start (N:=25) Tryz.func146 rfl rfl Kn ?_
 have w7:nx b<2^32:=ZQ (w.lt b hb) (Zq (by omega) (by omega))
 have en:b<24:=by omega
 have h2b:=Zq (show 0<2 by omega) (show b<=23 by omega)
 iterate 4 refine af ?_
 refine Kc (aa.xO rfl rfl rfl SL Rg (by omega)) ?_
 refine Kc (aa.iN (f:=b1) (c:=1) (k:=b) (j:=0) (xs:=(vD M)) rfl rfl ai rfl rfl (by omega) (fun _=>rfl) (by rw[uM];omega) (by decide) (show _=PV.bool (M.testBit b) from by rw[uO];rfl)) ?_
 refine af ?_
 refine Ki (fun hc0=> ?_) fun hc0=> ?_
 ·have hm:M.testBit b=true:=hc0
  refine af ?_
  exact⟨.inr rfl,_,fE.none_ rfl,by rw[P4 w hb YI hm]⟩
 ·iterate 4 refine af ?_
  refine Kc (aa.xO rfl rfl rfl SL Rg (by omega)) ?_
  refine Kz (aa.storeCells (f:=b1) (c:=1) (k:=b) (j:=0) (xs:=(vD M)) (z:=true) (ws:=[.bool true]) rfl rfl rfl rfl rfl ai rfl rfl rfl (by omega) (fun _=>rfl) (by rw[uM];omega) (by decide) rfl) ?_
  iterate 2 refine af ?_
  rw[Nd en]
  refine aC.az 5 mixed (by kernel_rfl) (by decide) ?_
  refine Kq (Kl (.p (.int .u32 (M:Int)))) ?_
  refine af ?_
  refine Kq (aa.qC 1 b rfl rfl rfl (by show _<=(32:Nat);omega) (by show _<=(4294967295:Int);rw[ZN];omega)) ?_
  refine Kq (aa.aF rfl ai (by decide) rfl rfl rfl) ?_
  refine Kq (Kp (oN [M,1*2^b] (by intro x hx;simp at hx;rcases hx with rfl | rfl;{omega};{omega}) (by unfold bK;show 2<=_;omega))) ?_
  rw[or2,ZN]
  refine ay.nil ?_
  refine Kz (aa.store (H':=Z2 W (M||| 2^b)) rfl rfl rfl rfl rfl ai rfl rfl) ?_
  iterate 3 refine af ?_
  refine Kc (Kl (.p W)) ?_
  refine af ?_
  refine Kc (aa.invoke (Ob b hb) rfl rfl rfl) ?_
  refine Kc (Kp (sR (nx b))) ?_
  refine af ?_
  refine aC.toEnd ?_
  refine af ?_
  refine aC.rangeFunc 3 rfl (fun _=>rfl) ai (oY (nx b) w7) (Zg 3) (Zg 3) (fun _ h=>by cases h) (fun x hx=>by unfold l7 at hx;simp at hx;obtain⟨j,_,rfl⟩:=hx;rfl) rfl (fun k h=>h=Z2 W (rG R M b ((aL (nx b) 32).take k))) (fun c h=>False) (fun _ _ h=>by rw[h];rfl) (fun _ _ h=>h.elim) rfl ?_ ?_ ?_
  ·intro lx tmps k h x hJ hx
   subst hJ
   obtain⟨q,hq,rfl⟩:=jZ hx
   have NO:=cy.1 (Zi hq)
   have hks:∀ p∈(aL (nx b) 32).take k,(nx b).testBit p=true:=fun p hp=>(cy.1 (Xw hp)).2
   have hIH:=IH q NO.2 (rG R M b ((aL (nx b) 32).take k)) (PD w hN hb hM fun p hp=>w.Ud b hb p (hks p hp)) (Jf w hb YI hks NO.2)
   iterate 3 refine af ?_
   refine⟨rfl,rfl,?_⟩
   iterate 2 refine af ?_
   refine Kc (Kl (.func (.func 146) [] (Lo W))) ?_
   refine af ?_
   refine aq.WA 24 [0,1,2] (all:= .p (.int .i64 ((q:Nat):Int))::Lo W) (by show aE _ _ _ [ak.cells _ _,ak.cells (bE _ (List.map V.p _)) _,ak.cells _ _] _;rw[aP];exact hIH) (fun v H2 h=>by rw[h];rfl) (by rfl) (by rfl) rfl rfl rfl rfl rfl rfl rfl ai (fun v H2 jJ=> ?_)
   subst jJ
   refine af ?_
   exact⟨_,rfl,by rw[jd hq,GZ];exact To.sub Sub.nil⟩
  ·intro h hJ
   subst hJ
   have hall:rG R M b (aL (nx b) 32)=M||| R b:=by
    rcases O3 w (M:=M) hb with h | h
    ·exact h
    ·omega
   rw[jg,ZT,hall]
   exact⟨[],_,To.done [0,1,2] rfl Sub.nil (by show[ak.cells _ _,ak.cells (bE _ (List.map V.p _)) _,ak.cells _ _]=_;rw[aP];rfl),.inl rfl,_,fE.none_ rfl,rfl⟩
  ·exact qU
theorem K1{N:Nat}{nx R rk:Nat->Nat}(w:Way N nx R rk)(hN:N<=24)(W:PV)(Ob:GV N nx W):∀(m b:Nat),b<N->rk b<=m->Vc R W b
 | 0,b,hb,hm=>FE w hN W Ob b hb fun k hk=>by have:=w.rk b hb k hk;omega
 | m+1,b,hb,hm=>FE w hN W Ob b hb fun k hk=>K1 w hN W Ob m k (w.Ud b hb k hk) (by have:=w.rk b hb k hk;omega)
theorem ox{N:Nat}{nx R rk:Nat->Nat}(w:Way N nx R rk)(hN:N<=24)(t:Nat)(y:PV)(Ob:GV N nx (.iface t y))(b:Nat)(hb:b<N):Pure Tryz.prog 72 [.iface t y,.int .i64 (b:Int)] (.int .u32 ((R b:Nat):Int)):=by
 refine Kf (N:=12) Tryz.func72 ?_
 iterate 15 refine af ?_
 refine Kc (aa.makeFunc rfl rfl rfl) ?_
 refine Kz (aa.store (H':=Z2 (.iface t y) 0) rfl rfl rfl rfl rfl ai rfl rfl) ?_
 iterate 3 refine af ?_
 refine Kc (Kl (.func (.func 146) [] (Lo (.iface t y)))) ?_
 refine af ?_
 refine aq.BG 10 (K1 w hN (.iface t y) Ob (rk b) b hb (Zg _) 0 (by decide) (fun x hx=>by simp at hx)) rfl rfl rfl rfl rfl rfl rfl ai (fun v H2 jJ=> ?_)
 subst jJ
 rw[Nat.zero_or]
 iterate 3 refine af ?_
 refine Kc (Kl (.p (.int .u32 ((R b:Nat):Int)))) ?_
 iterate 3 refine af ?_
 exact B0
theorem zm(l:List bF)(hC:cv l):GV l.length (nX l) (.iface 152 (cz l)):=fun b hb=>⟨152,_,246,rfl,by kernel_rfl,ai,Ms l b hC hb⟩
theorem Br(l:List bF)(hC:cv l):GV l.length (yj l) (.iface 145 (GA l)):=fun b hb=>⟨145,_,245,rfl,by kernel_rfl,ai,MP l b hC hb⟩
theorem Pure.acj{P:Program}{f:FuncId}{x r:PV}(h:Pure P f [x,.is [] 0] r):Pure P f [x,.nilSlice] r:=by
 intro w I ρ us hi ij
 refine h w I ρ us hi ?_
 obtain⟨u,us',rfl,h1,u2,us2,rfl,h2,h3⟩:=ij
 exact⟨u,_,rfl,h1,u2,us2,rfl,aG.wk (.p .nilSlice) u2 h2,h3⟩
theorem G8(l:List bF)(hb:l.length<=bK):Pure Tryz.prog 63 [cz l,.nilSlice] (.int .i64 (iL l [])):=Pure.acj (CB l [] hb (Zn _))
theorem Qd(l:List bF)(b:Int)(hb:l.length<=bK)(f:PV)(t:Nat)(y:PV)(nx R rk:Nat->Nat)(hw:cv l->Way l.length nx R rk)(Ob:cv l->GV l.length nx (.iface t y))(hf:cv l->kG Tryz.prog f [] (.iface t y)):Pure Tryz.prog 73 [cz l,f,.int .i64 b] (.tuple [.int .i64 ((jb l R b:Nat):Int),.int .i64 (fH l b)]):=by
 have iY:=hb
 unfold bK at iY
 refine Kf (N:=25) Tryz.func73 ?_
 iterate 9 refine af ?_
 refine Kc (Kp (G8 l hb)) ?_
 iterate 7 refine af ?_
 refine Ki (fun hc0=> ?_) fun hc0=> ?_
 ·exact Rt
 ·have hE:iL l []=0:=by simpa using hc0
  have hC:=(mM hE).1
  have hS:=(mM hE).2
  have ja:=bM hC
  have xb:=tV ja
  iterate 7 refine af ?_
  refine Kc (aa.ec rfl rfl rfl (aA ?_)) ?_
  ·omega
  refine Kc (Kp (cW _ _ _)) ?_
  iterate 2 refine af ?_
  refine Ki (fun bw=> ?_) fun bw=> ?_
  ·exact aap
  ·have hI:gO b 0 ((l.length:Int) - 1)=true:=by simpa using bw
   have hI2:=hI
   simp[gO] at hI2
   obtain⟨b,rfl⟩:∃ m:Nat,b=(m:Int):=⟨b.toNat,by omega⟩
   have Xs:b<l.length:=by omega
   iterate 4 refine af ?_
   refine Kc (aa.BH (hf hC) rfl rfl rfl) ?_
   refine af ?_
   refine Kc (Kp (ox (hw hC) ja t y (Ob hC) b Xs)) ?_
   refine Kc (aa.dP rfl rfl (by rw[tS];rfl) y4 (aA ?_)) ?_
   ·have h2:=(hw hC).Xh b Xs;have h3:=Zq (show 0<2 by omega) ja;omega
   iterate 4 refine af ?_
   refine Fin.bq (xs:=[.int .i64 ((R b:Nat):Int),.int .i64 0]) rfl (⟨_,_,rfl,rfl,⟨_,_,rfl,rfl,rfl⟩⟩) rfl ?_
   exact R2
theorem LD(l:List bF):Pure Tryz.prog 74 [.ip [cz l] 0] (.iface 152 (cz l)):=by
 refine Kf (N:=4) Tryz.func74 ?_
 iterate 7 refine af ?_
 refine Kc (aa.aJ rfl rfl Dw) ?_
 exact mc
theorem Pf(l:List bF)(b:Int)(hb:l.length<=bK):Pure Tryz.prog 31 [cz l,.int .i64 b] (.tuple [.int .i64 ((jb l (bn l) b:Nat):Int),.int .i64 (fH l b)]):=by
 refine Kf (N:=12) Tryz.func31 ?_
 iterate 9 refine af ?_
 refine Kc (aa.makeFunc rfl rfl rfl) ?_
 refine af ?_
 refine Kc (Kp (Qd l b hb _ _ _ (nX l) (bn l) (fun b=>b) nZ (fun h=>zm l h) (fun _=>⟨74,[.ip [cz l] 0],rfl,ai,LD l⟩))) ?_
 iterate 6 refine af ?_
 exact Fin.many (xs:=[.int .i64 ((jb l (bn l) b:Nat):Int),.int .i64 (fH l b)]) rfl (⟨_,_,rfl,rfl,⟨_,_,rfl,rfl,rfl⟩⟩) rfl
theorem J9(l:List bF)(bad good:Nat)(hC:cv l)(hbd:bad<2^l.length)(hgd:good<2^l.length):Pure Tryz.prog 64 [cz l,.int .u32 (bad:Int),.int .u32 (good:Int)] (.int .u32 ((fZ l bad good:Nat):Int)):=by
 have ja:=bM hC
 have xb:=Zq (show 0<2 by omega) ja
 have hp1:=Oi l.length
 have hfull:2^l.length - 1<2^l.length:=by omega
 have acQ:bad<2^32:=by omega
 have acs:good<2^32:=by omega
 refine Kf (N:=33) Tryz.func64 ?_
 iterate 9 refine af ?_
 refine Kc (aa.qC 1 l.length rfl rfl rfl (by show _<=(32:Nat);omega) (by show _<=(4294967295:Int);rw[ZN];omega)) ?_
 rw[ZN]
 refine Kc (aa.ec (m:=((2^l.length - 1:Nat):Int)) rfl rfl rfl ((u7 ?_).trans ?_)) ?_
 ·omega
 ·omega
 iterate 7 refine af ?_
 refine Kc (Kp (sR bad)) ?_
 iterate 2 refine af ?_
 refine aC.rangeFunc 0 rfl (fun _=>rfl) ai (oY bad acQ) (Zg _) (Zn _) (fun _ h=>by cases h) (fun x hx=>by unfold l7 at hx;simp at hx;obtain⟨j,_,rfl⟩:=hx;rfl) rfl (fun k h=>h=[.cells [.p (.int .u32 (((Db l (2^l.length - 1) ((aL bad 32).take k)):Nat):Int))] 137]) (fun c h=>False) (fun _ _ h=>by rw[h];rfl) (fun _ _ h=>h.elim) rfl ?_ ?_ ?_
 ·intro lx tmps k h x hJ hx
  subst hJ
  obtain⟨q,hq,rfl⟩:=jZ hx
  have NO:=cy.1 (Zi hq)
  have Iv:q<l.length:=c4 hbd NO.2
  have hr:=(nZ hC).Xh q Iv
  have ha:=IZ l hfull ((aL bad 32).take k)
  iterate 3 refine af ?_
  refine⟨rfl,rfl,?_⟩
  refine af ?_
  refine aC.az 6 mixed (by kernel_rfl) (by decide) ?_
  refine Kq (Kl (.p (.int .u32 (((Db l (2^l.length - 1) ((aL bad 32).take k)):Nat):Int)))) ?_
  refine af ?_
  refine Kq (aa.aJ rfl rfl Dw) ?_
  refine af ?_
  refine Kq (Kp (ox (nZ hC) ja _ _ (zm l hC) q Iv)) ?_
  refine Kq (aa.qi (Db l (2^l.length - 1) ((aL bad 32).take k)) (bn l q) rfl rfl rfl (by first | (show _<=(9223372036854775807:Int);omega) | (show _<=(4294967295:Int);omega) | (show _<=(18446744073709551615:Int);omega) | (show _<=(255:Int);omega) | (show _<=(65535:Int);omega)) (by first | decide | (show _<=(9223372036854775807:Int);omega) | (show _<=(4294967295:Int);omega) | (show _<=(18446744073709551615:Int);omega) | (show _<=(255:Int);omega) | (show _<=(65535:Int);omega))) ?_
  refine ay.nil ?_
  iterate 2 refine af ?_
  exact⟨_,rfl,by rw[jd hq,IU];exact To.sub Sub.nil⟩
 ·intro h hJ
  subst hJ
  rw[jg,ZT]
  iterate 4 refine af ?_
  refine Kc (Kp (sR good)) ?_
  iterate 2 refine af ?_
  refine aC.rangeFunc 0 rfl (fun _=>rfl) ai (oY good acs) (Zg _) (Zn _) (fun _ h=>by cases h) (fun x hx=>by unfold l7 at hx;simp at hx;obtain⟨j,_,rfl⟩:=hx;rfl) rfl (fun k h=>h=[.cells [.p (.int .u32 (((HJ l (Db l (2^l.length - 1) (aL bad 32)) ((aL good 32).take k)):Nat):Int))] 137,.dead]) (fun c h=>False) (fun _ _ h=>by rw[h];rfl) (fun _ _ h=>h.elim) rfl ?_ ?_ ?_
  ·intro lx tmps k h x hJ hx
   subst hJ
   obtain⟨q,hq,rfl⟩:=jZ hx
   have NO:=cy.1 (Zi hq)
   have Iv:q<l.length:=c4 hgd NO.2
   have hr:=(nZ hC).Xh q Iv
   have ha:=V3 l (IZ l hfull (aL bad 32)) ((aL good 32).take k)
   iterate 3 refine af ?_
   refine⟨rfl,rfl,?_⟩
   refine af ?_
   refine aC.az 6 mixed (by kernel_rfl) (by decide) ?_
   refine Kq (Kl (.p (.int .u32 (((HJ l (Db l (2^l.length - 1) (aL bad 32)) ((aL good 32).take k)):Nat):Int)))) ?_
   refine af ?_
   refine Kq (aa.aJ rfl rfl Dw) ?_
   refine af ?_
   refine Kq (Kp (ox (nZ hC) ja _ _ (zm l hC) q Iv)) ?_
   refine Kq (aa.OJ (HJ l (Db l (2^l.length - 1) (aL bad 32)) ((aL good 32).take k)) (bn l q) rfl rfl rfl (by first | (show _<=(9223372036854775807:Int);omega) | (show _<=(4294967295:Int);omega) | (show _<=(18446744073709551615:Int);omega) | (show _<=(255:Int);omega) | (show _<=(65535:Int);omega))) ?_
   refine ay.nil ?_
   iterate 2 refine af ?_
   exact⟨_,rfl,by rw[jd hq,KA];exact To.sub Sub.nil⟩
  ·intro h hJ
   subst hJ
   rw[jg,ZT,JA ja hbd hgd]
   iterate 2 refine af ?_
   refine Kc (Kl (.p (.int .u32 ((fZ l bad good:Nat):Int)))) ?_
   exact mc
  ·exact qU
 ·exact qU
theorem qJ(l:List bF)(bad good:Int)(hb:l.length<=bK):Pure Tryz.prog 22 [cz l,.int .i64 bad,.int .i64 good] (.tuple [.int .i64 ((kB l bad good:Nat):Int),.int .i64 (hY l bad good)]):=by
 refine Kf (N:=30) Tryz.func22 ?_
 iterate 11 refine af ?_
 refine Kc (aa.aF rfl ai (by decide) rfl rfl rfl) ?_
 refine Kc (Kp (CB l [bad,good] hb (by unfold bK;show 2<=_;omega))) ?_
 iterate 7 refine af ?_
 refine Ki (fun hc0=> ?_) fun hc0=> ?_
 ·exact SH
 ·have hE:iL l [bad,good]=0:=by simpa using hc0
  have hC:=(mM hE).1
  have hS:=(mM hE).2
  have ja:=bM hC
  have xb:=tV ja
  have XG:=hS bad (by simp)
  have hS2:=hS good (by simp)
  iterate 7 refine af ?_
  refine Ki (fun bw=> ?_) fun bw=> ?_
  ·exact YL
  ·have hz:¬ bad=0:=by simpa using bw
   obtain⟨bad,rfl⟩:∃ m:Nat,bad=(m:Int):=⟨bad.toNat,by omega⟩
   obtain⟨good,rfl⟩:∃ m:Nat,good=(m:Int):=⟨good.toNat,by omega⟩
   iterate 5 refine af ?_
   refine Kc (aa.dP rfl rfl (by rw[y4];rfl) tS (u7 ?_)) ?_
   ·unfold pw at xb XG;omega
   refine af ?_
   refine Kc (aa.dP rfl rfl (by rw[y4];rfl) tS (u7 ?_)) ?_
   ·unfold pw at xb hS2;omega
   refine Kc (Kp (J9 l bad good hC (by unfold pw at XG;omega) (by unfold pw at hS2;omega))) ?_
   iterate 8 refine af ?_
   refine Ki (fun eG=> ?_) fun eG=> ?_
   ·exact aad
   ·have hn:¬ fZ l bad good=0:=by intro h;rw[h] at eG;simp at eG
    iterate 4 refine af ?_
    refine Kc (aa.dP rfl rfl (by rw[tS];rfl) y4 (aA ?_)) ?_
    ·have h2:=BQ l bad good;unfold pw at xb;omega
    iterate 4 refine af ?_
    exact Sc
theorem qo{l:List bF}{bad good:Int}(h:hY l bad good=0):cv l∧(0<=bad∧bad<=pw l.length - 1)∧(0<=good∧good<=pw l.length - 1)∧bad≠0∧kB l bad good=fZ l bad.toNat good.toNat∧kB l bad good≠0∧kB l bad good<2^l.length:=by
 have hR:kB l bad good=fZ l bad.toNat good.toNat:=by unfold kB;rw[if_pos h]
 have h2:=h
 unfold hY at h2
 split at h2
 ·rename_i h3;exact absurd h2 h3
 ·rename_i h3
  have h3:iL l [bad,good]=0:=by omega
  obtain⟨hC,hS⟩:=mM h3
  split at h2
  ·cases h2
  ·rename_i h4
   split at h2
   ·cases h2
   ·rename_i h5
    exact⟨hC,hS bad (by simp),hS good (by simp),h4,hR,by rw[hR];exact h5,by rw[hR];exact BQ _ _ _⟩
theorem HG(l:List bF)(bad good:Int)(hb:l.length<=bK):Pure Tryz.prog 30 [cz l,.int .i64 bad,.int .i64 good] (.tuple [.int .i64 ((oz l bad good:Nat):Int),.agg [.int .i64 (iZ l bad good).1,.int .i64 (iZ l bad good).2],.int .i64 (hY l bad good)]):=by
 have iY:=hb
 unfold bK at iY
 refine Kf (N:=89) Tryz.func30 ?_
 iterate 12 refine af ?_
 refine Kc (Kp (qJ l bad good hb)) ?_
 iterate 12 refine af ?_
 refine Ki (fun hc0=> ?_) fun hc0=> ?_
 ·exact abo
 ·have hE:hY l bad good=0:=by simpa using hc0
  obtain⟨hC,_,_,_,hR,hne,hcl⟩:=qo hE
  have ja:=bM hC
  have xb:=Zq (show 0<2 by omega) ja
  have abN:kB l bad good<2^32:=by omega
  have hso:tJ l<2^l.length:=EU l l.length
  iterate 13 refine af ?_
  refine aC.norm [0,1] [(3,_),(7,_),(9,_),(10,_),(31,_),(32,_),(33,_)] [_,_] rfl KS rfl ?_
  refine aC.dw [3,6,7,8,9,10,13,14,15,16,17,18,19,31,32,47,48,49,50,51,52,53,54,55,56,57,58,59,60,61,62,63,64,65,66,67,68,69,70,71,72,73,74,75,76,77,78,79,80,81,82,83,84,85,86,87,88] (fun g=>[(33,.p (.int .i64 ((g:Nat):Int)))]) (fun g=>[.cells [.p (.int .i64 0),.p (.int .i64 0)] 24,.cells [.p (.int .u32 ((kE l g:Nat):Int))] 137]) (fun g=>g<=l.length) (fun g=>l.length - g) 0 (Zn _) (To.sub (Sub.tO (Sub.cons rfl (Sub.nil)))) (fun i hg=> ?_)
  iterate 5 refine af ?_
  refine Ki (fun bw=> ?_) fun bw=> ?_
  ·have hk0:i<l.length:=by have h:=Ze bw;omega
   have hsi:=EU l i
   have hpi:=Zq (show 0<2 by omega) (show i<=24 by omega)
   iterate 6 refine af ?_
   refine Kc (aa.aB (g:=bt l) lf rfl rfl rfl ai we rfl (fun _=>rfl) (by decide) hk0) ?_
   refine Kc (Kl (.p (.agg (bt l i).cells))) ?_
   iterate 2 refine af ?_
   refine Kz (aa.store (H':=[.cells [.p (.int .i64 0),.p (.int .i64 0)] 24,.cells [.p (.int .u32 ((kE l i:Nat):Int))] 137,.cells ((bt l i).cells.map .p) 128]) rfl rfl rfl rfl rfl ai rfl rfl) ?_
   iterate 4 refine af ?_
   refine Kc (Kl (.p (.int .i64 (bt l i).s))) ?_
   iterate 2 refine af ?_
   refine Ki (fun eG=> ?_) fun eG=> ?_
   ·have hF:kE l (i+1)=kE l i||| 2^i:=by rw[AM,if_pos (Ze eG)]
    refine aC.az 5 mixed (by kernel_rfl) (by decide) ?_
    refine Kq (Kl (.p (.int .u32 ((kE l i:Nat):Int)))) ?_
    refine af ?_
    refine Kq (aa.qC 1 i rfl rfl rfl (by show _<=(32:Nat);omega) (by show _<=(4294967295:Int);rw[ZN];omega)) ?_
    refine Kq (aa.aF rfl ai (by decide) rfl rfl rfl) ?_
    refine Kq (Kp (oN [kE l i,1*2^i] (by intro x hx;simp at hx;rcases hx with rfl | rfl;{omega};{omega}) (by unfold bK;show 2<=_;omega))) ?_
    rw[or2,ZN,<- hF]
    refine ay.nil ?_
    iterate 3 refine af ?_
    exact TW
   ·have hF:kE l (i+1)=kE l i:=by rw[AM,if_neg (Zf eG)]
    iterate 2 refine af ?_
    exact TW
  ·obtain rfl:i=l.length:=by have h:=Zf bw;omega
   refine aC.exit ?_
   iterate 7 refine af ?_
   refine Kc (Kp (CG l hC)) ?_
   iterate 12 refine af ?_
   refine Kc (aa.dP rfl rfl (by rw[y4];rfl) tS (u7 ?_)) ?_
   ·omega
   refine Kc (Kp (sR (kB l bad good))) ?_
   iterate 2 refine af ?_
   refine aC.rangeFunc 0 rfl (fun _=>rfl) ai (oY (kB l bad good) abN) (Zg _) (Zn _) (fun _ h=>by cases h) (fun x hx=>by unfold l7 at hx;simp at hx;obtain⟨j,_,rfl⟩:=hx;rfl) rfl (fun k h=>h=[.cells [.p (.int .i64 (D2 (((aL (kB l bad good) 32).take k).map (eY l))).1),.p (.int .i64 (D2 (((aL (kB l bad good) 32).take k).map (eY l))).2)] 24,.cells [.p (.int .u32 ((tJ l:Nat):Int))] 137,.cells [.p (.int .u32 ((vk (((aL (kB l bad good) 32).take k).map (eJ l)):Nat):Int))] 137,.cells [.p (GA l)] 145,.cells [.p (.bool (decide (k=0)))] 4]) (fun c h=>False) (fun _ _ h=>by rw[h];rfl) (fun _ _ h=>h.elim) rfl ?_ ?_ ?_
   ·intro lx tmps k h x hJ hx
    subst hJ
    obtain⟨q,hq,rfl⟩:=jZ hx
    have NO:=cy.1 (Zi hq)
    have Iv:q<l.length:=c4 hcl NO.2
    have hol:=qg l q
    have hal:=(oZ hC).Xh q Iv
    have how:eJ l q<2^32:=by omega
    have acy:vk (((aL (kB l bad good) 32).take k).map (eJ l))<2^32:=C1 fun x hx=>by obtain⟨j,_,rfl⟩:=xS.1 hx;have:=qg l j;omega
    have eO:vk ((((aL (kB l bad good) 32).take k)++[q]).map (eJ l))=vk (((aL (kB l bad good) 32).take k).map (eJ l)++[eJ l q]):=by rw[Zy];rfl
    iterate 3 refine af ?_
    refine⟨rfl,rfl,?_⟩
    iterate 2 refine af ?_
    refine aC.bN 9 mixed (by kernel_rfl) (by decide) ?_
    refine ah.cons 53 rfl rfl rfl (Kl (.p (GA l))) (fun _=>(Kl (.p (GA l)))) ?_
    refine ah.cons 54 rfl rfl rfl (aa.aJ rfl rfl MT) (fun _=>(aa.aJ rfl rfl MT)) ?_
    refine ah.cons 55 rfl rfl rfl (aa.move rfl rfl) (fun _=>(aa.move rfl rfl)) ?_
    refine ah.cons 56 rfl rfl rfl (Kp (ox (oZ hC) ja _ _ (Br l hC) q Iv)) (fun _=>(Kp (ox (oZ hC) ja _ _ (Br l hC) q Iv))) ?_
    refine ah.cons 57 rfl rfl rfl (Kl (.p (.int .u32 ((tJ l:Nat):Int)))) (fun _=>(Kl (.p (.int .u32 ((tJ l:Nat):Int))))) ?_
    refine ah.cons 58 rfl rfl rfl (aa.qi (jC l q) (tJ l) rfl rfl rfl (by first | (show _<=(9223372036854775807:Int);omega) | (show _<=(4294967295:Int);omega) | (show _<=(18446744073709551615:Int);omega) | (show _<=(255:Int);omega) | (show _<=(65535:Int);omega)) (by first | decide | (show _<=(9223372036854775807:Int);omega) | (show _<=(4294967295:Int);omega) | (show _<=(18446744073709551615:Int);omega) | (show _<=(255:Int);omega) | (show _<=(65535:Int);omega))) (fun _=>(aa.qi (jC l q) (tJ l) rfl rfl rfl (by first | (show _<=(9223372036854775807:Int);omega) | (show _<=(4294967295:Int);omega) | (show _<=(18446744073709551615:Int);omega) | (show _<=(255:Int);omega) | (show _<=(65535:Int);omega)) (by first | decide | (show _<=(9223372036854775807:Int);omega) | (show _<=(4294967295:Int);omega) | (show _<=(18446744073709551615:Int);omega) | (show _<=(255:Int);omega) | (show _<=(65535:Int);omega)))) ?_
    refine ah.lay 18 rfl rfl rfl (aa.aI rfl ai rfl) ?_
    refine ah.cons 17 rfl rfl rfl (aa.assign rfl rfl) (fun _=>(aa.assign rfl rfl)) ?_
    refine ah.put rfl rfl (by decide) (aa.store rfl rfl rfl rfl rfl ai rfl rfl) rfl ?_
    refine ah.nil ?_
    iterate 5 refine af ?_
    refine Kc (Kp (sR (eJ l q))) ?_
    iterate 2 refine af ?_
    refine aC.DF 0 rfl (fun _=>rfl) ai (oY (eJ l q) how) (Zg _) (Zn _) (fun l0 h=>⟨5,_,_,_,ZB h,rfl⟩) (fun x hx=>by unfold l7 at hx;simp at hx;obtain⟨j,_,rfl⟩:=hx;rfl) rfl (fun H k2 h=>h=H.set 6 (.cells [.p (.int .i64 (kJ l ((aL (eJ l q) 32).take k2)))] 3)) (fun H c h=>False) (fun _ _ h=>by rw[h];rfl) (fun _ _ h=>h.elim) rfl ?_ ?_ ?_
    ·intro lx2 Re k2 h x hJ hx
     subst hJ
     obtain⟨q2,BE,rfl⟩:=jZ hx
     have aby:=Nb (Zi BE)
     have hB1:=Ro hC q k2
     have hB2:=(hC q2 aby).2.2
     iterate 3 refine af ?_
     refine⟨rfl,rfl,?_⟩
     refine af ?_
     refine aC.az 7 mixed (by kernel_rfl) (by decide) ?_
     refine Kq (Kl (.p (.int .i64 (kJ l ((aL (eJ l q) 32).take k2))))) ?_
     iterate 2 refine af ?_
     refine Kq (aa.aB (g:=bt l) lf rfl rfl rfl ai we rfl (fun _=>rfl) (by decide) aby) ?_
     refine af ?_
     refine Kq (Kl (.p (.int .i64 (bt l q2).s))) ?_
     refine Kq (aa.add rfl rfl rfl (aA ?_)) ?_
     ·omega
     refine ay.nil ?_
     iterate 2 refine af ?_
     exact⟨_,rfl,by rw[jd BE,yG];exact To.sub Sub.nil⟩
    ·intro h hJ
     subst hJ
     rw[jg,ZT]
     iterate 2 refine af ?_
     refine Kc (Kl (.p (.int .u32 ((vk (((aL (kB l bad good) 32).take k).map (eJ l)):Nat):Int)))) ?_
     refine af ?_
     refine Kc (aa.aF rfl ai (by decide) rfl rfl rfl) ?_
     refine Kc (Kp (oN [vk (((aL (kB l bad good) 32).take k).map (eJ l)),eJ l q] (by intro x hx;simp only[Zv,Oc,or_false] at hx;rcases hx with rfl | rfl;{exact acy};{omega}) (by unfold bK;show 2<=_;omega))) ?_
     rw[or2,<- BN,<- eO]
     iterate 5 refine af ?_
     refine Kc (Kl (.p (.bool (decide (k=0))))) ?_
     refine af ?_
     refine Ki (fun gQ=> ?_) fun gQ=> ?_
     ·obtain rfl:0=k:=by have h:=Ze gQ;omega
      have e2:D2 ((((aL (kB l bad good) 32).take 0)++[q]).map (eY l))=(min (eY l q) (eY l q),max (eY l q) (eY l q)):=by show(eY l q,eY l q)=_;rw[Int.min_self,Int.max_self]
      have e3:decide (0+1=0)=false:=rfl
      refine af ?_
      refine Kc (Kl (.p (.int .i64 (eY l q)))) ?_
      refine Kc (Kl (.p (.int .i64 (eY l q)))) ?_
      iterate 7 refine af ?_
      refine Kc (Kl (.p (.int .i64 (eY l q)))) ?_
      refine Kc (aa.min2 rfl rfl rfl) ?_
      iterate 2 refine af ?_
      refine Kc (Kl (.p (.int .i64 (eY l q)))) ?_
      refine Kc (aa.max2 rfl rfl rfl) ?_
      iterate 3 refine af ?_
      refine⟨_,rfl,To.done [0,1,2,3,4,5] rfl Sub.nil ?_⟩
      rw[jd hq,e2,e3]
      rfl
     ·have hk0:¬ k=0:=Zf gQ
      have e2:D2 ((((aL (kB l bad good) 32).take k)++[q]).map (eY l))=(min (D2 (((aL (kB l bad good) 32).take k).map (eY l))).1 (eY l q),max (D2 (((aL (kB l bad good) 32).take k).map (eY l))).2 (eY l q)):=by rw[Zy];exact Bn _ _ (by intro h;have h2:=congrArg List.length h;have h3:=(Za.1 hq).1;rw[Zr,zC,CP] at h2;omega)
      have e3:decide (k+1=0)=decide (k=0):=by rw[decide_eq_false hk0,decide_eq_false (by omega)]
      iterate 4 refine af ?_
      refine Kc (Kl (.p (.int .i64 (eY l q)))) ?_
      refine Kc (aa.min2 rfl rfl rfl) ?_
      iterate 2 refine af ?_
      refine Kc (Kl (.p (.int .i64 (eY l q)))) ?_
      refine Kc (aa.max2 rfl rfl rfl) ?_
      iterate 3 refine af ?_
      refine⟨_,rfl,To.done [0,1,2,3,4,5] rfl Sub.nil ?_⟩
      rw[jd hq,e2,e3]
      rfl
    ·exact qU
   ·intro h hJ
    subst hJ
    rw[jg,ZT]
    refine af ?_
    refine aC.az 4 mixed (by kernel_rfl) (by decide) ?_
    refine Kq (Kl (.p (.int .u32 ((rO l (kB l bad good):Nat):Int)))) ?_
    refine Kq (aa.dP rfl rfl (by rw[tS];rfl) y4 (aA ?_)) ?_
    ·have:=zd ja hcl;omega
    refine Kq (Kl (.p (.agg [.int .i64 (mA l (kB l bad good)).1,.int .i64 (mA l (kB l bad good)).2]))) ?_
    refine af ?_
    refine ay.nil ?_
    iterate 4 refine af ?_
    refine Fin.bq (xs:=[.int .i64 ((rO l (kB l bad good):Nat):Int),.agg [.int .i64 (mA l (kB l bad good)).1,.int .i64 (mA l (kB l bad good)).2],.int .i64 0]) rfl (⟨_,_,rfl,rfl,⟨_,_,rfl,⟨_,_,_,rfl,ai,rfl⟩,⟨_,_,rfl,rfl,rfl⟩⟩⟩) rfl ?_
    unfold oz iZ;rw[hE,if_pos rfl,if_pos rfl]
   ·exact qU
theorem za{l:List bF}:∀ k (h:k<(dO l l.length).length),(dO l l.length)[k]=bn l k:=fun k h=>by
 rw[uW k h,wh l (by rw[fu] at h;exact h)]
theorem X5(l:List bF):iL l [0,0]=iL l []:=by
 unfold iL
 have hp:=(V2 (Zn l.length)).2
 have hp0:pw 0=1:=rfl
 have h:gO 0 0 (pw l.length - 1)=true:=by unfold gO;simp;omega
 simp[h]
theorem Ca(a b:Nat)(ha:a<2^24)(hb:b<2^24):Pure Tryz.prog 167 [.int .i64 (a:Int),.int .i64 (b:Int)] (.int .i64 ((a||| b:Nat):Int)):=by
 refine Kf (N:=24) Tryz.func167 ?_
 iterate 14 refine af ?_
 refine aC.kZ [0,1,4,23] (fun g=>[(6,.p (.int .i64 ((g:Nat):Int))),(5,.p (.int .i64 ((cB (Q0 a b) g:Nat):Int)))]) (fun g=>g<=24) (fun g=>24 - g) 0 (Zn _) (Sub.cons rfl (Sub.cons rfl (Sub.nil))) (fun i hg=> ?_)
 iterate 6 refine af ?_
 refine Ki (fun hc0=> ?_) fun hc0=> ?_
 ·have hk0:i<24:=by have h:=Ze hc0;omega
  have pE:=eU (Q0 a b) i
  have hpi:=Zq (show 0<2 by omega) (show i<=24 by omega)
  iterate 7 refine af ?_
  refine Kc (Kp (iw a i (by omega) (by omega))) ?_
  refine af ?_
  refine Kg 15 14 1 rfl (fun h=>(aa.move rfl rfl)) ?_
  refine Kg 16 14 6 rfl (fun h=>(aa.move rfl rfl)) ?_
  refine aq.g 17 14 rfl rfl rfl rfl rfl rfl rfl [(15,_),(16,_)] (fun h=>And.intro (.inr ⟨_,rfl,h⟩) (And.intro (.inr ⟨_,rfl,h⟩) (trivial))) (fun h=>(Kp (iw b i (by omega) (by omega)))) ?_
  refine Kc (aa.lE rfl rfl rfl ?_) ?_
  ·exact fO
  refine af ?_
  refine Ki (fun bw=> ?_) fun bw=> ?_
  ·have hs:cB (Q0 a b) (i+1)=cB (Q0 a b) i+2^i:=zB bw
   iterate 3 refine af ?_
   refine Kc (Kp (iT i (by omega))) ?_
   refine Kc (aa.add (m:=((cB (Q0 a b) i+2^i:Nat):Int)) rfl rfl rfl ((aA ?_).trans ?_)) ?_
   ·unfold pw;omega
   ·unfold pw;omega
   iterate 4 refine af ?_
   exact CD
  ·have hs:cB (Q0 a b) (i+1)=cB (Q0 a b) i:=zi bw
   iterate 3 refine af ?_
   exact CD
 ·obtain rfl:i=24:=by have h:=Zf hc0;omega
  refine aC.exit ?_
  iterate 6 refine af ?_
  refine Fin.cY rfl rfl ?_
  rw[Ve ha hb]
theorem yZ(l:List bF)(hC:cv l):Pure Tryz.prog 170 [cz l] (Sm (dO l l.length)):=by
 have ja:=bM hC
 refine Kf (N:=38) Tryz.func170 ?_
 iterate 14 refine af ?_
 refine aC.dw [0,2,37] (fun g=>[(4,.p (.int .i64 ((g:Nat):Int))),(3,gP 0 g)]) (fun g=>[dG (((dO l g).flatMap n64).map .p) 3 g]) (fun g=>g<=l.length) (fun g=>l.length - g) 0 (Zn _) (To.pad.trans (To.sub (Sub.tO (Sub.cons rfl (Sub.cons rfl Sub.nil))))) (fun i hg=> ?_)
 iterate 8 refine af ?_
 refine Ki (fun hc0=> ?_) fun hc0=> ?_
 ·have hk0:i<l.length:=by have h:=Ze hc0;omega
  have hf:=(hC i hk0).2.1
  have hp:=tV (n:=i) (by omega)
  have hfr:(bt l i).f=((nX l i:Nat):Int):=by unfold nX;omega
  have hfl:nX l i<=16777216:=by unfold nX;omega
  have hpi:=Zq (show 0<2 by omega) (show i+1<=24 by omega)
  iterate 6 refine af ?_
  refine Kc (Kp (iT i (by omega))) ?_
  iterate 8 refine af ?_
  refine aC.dw [0,2,3,4,7,8,9,10,11,12,13,14,33,34,35,36,37] (fun g=>[(6,.p (.int .i64 ((g:Nat):Int))),(5,.p (.int .i64 ((jO l (dO l i) i g:Nat):Int)))]) (fun g=>[dG (((dO l i).flatMap n64).map .p) 3 i]) (fun g=>g<=i) (fun g=>i - g) 0 (Zn _) (To.sub (Sub.tO (Sub.cons rfl (Sub.cons rfl (Sub.nil))))) (fun k hh=> ?_)
  iterate 7 refine af ?_
  refine Ki (fun bw=> ?_) fun bw=> ?_
  ·have Wq:k<i:=by have h:=Ze bw;omega
   have rU:0<i:=by omega
   have vS:k<(dO l i).length:=by rw[fu];exact Wq
   have pE:=LG l i k (by omega)
   have hbu:ut (dO l i) k=bn l k:=wh l Wq
   have Xs:=oO l k
   have hpk:=Zq (show 0<2 by omega) (show k+1<=24 by omega)
   have hu:ut (dO l i) k<2^24:=by rw[hbu];omega
   iterate 7 refine af ?_
   refine Kc (aa.aB (g:=bt l) lf rfl rfl rfl ai we rfl (fun _=>rfl) (by decide) hk0) ?_
   refine af ?_
   refine Kc (Kl (.p (.int .i64 (bt l i).f))) ?_
   refine af ?_
   rw[hfr]
   refine Kc (Kp (iw (nX l i) k (by omega) (by omega))) ?_
   refine af ?_
   refine Ki (fun eG=> ?_) fun eG=> ?_
   ·have hst:jO l (dO l i) i (k+1)=jO l (dO l i) i k||| ut (dO l i) k:=by rw[jO,if_pos eG]
    iterate 4 refine af ?_
    refine Kc (aa.Mn rfl rfl rfl ai bB Wq) ?_
    rw[AW rU]
    refine Kc (aa.iN (f:=n64) (c:=1) (k:=k) (j:=0) (xs:=(dO l i)) rfl rfl ai rfl rfl (by omega) (fun _=>rfl) vS (by decide) (show _=PV.int .i64 ((ut (dO l i) k:Nat):Int) from by rw[uW];rfl)) ?_
    refine Kc (Kp (Ca (jO l (dO l i) i k) (ut (dO l i) k) (by omega) hu)) ?_
    iterate 4 refine af ?_
    exact Ru
   ·have hst:jO l (dO l i) i (k+1)=jO l (dO l i) i k:=by rw[jO,if_neg (by rw[eG];decide)]
    iterate 3 refine af ?_
    exact Ru
  ·obtain rfl:i=k:=by have h:=Zf bw;omega
   refine aC.exit ?_
   iterate 3 refine af ?_
   refine Kc (aa.aF rfl ai (by decide) rfl rfl rfl) ?_
   refine Kc (aa.fV rfl rfl rfl ai ai rfl ?_ rfl (by decide) rfl ai (by decide) ?_) ?_
   ·rw[Zr,bD (c:=1) (fun _=>rfl),fu];rfl
   ·omega
   iterate 4 refine af ?_
   refine Kc (aa.add rfl rfl rfl (aA ?_)) ?_
   ·omega
   iterate 2 refine af ?_
   refine⟨i+1,?_,?_,?_⟩
   ·omega
   ·omega
   refine To.done [1] rfl KS ?_
   show[ak.row (bE _ (_++_)) _]=[ak.row _ _]
   rw[bI,aP,show dO l (i+1)=dO l i++[jO l (dO l i) i i] from rfl,ZX,Zy]
   rfl
 ·obtain rfl:i=l.length:=by have h:=Zf hc0;omega
  refine aC.to (To.MX 3 0 l.length rfl rfl (fun h=>by rw[h];rfl)) ?_
  refine aC.exit ?_
  iterate 6 refine af ?_
  refine Fin.cY rfl rfl ?_
  unfold Sm;rw[fu]
theorem G2(l:List bF)(b:Nat)(hC:cv l)(hb:b<l.length):Pure Tryz.prog 166 [cz l,.int .i64 (b:Int)] (.int .i64 ((jC l b:Nat):Int)):=by
 have ja:=bM hC
 refine Kf (N:=27) Tryz.func166 ?_
 iterate 7 refine af ?_
 refine Kc (Kp (yZ l hC)) ?_
 iterate 9 refine af ?_
 refine aC.kZ [0,1,4,5,26] (fun g=>[(7,.p (.int .i64 ((g:Nat):Int))),(6,.p (.int .i64 ((cB (fun i=>(bn l i).testBit b) g:Nat):Int)))]) (fun g=>g<=l.length) (fun g=>l.length - g) 0 (Zn _) (Sub.cons rfl (Sub.cons rfl (Sub.nil))) (fun i hg=> ?_)
 iterate 8 refine af ?_
 refine Ki (fun hc0=> ?_) fun hc0=> ?_
 ·have hk0:i<l.length:=by have h:=Ze hc0;omega
  have pE:=eU (fun i=>(bn l i).testBit b) i
  have hpi:=Zq (show 0<2 by omega) (show i+1<=24 by omega)
  have Xs:=oO l i
  have hpj:=P8 2 i
  iterate 7 refine af ?_
  refine Kc (aa.aB (g:=bn l) za rfl rfl rfl ai bB rfl (fun _=>rfl) (by decide) (by rw[fu];exact hk0)) ?_
  refine Kc (Kl (.p (.int .i64 ((bn l i:Nat):Int)))) ?_
  refine af ?_
  refine Kc (Kp (iw (bn l i) b (by omega) (by omega))) ?_
  refine af ?_
  refine Ki (fun bw=> ?_) fun bw=> ?_
  ·have hs:cB (fun i=>(bn l i).testBit b) (i+1)=cB (fun i=>(bn l i).testBit b) i+2^i:=zB bw
   iterate 3 refine af ?_
   refine Kc (Kp (iT i (by omega))) ?_
   refine Kc (aa.add (m:=((cB (fun i=>(bn l i).testBit b) i+2^i:Nat):Int)) rfl rfl rfl ((aA ?_).trans ?_)) ?_
   ·unfold pw;omega
   ·unfold pw;omega
   iterate 4 refine af ?_
   exact CD
  ·have hs:cB (fun i=>(bn l i).testBit b) (i+1)=cB (fun i=>(bn l i).testBit b) i:=zi bw
   iterate 3 refine af ?_
   exact CD
 ·exact Si
theorem x9(l:List bF)(a b:Int)(hb:l.length<=bK):Pure Tryz.prog 164 [cz l,.int .i64 a,.int .i64 b] (.int .i64 (iL l [a,b])):=by
 refine Kf (N:=26) Tryz.func164 ?_
 iterate 8 refine af ?_
 refine Kc (Kp (Gd l hb)) ?_
 iterate 2 refine af ?_
 refine Ki (fun hc0=> ?_) fun hc0=> ?_
 ·exact TA
 ·have hC:cv l:=by simpa using hc0
  have ja:=bM hC
  have xb:=tV ja
  iterate 7 refine af ?_
  refine Kc (Kp (iT l.length (by omega))) ?_
  refine Kc (aa.ec rfl rfl rfl (aA ?_)) ?_
  ·omega
  refine Kc (Kp (tF _ _ _)) ?_
  iterate 2 refine af ?_
  refine Kg 18 17 2 rfl (fun h=>(aa.move rfl rfl)) ?_
  refine Kg 19 17 0 rfl (fun h=>(aa.move rfl rfl)) ?_
  refine Kh 20 17 19 rfl rfl rfl rfl (fun h=>(aa.bJ rfl rfl ai rfl)) ?_
  refine Kh 21 17 20 rfl rfl rfl rfl (fun h=>(Kp (iT l.length (by omega)))) ?_
  refine Kh 22 17 21 rfl rfl rfl rfl (fun h=>(aa.ec rfl rfl rfl (aA ?_))) ?_
  ·omega
  refine aq.g 23 17 rfl rfl rfl rfl rfl rfl rfl [(18,_),(22,_)] (fun h=>And.intro (.inr ⟨_,rfl,h⟩) (And.intro (.inr ⟨_,rfl,h⟩) (trivial))) (fun h=>(Kp (tF _ _ _))) ?_
  refine Kh 24 17 23 rfl rfl rfl rfl (fun h=>(aa.fI rfl rfl)) ?_
  refine Kc (aa.lE rfl rfl rfl ?_) ?_
  ·exact fO
  refine af ?_
  refine Ki (fun bw=> ?_) fun bw=> ?_
  ·have hS:([a,b].any fun n=> !gO n 0 (pw l.length - 1))=true:=by rw[Xf,Xf,List.any_nil,Xq];exact bw
   exact aah
  ·have hS:([a,b].any fun n=> !gO n 0 (pw l.length - 1))=false:=by rw[Xf,Xf,List.any_nil,Xq];exact bw
   exact YP
theorem QU(l:List bF)(hb:l.length<=bK):Pure Tryz.prog 164 [cz l,.int .i64 0,.int .i64 0] (.int .i64 (iL l [])):=by
 have h:=x9 l 0 0 hb
 rwa [X5] at h
theorem Ix(l:List bF)(b:Int)(hb:l.length<=bK):Pure Tryz.prog 128 [cz l,.int .i64 b] (.tuple [.int .i64 ((jb l (bn l) b:Nat):Int),.int .i64 (fH l b)]):=by
 have iY:=hb
 unfold bK at iY
 refine Kf (N:=23) Tryz.func128 ?_
 iterate 8 refine af ?_
 refine Kc (Kp (QU l hb)) ?_
 iterate 8 refine af ?_
 refine Ki (fun hc0=> ?_) fun hc0=> ?_
 ·exact Rt
 ·have hE:iL l []=0:=by simpa using hc0
  have hC:=(mM hE).1
  have hS:=(mM hE).2
  have ja:=bM hC
  have xb:=tV ja
  iterate 7 refine af ?_
  refine Kc (aa.ec rfl rfl rfl (aA ?_)) ?_
  ·omega
  refine Kc (Kp (tF _ _ _)) ?_
  iterate 2 refine af ?_
  refine Ki (fun bw=> ?_) fun bw=> ?_
  ·exact aap
  ·have hI:gO b 0 ((l.length:Int) - 1)=true:=by simpa using bw
   have hI2:=hI
   simp[gO] at hI2
   obtain⟨b,rfl⟩:∃ m:Nat,b=(m:Int):=⟨b.toNat,by omega⟩
   have Xs:b<l.length:=by omega
   iterate 4 refine af ?_
   refine Kc (Kp (yZ l hC)) ?_
   refine af ?_
   refine Kc (aa.aB (g:=bn l) za rfl rfl rfl ai bB rfl (fun _=>rfl) (by decide) (by rw[fu];exact Xs)) ?_
   refine Kc (Kl (.p (.int .i64 ((bn l b:Nat):Int)))) ?_
   iterate 4 refine af ?_
   refine Fin.bq (xs:=[.int .i64 ((bn l b:Nat):Int),.int .i64 0]) rfl (⟨_,_,rfl,rfl,⟨_,_,rfl,rfl,rfl⟩⟩) rfl ?_
   exact R2
theorem Ga(l:List bF)(bad good:Nat)(hC:cv l)(hbd:bad<2^l.length)(hgd:good<2^l.length):Pure Tryz.prog 165 [cz l,.int .i64 (bad:Int),.int .i64 (good:Int)] (.int .i64 ((fZ l bad good:Nat):Int)):=by
 have ja:=bM hC
 have hpl:=Zq (show 0<2 by omega) (show l.length<=24 by omega)
 refine Kf (N:=57) Tryz.func165 ?_
 iterate 7 refine af ?_
 refine Kc (Kp (yZ l hC)) ?_
 iterate 9 refine af ?_
 refine aC.kZ [0,1,2,6,7,56] (fun g=>[(9,.p (.int .i64 ((g:Nat):Int))),(8,.p (.int .i64 ((cB (mo l bad good) g:Nat):Int)))]) (fun g=>g<=l.length) (fun g=>l.length - g) 0 (Zn _) (Sub.cons rfl (Sub.cons rfl (Sub.nil))) (fun i hg=> ?_)
 iterate 8 refine af ?_
 refine Ki (fun hc0=> ?_) fun hc0=> ?_
 ·have hk0:i<l.length:=by have h:=Ze hc0;omega
  have pE:=eU (mo l bad good) i
  have hpi:=Zq (show 0<2 by omega) (show i<=24 by omega)
  iterate 13 refine af ?_
  refine aC.kZ [0,1,2,6,7,8,9,14,15,16,17,18,19,51,52,53,54,55,56] (fun g=>[(11,.p (.int .i64 ((g:Nat):Int))),(10,.p (.bool (Pp l bad good i g)))]) (fun g=>g<=l.length) (fun g=>l.length - g) 0 (Zn _) (Sub.cons rfl (Sub.cons rfl (Sub.nil))) (fun k hh=> ?_)
  iterate 8 refine af ?_
  refine Ki (fun bw=> ?_) fun bw=> ?_
  ·have hj0:k<l.length:=by have h:=Ze bw;omega
   have hjb:k<(dO l l.length).length:=by rw[fu];exact hj0
   have hbk:=oO l k
   have hpk:=Zq (show 0<2 by omega) (show k+1<=24 by omega)
   iterate 7 refine af ?_
   refine Kc (Kp (iw bad k (by omega) (by omega))) ?_
   refine af ?_
   refine Kg 30 29 7 rfl (fun h=>(aa.move rfl rfl)) ?_
   refine Kg 31 29 11 rfl (fun h=>(aa.move rfl rfl)) ?_
   refine aq.g 32 29 rfl rfl rfl rfl rfl rfl rfl [(30,_),(31,_)] (fun h=>And.intro (.inr ⟨_,rfl,h⟩) (And.intro (.inr ⟨_,rfl,h⟩) (trivial))) (fun h=>(aa.aB (g:=bn l) za rfl rfl rfl ai bB rfl (fun _=>rfl) (by decide) hjb)) ?_
   refine Kh 33 29 32 rfl rfl rfl rfl (fun h=>(Kl (.p (.int .i64 ((bn l k:Nat):Int))))) ?_
   refine Kg 34 29 9 rfl (fun h=>(aa.move rfl rfl)) ?_
   refine aq.g 35 29 rfl rfl rfl rfl rfl rfl rfl [(33,_),(34,_)] (fun h=>And.intro (.inr ⟨_,rfl,h⟩) (And.intro (.inr ⟨_,rfl,h⟩) (trivial))) (fun h=>(Kp (iw (bn l k) i (by omega) (by omega)))) ?_
   refine Kh 36 29 35 rfl rfl rfl rfl (fun h=>(aa.fI rfl rfl)) ?_
   refine Kc (aa.gy rfl rfl rfl ?_) ?_
   ·exact fO
   refine af ?_
   refine Kg 39 38 2 rfl (fun h=>(aa.move rfl rfl)) ?_
   refine Kg 40 38 11 rfl (fun h=>(aa.move rfl rfl)) ?_
   refine aq.g 41 38 rfl rfl rfl rfl rfl rfl rfl [(39,_),(40,_)] (fun h=>And.intro (.inr ⟨_,rfl,h⟩) (And.intro (.inr ⟨_,rfl,h⟩) (trivial))) (fun h=>(Kp (iw good k (by omega) (by omega)))) ?_
   refine Kh 42 38 41 rfl rfl rfl rfl (fun h=>(aa.move rfl rfl)) ?_
   refine Kg 43 42 7 rfl (fun h=>(aa.move rfl rfl)) ?_
   refine Kg 44 42 11 rfl (fun h=>(aa.move rfl rfl)) ?_
   refine aq.g 45 42 rfl rfl rfl rfl rfl rfl rfl [(43,_),(44,_)] (fun h=>And.intro (.inr ⟨_,rfl,h⟩) (And.intro (.inr ⟨_,rfl,h⟩) (trivial))) (fun h=>(aa.aB (g:=bn l) za rfl rfl rfl ai bB rfl (fun _=>rfl) (by decide) hjb)) ?_
   refine Kh 46 42 45 rfl rfl rfl rfl (fun h=>(Kl (.p (.int .i64 ((bn l k:Nat):Int))))) ?_
   refine Kg 47 42 9 rfl (fun h=>(aa.move rfl rfl)) ?_
   refine aq.g 48 42 rfl rfl rfl rfl rfl rfl rfl [(46,_),(47,_)] (fun h=>And.intro (.inr ⟨_,rfl,h⟩) (And.intro (.inr ⟨_,rfl,h⟩) (trivial))) (fun h=>(Kp (iw (bn l k) i (by omega) (by omega)))) ?_
   refine aq.g 49 38 rfl rfl rfl rfl rfl rfl rfl [(42,_),(48,_)] (fun h=>And.intro (.inr ⟨_,rfl,h⟩) (And.intro (.inl rfl) (trivial))) (fun h=>(aa.gy rfl rfl rfl ?_)) ?_
   ·exact fO
   refine Kc (aa.lE rfl rfl rfl ?_) ?_
   ·exact fO
   refine af ?_
   refine Ki (fun eG=> ?_) fun eG=> ?_
   ·have hx:Pp l bad good i (k+1)=false:=abp (IY (c:=true) eG)
    iterate 5 refine af ?_
    exact Sq
   ·have hx:Pp l bad good i (k+1)=Pp l bad good i k:=aae (IY (c:=false) eG)
    iterate 3 refine af ?_
    exact Sq
  ·obtain rfl:k=l.length:=by have h:=Zf bw;omega
   refine aC.exit ?_
   iterate 4 refine af ?_
   refine Ki (fun gQ=> ?_) fun gQ=> ?_
   ·have hs:cB (mo l bad good) (i+1)=cB (mo l bad good) i+2^i:=zB (show mo l bad good i=true from gQ)
    iterate 3 refine af ?_
    refine Kc (Kp (iT i (by omega))) ?_
    refine Kc (aa.add (m:=((cB (mo l bad good) i+2^i:Nat):Int)) rfl rfl rfl ((aA ?_).trans ?_)) ?_
    ·unfold pw;omega
    ·unfold pw;omega
    iterate 4 refine af ?_
    exact CD
   ·have hs:cB (mo l bad good) (i+1)=cB (mo l bad good) i:=zi (show mo l bad good i=false from gQ)
    iterate 3 refine af ?_
    exact CD
 ·exact Si
theorem o6(l:List bF)(bad good:Int)(hb:l.length<=bK):Pure Tryz.prog 125 [cz l,.int .i64 bad,.int .i64 good] (.tuple [.int .i64 ((kB l bad good:Nat):Int),.int .i64 (hY l bad good)]):=by
 refine Kf (N:=26) Tryz.func125 ?_
 iterate 10 refine af ?_
 refine Kc (Kp (x9 l bad good hb)) ?_
 iterate 8 refine af ?_
 refine Ki (fun hc0=> ?_) fun hc0=> ?_
 ·exact SH
 ·have hE:iL l [bad,good]=0:=by simpa using hc0
  have hC:=(mM hE).1
  have hS:=(mM hE).2
  have ja:=bM hC
  have xb:=tV ja
  have XG:=hS bad (by simp)
  have hS2:=hS good (by simp)
  iterate 7 refine af ?_
  refine Ki (fun bw=> ?_) fun bw=> ?_
  ·exact YL
  ·have hz:¬ bad=0:=by simpa using bw
   obtain⟨bad,rfl⟩:∃ m:Nat,bad=(m:Int):=⟨bad.toNat,by omega⟩
   obtain⟨good,rfl⟩:∃ m:Nat,good=(m:Int):=⟨good.toNat,by omega⟩
   iterate 6 refine af ?_
   refine Kc (Kp (Ga l bad good hC (by unfold pw at XG;omega) (by unfold pw at hS2;omega))) ?_
   iterate 8 refine af ?_
   refine Ki (fun eG=> ?_) fun eG=> ?_
   ·exact aad
   ·have hn:¬ fZ l bad good=0:=by intro h;rw[h] at eG;simp at eG
    iterate 8 refine af ?_
    exact Sc
theorem Dd(l:List bF)(bad good:Int)(hb:l.length<=bK):Pure Tryz.prog 127 [cz l,.int .i64 bad,.int .i64 good] (.tuple [.int .i64 ((oz l bad good:Nat):Int),.agg [.int .i64 (iZ l bad good).1,.int .i64 (iZ l bad good).2],.int .i64 (hY l bad good)]):=by
 have iY:=hb
 unfold bK at iY
 refine Kf (N:=85) Tryz.func127 ?_
 iterate 11 refine af ?_
 refine Kc (Kp (o6 l bad good hb)) ?_
 iterate 12 refine af ?_
 refine Ki (fun hc0=> ?_) fun hc0=> ?_
 ·exact abo
 ·have hE:hY l bad good=0:=by simpa using hc0
  obtain⟨hC,_,_,_,hR,hne,hcl⟩:=qo hE
  have ja:=bM hC
  have xb:=Zq (show 0<2 by omega) (show l.length<=24 by omega)
  obtain⟨can,hcan⟩:∃ c,kB l bad good=c:=⟨_,rfl⟩
  rw[hcan] at hcl ⊢
  iterate 16 refine af ?_
  refine aC.dw [0,6,7,8,9,13,83,84] (fun g=>[(14,.p (.int .i64 ((g:Nat):Int))),(11,.p (.int .i64 ((kC l can g:Nat):Int))),(12,.p (.bool (sy can g)))]) (fun g=>[.cells [.p (.int .i64 0),.p (.int .i64 0)] 24,.cells [.p (.int .i64 (iX l can g).1),.p (.int .i64 (iX l can g).2)] 24]) (fun g=>g<=l.length) (fun g=>l.length - g) 0 (Zn _) (To.sub (Sub.tO (Sub.cons rfl (Sub.cons rfl (Sub.cons rfl (Sub.nil)))))) (fun i hg=> ?_)
  iterate 8 refine af ?_
  refine Ki (fun bw=> ?_) fun bw=> ?_
  ·have hk0:i<l.length:=by have h:=Ze bw;omega
   have hal:=(oZ hC).Xh i hk0
   iterate 8 refine af ?_
   refine Kc (Kp (iw can i (by omega) (by omega))) ?_
   iterate 2 refine af ?_
   refine Ki (fun eG=> ?_) fun eG=> ?_
   ·have hcb:can.testBit i=false:=by simpa using eG
    have hm:kC l can (i+1)=kC l can i:=OT hcb
    have hs:iX l can (i+1)=iX l can i:=Qx hcb
    have hf:sy can (i+1)=sy can i:=W9 hcb
    refine aC.exit ?_
    iterate 2 refine af ?_
    exact Th
   ·have hcb:can.testBit i=true:=by simpa using eG
    have hf:sy can (i+1)=false:=UJ hcb
    iterate 5 refine af ?_
    refine Kc (Kp (G2 l i hC hk0)) ?_
    iterate 9 refine af ?_
    refine aC.kZ [0,6,7,8,9,12,13,14,15,29,30,31,32,33,34,35,36,37,38,39,40,41,70,71,72,73,74,75,76,77,78,79,80,81,82,83,84] (fun g=>[(17,.p (.int .i64 ((g:Nat):Int))),(16,.p (.int .i64 (kJ l (aL (eJ l i) g)))),(11,.p (.int .i64 ((nC l can i g:Nat):Int)))]) (fun g=>g<=l.length) (fun g=>l.length - g) 0 (Zn _) (Sub.cons rfl (Sub.cons rfl (Sub.cons (by rw[Uc];rfl) Sub.nil))) (fun k hh=> ?_)
    iterate 8 refine af ?_
    refine Ki (fun gQ=> ?_) fun gQ=> ?_
    ·have hj0:k<l.length:=by have h:=Ze gQ;omega
     have hB1:=BM hC i (show k<=l.length by omega)
     have hB2:=(hC k hj0).2.2
     have hil:=Pc ja can i k
     have hpk:2^k<2^24:=Qe (by omega) (by omega)
     iterate 7 refine af ?_
     refine Kc (Kp (iw (jC l i) k (by omega) (by omega))) ?_
     refine af ?_
     refine Kg 52 51 0 rfl (fun h=>(aa.move rfl rfl)) ?_
     refine Kg 53 51 17 rfl (fun h=>(aa.move rfl rfl)) ?_
     refine aq.g 54 51 rfl rfl rfl rfl rfl rfl rfl [(52,_),(53,_)] (fun h=>And.intro (.inr ⟨_,rfl,h⟩) (And.intro (.inr ⟨_,rfl,h⟩) (trivial))) (fun h=>(aa.aB (g:=bt l) lf rfl rfl rfl ai we rfl (fun _=>rfl) (by decide) hj0)) ?_
     refine Kh 55 51 54 rfl rfl rfl rfl (fun h=>(aa.fieldAddr rfl rfl ai rfl)) ?_
     refine Kh 56 51 55 rfl rfl rfl rfl (fun h=>(Kl (.p (.int .i64 (bt l k).s)))) ?_
     refine Kh 57 51 56 rfl rfl rfl rfl (fun h=>(aa.gtr rfl rfl rfl)) ?_
     refine Kc (aa.gy rfl rfl rfl ?_) ?_
     ·exact fO
     refine af ?_
     refine Ki (fun o3=> ?_) fun o3=> ?_
     ·have V6:(eJ l i).testBit k=true:=by rw[<- AH hj0];exact o3
      have aaF:=aaP V6
      have aa6:nC l can i (k+1)=nC l can i k||| 2^k:=VM V6
      iterate 4 refine af ?_
      refine Kc (Kp (iT k (by omega))) ?_
      refine Kc (Kp (Ca (nC l can i k) (2^k) hil hpk)) ?_
      iterate 6 refine af ?_
      refine Kc (aa.aB (g:=bt l) lf rfl rfl rfl ai we rfl (fun _=>rfl) (by decide) hj0) ?_
      refine af ?_
      refine Kc (Kl (.p (.int .i64 (bt l k).s))) ?_
      refine Kc (aa.add rfl rfl rfl (aA ?_)) ?_
      ·omega
      iterate 4 refine af ?_
      exact S1
     ·have V6:(eJ l i).testBit k=false:=by rw[<- AH hj0];exact o3
      have aaF:=Y8 V6
      have aa6:nC l can i (k+1)=nC l can i k:=Uk V6
      iterate 3 refine af ?_
      exact S1
    ·obtain rfl:k=l.length:=by have h:=Zf gQ;omega
     have hm:kC l can (i+1)=nC l can i l.length:=N0 hcb
     rw[O1 ja]
     refine aC.exit ?_
     iterate 5 refine af ?_
     refine Ki (fun tN=> ?_) fun tN=> ?_
     ·have hs:iX l can (i+1)=(min (eY l i) (eY l i),max (eY l i) (eY l i)):=QL hcb tN
      iterate 11 refine af ?_
      exact aac
     ·have hs:iX l can (i+1)=(min (iX l can i).1 (eY l i),max (iX l can i).2 (eY l i)):=O4 hcb tN
      iterate 6 refine af ?_
      exact aac
  ·obtain rfl:i=l.length:=by have h:=Zf bw;omega
   rw[(Fk ja hcl).1,(Fk ja hcl).2]
   refine aC.exit ?_
   refine af ?_
   refine aC.az 3 mixed (by kernel_rfl) (by decide) ?_
   refine af ?_
   refine Kq (Kl (.p (.agg [.int .i64 (mA l can).1,.int .i64 (mA l can).2]))) ?_
   refine af ?_
   refine ay.nil ?_
   iterate 4 refine af ?_
   refine Fin.bq (xs:=[.int .i64 ((rO l can:Nat):Int),.agg [.int .i64 (mA l can).1,.int .i64 (mA l can).2],.int .i64 0]) rfl (⟨_,_,rfl,rfl,⟨_,_,rfl,⟨_,_,_,rfl,ai,rfl⟩,⟨_,_,rfl,rfl,rfl⟩⟩⟩) rfl ?_
   unfold oz iZ;rw[hE,if_pos rfl,if_pos rfl,hcan]
end Go.Proofs.YtchiinjiflgepaaGreatDoor.Rx
end
