/-
 Plain sums, by numbers and over lists. No program in sight.
 Searches, in plain Lean.
 From what a statement's arguments may hold to plain lists. No condition; generic over any program.
-/
import Derived.Test.YtibffijhebobmaaGreatDoorFaSC
import Derived.Test.YtibffijhebobmaaGreatDoorMzSZ
set_option linter.unusedSimpArgs false
set_option linter.unusedVariables false
section
namespace Go.Proofs.YtibffijhebobmaaGreatDoor
def iw(f:Nat->Int):Nat->Int
 | 0=>0
 | n+1=>iw f n+f n
theorem lJ{f g:Nat->Int}:∀ n,(∀ j,j<n->f j=g j)->iw f n=iw g n
 | 0,_=>rfl
 | n+1,h=>by simp only[iw];rw[lJ n (fun j hj=>h j (by omega)),h n (by omega)]
theorem ld{f:Nat->Int}:∀ n,(∀ j,j<n->f j=0)->iw f n=0
 | 0,_=>rfl
 | n+1,h=>by simp only[iw];rw[ld n (fun j hj=>h j (by omega)),h n (by omega)];rfl
theorem sP{f g:Nat->Int}{k:Nat}:∀ n,k<n->(∀ j,j<n->j≠k->g j=f j)->iw g n=iw f n - f k+g k
 | 0,h,_=>by omega
 | n+1,h,hj=>by
  exact BW
theorem kF{f g:Nat->Int}:∀ n,(∀ j,j<n->f j<=g j)->iw f n<=iw g n
 | 0,_=>Ge _
 | n+1,h=>by
  exact Ec
theorem lP(p:Nat->Bool):∀ n,(∀ i j,i<=j->j<n->p i=true->p j=true)->∃ r,r<=n∧(∀ i,i<r->p i=false)∧∀ i,r<=i->i<n->p i=true
 | 0,_=>⟨0,Zf _,fun i h=>by omega,fun i _ h=>by omega⟩
 | n+1,hp=>by
  exact BR
def iL{α:Type}(p:α->Bool):List α->Int
 | []=> -1
 | x::xs=>if p x then 0 else let r:=iL p xs;if r<0 then -1 else r+1
theorem qT{α:Type}(p:α->Bool):∀(xs:List α) (i:Nat) (h:i<xs.length),(∀ j (hj:j<i),p (xs[j]'(by omega))=false)->p xs[i]=true->iL p xs=i
 | x::xs,0,h,h1,h2=>by simp at h2;simp[iL,h2]
 | x::xs,i+1,h,h1,h2=>by
  exact Bn
theorem kN{α:Type}(p:α->Bool):∀ xs:List α,(∀ j (hj:j<xs.length),p xs[j]=false)->iL p xs= -1
 | [],_=>rfl
 | x::xs,h=>by
  exact Bv
theorem lf{α:Type}(p:α->Bool):∀ xs:List α,decide (0<=iL p xs)=xs.any p
 | []=>rfl
 | x::xs=>by
  exact Dq
open Go.AF
theorem MQ(k:IntKind){n:Nat}{el:List PV}:o8 (List.replicate n (.leaf (.int k))) el->∃ xs:List Int,xs.length=n∧el=xs.map (PV.int k)∧∀ x∈xs,(k.min<=x∧x<=k.max):=by
 induction n generalizing el with
 | zero=>intro h;cases h;exact⟨[],rfl,rfl,fun x hx=>by cases hx⟩
 | succ n ih=>
  intro h
  cases h with
  | cons _ _ x xs h1 h2=>
   obtain⟨ys,e1,e2,e3⟩:=ih h2
   cases h1 with
   | int _ v hw=>exact⟨v::ys,by simp[e1],by rw[e2];rfl,fun x hx=>by
       rcases Zw.1 hx with rfl | hx
       ·simpa only[Lit.wf,Zm,Zn] using hw
       ·exact e3 x hx⟩
theorem Oe{α:Type}{f:α->List PV}{p:List PV->Prop}(hp:∀ el,p el->∃ a,el=f a):∀ els:List (List PV),(∀(i:Nat) (el:List PV),els[i]? =some el->p el)->∃ l:List α,els.flatten=l.flatMap f∧l.length=els.length
 | [],_=>⟨[],rfl,rfl⟩
 | e::els,h=>by
  obtain⟨a,ha⟩:=hp e (h 0 e rfl)
  obtain⟨l,h1,h2⟩:=Oe hp els (fun i el hi=>h (i+1) el (by simpa using hi))
  exact⟨a::l,by simp[ha,h1],by simp[h2]⟩
theorem Tf{α:Type}{f:α->List PV}{sh:List Sh}(hp:∀ el,o8 sh el->∃ a,el=f a){x:List PV}(h:o8 [.sl sh] x):∃ l:List α,x=[.is (l.flatMap f) l.length]∧l.length<=9223372036854775807:=by
 cases h with
 | cons _ _ y ys h1 h2=>
  cases h2
  cases h1 with
  | sl _ els hl hel=>
   obtain⟨l,e1,e2⟩:=Oe hp els hel
   exact⟨l,by rw[e1,e2],by rw[e2];exact hl⟩
theorem Qs{n:Nat}{el:List PV}(h:o8 (List.replicate n (.leaf (.int .i64))) el):∃ xs:List Int,xs.length=n∧el=xs.map (PV.int .i64):=by
 obtain⟨xs,e1,e2,_⟩:=MQ .i64 h
 exact⟨xs,e1,e2⟩
end Go.Proofs.YtibffijhebobmaaGreatDoor
end
