/-
 Plain sums, by numbers and over lists. No program in sight.
 Searches, in plain Lean.
 From what a statement's arguments may hold to plain lists. No condition; generic over any program.
-/
import Derived.Test.YtibffijhebobmaaGreatDoorFaUC
import Derived.Test.YtibffijhebobmaaGreatDoorMzUZ
set_option linter.unusedSimpArgs false
set_option linter.unusedVariables false
section
namespace Go.Proofs.YtibffijhebobmaaGreatDoor
def fV(f:Nat->Int):Nat->Int
 | 0=>0
 | n+1=>fV f n+f n
theorem lU{f g:Nat->Int}:∀ n,(∀ j,j<n->f j=g j)->fV f n=fV g n
 | 0,_=>rfl
 | n+1,h=>by simp only[fV];rw[lU n (fun j hj=>h j (by omega)),h n (by omega)]
theorem jd{f:Nat->Int}:∀ n,(∀ j,j<n->f j=0)->fV f n=0
 | 0,_=>rfl
 | n+1,h=>by simp only[fV];rw[jd n (fun j hj=>h j (by omega)),h n (by omega)];rfl
theorem rN{f g:Nat->Int}{k:Nat}:∀ n,k<n->(∀ j,j<n->j≠k->g j=f j)->fV g n=fV f n - f k+g k
 | 0,h,_=>by omega
 | n+1,h,hj=>by
  exact DI
theorem iZ{f g:Nat->Int}:∀ n,(∀ j,j<n->f j<=g j)->fV f n<=fV g n
 | 0,_=>At _
 | n+1,h=>by
  exact Df
theorem gy(p:Nat->Bool):∀ n,(∀ i j,i<=j->j<n->p i=true->p j=true)->∃ r,r<=n∧(∀ i,i<r->p i=false)∧∀ i,r<=i->i<n->p i=true
 | 0,_=>⟨0,Ze _,fun i h=>by omega,fun i _ h=>by omega⟩
 | n+1,hp=>by
  exact D8
def iG{α:Type}(p:α->Bool):List α->Int
 | []=> -1
 | x::xs=>if p x then 0 else let r:=iG p xs;if r<0 then -1 else r+1
theorem qu{α:Type}(p:α->Bool):∀(xs:List α) (i:Nat) (h:i<xs.length),(∀ j (hj:j<i),p (xs[j]'(by omega))=false)->p xs[i]=true->iG p xs=i
 | x::xs,0,h,h1,h2=>by simp at h2;simp[iG,h2]
 | x::xs,i+1,h,h1,h2=>by
  exact DZ
theorem ku{α:Type}(p:α->Bool):∀ xs:List α,(∀ j (hj:j<xs.length),p xs[j]=false)->iG p xs= -1
 | [],_=>rfl
 | x::xs,h=>by
  exact Bl
theorem kZ{α:Type}(p:α->Bool):∀ xs:List α,decide (0<=iG p xs)=xs.any p
 | []=>rfl
 | x::xs=>by
  exact By
theorem Mg{α:Type}{p:α->Bool}{xs:List α}{i:Nat}(h:i<xs.length)(hp:p xs[i]=true):xs.any p=true:=List.any_eq_true.2 ⟨xs[i],ZZ h,hp⟩
theorem any_none{α:Type}{p:α->Bool}{xs:List α}(h:∀ j (hj:j<xs.length),p xs[j]=false):xs.any p=false:=by
 exact CO
open Go.AF
theorem B3(k:IntKind){n:Nat}{el:List PV}:oH (List.replicate n (.leaf (.int k))) el->∃ xs:List Int,xs.length=n∧el=xs.map (PV.int k)∧∀ x∈xs,(k.min<=x∧x<=k.max):=by
 induction n generalizing el with
 | zero=>intro h;cases h;exact⟨[],rfl,rfl,fun x hx=>by cases hx⟩
 | succ n ih=>
  intro h
  cases h with
  | cons _ _ x xs h1 h2=>
   obtain⟨ys,e1,e2,e3⟩:=ih h2
   cases h1 with
   | int _ v hw=>exact⟨v::ys,by simp[e1],by rw[e2];rfl,fun x hx=>by
       rcases Zr.1 hx with rfl | hx
       ·simpa only[Lit.wf,Zk,Zj] using hw
       ·exact e3 x hx⟩
theorem L4{α:Type}{f:α->List PV}{p:List PV->Prop}(hp:∀ el,p el->∃ a,el=f a):∀ els:List (List PV),(∀(i:Nat) (el:List PV),els[i]? =some el->p el)->∃ l:List α,els.flatten=l.flatMap f∧l.length=els.length
 | [],_=>⟨[],rfl,rfl⟩
 | e::els,h=>by
  obtain⟨a,ha⟩:=hp e (h 0 e rfl)
  obtain⟨l,h1,h2⟩:=L4 hp els (fun i el hi=>h (i+1) el (by simpa using hi))
  exact⟨a::l,by simp[ha,h1],by simp[h2]⟩
theorem Ya{α:Type}{f:α->List PV}{sh:List Sh}(hp:∀ el,oH sh el->∃ a,el=f a){x:List PV}(h:oH [.sl sh] x):∃ l:List α,x=[.is (l.flatMap f) l.length]∧l.length<=9223372036854775807:=by
 cases h with
 | cons _ _ y ys h1 h2=>
  cases h2
  cases h1 with
  | sl _ els hl hel=>
   obtain⟨l,e1,e2⟩:=L4 hp els hel
   exact⟨l,by rw[e1,e2],by rw[e2];exact hl⟩
theorem Hu(k:IntKind){x:List PV}(h:oH [.leaf (.int k)] x):∃ n:Int,x=[.int k n]∧(k.min<=n∧n<=k.max):=by
 obtain⟨xs,e1,e2,e3⟩:=B3 k (n:=1) h
 match xs,e1 with
 | [a],_=>exact⟨a,e2,e3 a (by simp)⟩
theorem F6{x:List PV}(h:oH [.leaf (.int .i64)] x):∃ n:Int,x=[.int .i64 n]:=by
 obtain⟨n,e,_⟩:=Hu .i64 h
 exact⟨n,e⟩
theorem HG{n:Nat}{el:List PV}(h:oH (List.replicate n (.leaf (.int .i64))) el):∃ xs:List Int,xs.length=n∧el=xs.map (PV.int .i64):=by
 obtain⟨xs,e1,e2,_⟩:=B3 .i64 h
 exact⟨xs,e1,e2⟩
end Go.Proofs.YtibffijhebobmaaGreatDoor
end
