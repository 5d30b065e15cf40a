/-
 Plain sums, by numbers and over lists. No program in sight.
 Searches, in plain Lean.
 From what a statement's arguments may hold to plain lists. No condition; generic over any program.
-/
import Derived.Test.YtchiinjiflgepaaGreatDoorFaRC
import Derived.Test.YtchiinjiflgepaaGreatDoorMzRZ
set_option linter.unusedSimpArgs false
set_option linter.unusedVariables false
section
namespace Go.Proofs.YtchiinjiflgepaaGreatDoor
def fc(f:Nat->Int):Nat->Int
 | 0=>0
 | n+1=>fc f n+f n
theorem zc{f:Nat->Int}{A B:Int}:∀ n,(∀ j,j<n->A<=f j∧f j<=B)->A*n<=fc f n∧fc f n<=B*n
 | 0,_=>by simp[fc]
 | n+1,h=>by
  exact RA
theorem mZ{f g:Nat->Int}:∀ n,(∀ j,j<n->f j=g j)->fc f n=fc g n
 | 0,_=>rfl
 | n+1,h=>by simp only[fc];rw[mZ n (fun j hj=>h j (by omega)),h n (by omega)]
theorem lI{f:Nat->Int}:∀ n,(∀ j,j<n->f j=0)->fc f n=0
 | 0,_=>rfl
 | n+1,h=>by simp only[fc];rw[lI n (fun j hj=>h j (by omega)),h n (by omega)];rfl
theorem sW{f g:Nat->Int}{k:Nat}:∀ n,k<n->(∀ j,j<n->j≠k->g j=f j)->fc g n=fc f n - f k+g k
 | 0,h,_=>by omega
 | n+1,h,hj=>by
  exact Ti
theorem l8{f g:Nat->Int}:∀ n,(∀ j,j<n->f j<=g j)->fc f n<=fc g n
 | 0,_=>Dy _
 | n+1,h=>by
  exact SN
theorem mJ(p:Nat->Bool):∀ n,(∀ i j,i<=j->j<n->p i=true->p j=true)->∃ r,r<=n∧(∀ i,i<r->p i=false)∧∀ i,r<=i->i<n->p i=true
 | 0,_=>⟨0,Zg _,fun i h=>by omega,fun i _ h=>by omega⟩
 | n+1,hp=>by
  exact SO
def jw{α:Type}(p:α->Bool):List α->Int
 | []=> -1
 | x::xs=>if p x then 0 else let r:=jw p xs;if r<0 then -1 else r+1
theorem rE{α:Type}(p:α->Bool):∀(xs:List α) (i:Nat) (h:i<xs.length),(∀ j (hj:j<i),p (xs[j]'(by omega))=false)->p xs[i]=true->jw p xs=i
 | x::xs,0,h,h1,h2=>by simp at h2;simp[jw,h2]
 | x::xs,i+1,h,h1,h2=>by
  exact UN
theorem lM{α:Type}(p:α->Bool):∀ xs:List α,(∀ j (hj:j<xs.length),p xs[j]=false)->jw p xs= -1
 | [],_=>rfl
 | x::xs,h=>by
  exact abk
theorem lK{α:Type}(p:α->Bool):∀ xs:List α,decide (0<=jw p xs)=xs.any p
 | []=>rfl
 | x::xs=>by
  exact abK
theorem vI{α:Type}{p:α->Bool}{xs:List α}{i:Nat}(h:i<xs.length)(hp:p xs[i]=true):xs.any p=true:=List.any_eq_true.2 ⟨xs[i],ZZ h,hp⟩
theorem any_none{α:Type}{p:α->Bool}{xs:List α}(h:∀ j (hj:j<xs.length),p xs[j]=false):xs.any p=false:=by
 exact TT
open Go.AF
theorem IS(k:IntKind){n:Nat}{el:List PV}:qx (List.replicate n (.leaf (.int k))) el->∃ xs:List Int,xs.length=n∧el=xs.map (PV.int k)∧∀ x∈xs,(k.min<=x∧x<=k.max):=by
 induction n generalizing el with
 | zero=>intro h;cases h;exact⟨[],rfl,rfl,fun x hx=>by cases hx⟩
 | succ n ih=>
  intro h
  cases h with
  | cons _ _ x xs h1 h2=>
   obtain⟨ys,e1,e2,e3⟩:=ih h2
   cases h1 with
   | int _ v hw=>exact⟨v::ys,by simp[e1],by rw[e2];rfl,fun x hx=>by
       rcases Zv.1 hx with rfl | hx
       ·simpa only[Lit.wf,Zo,Zl] using hw
       ·exact e3 x hx⟩
theorem ND{α:Type}{f:α->List PV}{p:List PV->Prop}(hp:∀ el,p el->∃ a,el=f a):∀ els:List (List PV),(∀(i:Nat) (el:List PV),els[i]? =some el->p el)->∃ l:List α,els.flatten=l.flatMap f∧l.length=els.length
 | [],_=>⟨[],rfl,rfl⟩
 | e::els,h=>by
  obtain⟨a,ha⟩:=hp e (h 0 e rfl)
  obtain⟨l,h1,h2⟩:=ND hp els (fun i el hi=>h (i+1) el (by simpa using hi))
  exact⟨a::l,by simp[ha,h1],by simp[h2]⟩
theorem Tl{α:Type}{f:α->List PV}{sh:List Sh}(hp:∀ el,qx sh el->∃ a,el=f a){x:List PV}(h:qx [.sl sh] x):∃ l:List α,x=[.is (l.flatMap f) l.length]∧l.length<=9223372036854775807:=by
 cases h with
 | cons _ _ y ys h1 h2=>
  cases h2
  cases h1 with
  | sl _ els hl hel=>
   obtain⟨l,e1,e2⟩:=ND hp els hel
   exact⟨l,by rw[e1,e2],by rw[e2];exact hl⟩
theorem Pv{n:Nat}{el:List PV}(h:qx (List.replicate n (.leaf (.int .i64))) el):∃ xs:List Int,xs.length=n∧el=xs.map (PV.int .i64):=by
 obtain⟨xs,e1,e2,_⟩:=IS .i64 h
 exact⟨xs,e1,e2⟩
end Go.Proofs.YtchiinjiflgepaaGreatDoor
end
