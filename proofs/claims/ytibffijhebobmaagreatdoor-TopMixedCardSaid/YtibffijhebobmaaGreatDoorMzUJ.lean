/-
 Chapter 15: what the books always are: enough cards, and complaints that some batch explains. No program in sight.
 Chapter 15: questions, as lines; what was drawn through each die. No program in sight.
 Chapter 15, the program: the books of a floor that lies among own blocks.
 Chapter 15, the program: a cell, a floor behind it, and a cell at the end.
 Chapter 15, the program: a question to a floor, and what stays; replies as texts.
 The helpers of the laws of chapter 15: which lines are looked at; a floor that has done some lines.
-/
import Derived.Test.YtibffijhebobmaaGreatDoorMzUP
import Derived.Test.YtibffijhebobmaaGreatDoorMzUB
import Derived.Test.YtibffijhebobmaaGreatDoorMzUI
import Derived.Test.YtibffijhebobmaaGreatDoorMzUG
import Derived.Test.YtibffijhebobmaaGreatDoorFaUF
import Derived.Test.YtibffijhebobmaaGreatDoorMzUH
import Derived.Test.YtibffijhebobmaaGreatDoorMzUF
set_option linter.unusedSimpArgs false
set_option linter.unusedVariables false
section
namespace Go.Proofs.YtibffijhebobmaaGreatDoor
open Go.AF
set_option maxRecDepth 100000
theorem Hy{p:Di.bO}{j:Nat}{u:Int}(hp:Di.fQ p=true)(hj:j<p.dies.length)(hu:0<=u∧u<=8000):(Di.dW p j u).2=0:=by
 unfold Di.dW
 rw[if_neg (by rw[hp];decide),if_neg]
 unfold Di.iR
 simp only[Bool.and_eq_false_iff,UL]
 omega
theorem JG(w:Bs)(a b:List Int):aH (aH w a) b=aH w (a++b):=by
 unfold aH
 rw[JP,ZH]
section
variable {N κ:Nat} {T T2:Tm} {H:List ai} {F:cT} {z:Bool}
end
section
variable {P:Program} {N κ:Nat} {T T2:Tm} {F:cT} {z:Bool} {xs:List PV} {e:TypeId}
theorem uK:∀(us cs:List V) (k:Nat),k+us.length=cs.length->setAt cs k us=cs.take k++us
 | [],cs,k,h=>by
  have h:k=cs.length:=h
  rw[h,ZS,ZU];cases cs <;> rfl
 | v::us,cs,k,h=>by
  rw[Zn] at h
  show setAt (cs.set k v) (k+1) us=_
  rw[uK us (cs.set k v) (k+1) (by rw[yd];omega),ZX (by rw[yd];omega),List.getElem_set_self,List.take_set,List.set_eq_of_length_le (by rw[x7];omega),ZH]
  rfl
theorem Sj{h:List ai}{cs us:List V}(hu:us.length=cs.length):gu (h++[.cells cs e]) h.length 0 us=some (h++[.cells us e]):=by
 have hx:(h++[ai.cells cs e])[h.length]? =some (.cells cs e):=by simp
 simp only[gu,hx]
 have hs:setAt cs 0 us=us:=uK us cs 0 (by omega)
 rw[yy,if_pos (by omega),hs,jm]
end
theorem XU{P:Program}{F:cT}{z:Bool}(hm:F.marks.length<=8):TE P (cZ 0 F z):=vw (by
 rw[jj hm]
 intro x h
 have hr:=qy (c:=0) (c2:=0) (F:=F) (z:=z) (σ:=below 47) hm fun k hk=>by unfold below;rw[if_pos (by simp[Nat.blt];omega)]
 obtain⟨i,hi,rfl⟩:=Pz h
 have:=congrArg (fun l=>l[i]?) hr
 simp only[Zt,Zb hi,Q4] at this
 exact ZB this)
theorem FI(w:Bs)(l:List Int)(x:Int):(aH w l++[32])++Lib.itoa x=aH w (l++[x]):=by
 rw[<- JG,ZH]
 unfold aH
 simp
theorem fJ{l:List Int}{k:Nat}(h:k<l.length):l.take (k+1)=l.take k++[Di.gt 0 l k]:=by
 rw[ZX h,Di.aL 0 k h]
theorem Pure.V8{P:Program}{f:FuncId}{a b r:PV}(h:Pure P f [a,.is [] 0,b] r):Pure P f [a,.nilSlice,b] r:=
 ax.Rg h fun w I ρ us hu=>by
  obtain⟨u1,s1,rfl,h1,u2,s2,rfl,h2,h3⟩:=hu
  exact⟨u1,_,rfl,h1,u2,_,rfl,Rel.Ng h2,h3⟩
set_option maxHeartbeats 4000000
end Go.Proofs.YtibffijhebobmaaGreatDoor
end
