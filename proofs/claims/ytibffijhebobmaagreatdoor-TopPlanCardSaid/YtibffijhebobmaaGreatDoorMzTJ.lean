/-
 Chapter 15: what the books always are: enough cards, and complaints that some batch explains. No program in sight.
 Chapter 15: questions, as lines; what was drawn through each die. No program in sight.
 Chapter 15, the program: the books of a floor that lies among own blocks.
 Chapter 15, the program: a cell, a floor behind it, and a cell at the end.
 Chapter 15, the program: a question to a floor, and what stays; replies as texts.
 The helpers of the laws of chapter 15: which lines are looked at; a floor that has done some lines.
-/
import Derived.Test.YtibffijhebobmaaGreatDoorMzTP
import Derived.Test.YtibffijhebobmaaGreatDoorMzTB
import Derived.Test.YtibffijhebobmaaGreatDoorMzTI
import Derived.Test.YtibffijhebobmaaGreatDoorMzTG
import Derived.Test.YtibffijhebobmaaGreatDoorFaTF
import Derived.Test.YtibffijhebobmaaGreatDoorMzTH
import Derived.Test.YtibffijhebobmaaGreatDoorMzTF
set_option linter.unusedSimpArgs false
set_option linter.unusedVariables false
section
namespace Go.Proofs.YtibffijhebobmaaGreatDoor
open Go.AF
set_option maxRecDepth 100000
def SM:Bs:=[119,101,97,114,32]
theorem Ni:∀ i,i<8->(SM++Lib.itoa (i:Nat)).length<=120∧cF (SM++Lib.itoa ((i:Nat):Int))=some (.wear,[((i:Nat):Int)]):=by decide+kernel
theorem Ma{F:cW}{s:Bs}{v:Vb}{n:List Int}(h:s.length<=120∧cF s=some (v,n)):aI F s=bH F v n:=by
 unfold aI
 rw[if_neg (by omega),h.2]
theorem uG{p:Di.bn}{j:Nat}{u:Int}(hp:Di.cL p=true)(hj:j<p.dies.length)(hu:0<=u∧u<=8000):(Di.bW p j u).2=0:=by
 unfold Di.bW
 rw[if_neg (by rw[hp];decide),if_neg]
 unfold Di.iq
 simp only[Bool.and_eq_false_iff,Wk]
 omega
theorem GU{F:cW}(hF:mJ F){v:List Int}{m:Int}(h:Di.eC F.aV F.b.aq F.b.plan=(some v,m,0)){i:Nat}(hi:i<F.aV.dies.length):(Di.bW F.aV i (Di.gt 0 v i)).2=0∧(0<=Di.gt 0 v i∧Di.gt 0 v i<=8000)∧bH F .wear [((i:Nat):Int)]=(F,aY Vb.wear.t [Di.gt 0 v i,(Di.bW F.aV i (Di.gt 0 v i)).1.1,(Di.bW F.aV i (Di.gt 0 v i)).1.2],0):=by
 obtain⟨k1,k2'⟩:=vu h
 have k2:∀ j,j<F.aV.dies.length->Di.gt 0 v j=eB F.b j:=fun j hj=>k2' j (by omega)
 have hb:=hF.b
 have hp:=iP h
 have hu:=zI (b:=F.b) (d:=((i:Nat):Int)) (fun w hw=>by
  have:=(qN h).2
  unfold Di.cG at this
  simp only[Zn,F5,OM] at this
  simpa using this.2 w hw) hp F.b.plan.length (Zf _)
 have h8:=hb.dr
 have Gb:0<=Di.gt 0 v i∧Di.gt 0 v i<=8000:=by
  rw[k2 i hi]
  unfold eB
  omega
 refine⟨uG hF.p hi Gb,Gb,?_⟩
 have e:nn [((i:Nat):Int)] 0=((i:Nat):Int):=rfl
 unfold bH
 dsimp only
 rw[e,if_neg (by omega),k2 i hi]
theorem Ju(w:Bs)(a b:List Int):aY (aY w a) b=aY w (a++b):=by
 unfold aY
 rw[IC,ZK]
section
variable {N κ:Nat} {T T2:Tm} {H:List ah} {F:cW} {z:Bool}
theorem qP{f:V->Option PV}:∀{a b:List V} {x y:List PV},cT f a=some x->cT f b=some y->cT f (a++b)=some (x++y)
 | [],b,x,y,h1,h2=>by cases h1;exact h2
 | v::a,b,x,y,h1,h2=>by
  unfold cT at h1
  split at h1
  ·rename_i x1 xs e1 e2
   cases h1
   show cT f (v::(a++b))=_
   unfold cT
   rw[e1,qP e2 h2]
   rfl
  ·cases h1
theorem Mm{k:Nat}{q:P5}{b:bN}(h:jS H q b):cT (bU H (k+1)) (tM q b)=some (JS b):=by
 obtain⟨h1,h2,h3,h4,h5⟩:=h
 simp only[tM,dF,cT,Qs h1,Px h2,PG h3,JM h4,JM h5,NC]
 rfl
theorem Tu{k:Nat}{qs:List P5}{bs:List bN}(h:qv H qs bs):cT (bU H (k+1)) (pJ qs bs)=some (bs.flatMap JS):=by
 induction h with
 | nil=>rfl
 | cons h _ ih=>rw[ZH];exact qP (Mm h) ih
theorem Z4{c im:Nat}{q:P5}{qs:List P5}(h:fV c F z H q im qs):∃ t,bU H 4 (.ptr c 0)=some (.ip (JS F.b++t) 0):=by
 have e:∃ y,bU H 3 (tn im F z)=some y:=by
  cases z with
  | true=>exact⟨_,rfl⟩
  | false=>
   have hm:bJ H[im]? =some (pJ qs F.marks):=by rw[h.mb];rfl
   have hk:cT (bU H 2) (pJ qs F.marks)=_:=Tu (k:=1) h.ats
   refine⟨.is (F.marks.flatMap JS) F.marks.length,?_⟩
   show bU H 3 (.row im F.marks.length)=_
   unfold bU
   rw[hm]
   show(cT (bU H 2) (pJ qs F.marks)).map (PV.is · F.marks.length)=_
   rw[hk]
   rfl
 obtain⟨y,hy⟩:=e
 refine⟨F.aV.cells++[y,.bool true],?_⟩
 have hf:bJ H[c]? =some (tM q F.b++(F.aV.cells.map .p++[tn im F z,.p (.bool true)])):=by
  rw[h.fl]
  show some _=some _
  rfl
 have hk:cT (bU H 3) (tM q F.b++(F.aV.cells.map .p++[tn im F z,.p (.bool true)]))=some (JS F.b++(F.aV.cells++[y,.bool true])):=
  qP (Mm h.a5) (qP (wM H 3 F.aV.cells) (by simp only[cT,hy,NC]))
 unfold bU
 rw[hf]
 show(cT (bU H 3) _).map (PV.ip · 0)=_
 rw[hk]
 rfl
theorem U5{o:Oper}{c im:Nat}{q:P5}{qs:List P5}(hF:mJ F)(h:fV c F z H q im qs){f:Operand}{ys:Array Operand}{ts:Array TypeId}{fv:V}{vs:List V}(ho:o.op= .call {callee:= .value f,args:=ys,argTypes:=ts})(hf:ev T f=some fv)
    (hxs:jT T ys.toList=some vs)(hc:callee vs fv=some (10,[.ptr c 0]))(hg:ak Tryz.prog 10=true):aa Tryz.prog N o T H (.p (.agg (T6 F.b))) H:=by
 obtain⟨t,ht⟩:=Z4 h
 have hb:=hF.b
 obtain⟨u,hu⟩:=hb.Kv
 have k1:=hb.sk
 have k2:=Rx.dc hb.cd
 have k3:=hb.dr
 have k4:=iP hu
 have k5:=hb.ck
 refine aa.Lu 4 2 (L1 F.b t (by omega) (by omega) (by omega) (by omega) (by omega)) (by simp only[Np,HV,iX,uK];rfl) (by
  simp only[Qm,List.all_nil,dn,cV,de,bz,j5 (eK (f:=Ck.Sk.cells) (fun _=>rfl) _),j5 (eK (f:=Rx.cx.cells) (fun _=>rfl) _),j5 (eK (f:=Di.aH.cells) (fun _=>rfl) _),j5 (eK (f:=Di.bY) (fun _=>rfl) _)]
  simp only[Wc,HV,iX,uK]
  rfl) ?_ ho hf hxs hc (by simp only[cT,ht]) hg
 generalize hH:([.cells (HV 4 3 5 6 F.b) 37,.dead,.dead,cV F.b.ai,dn F.b.au,de F.b.aq,bz F.b.plan,bz F.b.bZ]:List ah)=B
 have e1:B[4]? =some (dn F.b.au):=by rw[<- hH];rfl
 have e2:B[3]? =some (cV F.b.ai):=by rw[<- hH];rfl
 have e3:B[5]? =some (de F.b.aq):=by rw[<- hH];rfl
 have e4:B[6]? =some (bz F.b.plan):=by rw[<- hH];rfl
 show(cT (bU B 1) (HV 4 3 5 6 F.b)).map PV.agg=_
 simp only[HV,cT,Qs e1,Px e2,PG e3,JM e4,NC]
 rfl
end
section
variable {P:Program} {N κ:Nat} {T T2:Tm} {F:cW} {z:Bool} {xs:List PV} {e:TypeId}
theorem wJ:∀(us cs:List V) (k:Nat),k+us.length=cs.length->setAt cs k us=cs.take k++us
 | [],cs,k,h=>by
  have h:k=cs.length:=h
  rw[h,ZP,ZT];cases cs <;> rfl
 | v::us,cs,k,h=>by
  rw[Zm] at h
  show setAt (cs.set k v) (k+1) us=_
  rw[wJ us (cs.set k v) (k+1) (by rw[ZZ];omega),ZN (by rw[ZZ];omega),List.getElem_set_self,List.take_set,List.set_eq_of_length_le (by rw[ZU];omega),ZK]
  rfl
theorem N9{h:List ah}{cs us:List V}(hu:us.length=cs.length):fK (h++[.cells cs e]) h.length 0 us=some (h++[.cells us e]):=by
 have hx:(h++[ah.cells cs e])[h.length]? =some (.cells cs e):=by simp
 simp only[fK,hx]
 have hs:setAt cs 0 us=us:=wJ us cs 0 (by omega)
 rw[uf,if_pos (by omega),hs,jx]
end
theorem WZ{R:Option Nat}{N:Nat}{Q:Post}{T T2:Tm}{o:Oper}{ops:Array Oper}{rest:List Oper}{f:Operand}{xs:Array Operand}{ts:Array TypeId}(d:Nat)(F:cW)(z:Bool)(s:Bs){r:Bs}{e:Int}(hF:mJ F)(hz:z=true->F.marks=[])(hl0:aI F s=(F,r,e))
    (ho:o.op= .call {callee:= .value f,args:=xs,argTypes:=ts})(hd:o.dst=some d)(hN:bg N (some d)=true)(hg:o.guard=none)(hf:ev T f=some (.p (.func (.func 13) [] [])))(hxs:jT T xs.toList=some [.ptr 0 0,.p (.str (sB s))])(Vw:ak Tryz.prog 13=true)(hT:Sub T2 T)(hl:eV (below 1) T2=T2)
    (next:∀ z',(z'=true->F.marks=[])->aj Tryz.prog R N 0 ops rest Q ((d,.p (.tuple [.str (sB r),.int .i64 e]))::T2) (cD 0 F z')):aj Tryz.prog R N 0 ops (o::rest) Q T (cD 0 F z):=by
 have e1:(aI F s).1=F:=by rw[hl0]
 have e2:sK F s= .p (.tuple [.str (sB r),.int .i64 e]):=by unfold sK;rw[hl0]
 refine SN d [] F z s hF hz (fun i x h=>by simp at h) (Zs _) ho hd hN hg hf hxs Vw hT hl (fun z' YN=> ?_)
 rw[e1] at YN
 show aj _ _ _ _ _ _ _ _ (cD 0 (aI F s).1 z')
 rw[e1,e2]
 exact next z' YN
theorem S0{P:Program}{F:cW}{z:Bool}(hm:F.marks.length<=8):VK P (cD 0 F z):=pL (by
 rw[iJ hm]
 intro x h
 have hr:=rI (c:=0) (c2:=0) (F:=F) (z:=z) (σ:=below 47) hm fun k hk=>by unfold below;rw[if_pos (by simp[Nat.blt];omega)]
 obtain⟨i,hi,rfl⟩:=Pv h
 have:=congrArg (fun l=>l[i]?) hr
 simp only[Zu,Zc hi,Ri] at this
 exact ZD this)
theorem GH(w:Bs)(l:List Int)(x:Int):(aY w l++[32])++Lib.itoa x=aY w (l++[x]):=by
 rw[<- Ju,ZK]
 unfold aY
 simp
theorem fR{l:List Int}{k:Nat}(h:k<l.length):l.take (k+1)=l.take k++[Di.gt 0 l k]:=by
 rw[ZN h,Di.aC 0 k h]
theorem Pure.Wz{P:Program}{f:FuncId}{a b r:PV}(h:Pure P f [a,.is [] 0,b] r):Pure P f [a,.nilSlice,b] r:=
 ax.SV h fun w I ρ us hu=>by
  obtain⟨u1,s1,rfl,h1,u2,s2,rfl,h2,h3⟩:=hu
  exact⟨u1,_,rfl,h1,u2,_,rfl,Rel.BF h2,h3⟩
theorem Ti{F:cW}(hF:mJ F){v:List Int}{m:Int}(h:Di.eC F.aV F.b.aq F.b.plan=(some v,m,0)){i:Nat}(hi:i<F.aV.dies.length)(h8:F.aV.dies.length<=8):aI F ([119,101,97,114,32]++Lib.itoa ((i:Nat):Int))=(F,aY [119,101,97,114] [Di.gt 0 v i,(Di.bW F.aV i (Di.gt 0 v i)).1.1,(Di.bW F.aV i (Di.gt 0 v i)).1.2],0):=
 (Ma (Ni i (by omega))).trans (GU hF h hi).2.2
set_option maxHeartbeats 4000000
end Go.Proofs.YtibffijhebobmaaGreatDoor
end
