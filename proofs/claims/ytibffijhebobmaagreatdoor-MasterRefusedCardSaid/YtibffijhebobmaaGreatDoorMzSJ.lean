/-
 Chapter 15: what the books always are: enough cards, and complaints that some batch explains. No program in sight.
 Chapter 15, the program: the books of a floor that lies among own blocks.
 The helpers of the laws of chapter 15: which lines are looked at; a floor that has done some lines.
 Chapter 15, the program: a cell, a floor behind it, and a cell at the end.
 Chapter 15: questions, as lines; what was drawn through each die. No program in sight.
 Chapter 15, the program: a question to a floor, and what stays; replies as texts.
-/
import Derived.Test.YtibffijhebobmaaGreatDoorMzSP
import Derived.Test.YtibffijhebobmaaGreatDoorMzSI
import Derived.Test.YtibffijhebobmaaGreatDoorMzSG
import Derived.Test.YtibffijhebobmaaGreatDoorFaSF
import Derived.Test.YtibffijhebobmaaGreatDoorMzSF
import Derived.Test.YtibffijhebobmaaGreatDoorMzSH
import Derived.Test.YtibffijhebobmaaGreatDoorMzSB
import Derived.Test.YtibffijhebobmaaGreatDoorMzSZ
set_option linter.unusedSimpArgs false
set_option linter.unusedVariables false
section
namespace Go.Proofs.YtibffijhebobmaaGreatDoor
open Go.AF
set_option maxRecDepth 100000
section
variable {N κ:Nat} {T T2:Tm} {H:List ai} {F:bT} {z:Bool}
theorem rC{f:V->Option PV}:∀{a b:List V} {x y:List PV},cS f a=some x->cS f b=some y->cS f (a++b)=some (x++y)
 | [],b,x,y,h1,h2=>by cases h1;exact h2
 | v::a,b,x,y,h1,h2=>by
  unfold cS at h1
  split at h1
  ·rename_i x1 xs e1 e2
   cases h1
   show cS f (v::(a++b))=_
   unfold cS
   rw[e1,rC e2 h2]
   rfl
  ·cases h1
theorem M7{k:Nat}{q:P5}{b:bI}(h:jT H q b):cS (bS H (k+1)) (tC q b)=some (IA b):=by
 obtain⟨h1,h2,h3,h4,h5⟩:=h
 simp only[tC,di,cS,Rz h1,Pd h2,P4 h3,ID h4,ID h5,KB]
 rfl
theorem Vc{k:Nat}{qs:List P5}{bs:List bI}(h:qE H qs bs):cS (bS H (k+1)) (pQ qs bs)=some (bs.flatMap IA):=by
 induction h with
 | nil=>rfl
 | cons h _ ih=>rw[ZI];exact rC (M7 h) ih
theorem XI{c im:Nat}{q:P5}{qs:List P5}(h:e8 c F z H q im qs):∃ t,bS H 4 (.ptr c 0)=some (.ip (IA F.b++t) 0):=by
 have e:∃ y,bS H 3 (sI im F z)=some y:=by
  cases z with
  | true=>exact⟨_,rfl⟩
  | false=>
   have hm:bM H[im]? =some (pQ qs F.marks):=by rw[h.mb];rfl
   have hk:cS (bS H 2) (pQ qs F.marks)=_:=Vc (k:=1) h.ats
   refine⟨.is (F.marks.flatMap IA) F.marks.length,?_⟩
   show bS H 3 (.row im F.marks.length)=_
   unfold bS
   rw[hm]
   show(cS (bS H 2) (pQ qs F.marks)).map (PV.is · F.marks.length)=_
   rw[hk]
   rfl
 obtain⟨y,hy⟩:=e
 refine⟨F.aT.cells++[y,.bool true],?_⟩
 have hf:bM H[c]? =some (tC q F.b++(F.aT.cells.map .p++[sI im F z,.p (.bool true)])):=by
  rw[h.fl]
  show some _=some _
  rfl
 have hk:cS (bS H 3) (tC q F.b++(F.aT.cells.map .p++[sI im F z,.p (.bool true)]))=some (IA F.b++(F.aT.cells++[y,.bool true])):=
  rC (M7 h.a5) (rC (vD H 3 F.aT.cells) (by simp only[cS,hy,KB]))
 unfold bS
 rw[hf]
 show(cS (bS H 3) _).map (PV.ip · 0)=_
 rw[hk]
 rfl
theorem jN{o:Oper}{c im:Nat}{q:P5}{qs:List P5}(hF:kO F)(h:e8 c F z H q im qs){f:Operand}{ys:Array Operand}{ts:Array TypeId}{fv:V}{vs:List V}(ho:o.op= .call {callee:= .value f,args:=ys,argTypes:=ts})(hf:ev T f=some fv)
    (hxs:jU T ys.toList=some vs)(hc:callee vs fv=some (10,[.ptr c 0]))(hg:ak Tryz.prog 10=true):aa Tryz.prog N o T H (.p (.agg (cH F.b))) H:=by
 obtain⟨t,ht⟩:=XI h
 have hb:=hF.b
 obtain⟨u,hu⟩:=hb.ER
 have k1:=hb.sk
 have k2:=Rx.cG hb.cd
 have k3:=hb.dr
 have k4:=fy hu
 have k5:=hb.ck
 refine aa.LZ 4 2 (KQ F.b t (by omega) (by omega) (by omega) (by omega) (by omega)) (by simp only[Lq,HI,iZ,uw];rfl) (by
  simp only[Vp,List.all_nil,c7,cY,c8,bu,jY (eT (f:=Ck.Sk.cells) (fun _=>rfl) _),jY (eT (f:=Rx.bY.cells) (fun _=>rfl) _),jY (eT (f:=Di.cO.cells) (fun _=>rfl) _),jY (eT (f:=Di.bZ) (fun _=>rfl) _)]
  simp only[Wz,HI,iZ,uw]
  rfl) ?_ ho hf hxs hc (by simp only[cS,ht]) hg
 generalize hH:([.cells (HI 4 3 5 6 F.b) 37,.dead,.dead,cY F.b.ag,c7 F.b.aq,c8 F.b.au,bu F.b.plan,bu F.b.b9]:List ai)=B
 have e1:B[4]? =some (c7 F.b.aq):=by rw[<- hH];rfl
 have e2:B[3]? =some (cY F.b.ag):=by rw[<- hH];rfl
 have e3:B[5]? =some (c8 F.b.au):=by rw[<- hH];rfl
 have e4:B[6]? =some (bu F.b.plan):=by rw[<- hH];rfl
 show(cS (bS B 1) (HI 4 3 5 6 F.b)).map PV.agg=_
 simp only[HI,cS,Rz e1,Pd e2,P4 e3,ID e4,KB]
 rfl
end
set_option maxHeartbeats 4000000
def e9(p:Di.bJ)(ws:List Bs):Bool:=ws.any (fun w=>decide (200<w.length))||(decide (40<ws.length)||decide (10<p.dies.length))
theorem oq{p:Di.bJ}{ws:List Bs}(h:e9 p ws=false):(∀ w∈ws,w.length<=200)∧ws.length<=40∧p.dies.length<=10:=by
 unfold e9 at h
 simp only[PF,Ru,Zn,ZY] at h
 refine⟨fun w hw=> ?_,?_,?_⟩
 ·have:=h.1 w hw;omega
 ·have:=h.2.1;omega
 ·have:=h.2.2;omega
theorem Q6{p:Di.bJ}{ws:List Bs}{k:Nat}(hk:k<ws.length)(h:200<(Di.gt [] ws k).length):e9 p ws=true:=by
 unfold e9
 rw[Fc]
 exact .inl (List.any_eq_true.2 ⟨_,Di.bN [] hk,decide_eq_true h⟩)
theorem Nr{p:Di.bJ}{ws:List Bs}(h:∀ w∈ws,w.length<=200):e9 p ws=(decide ((40:Int)<(ws.length:Int))||decide ((10:Int)<(p.dies.length:Int))):=by
 unfold e9
 have e:ws.any (fun w=>decide (200<w.length))=false:=by
  rw[Ru]
  intro w hw
  have:=h w hw
  simp only[Zn];omega
 rw[e,Bool.false_or]
 congr 1
 ·exact decide_eq_decide.2 (by omega)
 ·exact decide_eq_decide.2 (by omega)
theorem WL{ws:List Bs}{w:Bs}(h:w∈ws):∃ k,k<ws.length∧w=Di.gt [] ws k:=by
 obtain⟨k,hk,rfl⟩:=Pu h
 exact⟨k,hk,Di.aE [] k hk⟩
theorem fK(p:Di.bJ)(ws:List Bs)(hw:ws.length<=9223372036854775807)(hp:p.dies.length<=9223372036854775807):Pure Tryz.prog 7 [Di.cI p,cz ws] (.bool (e9 p ws)):=by
 refine Kf (N:=26) Tryz.func7 ?_
 iterate 13 refine af ?_
 refine aF.eU [1,2,7,8,17,18,19,20,21,22,23,24,25] (fun g=>[(9,.p (.int .i64 ((g:Nat):Int)))]) (fun g=>[]) (fun g=>g<=ws.length∧∀ j,j<g->(Di.gt [] ws j).length<=200) (fun g=>ws.length - g) 0 ⟨Zp _,fun j hj=>absurd hj (Nat.not_lt_zero j)⟩ (To.sub (Sub.zY (Sub.cons rfl (Sub.nil)))) (fun k hg=> ?_)
 obtain⟨tJ,hall⟩:=hg
 iterate 5 refine af ?_
 refine Ki (fun hc0=> ?_) fun hc0=> ?_
 ·have hk0:k<ws.length:=by have h:=Zg hc0;omega
  iterate 5 refine af ?_
  refine Kc (aa.aP (g:=Di.gt [] ws) (k:=k) (Di.aE _) rfl rfl rfl an qh rfl (fun _=>rfl) (by decide) hk0) ?_
  refine Kc (Kl (.p (.str (sB (Di.gt [] ws k))))) ?_
  iterate 5 refine af ?_
  refine Kc (aa.gw rfl rfl EV) ?_
  iterate 2 refine af ?_
  refine Ki (fun cK=> ?_) fun cK=> ?_
  ·have hlo:200<(Di.gt [] ws k).length:=by have h:=Zg cK;rw[cU] at h;omega
   iterate 5 refine af ?_
   refine Fin.gL rfl rfl ?_
   rw[Q6 hk0 hlo]
  ·have hle:(Di.gt [] ws k).length<=200:=by have h:=Zk cK;rw[cU] at h;omega
   iterate 2 refine af ?_
   refine Kc (aa.add (m:=((k+1:Nat):Int)) rfl rfl rfl ((aI ?_).trans ?_)) ?_
   ·omega
   ·omega
   iterate 2 refine af ?_
   refine⟨k+1,?_,?_,?_⟩
   ·exact⟨hk0,fun j hj=>by rcases O2.1 hj with h | rfl;exact hall j h;exact hle⟩
   ·omega
   exact To.done [] rfl KS rfl
 ·have Vn:k=ws.length:=by have h:=Zk hc0;omega
  subst Vn
  refine aF.exit ?_
  iterate 6 refine af ?_
  refine Kg 21 20 2 rfl (fun h=>(aa.fieldAddr rfl rfl an rfl)) ?_
  refine Kh 22 20 21 rfl rfl rfl rfl (fun h=>(Kl (.p (Di.C8 p.dies)))) ?_
  refine Kh 23 20 22 rfl rfl rfl rfl (fun h=>(aa.bD rfl rfl an rfl)) ?_
  refine Kh 24 20 23 rfl rfl rfl rfl (fun h=>(aa.gtr rfl rfl rfl)) ?_
  refine Kc (aa.kA rfl rfl rfl ?_) ?_
  ·exact ax
  iterate 3 refine af ?_
  refine Fin.gL rfl rfl ?_
  rw[Nr (fun w h=>by obtain⟨k,hk,rfl⟩:=WL h;exact hall k hk)]
theorem LI(p:Di.bJ)(ws:List Bs)(hp:p.dies.length<=100)(h3:Di.eF p=false):Pure Tryz.prog 9 [Di.cI p,cz ws] .nilPtr:=by
 refine Kf (N:=27) Tryz.func9 ?_
 iterate 7 refine af ?_
 refine Kc (Kl (.p (Di.cI p))) ?_
 refine Kc (Kp (MS p hp h3)) ?_
 iterate 12 refine af ?_
 refine aF.yx rfl ?_
 iterate 5 refine af ?_
 exact kU
theorem uR(p:Di.bJ)(ws:List Bs)(nA:ws.length<=9223372036854775807)(hp:p.dies.length<=100)(h3:Di.eF p=true):az Tryz.prog 9 ([Di.cI p,cz ws].map .p) [] fun v H2=>v= .ptr 0 0∧∃ z,(z=true->(gh (newF p) ws ws.length).marks=[])∧H2=bH 0 (gh (newF p) ws ws.length) z:=by
 have hW:=vE h3
 refine az.start (N:=27) Tryz.func9 rfl rfl Kn ?_
 iterate 7 refine af ?_
 refine Kc (Kl (.p (Di.cI p))) ?_
 refine aj.tN 11 (Hv p hp h3) rfl rfl rfl rfl rfl rfl rfl an (fun v H2 iz=> ?_)
 obtain⟨rfl,rfl⟩:=iz
 iterate 12 refine af ?_
 refine aF.nJ rfl ?_
 iterate 9 refine af ?_
 refine aF.eU [4,5,16,17,26] (fun g=>[(18,.p (.int .i64 ((g.1:Nat):Int)))]) (fun g=>(bH 0 (gh (newF p) ws g.1) g.2)) (fun g=>g.1<=ws.length∧(g.2=true->(gh (newF p) ws g.1).marks=[])) (fun g=>ws.length - g.1) (0,true) ⟨Zp _,fun _=>rfl⟩ (To.sub KS) (fun g hg=> ?_)
 obtain⟨k,z⟩:=g
 obtain⟨tJ,hz⟩:=hg
 dsimp only at tJ hz ⊢
 iterate 5 refine af ?_
 refine Ki (fun cK=> ?_) fun cK=> ?_
 ·have hk0:k<ws.length:=by have h:=Zg cK;omega
  iterate 5 refine af ?_
  refine Kc (aa.aP (g:=Di.gt [] ws) (k:=k) (Di.aE _) rfl rfl rfl an qh rfl (fun _=>rfl) (by decide) hk0) ?_
  refine Kc (Kl (.p (.str (sB (Di.gt [] ws k))))) ?_
  iterate 5 refine af ?_
  refine HF 24 [] (gh (newF p) ws k) z (Di.gt [] ws k) (fU (L:=ws) hW k) hz (fun i x h=>by simp at h) (Zp _) rfl rfl rfl rfl rfl rfl an (T2:=[(4,.p .nilPtr),(5,.ptr 0 0),(16,.p (cz ws)),(17,.p (.int .i64 (ws.length:Int))),(18,.p (.int .i64 (k:Int)))]) KS rfl (fun z2 xP=> ?_)
  show aj _ _ _ _ _ _ _ _ (bH 0 (gh (newF p) ws (k+1)) z2)
  iterate 2 refine af ?_
  refine Kc (aa.add (m:=((k+1:Nat):Int)) rfl rfl rfl ((aI ?_).trans ?_)) ?_
  ·omega
  ·omega
  iterate 2 refine af ?_
  refine⟨(k+1,z2),?_,?_,?_⟩
  ·exact⟨hk0,xP⟩
  ·show ws.length - (k+1)<ws.length - k
   omega
  exact To.sub KS
 ·have Vn:k=ws.length:=by have h:=Zk cK;omega
  subst Vn
  refine aF.exit ?_
  iterate 6 refine af ?_
  exact jV.one rfl rfl ⟨rfl,z,hz,rfl⟩
section
variable {P:Program} {N κ:Nat} {T T2:Tm} {F:bT} {z:Bool} {xs:List PV} {e:TypeId}
theorem xl:∀(us cs:List V) (k:Nat),k+us.length=cs.length->setAt cs k us=cs.take k++us
 | [],cs,k,h=>by
  have h:k=cs.length:=h
  rw[h,ZV,ZX];cases cs <;> rfl
 | v::us,cs,k,h=>by
  rw[Zo] at h
  show setAt (cs.set k v) (k+1) us=_
  rw[xl us (cs.set k v) (k+1) (by rw[yX];omega),ZT (by rw[yX];omega),List.getElem_set_self,List.take_set,List.set_eq_of_length_le (by rw[EA];omega),ZQ]
  rfl
theorem pJ{h:List ai}{cs us:List V}(hu:us.length=cs.length):fI (h++[.cells cs e]) h.length 0 us=some (h++[.cells us e]):=by
 have hx:(h++[ai.cells cs e])[h.length]? =some (.cells cs e):=by simp
 simp only[fI,hx]
 have hs:setAt cs 0 us=us:=xl us cs 0 (by omega)
 rw[zq,if_pos (by omega),hs,iV]
end
theorem Hh{p:Di.bJ}{j:Nat}{u:Int}(hp:Di.eF p=true)(hj:j<p.dies.length)(hu:0<=u∧u<=8000):(Di.dY p j u).2=0:=by
 unfold Di.dY
 rw[if_neg (by rw[hp];decide),if_neg]
 unfold Di.jg
 simp only[Yd,ZY]
 omega
theorem u5{P:Program}{F:bT}{z:Bool}(hm:F.marks.length<=8):Wt P (bH 0 F z):=vk (by
 rw[fj hm]
 intro x h
 have hr:=qF (c:=0) (c2:=0) (F:=F) (z:=z) (σ:=below 47) hm fun k hk=>by unfold below;rw[if_pos (by simp[Nat.blt];omega)]
 obtain⟨i,hi,rfl⟩:=Pu h
 have:=congrArg (fun l=>l[i]?) hr
 simp only[Zs,Zb hi,Pm] at this
 exact Zy this)
theorem gP{l:List Int}{k:Nat}(h:k<l.length):l.take (k+1)=l.take k++[Di.gt 0 l k]:=by
 rw[ZT h,Di.aE 0 k h]
theorem Pure.Yb{P:Program}{f:FuncId}{a b r:PV}(h:Pure P f [a,.is [] 0,b] r):Pure P f [a,.nilSlice,b] r:=
 az.SX h fun w I ρ us hu=>by
  obtain⟨u1,s1,rfl,h1,u2,s2,rfl,h2,h3⟩:=hu
  exact⟨u1,_,rfl,h1,u2,_,rfl,Rel.LM h2,h3⟩
end Go.Proofs.YtibffijhebobmaaGreatDoor
end
