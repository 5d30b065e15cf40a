/-
 Chapter 15: what the books always are: enough cards, and complaints that some batch explains. No program in sight.
 Chapter 15, the program: the books of a floor that lies among own blocks.
 The helpers of the laws of chapter 15: which lines are looked at; a floor that has done some lines.
 The law MasterRight.
 Chapter 15: the script of lines, played. No program in sight but one library call.
 The law MasterAgain: the script of lines; which lines hold an end of line.
 Chapter 15, the program: a floor that is made while there are other own blocks.
 The law MasterAgain.
 Chapter 15: questions, as lines; what was drawn through each die. No program in sight.
 Chapter 15, the program: a cell, a floor behind it, and a cell at the end.
 Chapter 15, the program: a question to a floor, and what stays; replies as texts.
 The law TopFloor: its example; replies as texts.
 The law TopFloor.
-/
import Derived.Test.YtchiinjiflgepaaGreatDoorMzQP
import Derived.Test.YtchiinjiflgepaaGreatDoorMzQI
import Derived.Test.YtchiinjiflgepaaGreatDoorMzQG
import Derived.Test.YtchiinjiflgepaaGreatDoorFaQF
import Derived.Test.YtchiinjiflgepaaGreatDoorMzQF
import Derived.Test.YtchiinjiflgepaaGreatDoorMzQH
import Derived.Test.YtchiinjiflgepaaGreatDoorMzQN
import Derived.Test.YtchiinjiflgepaaGreatDoorMzQB
import Derived.Test.YtchiinjiflgepaaGreatDoorMzQZ
theorem X4{A:Prop}(h:A:=by
 iterate 8 refine af ?_
 refine Kc (Kl (.p (Di.bO p))) ?_
 refine af ?_
 refine Kc (Kp (nM p ws ku hpl)) ?_
 refine af ?_
 refine Ki (fun hc0=> ?_) fun hc0=> ?_
 ·iterate 2 refine af ?_
  refine Kc (Kp (iy)) ?_
  exact Dt
 ·exact Bu):A:=h
theorem JI{A:Prop}(h:A:=by
 iterate 2 refine af ?_
 refine Kc (Kp (uO)) ?_
 exact kL):A:=h
theorem Px{A:Prop}(h:A:=by
 refine Kc (aa.ia _ [10] rfl rfl rfl (by first | exact Xg hl1 | (have h:=K9 ⟨rG,KO⟩ hne;show _+1<_;omega))) ?_
 refine Kc (aa.ia (jE (newF p) ws i) _ rfl rfl rfl (by rw[Zb];show _+(_+1)<_;first | (have h:=K9 ⟨rG,KO⟩ hne;omega) | omega)) ?_
 iterate 3 refine af ?_
 refine Kc (aa.add (m:=((i+1:Nat):Int)) rfl rfl rfl ((aH ?_).trans ?_)) ?_
 ·omega
 ·omega
 iterate 2 refine af ?_
 refine⟨(i+1,z2),?_,?_,?_⟩
 ·exact⟨ov,wm⟩
 ·exact J4
 first | rw[PX (r:=(aG (cu (newF p) ws i) (Di.gt [] ws i)).2.1) hne] | rw[vc (e:=(aG (cu (newF p) ws i) (Di.gt [] ws i)).2.2) sR]
 exact To.sub KS):A:=h
theorem Ve{A:Prop}(h:A:=by
 have hk0:k<ws.length:=by have h:=Zf cF;omega
 iterate 5 refine af ?_
 refine Kc (aa.aJ (g:=Di.gt [] ws) (k:=k) (Di.aC _) rfl rfl rfl an kr rfl (fun _=>rfl) (by decide) hk0) ?_
 refine Kc (Kl (.p (.str (sB (Di.gt [] ws k))))) ?_
 iterate 5 refine af ?_
 refine Kc (Kp (sn (Di.gt [] ws k) 10 (Zz (wD _ (Di.bq [] hk0)) (by decide)))) ?_
 refine af ?_
 refine Ki (fun gW=> ?_) fun gW=> ?_
 ·exfalso
  exact hno _ (Di.bq [] hk0) (Zf gW)
 ·iterate 2 refine af ?_
  refine Kc (aa.add (m:=((k+1:Nat):Int)) rfl rfl rfl ((aH ?_).trans ?_)) ?_
  ·omega
  ·omega
  iterate 2 refine af ?_
  refine⟨k+1,?_,?_,?_⟩
  ·exact hk0
  ·omega
  exact To.done [] rfl KS rfl):A:=h
theorem Yl{A:Prop}(h:A:=by
 refine Kc (aa.add (m:=((i+1:Nat):Int)) rfl rfl rfl ((aH ?_).trans ?_)) ?_
 ·omega
 ·omega
 iterate 2 refine af ?_
 refine⟨i+1,?_,?_,?_⟩
 ·exact ov
 ·omega
 first | rw[lY,ZL,<- SR hb] | rw[<- Ru hb]
 exact To.done [] rfl KS rfl):A:=h
theorem Xs{A:Prop}(h:A:=by
 refine Kc (aa.add (m:=((k+1:Nat):Int)) rfl rfl rfl ((aH ?_).trans ?_)) ?_
 ·omega
 ·omega
 iterate 2 refine af ?_
 refine⟨(k+1,z2),?_,?_,?_⟩
 ·exact⟨hk0,wm⟩
 ·exact Pj
 exact To.sub KS):A:=h
theorem Bu{A:Prop}(h:A:=by
 exfalso
 rw[h1] at hc0
 cases hc0):A:=h
theorem QZ{A:Prop}(h:A:=by
 iterate 3 refine af ?_
 refine Fin.gw rfl rfl ?_
 first | (rw[if_pos e0];rfl) | (rw[if_neg e0,if_neg (hR.bl e0),Ry hb.bad hR.bl];rfl)):A:=h
theorem PW{A:Prop}(h:A:=by
 unfold br
 dsimp only
 by_cases h:Rx.fW F.b.ag F.b.bad F.b.good=0
 ·rw[if_neg (by omega),if_pos h,h];rfl
 ·rw[if_pos h,if_neg h]):A:=h
theorem Vh{A:Prop}(h:A:=by
 rcases Zp.1 hx with hx | hx
 ·exact hB x hx
 ·exact R6 n i (by omega) x hx):A:=h
set_option linter.unusedSimpArgs false
set_option linter.unusedVariables false
section
namespace Go.Proofs.YtchiinjiflgepaaGreatDoor
open Go.AF
theorem N6{l:List Rx.bM}{x:Rx.bM}{j:Nat}(h:j<l.length):Rx.oo (l++[x]) j=Rx.oo l j:=by
 unfold Rx.oo
 rw[KN h]
theorem xC{l:List Rx.bM}{x:Rx.bM}{t:List Nat}{n:Nat}(h:n<l.length):∀ k,Rx.pM (l++[x]) t n k=Rx.pM l t n k
 | 0=>rfl
 | k+1=>by unfold Rx.pM;rw[N6 h,xC h k]
theorem xV{l:List Rx.bM}{x:Rx.bM}:∀ n,n<=l.length->Rx.kN (l++[x]) n=Rx.kN l n
 | 0,_=>rfl
 | n+1,h=>by unfold Rx.kN;rw[xV n (by omega),xC (by omega)]
theorem xK{l:List Rx.bM}{x:Rx.bM}{i:Nat}(h:i<l.length):Rx.bE (l++[x]) i=Rx.bE l i:=by
 unfold Rx.bE
 rw[xV _ (by omega)]
structure Bj (b:bG):Prop where
 cnt:b.au.length+b.aq.length<=b.ag.length
 bl:b.bad≠0->Rx.dj b.ag b.bad b.good≠0
theorem Nr{p:Di.bB}{b:bG}{x:Rx.bM}(hb:UJ p b)(h:b.bad≠0->Rx.dj b.ag b.bad b.good≠0):b.bad≠0->Rx.dj (b.ag++[x]) b.bad b.good≠0:=fun h0 h1=>by
 refine h h0 (Rx.ni.2 fun i=> ?_)
 cases hi:(Rx.dj b.ag b.bad b.good).testBit i with
 | false=>rfl
 | true=>
  obtain⟨h2,h3,h4⟩:=(Rx.nH _ _ _ _).1 hi
  have:=Rx.ni.1 h1 i
  rw[(Rx.nH _ _ _ _).2 ⟨by rw[Zb];omega,fun k _ hbk=> ?_,fun k _ hgk=> ?_⟩] at this
  ·cases this
  ·have hk:=Rx.dy hb.bad hbk
   rw[xK hk];exact h3 k hk hbk
  ·have hk:=Rx.dy hb.good hgk
   rw[xK hk];exact h4 k hk hgk
theorem SS{l:List Rx.bM}{bad good:Nat}(hC:Rx.bR l)(hb:bad<2^l.length)(hg:good<2^l.length):Rx.iR l [(bad:Int),(good:Int)]=0:=by
 unfold Rx.iR
 rw[if_pos hC,if_neg]
 unfold Rx.iL Rx.pw
 simp only[List.any_cons,List.any_nil,Bool.or_false,E2,D0,YV,TT]
 omega
theorem P6{l:List Rx.bM}{bad good:Nat}(hC:Rx.bR l)(hb:bad<2^l.length)(hg:good<2^l.length):Rx.fW l bad good=if bad=0 then 4 else if Rx.dj l bad good=0 then 6 else 0:=by
 unfold Rx.fW
 rw[if_neg (by rw[SS hC hb hg];decide),BN,BN]
 by_cases h:bad=0
 ·subst h;rfl
 ·rw[if_neg h,if_neg (by omega)]
theorem JU{l:List Rx.bM}{bad good:Nat}(hC:Rx.bR l)(hb:bad<2^l.length)(hg:good<2^l.length)(h:¬ Rx.fW l bad good=6):bad≠0->Rx.dj l bad good≠0:=fun h0 h1=>by
 rw[P6 hC hb hg,if_neg h0,if_pos h1] at h
 exact h rfl
theorem Ry{l:List Rx.bM}{bad good:Nat}(hb:bad<2^l.length)(h:bad≠0->Rx.dj l bad good≠0):bad&&& good=0:=by
 by_cases h0:bad=0
 ·subst h0;exact Nat.zero_and _
 ·refine Rx.ni.2 fun k=> ?_
  rw[Gw]
  cases hk:bad.testBit k with
  | false=>rfl
  | true=>
   cases hg:good.testBit k with
   | false=>rfl
   | true=>
    refine absurd (Rx.ni.2 fun i=> ?_) (h h0)
    cases hi:(Rx.dj l bad good).testBit i with
    | false=>rfl
    | true=>
     obtain⟨h2,h3,h4⟩:=(Rx.nH _ _ _ _).1 hi
     have hl:=Rx.dy hb hk
     have:=h3 k hl hk
     rw[h4 k hl hg] at this
     cases this
theorem Wx{F:cK}{v:Vb}{n:List Int}(hF:mo F)(hl:n.length=v.many)(hn:∀ x∈n,0<=x∧x<10000000000000)(hR:Bj F.b)(hM:∀ x∈F.marks,Bj x):Bj (br F v n).1.b∧∀ x∈(br F v n).1.marks,Bj x:=by
 have hb:=hF.b
 have c1:=hR.cnt
 have nth:∀ k,k<n.length->0<=nn n k∧nn n k<10000000000000:=fun k hk=>hn _ (Di.bq 0 hk)
 have e:∀ x,(F.b.dZ x).ag.length=F.b.ag.length+1:=fun x=>by show(F.b.ag++[_]).length=_;rw[Zb];rfl
 have dZ:∀ x,Bj (F.b.dZ x):=fun x=>⟨by rw[e];exact Nat.le_succ_of_le c1,Nr hb hR.bl⟩
 have stay:Bj F.b∧∀ x∈F.marks,Bj x:=⟨hR,hM⟩
 cases v
 case oS=>
  unfold br;dsimp only
  split
  ·exact stay
  ·split
   ·exact stay
   ·refine⟨⟨?_,(dZ _).bl⟩,hM⟩
    show(F.b.au++[_]).length+F.b.aq.length<=(F.b.dZ _).ag.length
    rw[e,Zb,Tb];omega
 case slat=>
  unfold br;dsimp only
  split
  ·exact stay
  ·exact⟨dZ _,hM⟩
 case lead=>
  unfold br;dsimp only
  split
  ·exact stay
  ·split
   ·exact stay
   ·split
    ·exact stay
    ·split
     ·exact stay
     ·refine⟨⟨?_,(dZ _).bl⟩,hM⟩
      show F.b.au.length+(F.b.aq++[_]).length<=(F.b.dZ _).ag.length
      rw[e,Zb,Tb];omega
 case pencil=>
  unfold br;dsimp only
  split
  ·exact stay
  ·split
   ·exact stay
   ·split
    ·exact stay
    ·exact⟨dZ _,hM⟩
 case bad=>
  have q0:=nth 0 (by rw[hl];decide)
  unfold br;dsimp only
  split
  ·exact stay
  ·rename_i h1
   split
   ·exact stay
   ·rename_i h2
    obtain⟨k1,k2⟩:=yt (UO.1 h1)
    exact⟨⟨c1,JU hb.cd (yK hb.bad k2 q0.1 k1) hb.good h2⟩,hM⟩
 case good=>
  have q0:=nth 0 (by rw[hl];decide)
  unfold br;dsimp only
  split
  ·exact stay
  ·rename_i h1
   split
   ·exact stay
   ·rename_i h2
    obtain⟨k1,k2⟩:=yt (UO.1 h1)
    exact⟨⟨c1,JU hb.cd hb.bad (yK hb.good k2 q0.1 k1) h2⟩,hM⟩
 case blame=>
  unfold br;dsimp only
  split <;> exact stay
 case call=>
  unfold br;dsimp only
  split <;> exact stay
 case from_=>
  unfold br;dsimp only
  split <;> exact stay
 case wear=>
  unfold br;dsimp only
  split <;> exact stay
 case mark=>
  unfold br;dsimp only
  split
  ·exact stay
  ·refine⟨hR,fun x hx=> ?_⟩
   rcases Zp.1 hx with h | h
   ·exact hM x h
   ·rw[ZK.1 h];exact hR
 case back=>
  unfold br;dsimp only
  cases hm:F.marks.getLast? with
  | none=>exact stay
  | some x=>exact⟨hM x (List.mem_of_getLast? hm),fun y hy=>hM y (YF _ hy)⟩
 case keep=>
  unfold br;dsimp only
  cases hm:F.marks.getLast? with
  | none=>exact stay
  | some x=>exact⟨hR,fun y hy=>hM y (YF _ hy)⟩
theorem MY{F:cK}{s:Bs}(hF:mo F)(hR:Bj F.b∧∀ x∈F.marks,Bj x):Bj (aG F s).1.b∧∀ x∈(aG F s).1.marks,Bj x:=by
 unfold aG
 split
 ·exact hR
 ·split
  ·exact hR
  ·rename_i v n h
   obtain⟨hl,hn⟩:=qw h
   exact Wx hF hl hn hR.1 hR.2
theorem RC(p:Di.bB):Bj (newF p).b∧∀ x∈(newF p).marks,Bj x:=⟨⟨Zl _,fun h=>absurd rfl h⟩,fun x hx=>by cases hx⟩
theorem Dj{F:cK}{L:List Bs}(hF:mo F)(hR:Bj F.b∧∀ x∈F.marks,Bj x):∀ k,Bj (cu F L k).b∧∀ x∈(cu F L k).marks,Bj x
 | 0=>hR
 | k+1=>MY (cY hF k) (Dj hF hR k)
theorem Sy(F:cK)(v:Vb)(n:List Int):(br F v n).1.aP=F.aP:=by
 cases v <;> unfold br <;> dsimp only <;> (repeat' split) <;> rfl
theorem HJ(F:cK)(s:Bs):(aG F s).1.aP=F.aP:=by
 unfold aG
 split
 ·rfl
 ·split
  ·rfl
  ·exact Sy F _ _
theorem tD{F:cK}{L:List Bs}:∀ k,(cu F L k).aP=F.aP
 | 0=>rfl
 | k+1=>by show(aG _ _).1.aP=_;rw[HJ,tD k]
set_option maxRecDepth 100000
section
variable {N κ:Nat} {T T2:Tm} {H:List ai} {F:cK} {z:Bool}
theorem pG{f:V->Option PV}:∀{a b:List V} {x y:List PV},cQ f a=some x->cQ f b=some y->cQ f (a++b)=some (x++y)
 | [],b,x,y,h1,h2=>by cases h1;exact h2
 | v::a,b,x,y,h1,h2=>by
  unfold cQ at h1
  split at h1
  ·rename_i x1 xs e1 e2
   cases h1
   show cQ f (v::(a++b))=_
   unfold cQ
   rw[e1,pG e2 h2]
   rfl
  ·cases h1
theorem Iw{k:Nat}{q:P5}{b:bG}(h:jD H q b):cQ (bN H (k+1)) (rX q b)=some (FI b):=by
 obtain⟨h1,h2,h3,h4,h5⟩:=h
 simp only[rX,dn,cQ,Ow h1,Mt h2,Mc h3,Ge h4,Ge h5,Ja]
 rfl
theorem Rw{k:Nat}{qs:List P5}{bs:List bG}(h:oW H qs bs):cQ (bN H (k+1)) (oO qs bs)=some (bs.flatMap FI):=by
 induction h with
 | nil=>rfl
 | cons h _ ih=>rw[ZJ];exact pG (Iw h) ih
theorem Yj{c im:Nat}{q:P5}{qs:List P5}(h:fz c F z H q im qs):∃ t,bN H 4 (.ptr c 0)=some (.ip (FI F.b++t) 0):=by
 have e:∃ y,bN H 3 (rD im F z)=some y:=by
  cases z with
  | true=>exact⟨_,rfl⟩
  | false=>
   have hm:bJ H[im]? =some (oO qs F.marks):=by rw[h.mb];rfl
   have hk:cQ (bN H 2) (oO qs F.marks)=_:=Rw (k:=1) h.ats
   refine⟨.is (F.marks.flatMap FI) F.marks.length,?_⟩
   show bN H 3 (.row im F.marks.length)=_
   unfold bN
   rw[hm]
   show(cQ (bN H 2) (oO qs F.marks)).map (PV.is · F.marks.length)=_
   rw[hk]
   rfl
 obtain⟨y,hy⟩:=e
 refine⟨F.aP.cells++[y,.bool true],?_⟩
 have hf:bJ H[c]? =some (rX q F.b++(F.aP.cells.map .p++[rD im F z,.p (.bool true)])):=by
  rw[h.fl]
  show some _=some _
  rfl
 have hk:cQ (bN H 3) (rX q F.b++(F.aP.cells.map .p++[rD im F z,.p (.bool true)]))=some (FI F.b++(F.aP.cells++[y,.bool true])):=
  pG (Iw h.a5) (pG (ue H 3 F.aP.cells) (by simp only[cQ,hy,Ja]))
 unfold bN
 rw[hf]
 show(cQ (bN H 3) _).map (PV.ip · 0)=_
 rw[hk]
 rfl
theorem vO{o:Oper}{c im:Nat}{q:P5}{qs:List P5}(hF:mo F)(h:fz c F z H q im qs){f:Operand}{ys:Array Operand}{ts:Array TypeId}{fv:V}{vs:List V}(ho:o.op= .call {callee:= .value f,args:=ys,argTypes:=ts})(hf:ev T f=some fv)
    (hxs:jR T ys.toList=some vs)(hc:callee vs fv=some (18,[.ptr c 0]))(hg:ak Tryz.prog 18=true):aa Tryz.prog N o T H (.p (.agg (kn F.b))) H:=by
 obtain⟨t,ht⟩:=Yj h
 have hb:=hF.b
 obtain⟨u,hu⟩:=hb.Dd
 have k1:=hb.sk
 have k2:=Rx.cx hb.cd
 have k3:=hb.dr
 have k4:=ew hu
 have k5:=hb.ck
 refine aa.Jd 4 2 (BF F.b t (by omega) (by omega) (by omega) (by omega) (by omega)) (by simp only[Lc,Dh,iS,sU];rfl) (by
  simp only[Rv,List.all_nil,c5,cU,c7,bh,jO (eB (f:=Ck.Sk.cells) (fun _=>rfl) _),jO (eB (f:=Rx.bM.cells) (fun _=>rfl) _),jO (eB (f:=Di.cO.cells) (fun _=>rfl) _),jO (eB (f:=Di.cE) (fun _=>rfl) _)]
  simp only[UK,Dh,iS,sU]
  rfl) ?_ ho hf hxs hc (by simp only[cQ,ht]) hg
 generalize hH:([.cells (Dh 4 3 5 6 F.b) 41,.dead,.dead,cU F.b.ag,c5 F.b.au,c7 F.b.aq,bh F.b.plan,bh F.b.b6]:List ai)=B
 have e1:B[4]? =some (c5 F.b.au):=by rw[<- hH];rfl
 have e2:B[3]? =some (cU F.b.ag):=by rw[<- hH];rfl
 have e3:B[5]? =some (c7 F.b.aq):=by rw[<- hH];rfl
 have e4:B[6]? =some (bh F.b.plan):=by rw[<- hH];rfl
 show(cQ (bN B 1) (Dh 4 3 5 6 F.b)).map PV.agg=_
 simp only[Dh,cQ,Ow e1,Mt e2,Mc e3,Ge e4,Ja]
 rfl
end
set_option maxHeartbeats 4000000
def iV(p:Di.bB)(ws:List Bs):Bool:=ws.any (fun w=>decide (200<w.length))||(decide (40<ws.length)||decide (10<p.dies.length))
theorem pJ{p:Di.bB}{ws:List Bs}(h:iV p ws=false):(∀ w∈ws,w.length<=200)∧ws.length<=40∧p.dies.length<=10:=by
 unfold iV at h
 simp only[Vr,LV,Zs,TT] at h
 refine⟨fun w hw=> ?_,?_,?_⟩
 ·have:=h.1 w hw;omega
 ·have:=h.2.1;omega
 ·have:=h.2.2;omega
theorem Ok{p:Di.bB}{ws:List Bs}{k:Nat}(hk:k<ws.length)(h:200<(Di.gt [] ws k).length):iV p ws=true:=by
 unfold iV
 rw[E2]
 exact .inl (List.any_eq_true.2 ⟨_,Di.bq [] hk,decide_eq_true h⟩)
theorem IB{p:Di.bB}{ws:List Bs}(h:∀ w∈ws,w.length<=200):iV p ws=(decide ((40:Int)<(ws.length:Int))||decide ((10:Int)<(p.dies.length:Int))):=by
 unfold iV
 have e:ws.any (fun w=>decide (200<w.length))=false:=by
  rw[LV]
  intro w hw
  have:=h w hw
  simp only[Zs];omega
 rw[e,Bool.false_or]
 congr 1
 ·exact Ey
 ·exact Ey
theorem LL{ws:List Bs}{w:Bs}(h:w∈ws):∃ k,k<ws.length∧w=Di.gt [] ws k:=by
 obtain⟨k,hk,rfl⟩:=Ni h
 exact⟨k,hk,Di.aC [] k hk⟩
theorem nM(p:Di.bB)(ws:List Bs)(hw:ws.length<=9223372036854775807)(hp:p.dies.length<=9223372036854775807):Pure Tryz.prog 19 [Di.bO p,b9 ws] (.bool (iV p ws)):=by
 refine Kf (N:=26) Tryz.func19 ?_
 iterate 13 refine af ?_
 refine aB.cR [1,2,7,8,17,18,19,20,21,22,23,24,25] (fun g=>[(9,.p (.int .i64 ((g:Nat):Int)))]) (fun g=>[]) (fun g=>g<=ws.length∧∀ j,j<g->(Di.gt [] ws j).length<=200) (fun g=>ws.length - g) 0 ⟨Zl _,fun j hj=>absurd hj (Nat.not_lt_zero j)⟩ (To.sub (Sub.xx (Sub.cons rfl (Sub.nil)))) (fun k hg=> ?_)
 obtain⟨qm,hall⟩:=hg
 iterate 5 refine af ?_
 refine Ki (fun hc0=> ?_) fun hc0=> ?_
 ·have hk0:k<ws.length:=by have h:=Zf hc0;omega
  iterate 5 refine af ?_
  refine Kc (aa.aJ (g:=Di.gt [] ws) (k:=k) (Di.aC _) rfl rfl rfl an kr rfl (fun _=>rfl) (by decide) hk0) ?_
  refine Kc (Kl (.p (.str (sB (Di.gt [] ws k))))) ?_
  iterate 5 refine af ?_
  refine Kc (aa.iJ rfl rfl Gz) ?_
  iterate 2 refine af ?_
  refine Ki (fun cF=> ?_) fun cF=> ?_
  ·have hlo:200<(Di.gt [] ws k).length:=by have h:=Zf cF;rw[dO] at h;omega
   iterate 5 refine af ?_
   refine Fin.gw rfl rfl ?_
   rw[Ok hk0 hlo]
  ·have hle:(Di.gt [] ws k).length<=200:=by have h:=Zh cF;rw[dO] at h;omega
   iterate 2 refine af ?_
   refine Kc (aa.add (m:=((k+1:Nat):Int)) rfl rfl rfl ((aH ?_).trans ?_)) ?_
   ·omega
   ·omega
   iterate 2 refine af ?_
   refine⟨k+1,?_,?_,?_⟩
   ·exact⟨hk0,fun j hj=>by rcases ZZ.1 hj with h | rfl;exact hall j h;exact hle⟩
   ·omega
   exact wQ
 ·have Jq:k=ws.length:=by have h:=Zh hc0;omega
  subst Jq
  refine aB.exit ?_
  iterate 6 refine af ?_
  refine Kg 21 20 2 rfl (fun h=>(aa.fieldAddr rfl rfl an rfl)) ?_
  refine Kh 22 20 21 rfl rfl rfl rfl (fun h=>(Kl (.p (Di.oB p.dies)))) ?_
  refine Kh 23 20 22 rfl rfl rfl rfl (fun h=>(aa.aQ rfl rfl an rfl)) ?_
  refine Kh 24 20 23 rfl rfl rfl rfl (fun h=>(aa.gtr rfl rfl rfl)) ?_
  refine Kc (aa.me rfl rfl rfl ?_) ?_
  ·exact eM
  iterate 3 refine af ?_
  refine Fin.gw rfl rfl ?_
  rw[IB (fun w h=>by obtain⟨k,hk,rfl⟩:=LL h;exact hall k hk)]
theorem Jl(p:Di.bB)(ws:List Bs)(hp:p.dies.length<=100)(h3:Di.dH p=false):Pure Tryz.prog 20 [Di.bO p,b9 ws] .nilPtr:=by
 refine Kf (N:=27) Tryz.func20 ?_
 iterate 7 refine af ?_
 refine Kc (Kl (.p (Di.bO p))) ?_
 refine Kc (Kp (yU p hp h3)) ?_
 iterate 12 refine af ?_
 refine aB.pQ rfl ?_
 iterate 5 refine af ?_
 exact Df
theorem Ba(p:Di.bB)(ws:List Bs)(ku:ws.length<=9223372036854775807)(hp:p.dies.length<=100)(h3:Di.dH p=true):ax Tryz.prog 20 ([Di.bO p,b9 ws].map .p) [] fun v H2=>v= .ptr 0 0∧∃ z,(z=true->(cu (newF p) ws ws.length).marks=[])∧H2=bS 0 (cu (newF p) ws ws.length) z:=by
 have hW:=oN h3
 refine ax.start (N:=27) Tryz.func20 rfl rfl Kn ?_
 iterate 7 refine af ?_
 refine Kc (Kl (.p (Di.bO p))) ?_
 refine aj.qA 11 (qf p hp h3) rfl rfl rfl rfl rfl rfl rfl an (fun v H2 gJ=> ?_)
 obtain⟨rfl,rfl⟩:=gJ
 iterate 12 refine af ?_
 refine aB.jT rfl ?_
 iterate 9 refine af ?_
 refine aB.cR [4,5,16,17,26] (fun g=>[(18,.p (.int .i64 ((g.1:Nat):Int)))]) (fun g=>(bS 0 (cu (newF p) ws g.1) g.2)) (fun g=>g.1<=ws.length∧(g.2=true->(cu (newF p) ws g.1).marks=[])) (fun g=>ws.length - g.1) (0,true) ⟨Zl _,fun _=>rfl⟩ (To.sub KS) (fun g hg=> ?_)
 obtain⟨k,z⟩:=g
 obtain⟨qm,hz⟩:=hg
 dsimp only at qm hz ⊢
 iterate 5 refine af ?_
 refine Ki (fun cF=> ?_) fun cF=> ?_
 ·have hk0:k<ws.length:=by have h:=Zf cF;omega
  iterate 5 refine af ?_
  refine Kc (aa.aJ (g:=Di.gt [] ws) (k:=k) (Di.aC _) rfl rfl rfl an kr rfl (fun _=>rfl) (by decide) hk0) ?_
  refine Kc (Kl (.p (.str (sB (Di.gt [] ws k))))) ?_
  iterate 5 refine af ?_
  refine BJ 24 [] (cu (newF p) ws k) z (Di.gt [] ws k) (cY (L:=ws) hW k) hz (fun i x h=>by simp at h) (Zl _) rfl rfl rfl rfl rfl rfl an (T2:=[(4,.p .nilPtr),(5,.ptr 0 0),(16,.p (b9 ws)),(17,.p (.int .i64 (ws.length:Int))),(18,.p (.int .i64 (k:Int)))]) KS rfl (fun z2 wm=> ?_)
  show aj _ _ _ _ _ _ _ _ (bS 0 (cu (newF p) ws (k+1)) z2)
  iterate 2 refine af ?_
  exact Xs
 ·have Jq:k=ws.length:=by have h:=Zh cF;omega
  subst Jq
  refine aB.exit ?_
  iterate 6 refine af ?_
  exact kC.one rfl rfl ⟨rfl,z,hz,rfl⟩
theorem Cg(p:Di.bB)(ws:List Bs)(ku:ws.length<=9223372036854775807)(hpl:p.dies.length<=9223372036854775807)(h1:iV p ws=true):Pure Tryz.prog 5 [Di.bO p,b9 ws] (.bool true):=by
 refine Kf (N:=108) Tryz.func5 ?_
 exact X4
theorem KR(p:Di.bB)(ws:List Bs)(ku:ws.length<=9223372036854775807)(hpl:p.dies.length<=9223372036854775807)(h1:iV p ws=false)(h3:Di.dH p=false):Pure Tryz.prog 5 [Di.bO p,b9 ws] (.bool true):=by
 obtain⟨wD,qG,Ku⟩:=pJ h1
 refine Kf (N:=108) Tryz.func5 ?_
 iterate 8 refine af ?_
 refine Kc (Kl (.p (Di.bO p))) ?_
 refine af ?_
 refine Kc (Kp (nM p ws ku hpl)) ?_
 refine af ?_
 refine Ki (fun hc0=> ?_) fun hc0=> ?_
 ·exact Bu
 ·iterate 3 refine af ?_
  refine Kc (Kl (.p (Di.bO p))) ?_
  refine af ?_
  refine Kc (Kp (Jl p ws (by omega) h3)) ?_
  iterate 6 refine af ?_
  refine Kc (aa.uy rfl rfl rfl an) ?_
  refine af ?_
  refine aB.pQ rfl ?_
  iterate 2 refine af ?_
  refine Kc (Kp (iy)) ?_
  exact Dt
theorem Hw(p:Di.bB)(ws:List Bs)(ku:ws.length<=9223372036854775807)(hpl:p.dies.length<=9223372036854775807)(h1:iV p ws=false)(h3:Di.dH p=true):Pure Tryz.prog 5 [Di.bO p,b9 ws] (.bool true):=by
 obtain⟨wD,qG,Ku⟩:=pJ h1
 have hW:=oN h3
 refine Kf (N:=108) Tryz.func5 ?_
 iterate 8 refine af ?_
 refine Kc (Kl (.p (Di.bO p))) ?_
 refine af ?_
 refine Kc (Kp (nM p ws ku hpl)) ?_
 refine af ?_
 refine Ki (fun hc0=> ?_) fun hc0=> ?_
 ·exact Bu
 ·iterate 3 refine af ?_
  refine Kc (Kl (.p (Di.bO p))) ?_
  refine af ?_
  refine aj.qA 18 (Ba p ws ku (by omega) h3) rfl rfl rfl rfl rfl rfl rfl an (fun v H2 gJ=> ?_)
  obtain⟨rfl,z,hz,rfl⟩:=gJ
  have hF:=cY (L:=ws) hW ws.length
  have hR:=(Dj (L:=ws) hW (RC p) ws.length).1
  have GW:(cu (newF p) ws ws.length).aP=p:=tD ws.length
  generalize (cu (newF p) ws ws.length)=F at hz hF hR GW ⊢
  have hb:=hF.b
  rw[GW] at hb
  obtain⟨u,hu⟩:=hb.Dd
  have hfo:=Di.kT p F.b.aq F.b.plan (Zz Ku (by decide)) (Zz hb.dr (by decide)) (by rw[ew hu];exact Zz hb.dr (by decide))
  rw[hu] at hfo
  have PG:=ew hu
  have hcl:=Rx.cx hb.cd
  have Sv:=Rx.kD F.b.ag F.b.bad F.b.good (Zz hcl (by decide))
  rw[P6 hb.cd hb.bad hb.good] at Sv
  have hsk:=hb.sk
  have hdr:=hb.dr
  have hcn:=hR.cnt
  have hB1:F.b.bad<16777216:=ZM hb.bad (LR hcl)
  have hB2:F.b.good<16777216:=ZM hb.good (LR hcl)
  iterate 6 refine af ?_
  refine Kc (aa.y5 rfl rfl rfl an) ?_
  refine af ?_
  refine aB.jT rfl ?_
  iterate 4 refine af ?_
  refine Kc (vO hF (lQ [] F z hz) rfl rfl rfl rfl an) ?_
  refine aj.to (To.cut (H:=[]) (ext:=bS 0 F z) (T2:=[(23,.p (.agg (kn F.b))),(2,_)]) (fun blk hm=>by simp at hm) (Zl _) KS rfl) ?_
  iterate 5 refine af ?_
  refine Kc (Kl (.p (Di.bO p))) ?_
  refine af ?_
  refine Kc (Kl (.p (Di.fJ F.b.aq))) ?_
  refine af ?_
  refine Kc (Kl (.p (Di.bI F.b.plan))) ?_
  refine Kc (Kp (hfo)) ?_
  iterate 14 refine af ?_
  refine Kg 37 36 8 rfl (fun h=>(aa.move rfl rfl)) ?_
  refine Kg 38 36 6 rfl (fun h=>(aa.fieldAddr rfl rfl an rfl)) ?_
  refine Kh 39 36 38 rfl rfl rfl rfl (fun h=>(Kl (.p (Di.fJ F.b.aq)))) ?_
  refine Kh 40 36 39 rfl rfl rfl rfl (fun h=>(aa.aQ rfl rfl an rfl)) ?_
  refine aj.g 41 36 rfl rfl rfl rfl rfl rfl rfl [(37,_),(40,_)] (fun h=>And.intro (.inr ⟨_,rfl,h⟩) (And.intro (.inr ⟨_,rfl,h⟩) (trivial))) (fun h=>(aa.neq rfl rfl rfl)) ?_
  refine Kc (aa.me rfl rfl rfl ?_) ?_
  ·exact eM
  refine af ?_
  refine Kg 44 43 6 rfl (fun h=>(aa.fieldAddr rfl rfl an rfl)) ?_
  refine Kh 45 43 44 rfl rfl rfl rfl (fun h=>(Kl (.p (Di.bI F.b.plan)))) ?_
  refine Kh 46 43 45 rfl rfl rfl rfl (fun h=>(aa.aQ rfl rfl an rfl)) ?_
  refine Kg 47 43 6 rfl (fun h=>(aa.fieldAddr rfl rfl an rfl)) ?_
  refine Kh 48 43 47 rfl rfl rfl rfl (fun h=>(Kl (.p (Di.fJ F.b.aq)))) ?_
  refine Kh 49 43 48 rfl rfl rfl rfl (fun h=>(aa.aQ rfl rfl an rfl)) ?_
  refine aj.g 50 43 rfl rfl rfl rfl rfl rfl rfl [(46,_),(49,_)] (fun h=>And.intro (.inr ⟨_,rfl,h⟩) (And.intro (.inr ⟨_,rfl,h⟩) (trivial))) (fun h=>(aa.neq rfl rfl rfl)) ?_
  refine Kc (aa.me rfl rfl rfl ?_) ?_
  ·exact eM
  refine af ?_
  refine Kg 53 52 6 rfl (fun h=>(aa.fieldAddr rfl rfl an rfl)) ?_
  refine Kh 54 52 53 rfl rfl rfl rfl (fun h=>(Kl (.p (Ck.dS F.b.au)))) ?_
  refine Kh 55 52 54 rfl rfl rfl rfl (fun h=>(aa.aQ rfl rfl an rfl)) ?_
  refine Kh 56 52 55 rfl rfl rfl rfl (fun h=>(aa.gtr rfl rfl rfl)) ?_
  refine Kc (aa.me rfl rfl rfl ?_) ?_
  ·exact eM
  refine af ?_
  refine Kg 59 58 6 rfl (fun h=>(aa.fieldAddr rfl rfl an rfl)) ?_
  refine Kh 60 58 59 rfl rfl rfl rfl (fun h=>(Kl (.p (Rx.fO F.b.ag)))) ?_
  refine Kh 61 58 60 rfl rfl rfl rfl (fun h=>(aa.aQ rfl rfl an rfl)) ?_
  refine Kh 62 58 61 rfl rfl rfl rfl (fun h=>(aa.gtr rfl rfl rfl)) ?_
  refine Kc (aa.me rfl rfl rfl ?_) ?_
  ·exact eM
  refine af ?_
  refine Kg 65 64 6 rfl (fun h=>(aa.fieldAddr rfl rfl an rfl)) ?_
  refine Kh 66 64 65 rfl rfl rfl rfl (fun h=>(Kl (.p (Rx.fO F.b.ag)))) ?_
  refine Kh 67 64 66 rfl rfl rfl rfl (fun h=>(aa.aQ rfl rfl an rfl)) ?_
  refine Kg 68 64 6 rfl (fun h=>(aa.fieldAddr rfl rfl an rfl)) ?_
  refine Kh 69 64 68 rfl rfl rfl rfl (fun h=>(Kl (.p (Ck.dS F.b.au)))) ?_
  refine Kh 70 64 69 rfl rfl rfl rfl (fun h=>(aa.aQ rfl rfl an rfl)) ?_
  refine Kg 71 64 6 rfl (fun h=>(aa.fieldAddr rfl rfl an rfl)) ?_
  refine Kh 72 64 71 rfl rfl rfl rfl (fun h=>(Kl (.p (Di.fJ F.b.aq)))) ?_
  refine Kh 73 64 72 rfl rfl rfl rfl (fun h=>(aa.aQ rfl rfl an rfl)) ?_
  refine aj.g 74 64 rfl rfl rfl rfl rfl rfl rfl [(70,_),(73,_)] (fun h=>And.intro (.inr ⟨_,rfl,h⟩) (And.intro (.inr ⟨_,rfl,h⟩) (trivial))) (fun h=>(aa.add rfl rfl rfl (aH ?_))) ?_
  ·omega
  refine aj.g 75 64 rfl rfl rfl rfl rfl rfl rfl [(67,_),(74,_)] (fun h=>And.intro (.inr ⟨_,rfl,h⟩) (And.intro (.inr ⟨_,rfl,h⟩) (trivial))) (fun h=>(aa.lss rfl rfl rfl)) ?_
  refine Kc (aa.me rfl rfl rfl ?_) ?_
  ·exact eM
  refine af ?_
  refine Ki (fun gW=> ?_) fun gW=> ?_
  ·exfalso
   simp at gW
   omega
  ·iterate 4 refine af ?_
   refine Kc (Kl (.p (Rx.fO F.b.ag))) ?_
   refine af ?_
   refine Kc (Kl (.p (.int .i64 (F.b.bad:Int)))) ?_
   refine af ?_
   refine Kc (Kl (.p (.int .i64 (F.b.good:Int)))) ?_
   refine Kc (Kp (Sv)) ?_
   iterate 10 refine af ?_
   refine Kc (Kl (.p (.int .i64 (F.b.bad:Int)))) ?_
   iterate 2 refine af ?_
   refine Ki (fun mc=> ?_) fun mc=> ?_
   ·have e0:F.b.bad=0:=by simpa using mc
    iterate 5 refine af ?_
    refine aj.g 93 92 rfl rfl rfl rfl rfl rfl rfl [] (fun h=>trivial) (fun h=>(Kp (iy))) ?_
    refine Kc (aa.dM rfl rfl rfl ?_) ?_
    ·exact eM
    exact QZ
   ·have e0:F.b.bad≠0:=by simpa using mc
    iterate 6 refine af ?_
    refine Kg 98 97 6 rfl (fun h=>(aa.fieldAddr rfl rfl an rfl)) ?_
    refine Kh 99 97 98 rfl rfl rfl rfl (fun h=>(Kl (.p (.int .i64 (F.b.bad:Int))))) ?_
    refine Kg 100 97 6 rfl (fun h=>(aa.fieldAddr rfl rfl an rfl)) ?_
    refine Kh 101 97 100 rfl rfl rfl rfl (fun h=>(Kl (.p (.int .i64 (F.b.good:Int))))) ?_
    refine aj.g 102 97 rfl rfl rfl rfl rfl rfl rfl [(99,_),(101,_)] (fun h=>And.intro (.inr ⟨_,rfl,h⟩) (And.intro (.inr ⟨_,rfl,h⟩) (trivial))) (fun h=>(aa.nh F.b.bad F.b.good rfl rfl rfl (by first | (show _<=(9223372036854775807:Int);omega) | (show _<=(4294967295:Int);omega) | (show _<=(18446744073709551615:Int);omega) | (show _<=(255:Int);omega) | (show _<=(65535:Int);omega)) (by first | decide | (show _<=(9223372036854775807:Int);omega) | (show _<=(4294967295:Int);omega) | (show _<=(18446744073709551615:Int);omega) | (show _<=(255:Int);omega) | (show _<=(65535:Int);omega)))) ?_
    refine Kh 103 97 102 rfl rfl rfl rfl (fun h=>(aa.eql rfl rfl rfl)) ?_
    refine Kc (aa.dM rfl rfl rfl ?_) ?_
    ·exact eM
    refine af ?_
    refine aj.g 106 105 rfl rfl rfl rfl rfl rfl rfl [] (fun h=>trivial) (fun h=>(Kp (iy))) ?_
    refine Kc (aa.dM rfl rfl rfl ?_) ?_
    ·exact eM
    exact QZ
theorem Le(p:Di.bB)(ws:List Bs)(ku:ws.length<=9223372036854775807)(hpl:p.dies.length<=9223372036854775807):Pure Tryz.prog 5 [Di.bO p,b9 ws] (.bool true):=by
 cases h1:iV p ws with
 | true=>exact Cg p ws ku hpl h1
 | false=>
  cases h3:Di.dH p with
  | false=>exact KR p ws ku hpl h1 h3
  | true=>exact Hw p ws ku hpl h1 h3
theorem sH{x0 x1:List PV}(h0:l7 DB x0)(h1:l7 [.sl [.leaf .string]] x1):Pure Tryz.prog 5 [wh true x0,wh false x1] (.bool true):=by
 obtain⟨p,rfl,hp⟩:=CI h0
 obtain⟨ws,rfl,hw⟩:=yZ h1
 exact Le p ws hw hp
theorem P1:∀(w cur r:Bs),10∉w->dG 10 cur (w++10::r)=(cur++w)::dG 10 [] r
 | [],cur,r,_=>by
  show dG 10 cur (10::r)=_
  rw[ZR,show dG 10 cur (10::r)=if (10:UInt8)=10 then cur::dG 10 [] r else dG 10 (cur++[10]) r from rfl,if_pos rfl]
 | b::w,cur,r,h=>by
  show dG 10 cur (b::(w++10::r))=_
  rw[show dG 10 cur (b::(w++10::r))=if b=10 then cur::dG 10 [] (w++10::r) else dG 10 (cur++[b]) (w++10::r) from rfl,if_neg (fun e=>h (by rw[e];exact Zr)),P1 w (cur++[b]) r (fun hm=>h (Zj _ hm)),ZL]
  rfl
theorem uL:∀ ws:List Bs,(∀ w∈ws,10∉w)->dG 10 [] (jL ws)=ws++[[]]
 | [],_=>rfl
 | w::ws,h=>by
  rw[qe,P1 w [] _ (h w Zr),uL ws fun x hx=>h x (Zj _ hx)]
  rfl
theorem EE:∀ ws:List Bs,¬ (jL ws≠[]∧(jL ws).getLast?≠some 10)
 | []=>fun h=>h.1 rfl
 | w::ws=>fun h=>by
  rw[qe] at h
  by_cases e:jL ws=[]
  ·rw[e] at h
   exact h.2 (by simp)
  ·have h2:=EE ws
   refine h2 ⟨e,fun h3=>h.2 ?_⟩
   rw[List.getLast?_append,List.getLast?_cons_of_ne_nil e,h3]
   rfl
theorem lI{p:Di.bB}{ws:List Bs}(hno:∀ w∈ws,10∉w)(hl:(jL ws).length<=131072):nZ p (jL ws)=if Di.dH p=false then([],1) else(kV (newF p) ws,0):=by
 unfold nZ
 rw[if_neg (by omega),if_neg (EE ws),uL ws hno,List.dropLast_concat]
theorem run_mark{p:Di.bB}{s:Bs}(hl:s.length<=100000):nZ p (s++[109,97,114,107])=([],8):=by
 unfold nZ
 rw[if_neg (by rw[Zb];show ¬ 131072<s.length+4;omega),if_pos ⟨by simp,by simp⟩]
theorem Jy{n:Nat}:∀ ws:List Bs,(∀ w∈ws,w.length<=n)->(jL ws).length<=ws.length*(n+1)
 | [],_=>Zl _
 | w::ws,h=>by
  have h1:=Jy ws fun x hx=>h x (Zj _ hx)
  have h2:=h w Zr
  rw[qe,Zb,Zn,Zn,AN]
  omega
theorem Mh{ws:List Bs}{k:Nat}(hk:k<ws.length):jL (ws.take (k+1))=jL (ws.take k)++(Di.gt [] ws k++[10]):=by
 rw[yX hk,Hy]
 congr 1
 unfold jL
 simp
theorem mQ{ws:List Bs}(hw:∀ w∈ws,w.length<=200)(hl:ws.length<=40)(k:Nat):(jL (ws.take k)).length<=8040:=by
 have h:=Jy (n:=200) (ws.take k) fun w hm=>hw w (GG hm)
 have h2:(ws.take k).length<=40:=by rw[ZW];omega
 omega
theorem Mq(F:cK)(ws:List Bs)(k:Nat):(kV F (ws.take k)).isPrefixOf (kV F ws)=true:=by
 rw[YG]
 refine⟨kV (ug F (ws.take k)) (ws.drop k),?_⟩
 rw[<- tV,UB]
theorem Db(c:UInt8):∀ x:Bs,decide (0<=Lib.indexByte x c)=decide (c∈x)
 | []=>by simp[Lib.indexByte]
 | b::x=>by
  have ih:=Db c x
  have hg:=Lib.indexByte_ge x c
  rw[decide_eq_decide] at ih ⊢
  unfold Lib.indexByte
  by_cases hb:b=c
  ·subst hb
   simp
  ·rw[if_neg (by simpa using hb),Zt]
   split
   ·rename_i h
    have h:Lib.indexByte x c= -1:=by simpa using h
    constructor
    ·intro h2;omega
    ·rintro(h2 | h2)
     ·exact absurd h2.symm hb
     ·have:=ih.2 h2;omega
   ·rename_i h
    have h:¬ Lib.indexByte x c= -1:=by simpa using h
    constructor
    ·intro _;exact .inr (ih.1 (by omega))
    ·intro _;omega
theorem sn(s:Bs)(c:UInt8)(hs:s.length<=1000000):Pure Tryz.prog 23 [.str (sB s),.str (sB [c])] (.bool (decide (c∈s))):=
 Pure.qP (us:=[.string (sB s),.string (sB [c])]) pn fun w I hg=>by
  obtain⟨m,hm⟩:=Fp hg mxl
  exact(Any.strings_Contains Tryz.MC (sB s) (sB [c]) m w (by rw[dO];omega) hm).mono fun e w' ⟨h1,h2⟩=>⟨_,h1,fun _ _=>by
   show Value.bool (decide (0<=Lib.index (sB s).data.toList (sB [c]).data.toList))=Value.bool _
   rw[eg,eg,Lib.index_one,Db],0,#[],by rw[h2,Go.Sort.grow_empty];rfl⟩
theorem nF(ws:List Bs)(hw:∀ w∈ws,w.length<=200)(hl:ws.length<=40):Pure Tryz.prog 24 [b9 ws] (.str (sB (jL ws))):=by
 refine Kf (N:=18) Tryz.func24 ?_
 iterate 16 refine af ?_
 refine aB.cR [2,6,7,17] (fun g=>[(8,.p (.int .i64 ((g:Nat):Int))),(3,.p (.str (sB (jL (ws.take g)))))]) (fun g=>[]) (fun g=>g<=ws.length) (fun g=>ws.length - g) 0 (Zl _) (To.sub (Sub.xx (Sub.cons rfl (Sub.cons rfl (Sub.nil))))) (fun k hg=> ?_)
 iterate 5 refine af ?_
 refine Ki (fun hc0=> ?_) fun hc0=> ?_
 ·have hk0:k<ws.length:=by have h:=Zf hc0;omega
  iterate 5 refine af ?_
  refine Kc (aa.aJ (g:=Di.gt [] ws) (k:=k) (Di.aC _) rfl rfl rfl an kr rfl (fun _=>rfl) (by decide) hk0) ?_
  refine Kc (Kl (.p (.str (sB (Di.gt [] ws k))))) ?_
  iterate 5 refine af ?_
  refine Kc (aa.ia (Di.gt [] ws k) [10] rfl rfl rfl (by have h:=hw _ (Di.bq [] hk0);simp;omega)) ?_
  refine Kc (aa.ia (jL (ws.take k)) (Di.gt [] ws k++[10]) rfl rfl rfl (by have h:=hw _ (Di.bq [] hk0);have h2:=mQ hw hl k;simp;omega)) ?_
  iterate 3 refine af ?_
  refine Kc (aa.add (m:=((k+1:Nat):Int)) rfl rfl rfl ((aH ?_).trans ?_)) ?_
  ·omega
  ·omega
  iterate 2 refine af ?_
  refine⟨k+1,?_,?_,?_⟩
  ·exact hk0
  ·omega
  rw[Mh hk0]
  exact wQ
 ·have Jq:k=ws.length:=by have h:=Zh hc0;omega
  subst Jq
  refine aB.exit ?_
  iterate 6 refine af ?_
  refine Fin.gw rfl rfl ?_
  rw[ZQ]
theorem xR(ws:List Bs)(hw:∀ w∈ws,w.length<=200)(hl:ws.length<=40)(k:Nat)(hk:k<=ws.length):Pure Tryz.prog 24 [.is ((ws.take k).flatMap iF) (k - 0)] (.str (sB (jL (ws.take k)))):=by
 have h:=nF (ws.take k) (fun w hm=>hw w (GG hm)) (by rw[ZW];omega)
 have e:b9 (ws.take k)= .is ((ws.take k).flatMap iF) (k - 0):=by
  show PV.is _ (ws.take k).length=_
  rw[ZW,Fo hk]
  rfl
 rwa [e] at h
theorem PX{r:Bs}{e:Int}(he:e≠0):([101,114,114,111,114,32]++Lib.itoa e)++[10]=vr r e:=by
 unfold vr
 rw[if_neg he]
 show _=(Br++((32::Lib.itoa e)++[]))++[10]
 rw[ZR]
 rfl
theorem K9{e:Int}(h:0<=e∧e<=15)(he:e≠0):([101,114,114,111,114,32]++Lib.itoa e).length<=3000:=by
 have h2:=o8 (r:=[]) (e:=e) ⟨Zl _,h⟩
 rw[<- PX (r:=[]) he,Zb] at h2
 exact Nat.le_of_succ_le_succ h2
theorem fz.app{c im:Nat}{F:cK}{z:Bool}{H X:List ai}{q:P5}{qs:List P5}(h:fz c F z H q im qs):fz c F z (H++X) q im qs:=by
 have g:∀{i:Nat} {x:ai},H[i]? =some x->(H++X)[i]? =some x:=fun hx=>by
  rw[Zc (Za.1 hx).1];exact hx
 have g5:∀{q:P5} {b:bG},jD H q b->jD (H++X) q b:=fun h=>⟨g h.1,g h.2.1,g h.2.2.1,g h.2.2.2.1,g h.2.2.2.2⟩
 have gq:∀{qs:List P5} {bs:List bG},oW H qs bs->oW (H++X) qs bs:=fun h=>by
  induction h with
  | nil=>exact .nil
  | cons h _ ih=>exact .cons (g5 h) ih
 exact⟨g h.fl,g5 h.a5,g h.mb,h.mz,gq h.ats,h.nd,h.low⟩
theorem Uu{R:Option Nat}{N κ:Nat}{Q:Post}{T:Tm}{H:List ai}{o:Oper}{ops:Array Oper}{rest:List Oper}{f:Operand}{xs:Array Operand}{ts:Array TypeId}{fv:V}(d n:Nat)(hn:H.length=n)(p:Di.bB)(ws:List Bs)(ku:ws.length<=9223372036854775807)(hp:p.dies.length<=100)(h3:Di.dH p=true)
    (ho:o.op= .call {callee:= .value f,args:=xs,argTypes:=ts})(hd:o.dst=some d)(hN:bg N (some d)=true)(hg:o.guard=none)(hf:ev T f=some fv)(hxs:jR T xs.toList=some ([Di.bO p,b9 ws].map .p))(hc:callee ([Di.bO p,b9 ws].map .p) fv=some (20,[Di.bO p,b9 ws].map .p))(W6:ak Tryz.prog 20=true)
    (next:∀ z,(z=true->(cu (newF p) ws ws.length).marks=[])->aj Tryz.prog R N κ ops rest Q ((d,.ptr n 0)::T) (H++bS n (cu (newF p) ws ws.length) z)):aj Tryz.prog R N κ ops (o::rest) Q T H:=by
 refine aj.yA (Qp:=fun _ _=>False) d [] (Ba p ws ku hp h3).LI rfl rfl rfl (fun _ _ _=>⟨Zl _,fun j i y h=>by simp at h⟩) (fun _ _ h=>h.elim) ho hd hN hg hf hxs hc W6 (fun _ _ h=>h.elim) (fun v H2 gJ=> ?_)
 obtain⟨rfl,z,hz,rfl⟩:=gJ
 have e1:aX (dF H []) (.ptr 0 0)= .ptr n 0:=by
  show V.ptr (H.length+(0 - 0)) 0=_
  rw[hn];rfl
 have e2:bf H [] (bS 0 (cu (newF p) ws ws.length) z)=H++bS n (cu (newF p) ws ws.length) z:=by
  show H++(bS 0 _ z).map (aE (dF H []))=_
  rw[mI (c2:=n) (cY (L:=ws) (oN h3) ws.length).mm fun k hk=>by
   show some (H.length+(0+k - 0))=_
   rw[hn];congr 1;omega]
 rw[e1,e2]
 exact next z hz
theorem Cw(p:Di.bB)(ws:List Bs)(c:Nat)(hc:c<=255)(ku:ws.length<=9223372036854775807)(hpl:p.dies.length<=9223372036854775807)(h1:iV p ws=true):Pure Tryz.prog 7 [Di.bO p,b9 ws,.int .u8 (c:Int)] (.bool true):=by
 refine Kf (N:=156) Tryz.func7 ?_
 exact X4
theorem IT(p:Di.bB)(ws:List Bs)(c:Nat)(hc:c<=255)(ku:ws.length<=9223372036854775807)(hpl:p.dies.length<=9223372036854775807)(h1:iV p ws=false)(h2:∃ w∈ws,(10:UInt8)∈w):Pure Tryz.prog 7 [Di.bO p,b9 ws,.int .u8 (c:Int)] (.bool true):=by
 obtain⟨wD,qG,Ku⟩:=pJ h1
 refine Kf (N:=156) Tryz.func7 ?_
 iterate 8 refine af ?_
 refine Kc (Kl (.p (Di.bO p))) ?_
 refine af ?_
 refine Kc (Kp (nM p ws ku hpl)) ?_
 refine af ?_
 refine Ki (fun hc0=> ?_) fun hc0=> ?_
 ·exact Bu
 ·iterate 9 refine af ?_
  refine aB.cR [1,2,3,9,10,11,12,13,14,15,16,17,18,19,20,22,23,28,29,38,39,40,41,42,43,44,45,46,47,48,49,50,51,52,53,54,55,56,57,58,59,60,61,62,63,64,65,66,67,68,69,70,71,72,73,74,75,76,77,78,79,80,81,82,83,84,85,86,87,88,89,90,91,92,93,94,95,96,97,98,99,100,101,102,103,104,105,106,107,108,109,110,111,112,113,114,115,116,117,118,119,120,121,122,123,124,125,126,127,128,129,130,131,132,133,134,135,136,137,138,139,140,141,142,143,144,145,146,147,148,149,150,151,152,153,154,155] (fun g=>[(30,.p (.int .i64 ((g:Nat):Int)))]) (fun g=>[]) (fun g=>g<=ws.length∧∀ j,j<g->(10:UInt8)∉Di.gt [] ws j) (fun g=>ws.length - g) 0 ⟨Zl _,fun j hj=>absurd hj (Nat.not_lt_zero j)⟩ (To.sub (Sub.xx (Sub.cons rfl (Sub.nil)))) (fun k hg=> ?_)
  obtain⟨qm,hall⟩:=hg
  iterate 5 refine af ?_
  refine Ki (fun cF=> ?_) fun cF=> ?_
  ·have hk0:k<ws.length:=by have h:=Zf cF;omega
   iterate 5 refine af ?_
   refine Kc (aa.aJ (g:=Di.gt [] ws) (k:=k) (Di.aC _) rfl rfl rfl an kr rfl (fun _=>rfl) (by decide) hk0) ?_
   refine Kc (Kl (.p (.str (sB (Di.gt [] ws k))))) ?_
   iterate 5 refine af ?_
   refine Kc (Kp (sn (Di.gt [] ws k) 10 (Zz (wD _ (Di.bq [] hk0)) (by decide)))) ?_
   refine af ?_
   refine Ki (fun gW=> ?_) fun gW=> ?_
   ·iterate 2 refine af ?_
    refine Kc (Kp (iy)) ?_
    exact kL
   ·have hni:(10:UInt8)∉Di.gt [] ws k:=Zh gW
    iterate 2 refine af ?_
    refine Kc (aa.add (m:=((k+1:Nat):Int)) rfl rfl rfl ((aH ?_).trans ?_)) ?_
    ·omega
    ·omega
    iterate 2 refine af ?_
    refine⟨k+1,?_,?_,?_⟩
    ·exact⟨hk0,fun j hj=>by rcases ZZ.1 hj with h | rfl;exact hall j h;exact hni⟩
    ·omega
    exact wQ
  ·exfalso
   obtain⟨w,hw,h10⟩:=h2
   obtain⟨j,hj,rfl⟩:=LL hw
   exact hall j (by have h:=Zh cF;omega) h10
theorem Ff(p:Di.bB)(ws:List Bs)(c:Nat)(hc:c<=255)(ku:ws.length<=9223372036854775807)(hpl:p.dies.length<=9223372036854775807)(h1:iV p ws=false)(hno:∀ w∈ws,(10:UInt8)∉w)(h3:Di.dH p=false):Pure Tryz.prog 7 [Di.bO p,b9 ws,.int .u8 (c:Int)] (.bool true):=by
 obtain⟨wD,qG,Ku⟩:=pJ h1
 obtain⟨kc,ekc⟩:∃ kc,kc=c%(ws.length+1):=⟨_,rfl⟩
 have hkc:kc<=ws.length:=by have h:=Nat.mod_lt c (show 0<ws.length+1 by omega);omega
 have hj:=mQ wD qG ws.length
 rw[ZQ] at hj
 have BQ:p.dies.length<=100:=by omega
 have hrun:=lR p (jL ws) BQ
 rw[lI hno (by omega)] at hrun
 have tL:=lR p (jL (ws.take kc)) BQ
 rw[lI (fun w hm=>hno w (GG hm)) (Zz (mQ wD qG kc) (by decide))] at tL
 rw[if_pos h3] at hrun tL
 refine Kf (N:=156) Tryz.func7 ?_
 iterate 8 refine af ?_
 refine Kc (Kl (.p (Di.bO p))) ?_
 refine af ?_
 refine Kc (Kp (nM p ws ku hpl)) ?_
 refine af ?_
 refine Ki (fun hc0=> ?_) fun hc0=> ?_
 ·exact Bu
 ·iterate 9 refine af ?_
  refine aB.cR [1,2,3,9,10,11,12,13,14,15,16,17,18,19,20,22,23,28,29,38,39,40,41,42,43,44,45,46,47,48,49,50,51,52,53,54,55,56,57,58,59,60,61,62,63,64,65,66,67,68,69,70,71,72,73,74,75,76,77,78,79,80,81,82,83,84,85,86,87,88,89,90,91,92,93,94,95,96,97,98,99,100,101,102,103,104,105,106,107,108,109,110,111,112,113,114,115,116,117,118,119,120,121,122,123,124,125,126,127,128,129,130,131,132,133,134,135,136,137,138,139,140,141,142,143,144,145,146,147,148,149,150,151,152,153,154,155] (fun g=>[(30,.p (.int .i64 ((g:Nat):Int)))]) (fun g=>[]) (fun g=>g<=ws.length) (fun g=>ws.length - g) 0 (Zl _) (To.sub (Sub.xx (Sub.cons rfl (Sub.nil)))) (fun k hg=> ?_)
  iterate 5 refine af ?_
  refine Ki (fun cF=> ?_) fun cF=> ?_
  ·exact Ve
  ·refine aB.exit ?_
   iterate 2 refine af ?_
   refine Kc (Kl (.p (Di.bO p))) ?_
   refine Kc (Kp (yU p BQ h3)) ?_
   iterate 7 refine af ?_
   refine aB.az 9 mixed (by kernel_rfl) (by decide) ?_
   refine Kq (Kl (.p (Di.bO p))) ?_
   refine af ?_
   refine Kq (Kp (nF ws wD qG)) ?_
   refine Kq (Kp (hrun)) ?_
   refine af ?_
   refine Kq (aa.extract rfl rfl rfl) ?_
   refine Kq (aa.extract rfl rfl rfl) ?_
   iterate 2 refine af ?_
   refine ay.nil ?_
   iterate 4 refine af ?_
   refine Kc (aa.di rfl rfl (by rw[WA];rfl) yj (aH ?_)) ?_
   ·omega
   iterate 2 refine af ?_
   refine Kc (aa.add (m:=((ws.length+1:Nat):Int)) rfl rfl rfl ((aH ?_).trans ?_)) ?_
   ·omega
   ·omega
   refine Kc (aa.rem (m:=((kc:Nat):Int)) rfl rfl rfl ?_ ?_) ?_
   ·omega
   ·rw[ekc];exact(Int.ofNat_tmod _ _).symm
   iterate 3 refine af ?_
   refine aB.az 11 mixed (by kernel_rfl) (by decide) ?_
   refine Kq (Kl (.p (Di.bO p))) ?_
   iterate 2 refine af ?_
   refine Kq (aa.jI (l:=0) (h:=kc) (r:=((ws.take kc).flatMap iF)) rfl rfl an kr rfl ⟨_,rfl⟩ (by omega) (by omega) (VH (f:=iF) (c:=1) (fun _=>rfl) ws kc)) ?_
   refine Kq (Kp (xR ws wD qG kc hkc)) ?_
   refine Kq (Kp (tL)) ?_
   refine af ?_
   refine Kq (aa.extract rfl rfl rfl) ?_
   refine Kq (aa.extract rfl rfl rfl) ?_
   iterate 2 refine af ?_
   refine ay.nil ?_
   iterate 8 refine af ?_
   refine Kg 69 68 10 rfl (fun h=>(aa.move rfl rfl)) ?_
   refine Kg 70 68 15 rfl (fun h=>(aa.move rfl rfl)) ?_
   refine aj.g 71 68 rfl rfl rfl rfl rfl rfl rfl [(69,_),(70,_)] (fun h=>And.intro (.inr ⟨_,rfl,h⟩) (And.intro (.inr ⟨_,rfl,h⟩) (trivial))) (fun h=>(aa.neq rfl rfl rfl)) ?_
   refine Kc (aa.me rfl rfl rfl ?_) ?_
   ·exact eM
   refine af ?_
   refine aB.jT rfl ?_
   iterate 7 refine af ?_
   refine aB.pQ rfl ?_
   iterate 3 refine af ?_
   refine Kc (aa.uy rfl rfl rfl an) ?_
   refine af ?_
   refine Kg 78 77 11 rfl (fun h=>(aa.move rfl rfl)) ?_
   refine Kh 79 77 78 rfl rfl rfl rfl (fun h=>(aa.rV [] [] rfl rfl rfl)) ?_
   refine Kc (aa.dM rfl rfl rfl ?_) ?_
   ·exact eM
   refine af ?_
   refine Kg 82 81 14 rfl (fun h=>(aa.move rfl rfl)) ?_
   refine Kh 83 81 82 rfl rfl rfl rfl (fun h=>(aa.rV [] [] rfl rfl rfl)) ?_
   refine Kc (aa.dM rfl rfl rfl ?_) ?_
   ·exact eM
   refine af ?_
   refine aj.g 86 85 rfl rfl rfl rfl rfl rfl rfl [] (fun h=>trivial) (fun h=>(Kp (iy))) ?_
   exact Q1
theorem Hp(p:Di.bB)(ws:List Bs)(c:Nat)(hc:c<=255)(ku:ws.length<=9223372036854775807)(hpl:p.dies.length<=9223372036854775807)(h1:iV p ws=false)(hno:∀ w∈ws,(10:UInt8)∉w)(h3:Di.dH p=true):Pure Tryz.prog 7 [Di.bO p,b9 ws,.int .u8 (c:Int)] (.bool true):=by
 obtain⟨wD,qG,Ku⟩:=pJ h1
 obtain⟨kc,ekc⟩:∃ kc,kc=c%(ws.length+1):=⟨_,rfl⟩
 have hkc:kc<=ws.length:=by have h:=Nat.mod_lt c (show 0<ws.length+1 by omega);omega
 have hj:=mQ wD qG ws.length
 rw[ZQ] at hj
 have BQ:p.dies.length<=100:=by omega
 have hrun:=lR p (jL ws) BQ
 rw[lI hno (by omega)] at hrun
 have tL:=lR p (jL (ws.take kc)) BQ
 rw[lI (fun w hm=>hno w (GG hm)) (Zz (mQ wD qG kc) (by decide))] at tL
 rw[if_neg (by rw[h3];decide)] at hrun tL
 have WT:=lR p (jL ws++[109,97,114,107]) BQ
 rw[run_mark (by omega)] at WT
 have hW:=oN h3
 refine Kf (N:=156) Tryz.func7 ?_
 iterate 8 refine af ?_
 refine Kc (Kl (.p (Di.bO p))) ?_
 refine af ?_
 refine Kc (Kp (nM p ws ku hpl)) ?_
 refine af ?_
 refine Ki (fun hc0=> ?_) fun hc0=> ?_
 ·exact Bu
 ·iterate 9 refine af ?_
  refine aB.cR [1,2,3,9,10,11,12,13,14,15,16,17,18,19,20,22,23,28,29,38,39,40,41,42,43,44,45,46,47,48,49,50,51,52,53,54,55,56,57,58,59,60,61,62,63,64,65,66,67,68,69,70,71,72,73,74,75,76,77,78,79,80,81,82,83,84,85,86,87,88,89,90,91,92,93,94,95,96,97,98,99,100,101,102,103,104,105,106,107,108,109,110,111,112,113,114,115,116,117,118,119,120,121,122,123,124,125,126,127,128,129,130,131,132,133,134,135,136,137,138,139,140,141,142,143,144,145,146,147,148,149,150,151,152,153,154,155] (fun g=>[(30,.p (.int .i64 ((g:Nat):Int)))]) (fun g=>[]) (fun g=>g<=ws.length) (fun g=>ws.length - g) 0 (Zl _) (To.sub (Sub.xx (Sub.cons rfl (Sub.nil)))) (fun k hg=> ?_)
  iterate 5 refine af ?_
  refine Ki (fun cF=> ?_) fun cF=> ?_
  ·exact Ve
  ·refine aB.exit ?_
   iterate 2 refine af ?_
   refine Kc (Kl (.p (Di.bO p))) ?_
   refine aj.qA 40 (qf p BQ h3) rfl rfl rfl rfl rfl rfl rfl an (fun v H2 gJ=> ?_)
   obtain⟨rfl,rfl⟩:=gJ
   iterate 7 refine af ?_
   refine aB.az 9 mixed (by kernel_rfl) (by decide) ?_
   refine Kq (Kl (.p (Di.bO p))) ?_
   refine af ?_
   refine Kq (Kp (nF ws wD qG)) ?_
   refine Kq (Kp (hrun)) ?_
   refine af ?_
   refine Kq (aa.extract rfl rfl rfl) ?_
   refine Kq (aa.extract rfl rfl rfl) ?_
   iterate 2 refine af ?_
   refine ay.nil ?_
   iterate 4 refine af ?_
   refine Kc (aa.di rfl rfl (by rw[WA];rfl) yj (aH ?_)) ?_
   ·omega
   iterate 2 refine af ?_
   refine Kc (aa.add (m:=((ws.length+1:Nat):Int)) rfl rfl rfl ((aH ?_).trans ?_)) ?_
   ·omega
   ·omega
   refine Kc (aa.rem (m:=((kc:Nat):Int)) rfl rfl rfl ?_ ?_) ?_
   ·omega
   ·rw[ekc];exact(Int.ofNat_tmod _ _).symm
   iterate 3 refine af ?_
   refine aB.az 11 mixed (by kernel_rfl) (by decide) ?_
   refine Kq (Kl (.p (Di.bO p))) ?_
   iterate 2 refine af ?_
   refine Kq (aa.jI (l:=0) (h:=kc) (r:=((ws.take kc).flatMap iF)) rfl rfl an kr rfl ⟨_,rfl⟩ (by omega) (by omega) (VH (f:=iF) (c:=1) (fun _=>rfl) ws kc)) ?_
   refine Kq (Kp (xR ws wD qG kc hkc)) ?_
   refine Kq (Kp (tL)) ?_
   refine af ?_
   refine Kq (aa.extract rfl rfl rfl) ?_
   refine Kq (aa.extract rfl rfl rfl) ?_
   iterate 2 refine af ?_
   refine ay.nil ?_
   iterate 8 refine af ?_
   refine Kg 69 68 10 rfl (fun h=>(aa.move rfl rfl)) ?_
   refine Kg 70 68 15 rfl (fun h=>(aa.move rfl rfl)) ?_
   refine aj.g 71 68 rfl rfl rfl rfl rfl rfl rfl [(69,_),(70,_)] (fun h=>And.intro (.inr ⟨_,rfl,h⟩) (And.intro (.inr ⟨_,rfl,h⟩) (trivial))) (fun h=>(aa.neq rfl rfl rfl)) ?_
   refine Kc (aa.me rfl rfl rfl ?_) ?_
   ·exact eM
   refine af ?_
   refine aB.jT rfl ?_
   iterate 7 refine af ?_
   refine aB.jT rfl ?_
   iterate 13 refine af ?_
   refine aB.cR [1,3,9,11,13,14,22,23,88,89,119,120,121,122,123,124,125,126,127,128,129,130,131,132,133,134,135,136,137,138,139,140,141,142,143,144,145,146,147,148,149,150,151,152,153,154,155] (fun g=>[(90,.p (.int .i64 ((g.1:Nat):Int))),(16,.p (.str (sB (jE (newF p) ws g.1))))]) (fun g=>(bS 0 (cu (newF p) ws g.1) g.2)) (fun g=>g.1<=ws.length∧(g.2=true->(cu (newF p) ws g.1).marks=[])) (fun g=>ws.length - g.1) (0,true) ⟨Zl _,fun _=>rfl⟩ (To.sub KS) (fun g hg=> ?_)
   obtain⟨i,z⟩:=g
   obtain⟨hil,hz⟩:=hg
   dsimp only at hil hz ⊢
   iterate 5 refine af ?_
   refine Ki (fun xg=> ?_) fun xg=> ?_
   ·have ov:i<ws.length:=by have h:=Zf xg;omega
    iterate 6 refine af ?_
    refine Kc (aa.aJ (g:=Di.gt [] ws) (k:=i) (Di.aC _) rfl rfl rfl an kr rfl (fun _=>rfl) (by decide) ov) ?_
    refine Kc (Kl (.p (.str (sB (Di.gt [] ws i))))) ?_
    iterate 10 refine af ?_
    refine Kg 99 98 16 rfl (fun h=>(aa.move rfl rfl)) ?_
    refine Kg 100 98 14 rfl (fun h=>(aa.move rfl rfl)) ?_
    refine aj.g 101 98 rfl rfl rfl rfl rfl rfl rfl [(99,_),(100,_)] (fun h=>And.intro (.inr ⟨_,rfl,h⟩) (And.intro (.inr ⟨_,rfl,h⟩) (trivial))) (fun h=>(aa.qq (jE (newF p) ws i) (kV (newF p) (ws.take kc)) rfl rfl rfl)) ?_
    refine Kc (aa.dM rfl rfl rfl ?_) ?_
    ·exact eM
    refine af ?_
    refine Ki (fun wO=> ?_) fun wO=> ?_
    ·exfalso
     rw[Zo] at wO
     have e1:i=kc:=by have h:=Zf wO.1;omega
     have e2:=nX (newF p) ws i hil
     rw[e2,e1] at wO
     simp at wO
    ·iterate 5 refine af ?_
     refine BJ 106 [] (cu (newF p) ws i) z (Di.gt [] ws i) (cY (L:=ws) hW i) hz (fun i x h=>by simp at h) (Zl _) rfl rfl rfl rfl rfl rfl an (T2:=[(9,.ptr 0 0),(1,.p (b9 ws)),(3,.p (.ip p.cells 0)),(11,.p (.str (sB (kV (newF p) ws)))),(13,.p (.int .i64 ((kc:Nat):Int))),(14,.p (.str (sB (kV (newF p) (ws.take kc))))),(16,.p (.str (sB (jE (newF p) ws i)))),(88,.p (b9 ws)),(89,.p (.int .i64 (ws.length:Int))),(90,.p (.int .i64 ((i:Nat):Int)))]) KS rfl (fun z2 wm=> ?_)
     show aj _ _ _ _ _ _ _ _ (bS 0 (cu (newF p) ws (i+1)) z2)
     obtain⟨hl1,rG,KO⟩:=yH (s:=(Di.gt [] ws i)) (cY (L:=ws) hW i)
     have hol:=nB (L:=ws) hW i
     iterate 12 refine af ?_
     refine Ki (fun UN=> ?_) fun UN=> ?_
     ·have hne:(aG (cu (newF p) ws i) (Di.gt [] ws i)).2.2≠0:=by simpa using UN
      iterate 2 refine af ?_
      refine Kc (Kp (kZ (aG (cu (newF p) ws i) (Di.gt [] ws i)).2.2 (by omega) (by omega))) ?_
      refine Kc (aa.ia [101,114,114,111,114,32] (Lib.itoa (aG (cu (newF p) ws i) (Di.gt [] ws i)).2.2) rfl rfl rfl (by have h:=K9 ⟨rG,KO⟩ hne;rw[Zb] at h;omega)) ?_
      iterate 5 refine af ?_
      exact Px
     ·have sR:(aG (cu (newF p) ws i) (Di.gt [] ws i)).2.2=0:=by simpa using UN
      iterate 4 refine af ?_
      exact Px
   ·have hie:i=ws.length:=by have h:=Zh xg;omega
    subst hie
    refine aB.exit ?_
    refine af ?_
    refine aB.az 10 mixed (by kernel_rfl) (by decide) ?_
    refine Kq (Kl (.p (Di.bO p))) ?_
    refine af ?_
    refine Kq (Kp (nF ws wD qG)) ?_
    refine Kq (aa.ia (jL ws) [109,97,114,107] rfl rfl rfl (by simp;omega)) ?_
    refine Kq (Kp (WT)) ?_
    refine af ?_
    refine Kq (aa.extract rfl rfl rfl) ?_
    refine Kq (aa.extract rfl rfl rfl) ?_
    iterate 2 refine af ?_
    refine ay.nil ?_
    iterate 3 refine af ?_
    refine Kc (Kl (.p (Di.bO p))) ?_
    refine af ?_
    refine Uu 129 47 (e8 (cY (L:=ws) hW ws.length).mm) p ws ku BQ h3 rfl rfl rfl rfl rfl rfl rfl an (fun z4 Y9=> ?_)
    have hF:=cY (L:=ws) hW ws.length
    have eO:=nX (newF p) ws ws.length (Zg _)
    rw[ZQ] at eO
    have hA1:=fz.app (X:=bS 47 (cu (newF p) ws ws.length) z4) (lQ [] (cu (newF p) ws ws.length) z hz)
    have hA2:=lQ (bS 0 (cu (newF p) ws ws.length) z) (cu (newF p) ws ws.length) z4 Y9
    rw[e8 hF.mm] at hA2
    generalize cu (newF p) ws ws.length=F at hF hz Y9 hA1 hA2 ⊢
    have hb:=hF.b
    obtain⟨u,hu⟩:=hb.Dd
    have PG:=ew hu
    have hcl:=Rx.cx hb.cd
    have hsk:=hb.sk
    have hdr:=hb.dr
    iterate 6 refine af ?_
    refine Kc (aa.rV (jE (newF p) ws ws.length) (kV (newF p) ws) rfl rfl rfl) ?_
    refine af ?_
    refine Kg 134 133 11 rfl (fun h=>(aa.move rfl rfl)) ?_
    refine Kg 135 133 14 rfl (fun h=>(aa.move rfl rfl)) ?_
    refine aj.g 136 133 rfl rfl rfl rfl rfl rfl rfl [(134,_),(135,_)] (fun h=>And.intro (.inr ⟨_,rfl,h⟩) (And.intro (.inr ⟨_,rfl,h⟩) (trivial))) (fun h=>(Kp (yD (kV (newF p) ws) (kV (newF p) (ws.take kc))))) ?_
    refine Kc (aa.dM rfl rfl rfl ?_) ?_
    ·exact eM
    refine af ?_
    refine Kg 139 138 22 rfl (fun h=>(aa.move rfl rfl)) ?_
    refine Kh 140 138 139 rfl rfl rfl rfl (fun h=>(aa.eql rfl rfl rfl)) ?_
    refine Kc (aa.dM rfl rfl rfl ?_) ?_
    ·exact eM
    refine af ?_
    refine Kg 143 142 23 rfl (fun h=>(aa.move rfl rfl)) ?_
    refine Kh 144 142 143 rfl rfl rfl rfl (fun h=>(aa.NZ rfl rfl rfl an)) ?_
    refine Kc (aa.dM rfl rfl rfl ?_) ?_
    ·exact eM
    refine af ?_
    refine Kg 147 146 9 rfl (fun h=>(aa.move rfl rfl)) ?_
    refine Kh 148 146 147 rfl rfl rfl rfl (fun h=>(vO hF hA1 rfl rfl rfl rfl an)) ?_
    refine Kg 149 146 23 rfl (fun h=>(aa.move rfl rfl)) ?_
    refine Kh 150 146 149 rfl rfl rfl rfl (fun h=>(vO hF hA2 rfl rfl rfl rfl an)) ?_
    refine aj.g 151 146 rfl rfl rfl rfl rfl rfl rfl [(148,_),(150,_)] (fun h=>And.intro (.inr ⟨_,rfl,h⟩) (And.intro (.inr ⟨_,rfl,h⟩) (trivial))) (fun h=>(Kp (J0 F.b (by omega) (by omega) (by omega) (by omega)))) ?_
    refine Kc (aa.dM rfl rfl rfl ?_) ?_
    ·exact eM
    refine af ?_
    refine aj.g 154 153 rfl rfl rfl rfl rfl rfl rfl [] (fun h=>trivial) (fun h=>(Kp (iy))) ?_
    refine Kc (aa.dM rfl rfl rfl ?_) ?_
    ·exact eM
    iterate 3 refine af ?_
    refine Fin.gw rfl rfl ?_
    rw[eO,Mq]
    simp
theorem JF(p:Di.bB)(ws:List Bs)(c:Nat)(hc:c<=255)(ku:ws.length<=9223372036854775807)(hpl:p.dies.length<=9223372036854775807):Pure Tryz.prog 7 [Di.bO p,b9 ws,.int .u8 (c:Int)] (.bool true):=by
 cases h1:iV p ws with
 | true=>exact Cw p ws c hc ku hpl h1
 | false=>
  by_cases h2:∃ w∈ws,(10:UInt8)∈w
  ·exact IT p ws c hc ku hpl h1 h2
  ·have hno:∀ w∈ws,(10:UInt8)∉w:=fun w hw h=>h2 ⟨w,hw,h⟩
   cases h3:Di.dH p with
   | false=>exact Ff p ws c hc ku hpl h1 hno h3
   | true=>exact Hp p ws c hc ku hpl h1 hno h3
theorem sN{x0 x1 x2:List PV}(h0:l7 DB x0)(h1:l7 [.sl [.leaf .string]] x1)(h2:l7 [.leaf (.int .u8)] x2):Pure Tryz.prog 7 [wh true x0,wh false x1,wh false x2] (.bool true):=by
 obtain⟨p,rfl,hp⟩:=CI h0
 obtain⟨ws,rfl,hw⟩:=yZ h1
 obtain⟨c,rfl,hc⟩:=Ln h2
 exact JF p ws c hc hw hp
def Io:Bs:=[119,101,97,114,32]
def Jc:Bs:=[102,114,111,109,32]
theorem A9:∀ i,i<8->(Io++Lib.itoa (i:Nat)).length<=120∧cB (Io++Lib.itoa ((i:Nat):Int))=some (.wear,[((i:Nat):Int)]):=by decide+kernel
theorem Ap:∀ i,i<256->(Jc++Lib.itoa (i:Nat)).length<=120∧cB (Jc++Lib.itoa ((i:Nat):Int))=some (.from_,[((i:Nat):Int)]):=by decide+kernel
theorem pK{F:cK}{s:Bs}{v:Vb}{n:List Int}(h:s.length<=120∧cB s=some (v,n)):aG F s=br F v n:=by
 unfold aG
 rw[if_neg (by omega),h.2]
theorem B1(F:cK):aG F [98,108,97,109,101]=br F .blame []:=pK (by decide+kernel)
theorem FM(F:cK):aG F [99,97,108,108]=br F .call []:=pK (by decide+kernel)
theorem tn{p:Di.bB}{j:Nat}{u:Int}(hp:Di.dH p=true)(hj:j<p.dies.length)(hu:0<=u∧u<=8000):(Di.bT p j u).2=0:=by
 unfold Di.bT
 rw[if_neg (by rw[hp];decide),if_neg]
 unfold Di.iL
 simp only[YV,TT]
 omega
theorem D2{F:cK}(hF:mo F){v:List Int}{m:Int}(h:Di.fR F.aP F.b.aq F.b.plan=(some v,m,0)){i:Nat}(hi:i<F.aP.dies.length):(Di.bT F.aP i (Di.gt 0 v i)).2=0∧(0<=Di.gt 0 v i∧Di.gt 0 v i<=8000)∧br F .wear [((i:Nat):Int)]=(F,aS Vb.wear.t [Di.gt 0 v i,(Di.bT F.aP i (Di.gt 0 v i)).1.1,(Di.bT F.aP i (Di.gt 0 v i)).1.2],0):=by
 obtain⟨k1,k2'⟩:=tR h
 have k2:∀ j,j<F.aP.dies.length->Di.gt 0 v j=dU F.b j:=fun j hj=>k2' j (by omega)
 have hb:=hF.b
 have hp:=ew h
 have hu:=yo (b:=F.b) (d:=((i:Nat):Int)) (fun w hw=>by
  have:=(pI h).2
  unfold Di.kg at this
  simp only[Zo,D0,LV] at this
  simpa using this.2 w hw) hp F.b.plan.length (Zg _)
 have h8:=hb.dr
 have GC:0<=Di.gt 0 v i∧Di.gt 0 v i<=8000:=by
  rw[k2 i hi]
  unfold dU
  omega
 refine⟨tn hF.p hi GC,GC,?_⟩
 have e:nn [((i:Nat):Int)] 0=((i:Nat):Int):=rfl
 unfold br
 dsimp only
 rw[e,if_neg (by omega),k2 i hi]
theorem Gp(w:Bs)(a b:List Int):aS (aS w a) b=aS w (a++b):=by
 unfold aS
 rw[FQ,ZL]
section
variable {P:Program} {N κ:Nat} {T T2:Tm} {F:cK} {z:Bool} {xs:List PV} {e:TypeId}
theorem uT:∀(us cs:List V) (k:Nat),k+us.length=cs.length->setAt cs k us=cs.take k++us
 | [],cs,k,h=>by
  have h:k=cs.length:=h
  rw[h,ZQ,ZR];cases cs <;> rfl
 | v::us,cs,k,h=>by
  rw[Zn] at h
  show setAt (cs.set k v) (k+1) us=_
  rw[uT us (cs.set k v) (k+1) (by rw[wS];omega),OY (by rw[wS];omega),List.getElem_set_self,List.take_set,List.set_eq_of_length_le (by rw[ZW];omega),ZL]
  rfl
theorem zd{h:List ai}{cs us:List V}(hu:us.length=cs.length):gy (h++[.cells cs e]) h.length 0 us=some (h++[.cells us e]):=by
 have hx:(h++[ai.cells cs e])[h.length]? =some (.cells cs e):=by simp
 simp only[gy,hx]
 have hs:setAt cs 0 us=us:=uT us cs 0 (by omega)
 rw[zq,if_pos (by omega),hs,mJ]
end
theorem Da{R:Option Nat}{N:Nat}{Q:Post}{T T2:Tm}{o:Oper}{ops:Array Oper}{rest:List Oper}{f:Operand}{xs:Array Operand}{ts:Array TypeId}(d:Nat)(F:cK)(z:Bool)(s:Bs){r:Bs}{e:Int}(hF:mo F)(hz:z=true->F.marks=[])(hl0:aG F s=(F,r,e))
    (ho:o.op= .call {callee:= .value f,args:=xs,argTypes:=ts})(hd:o.dst=some d)(hN:bg N (some d)=true)(hg:o.guard=none)(hf:ev T f=some (.p (.func (.func 15) [] [])))(hxs:jR T xs.toList=some [.ptr 0 0,.p (.str (sB s))])(W6:ak Tryz.prog 15=true)(hT:Sub T2 T)(hl:eX (below 1) T2=T2)
    (next:∀ z',(z'=true->F.marks=[])->aj Tryz.prog R N 0 ops rest Q ((d,.p (.tuple [.str (sB r),.int .i64 e]))::T2) (bS 0 F z')):aj Tryz.prog R N 0 ops (o::rest) Q T (bS 0 F z):=by
 have e1:(aG F s).1=F:=by rw[hl0]
 have e2:tX F s= .p (.tuple [.str (sB r),.int .i64 e]):=by unfold tX;rw[hl0]
 refine BJ d [] F z s hF hz (fun i x h=>by simp at h) (Zl _) ho hd hN hg hf hxs W6 hT hl (fun z' hz'=> ?_)
 rw[e1] at hz'
 show aj _ _ _ _ _ _ _ _ (bS 0 (aG F s).1 z')
 rw[e1,e2]
 exact next z' hz'
theorem Dk{P:Program}{F:cK}{z:Bool}(hm:F.marks.length<=8):UE P (bS 0 F z):=vz (by
 rw[e8 hm]
 intro x h
 have hr:=mI (c:=0) (c2:=0) (F:=F) (z:=z) (σ:=below 47) hm fun k hk=>by unfold below;rw[if_pos (by simp[Nat.blt];omega)]
 obtain⟨i,hi,rfl⟩:=Ni h
 have:=congrArg (fun l=>l[i]?) hr
 simp only[Zu,Zd hi,MZ] at this
 exact Zw this)
def lX(n i:Nat):List Int:=((List.range i).filter fun k=>n.testBit k).map fun(k:Nat)=>(k:Int)
theorem wW(n i:Nat):lX n (i+1)=lX n i++if n.testBit i then[(i:Int)] else[]:=by
 unfold lX
 rw[List.range_succ,List.filter_append,ZH]
 congr 1
 by_cases h:n.testBit i=true
 ·simp[h]
 ·simp[h]
theorem Bp(n i:Nat):(lX n i).length<=i:=by
 unfold lX
 rw[Zq]
 have:=List.length_filter_le (fun k=>n.testBit k) (List.range i)
 rwa [GI] at this
theorem R6(n i:Nat)(hi:i<=24):∀ x∈lX n i,0<=x∧x<10000000000000:=fun x hx=>by
 unfold lX at hx
 exact Yg
theorem Lj(n i:Nat):decide (((n / 2^i&&& 1:Nat):Int)=1)=n.testBit i:=by
 rw[Nat.and_one_is_mod,Nat.testBit_eq_decide_div_mod_eq]
 exact Ey
theorem lY(w:Bs)(l:List Int)(x:Int):(aS w l++[32])++Lib.itoa x=aS w (l++[x]):=by
 rw[<- Gp,ZL]
 unfold aS
 simp
theorem fk{l:List Int}{k:Nat}(h:k<l.length):l.take (k+1)=l.take k++[Di.gt 0 l k]:=by
 rw[OY h,Di.aC 0 k h]
theorem Pure.Th{P:Program}{f:FuncId}{a b r:PV}(h:Pure P f [a,.is [] 0,b] r):Pure P f [a,.nilSlice,b] r:=
 ax.Pu h fun w I ρ us hu=>by
  obtain⟨u1,s1,rfl,h1,u2,s2,rfl,h2,h3⟩:=hu
  exact⟨u1,_,rfl,h1,u2,_,rfl,Rel.HZ h2,h3⟩
def s15:Bs:=[115,97,99,107,32,49,48,32,50,48,32,57,48,48,32,57,53,48,32,48,32,48,10,115,97,99,107,32,49,48,48,32,49,53,48,32,48,32,48,32,49,48,48,32,49,50,48,10,108,101,97,100,32,48,32,54,48,48,32,49,32,53,48,53,32,48,32,52,48,32,49,56,48,48,32,49,57,48,48,10,119,101,97,114,32,48,10,102,114,111,109,32,50,10]
def YN:Bs:=[115,97,99,107,32,48,32,99,97,114,100,32,48,10,115,97,99,107,32,49,32,99,97,114,100,32,49,10,99,97,114,100,32,50,32,115,104,97,114,101,32,53,51,48,32,53,56,49,10,119,101,97,114,32,52,48,32,49,56,51,54,32,49,56,57,51,10,102,114,111,109,32,48,32,49,32,50,10]
set_option maxRecDepth 1000000 in
theorem NI:nZ AW s15=(YN,0):=by decide+kernel
theorem MR(F:cK):aG F [98,108,97,109,101]=(F,if Rx.fW F.b.ag F.b.bad F.b.good=0 then aS [98,108,97,109,101] (fB (Rx.jg F.b.ag F.b.bad F.b.good)) else[],Rx.fW F.b.ag F.b.bad F.b.good):=by
 rw[B1]
 exact PW
theorem Sw(F:cK):aG F [99,97,108,108]=(F,if Rx.fW F.b.ag F.b.bad F.b.good=0 then aS [99,97,108,108] ([(Rx.fF F.b.ag F.b.bad F.b.good).1,(Rx.fF F.b.ag F.b.bad F.b.good).2]++fB (Rx.lf F.b.ag F.b.bad F.b.good)) else[],Rx.fW F.b.ag F.b.bad F.b.good):=by
 rw[FM]
 exact PW
theorem TJ(F:cK){c:Nat}(hc:c<=255):aG F ([102,114,111,109,32]++Lib.itoa ((c:Nat):Int))=(F,if Rx.dV F.b.ag c=0 then aS [102,114,111,109] (fB (Rx.gE F.b.ag (Rx.bE F.b.ag) c)) else[],Rx.dV F.b.ag c):=by
 refine(pK (Ap c (by omega))).trans ?_
 have e:nn [((c:Nat):Int)] 0=((c:Nat):Int):=rfl
 unfold br
 dsimp only
 rw[e]
 by_cases h:Rx.dV F.b.ag c=0
 ·rw[if_neg (by omega),if_pos h,h];rfl
 ·rw[if_pos h,if_neg h]
theorem R4{F:cK}(hF:mo F){v:List Int}{m:Int}(h:Di.fR F.aP F.b.aq F.b.plan=(some v,m,0)){i:Nat}(hi:i<F.aP.dies.length)(h8:F.aP.dies.length<=8):aG F ([119,101,97,114,32]++Lib.itoa ((i:Nat):Int))=(F,aS [119,101,97,114] [Di.gt 0 v i,(Di.bT F.aP i (Di.gt 0 v i)).1.1,(Di.bT F.aP i (Di.gt 0 v i)).1.2],0):=
 (pK (A9 i (by omega))).trans (D2 hF h hi).2.2
theorem Ib:Pure Tryz.prog 11 [Di.bO AW,.str (sB s15)] (.tuple [.str (sB YN),.int .i64 0]):=by
 have h:=lR AW s15 (by decide)
 rw[NI] at h
 exact h
theorem uO:Pure Tryz.prog 27 [] (.bool true):=by
 refine Kf (N:=22) Tryz.func27 ?_
 iterate 10 refine af ?_
 refine Kc (aa.aU rfl an (by decide) rfl rfl rfl) ?_
 iterate 7 refine af ?_
 refine Kc (Kl (.p (Di.bO AW))) ?_
 refine Kc (Kp (Ib)) ?_
 iterate 9 refine af ?_
 refine Kc (aa.rV YN YN rfl rfl rfl) ?_
 refine af ?_
 refine Kg 19 18 3 rfl (fun h=>(aa.move rfl rfl)) ?_
 refine Kh 20 18 19 rfl rfl rfl rfl (fun h=>(aa.eql rfl rfl rfl)) ?_
 exact MG
theorem SR{n i:Nat}(h:n.testBit i=true):lX n (i+1)=lX n i++[(i:Int)]:=by rw[wW,if_pos h]
theorem Ru{n i:Nat}(h:n.testBit i=false):lX n (i+1)=lX n i:=by rw[wW,if_neg (by rw[h];decide),ZR]
theorem X3{w:Bs}{l:List Int}(hw:w.length<=100)(hl:l.length<=10)(hB:∀ x∈l,0<=x∧x<10000000000000)(k:Nat):(aS w (l.take k)).length+[(32:UInt8)].length<9223372036854775808:=by
 have h:=iH (w:=w) (l:=l.take k) fun x hx=>hB x (GG hx)
 have h2:(l.take k).length<=10:=by rw[ZW];omega
 show _+1<_
 omega
theorem aai{w:Bs}{l:List Int}{k:Nat}(hw:w.length<=100)(hl:l.length<=10)(hB:∀ x∈l,0<=x∧x<10000000000000)(hk:k<l.length):(aS w (l.take k)++[32]).length+(Lib.itoa (Di.gt 0 l k)).length<9223372036854775808:=by
 rw[<- Zb,lY,<- fk hk]
 have h:=iH (w:=w) (l:=l.take (k+1)) fun x hx=>hB x (GG hx)
 have h2:(l.take (k+1)).length<=10:=by rw[ZW];omega
 omega
theorem Wh{w:Bs}{l:List Int}{n i:Nat}(hw:w.length<=100)(hl:l.length<=10)(hB:∀ x∈l,0<=x∧x<10000000000000)(hi:i<24):(aS w (l++lX n i)).length+[(32:UInt8)].length<9223372036854775808:=by
 have h:=iH (w:=w) (l:=l++lX n i) fun x hx=>by
  exact Vh
 have h2:=Bp n i
 rw[Zb] at h
 show _+1<_
 omega
theorem aav{w:Bs}{l:List Int}{n i:Nat}(hw:w.length<=100)(hl:l.length<=10)(hB:∀ x∈l,0<=x∧x<10000000000000)(hi:i<24):(aS w (l++lX n i)++[32]).length+(Lib.itoa (i:Int)).length<9223372036854775808:=by
 rw[<- Zb,lY]
 have h:=iH (w:=w) (l:=l++lX n i++[(i:Int)]) fun x hx=>by
  rcases Zp.1 hx with hx | hx
  ·exact Vh
  ·rw[ZK.1 hx];omega
 have h2:=Bp n i
 rw[Zb,Zb,Tb] at h
 omega
theorem rT(w:Bs)(l:List Int)(n:Nat)(hw:w.length<=100)(hl:l.length<=10)(hB:∀ x∈l,0<=x∧x<10000000000000)(hn:n<=1099511627776):Pure Tryz.prog 29 [.str (sB w),Di.bI l,.int .i64 (n:Int)] (.str (sB (aS w (l++fB n)))):=by
 refine Kf (N:=37) Tryz.func29 ?_
 iterate 12 refine af ?_
 refine aB.cR [2,6,9,10,11,22,23,24,25,26,27,28,29,30,31,32,33,34,35,36] (fun g=>[(12,.p (.int .i64 ((g:Nat):Int))),(0,.p (.str (sB (aS w (l.take g)))))]) (fun g=>[]) (fun g=>g<=l.length) (fun g=>l.length - g) 0 (Zl _) (To.sub (Sub.cons rfl (Sub.cons (by rw[LN];unfold aS;rw[List.flatMap_nil,ZR];rfl) KS))) (fun k hg=> ?_)
 iterate 5 refine af ?_
 refine Ki (fun hc0=> ?_) fun hc0=> ?_
 ·have hk0:k<l.length:=by have h:=Zf hc0;omega
  have hx:=hB _ (Di.bq 0 hk0)
  have hBk:∀ x∈l.take k,0<=x∧x<10000000000000:=fun x hx=>hB x (GG hx)
  iterate 5 refine af ?_
  refine Kc (aa.aJ (g:=Di.gt 0 l) (k:=k) (Di.aC _) rfl rfl rfl an dA rfl (fun _=>rfl) (by decide) hk0) ?_
  refine Kc (Kl (.p (.int .i64 (Di.gt 0 l k)))) ?_
  iterate 4 refine af ?_
  refine Kc (aa.ia (aS w (l.take k)) [32] rfl rfl rfl (X3 hw hl hB k)) ?_
  refine af ?_
  refine Kc (Kp (kZ (Di.gt 0 l k) hx.1 hx.2)) ?_
  refine Kc (aa.ia (aS w (l.take k)++[32]) (Lib.itoa (Di.gt 0 l k)) rfl rfl rfl (aai hw hl hB hk0)) ?_
  iterate 3 refine af ?_
  refine Kc (aa.add (m:=((k+1:Nat):Int)) rfl rfl rfl ((aH ?_).trans ?_)) ?_
  ·omega
  ·omega
  iterate 2 refine af ?_
  refine⟨k+1,?_,?_,?_⟩
  ·exact hk0
  ·omega
  rw[lY,<- fk hk0]
  exact wQ
 ·have Jq:k=l.length:=by have h:=Zh hc0;omega
  subst Jq
  refine aB.exit ?_
  iterate 6 refine af ?_
  refine aB.cR [2,6,36] (fun g=>[(9,.p (.int .i64 ((g:Nat):Int))),(0,.p (.str (sB (aS w (l++lX n g)))))]) (fun g=>[]) (fun g=>g<=24) (fun g=>24 - g) 0 (Zl _) (To.sub (Sub.cons rfl (Sub.cons (by rw[ZQ];show some _=some _;rw[show lX n 0=[] from rfl,ZR]) KS))) (fun i hg=> ?_)
  iterate 6 refine af ?_
  refine Ki (fun cF=> ?_) fun cF=> ?_
  ·have ov:i<24:=by have h:=Zf cF;omega
   have W4:=Nat.div_le_self n (2^i)
   iterate 7 refine af ?_
   refine Kc (aa.vQ n i rfl rfl rfl (by first | decide | (show _<=(9223372036854775807:Int);omega) | (show _<=(4294967295:Int);omega) | (show _<=(18446744073709551615:Int);omega) | (show _<=(255:Int);omega) | (show _<=(65535:Int);omega))) ?_
   refine Kc (aa.nh (n / 2^i) 1 rfl rfl rfl (by first | (show _<=(9223372036854775807:Int);omega) | (show _<=(4294967295:Int);omega) | (show _<=(18446744073709551615:Int);omega) | (show _<=(255:Int);omega) | (show _<=(65535:Int);omega)) (by first | decide | (show _<=(9223372036854775807:Int);omega) | (show _<=(4294967295:Int);omega) | (show _<=(18446744073709551615:Int);omega) | (show _<=(255:Int);omega) | (show _<=(65535:Int);omega))) ?_
   iterate 2 refine af ?_
   refine Ki (fun gW=> ?_) fun gW=> ?_
   ·have hb:n.testBit i=true:=by rw[<- Lj];exact gW
    iterate 2 refine af ?_
    refine Kc (aa.ia (aS w (l++lX n i)) [32] rfl rfl rfl (Wh hw hl hB ov)) ?_
    refine af ?_
    refine Kc (Kp (kZ (i:Int) (by omega) (by omega))) ?_
    refine Kc (aa.ia (aS w (l++lX n i)++[32]) (Lib.itoa (i:Int)) rfl rfl rfl (aav hw hl hB ov)) ?_
    iterate 4 refine af ?_
    exact Yl
   ·have hb:n.testBit i=false:=by rw[<- Lj];exact gW
    iterate 3 refine af ?_
    exact Yl
  ·have hie:i=24:=by have h:=Zh cF;omega
   subst hie
   refine aB.exit ?_
   iterate 6 refine af ?_
   exact Df
theorem vj(w:Bs)(n:Nat)(hw:w.length<=100)(hn:n<=1099511627776):Pure Tryz.prog 29 [.str (sB w),.nilSlice,.int .i64 (n:Int)] (.str (sB (aS w (fB n)))):=Pure.Th (rT w [] n hw (by decide) (fun x h=>by cases h) hn)
theorem JY(w:Bs)(l:List Int)(hw:w.length<=100)(hl:l.length<=10)(hB:∀ x∈l,0<=x∧x<10000000000000):Pure Tryz.prog 29 [.str (sB w),Di.bI l,.int .i64 0] (.str (sB (aS w l))):=by
 have h:=rT w l 0 hw hl hB (Zl _)
 rw[show fB 0=[] from by decide,ZR] at h
 exact h
theorem VM{l:List Rx.bM}{b g:Int}(hC:Rx.bR l):Rx.jg l b g<=1099511627776:=Zz (aa2 hC) (by decide)
theorem Ss{l:List Rx.bM}{b g:Int}(hC:Rx.bR l):Rx.lf l b g<=1099511627776:=Zz (Ys hC) (by decide)
theorem XF{l:List Rx.bM}(hC:Rx.bR l)(b:Int):Rx.gE l (Rx.bE l) b<=1099511627776:=Zz (TU hC b) (by decide)
theorem V2{l:List Rx.bM}{b g:Int}(hC:Rx.bR l):∀ x∈[(Rx.fF l b g).1,(Rx.fF l b g).2],0<=x∧x<10000000000000:=by
 have h:=CS (bad:=b) (good:=g) hC
 exact IN (by omega) (by omega)
theorem Tl{p:Di.bB}{j u:Int}(h:0<=u∧u<=8000):∀ x∈[u,(Di.bT p j u).1.1,(Di.bT p j u).1.2],0<=x∧x<10000000000000:=by
 have h2:=CT (p:=p) (j:=j) (u:=u)
 exact DF (by omega) (by omega) (by omega)
theorem Ma(p:Di.bB)(ws:List Bs)(c:Nat)(hc:c<=255)(ku:ws.length<=9223372036854775807)(hpl:p.dies.length<=9223372036854775807)(h1:8<p.dies.length∨30<ws.length):Pure Tryz.prog 8 [Di.bO p,b9 ws,.int .u8 (c:Int)] (.bool true):=by
 refine Kf (N:=263) Tryz.func8 ?_
 iterate 9 refine af ?_
 refine Kc (Kl (.p (Di.oB p.dies))) ?_
 iterate 3 refine af ?_
 refine Kg 31 30 1 rfl (fun h=>(aa.move rfl rfl)) ?_
 refine Kh 32 30 31 rfl rfl rfl rfl (fun h=>(aa.aQ rfl rfl an rfl)) ?_
 refine Kh 33 30 32 rfl rfl rfl rfl (fun h=>(aa.gtr rfl rfl rfl)) ?_
 refine Kc (aa.me rfl rfl rfl ?_) ?_
 ·exact eM
 refine af ?_
 refine Ki (fun hc0=> ?_) fun hc0=> ?_
 ·exact JI
 ·exact BZ
theorem SM(p:Di.bB)(ws:List Bs)(c:Nat)(hc:c<=255)(ku:ws.length<=9223372036854775807)(hpl:p.dies.length<=9223372036854775807)(h1:¬ (8<p.dies.length∨30<ws.length))(h3:Di.dH p=false):Pure Tryz.prog 8 [Di.bO p,b9 ws,.int .u8 (c:Int)] (.bool true):=by
 have Ws:p.dies.length<=8:=by omega
 have Ye:ws.length<=30:=by omega
 have BQ:p.dies.length<=100:=by omega
 refine Kf (N:=263) Tryz.func8 ?_
 iterate 9 refine af ?_
 refine Kc (Kl (.p (Di.oB p.dies))) ?_
 iterate 3 refine af ?_
 refine Kg 31 30 1 rfl (fun h=>(aa.move rfl rfl)) ?_
 refine Kh 32 30 31 rfl rfl rfl rfl (fun h=>(aa.aQ rfl rfl an rfl)) ?_
 refine Kh 33 30 32 rfl rfl rfl rfl (fun h=>(aa.gtr rfl rfl rfl)) ?_
 refine Kc (aa.me rfl rfl rfl ?_) ?_
 ·exact eM
 refine af ?_
 refine Ki (fun hc0=> ?_) fun hc0=> ?_
 ·exact BZ
 ·iterate 3 refine af ?_
  refine Kc (Kl (.p (Di.bO p))) ?_
  refine Kc (Kp (yU p BQ h3)) ?_
  iterate 12 refine af ?_
  refine aB.pQ rfl ?_
  exact JI
theorem Ks(p:Di.bB)(ws:List Bs)(c:Nat)(hc:c<=255)(ku:ws.length<=9223372036854775807)(hpl:p.dies.length<=9223372036854775807)(h1:¬ (8<p.dies.length∨30<ws.length))(h3:Di.dH p=true)(h2:∃ w∈ws,200<w.length):Pure Tryz.prog 8 [Di.bO p,b9 ws,.int .u8 (c:Int)] (.bool true):=by
 have Ws:p.dies.length<=8:=by omega
 have Ye:ws.length<=30:=by omega
 have BQ:p.dies.length<=100:=by omega
 have hW:=oN h3
 refine Kf (N:=263) Tryz.func8 ?_
 iterate 9 refine af ?_
 refine Kc (Kl (.p (Di.oB p.dies))) ?_
 iterate 3 refine af ?_
 refine Kg 31 30 1 rfl (fun h=>(aa.move rfl rfl)) ?_
 refine Kh 32 30 31 rfl rfl rfl rfl (fun h=>(aa.aQ rfl rfl an rfl)) ?_
 refine Kh 33 30 32 rfl rfl rfl rfl (fun h=>(aa.gtr rfl rfl rfl)) ?_
 refine Kc (aa.me rfl rfl rfl ?_) ?_
 ·exact eM
 refine af ?_
 refine Ki (fun hc0=> ?_) fun hc0=> ?_
 ·exact BZ
 ·iterate 3 refine af ?_
  refine Kc (Kl (.p (Di.bO p))) ?_
  refine aj.qA 38 (qf p BQ h3) rfl rfl rfl rfl rfl rfl rfl an (fun v H2 gJ=> ?_)
  obtain⟨rfl,rfl⟩:=gJ
  iterate 12 refine af ?_
  refine aB.jT rfl ?_
  iterate 7 refine af ?_
  refine aB.cR [1,2,3,7,10,11,12,13,14,15,16,17,18,19,20,21,22,23,24,25,63,64,65,66,67,68,69,70,71,72,73,74,75,76,77,78,79,80,81,82,83,84,85,86,87,88,89,90,91,92,93,94,95,96,97,98,99,100,101,102,103,104,105,106,107,108,109,110,111,112,113,114,115,116,117,118,119,120,121,122,123,124,125,126,127,128,129,130,131,132,133,134,135,136,137,138,139,140,141,142,143,144,145,146,147,148,149,150,151,152,153,154,155,156,157,158,159,160,161,162,163,164,165,166,167,168,169,170,171,172,173,174,175,176,177,178,179,180,181,182,183,184,185,186,187,188,189,190,191,192,193,194,195,196,197,198,199,200,201,202,203,204,205,206,207,208,209,210,211,212,213,214,215,216,217,218,219,220,221,222,223,224,225,226,227,228,229,230,231,232,233,234,235,236,237,238,239,240,241,242,243,244,245,246,247,248,249,250,251,252,253,254,255,256,257,258,259,260,261,262] (fun g=>[(9,.p (.int .i64 ((g.1:Nat):Int)))]) (fun g=>(bS 0 (cu (newF p) ws g.1) g.2)) (fun g=>(g.1<=ws.length∧∀ j,j<g.1->(Di.gt [] ws j).length<=200)∧(g.2=true->(cu (newF p) ws g.1).marks=[])) (fun g=>ws.length - g.1) (0,true) ⟨⟨Zl _,fun j hj=>absurd hj (Nat.not_lt_zero j)⟩,fun _=>rfl⟩ (To.sub KS) (fun g hg=> ?_)
  obtain⟨k,z⟩:=g
  obtain⟨⟨qm,hall⟩,hz⟩:=hg
  dsimp only at qm hz ⊢
  iterate 8 refine af ?_
  refine Ki (fun gW=> ?_) fun gW=> ?_
  ·have hk0:k<ws.length:=by have h:=Zf gW;omega
   iterate 8 refine af ?_
   refine Kc (aa.aJ (g:=Di.gt [] ws) (k:=k) (Di.aC _) rfl rfl rfl an kr rfl (fun _=>rfl) (by decide) hk0) ?_
   refine Kc (Kl (.p (.str (sB (Di.gt [] ws k))))) ?_
   refine Kc (aa.iJ rfl rfl Gz) ?_
   iterate 2 refine af ?_
   refine Ki (fun mc=> ?_) fun mc=> ?_
   ·exact JI
   ·have hle:(Di.gt [] ws k).length<=200:=by have h:=Zh mc;rw[dO] at h;omega
    iterate 5 refine af ?_
    refine Kc (aa.aJ (g:=Di.gt [] ws) (k:=k) (Di.aC _) rfl rfl rfl an kr rfl (fun _=>rfl) (by decide) hk0) ?_
    refine Kc (Kl (.p (.str (sB (Di.gt [] ws k))))) ?_
    refine BJ 62 [] (cu (newF p) ws k) z (Di.gt [] ws k) (cY (L:=ws) hW k) hz (fun i x h=>by simp at h) (Zl _) rfl rfl rfl rfl rfl rfl an (T2:=[(1,.p (b9 ws)),(2,.p (.int .u8 (c:Int))),(3,.p (.ip p.cells 0)),(7,.ptr 0 0),(9,.p (.int .i64 ((k:Nat):Int)))]) KS rfl (fun z2 wm=> ?_)
    show aj _ _ _ _ _ _ _ _ (bS 0 (cu (newF p) ws (k+1)) z2)
    iterate 3 refine af ?_
    refine Kc (aa.add (m:=((k+1:Nat):Int)) rfl rfl rfl ((aH ?_).trans ?_)) ?_
    ·omega
    ·omega
    iterate 2 refine af ?_
    refine⟨(k+1,z2),?_,?_,?_⟩
    ·exact⟨⟨hk0,fun j hj=>by rcases ZZ.1 hj with h | rfl;exact hall j h;exact hle⟩,wm⟩
    ·exact Pj
    exact To.sub KS
  ·exfalso
   obtain⟨w,hw,hl⟩:=h2
   obtain⟨j,hj,rfl⟩:=LL hw
   have h:=hall j (by have h:=Zh gW;omega)
   omega
theorem Xh(p:Di.bB)(ws:List Bs)(c:Nat)(hc:c<=255)(ku:ws.length<=9223372036854775807)(hpl:p.dies.length<=9223372036854775807)(h1:¬ (8<p.dies.length∨30<ws.length))(h3:Di.dH p=true)(h2:∀ w∈ws,w.length<=200):Pure Tryz.prog 8 [Di.bO p,b9 ws,.int .u8 (c:Int)] (.bool true):=by
 have Ws:p.dies.length<=8:=by omega
 have Ye:ws.length<=30:=by omega
 have BQ:p.dies.length<=100:=by omega
 have hW:=oN h3
 refine Kf (N:=263) Tryz.func8 ?_
 iterate 9 refine af ?_
 refine Kc (Kl (.p (Di.oB p.dies))) ?_
 iterate 3 refine af ?_
 refine Kg 31 30 1 rfl (fun h=>(aa.move rfl rfl)) ?_
 refine Kh 32 30 31 rfl rfl rfl rfl (fun h=>(aa.aQ rfl rfl an rfl)) ?_
 refine Kh 33 30 32 rfl rfl rfl rfl (fun h=>(aa.gtr rfl rfl rfl)) ?_
 refine Kc (aa.me rfl rfl rfl ?_) ?_
 ·exact eM
 refine af ?_
 refine Ki (fun hc0=> ?_) fun hc0=> ?_
 ·exact BZ
 ·iterate 3 refine af ?_
  refine Kc (Kl (.p (Di.bO p))) ?_
  refine aj.qA 38 (qf p BQ h3) rfl rfl rfl rfl rfl rfl rfl an (fun v H2 gJ=> ?_)
  obtain⟨rfl,rfl⟩:=gJ
  iterate 12 refine af ?_
  refine aB.jT rfl ?_
  iterate 7 refine af ?_
  refine aB.cR [1,2,3,7,10,11,12,13,14,15,16,17,18,19,20,21,22,23,24,25,63,64,65,66,67,68,69,70,71,72,73,74,75,76,77,78,79,80,81,82,83,84,85,86,87,88,89,90,91,92,93,94,95,96,97,98,99,100,101,102,103,104,105,106,107,108,109,110,111,112,113,114,115,116,117,118,119,120,121,122,123,124,125,126,127,128,129,130,131,132,133,134,135,136,137,138,139,140,141,142,143,144,145,146,147,148,149,150,151,152,153,154,155,156,157,158,159,160,161,162,163,164,165,166,167,168,169,170,171,172,173,174,175,176,177,178,179,180,181,182,183,184,185,186,187,188,189,190,191,192,193,194,195,196,197,198,199,200,201,202,203,204,205,206,207,208,209,210,211,212,213,214,215,216,217,218,219,220,221,222,223,224,225,226,227,228,229,230,231,232,233,234,235,236,237,238,239,240,241,242,243,244,245,246,247,248,249,250,251,252,253,254,255,256,257,258,259,260,261,262] (fun g=>[(9,.p (.int .i64 ((g.1:Nat):Int)))]) (fun g=>(bS 0 (cu (newF p) ws g.1) g.2)) (fun g=>g.1<=ws.length∧(g.2=true->(cu (newF p) ws g.1).marks=[])) (fun g=>ws.length - g.1) (0,true) ⟨Zl _,fun _=>rfl⟩ (To.sub KS) (fun g hg=> ?_)
  obtain⟨k,z⟩:=g
  obtain⟨qm,hz⟩:=hg
  dsimp only at qm hz ⊢
  iterate 8 refine af ?_
  refine Ki (fun gW=> ?_) fun gW=> ?_
  ·have hk0:k<ws.length:=by have h:=Zf gW;omega
   iterate 8 refine af ?_
   refine Kc (aa.aJ (g:=Di.gt [] ws) (k:=k) (Di.aC _) rfl rfl rfl an kr rfl (fun _=>rfl) (by decide) hk0) ?_
   refine Kc (Kl (.p (.str (sB (Di.gt [] ws k))))) ?_
   refine Kc (aa.iJ rfl rfl Gz) ?_
   iterate 2 refine af ?_
   refine Ki (fun mc=> ?_) fun mc=> ?_
   ·exfalso
    have h:=Zf mc
    rw[dO] at h
    have h4:=h2 _ (Di.bq [] hk0)
    omega
   ·iterate 5 refine af ?_
    refine Kc (aa.aJ (g:=Di.gt [] ws) (k:=k) (Di.aC _) rfl rfl rfl an kr rfl (fun _=>rfl) (by decide) hk0) ?_
    refine Kc (Kl (.p (.str (sB (Di.gt [] ws k))))) ?_
    refine BJ 62 [] (cu (newF p) ws k) z (Di.gt [] ws k) (cY (L:=ws) hW k) hz (fun i x h=>by simp at h) (Zl _) rfl rfl rfl rfl rfl rfl an (T2:=[(1,.p (b9 ws)),(2,.p (.int .u8 (c:Int))),(3,.p (.ip p.cells 0)),(7,.ptr 0 0),(9,.p (.int .i64 ((k:Nat):Int)))]) KS rfl (fun z2 wm=> ?_)
    show aj _ _ _ _ _ _ _ _ (bS 0 (cu (newF p) ws (k+1)) z2)
    iterate 3 refine af ?_
    exact Xs
  ·have Jq:k=ws.length:=by have h:=Zh gW;omega
   subst Jq
   have hF:=cY (L:=ws) hW ws.length
   have GW:(cu (newF p) ws ws.length).aP=p:=tD ws.length
   generalize (cu (newF p) ws ws.length)=F at hz hF GW ⊢
   have hb:=hF.b
   have hm:=hF.mm
   rw[GW] at hb
   obtain⟨u,hu⟩:=hb.Dd
   have hfo:=Di.kT p F.b.aq F.b.plan (Zz Ws (by decide)) (Zz hb.dr (by decide)) (by rw[ew hu];exact Zz hb.dr (by decide))
   rw[hu] at hfo
   have PG:=ew hu
   have hcl:=Rx.cx hb.cd
   have YS:=(tR hu).1
   have Sv:=Rx.kD F.b.ag F.b.bad F.b.good (Zz hcl (by decide))
   refine aB.exit ?_
   iterate 3 refine af ?_
   refine Kc (vO hF (lQ [] F z hz) rfl rfl rfl rfl an) ?_
   refine af ?_
   refine Kz (aa.store (H':=(bS 0 F z++[.cells ((kn F.b).map .p) 41])) rfl rfl rfl rfl rfl an rfl (zd (by rfl))) ?_
   iterate 2 refine af ?_
   refine aB.to (To.zj (s:=10) (h:=bS 0 F z) (T2:=[(2,.p (.int .u8 (c:Int))),(3,.p (.ip p.cells 0)),(7,.ptr 0 0)]) (Dk hm) (Zl _) rfl rfl (by rw[e8 hm];exact⟨rfl,trivial,rfl,trivial,rfl,(by show 0<47;decide),trivial⟩)) ?_
   refine af ?_
   refine Kc (Kl (.p (Di.bO p))) ?_
   refine af ?_
   refine Kc (Kl (.p (Di.fJ F.b.aq))) ?_
   refine af ?_
   refine Kc (Kl (.p (Di.bI F.b.plan))) ?_
   refine Kc (Kp (hfo)) ?_
   iterate 14 refine af ?_
   refine Kg 78 77 12 rfl (fun h=>(aa.move rfl rfl)) ?_
   refine Kg 79 77 10 rfl (fun h=>(aa.fieldAddr rfl rfl an rfl)) ?_
   refine Kh 80 77 79 rfl rfl rfl rfl (fun h=>(Kl (.p (Di.fJ F.b.aq)))) ?_
   refine Kh 81 77 80 rfl rfl rfl rfl (fun h=>(aa.aQ rfl rfl an rfl)) ?_
   refine aj.g 82 77 rfl rfl rfl rfl rfl rfl rfl [(78,_),(81,_)] (fun h=>And.intro (.inr ⟨_,rfl,h⟩) (And.intro (.inr ⟨_,rfl,h⟩) (trivial))) (fun h=>(aa.neq rfl rfl rfl)) ?_
   refine Kc (aa.me rfl rfl rfl ?_) ?_
   ·exact eM
   refine af ?_
   refine Kg 85 84 11 rfl (fun h=>(aa.move rfl rfl)) ?_
   refine Kh 86 84 85 rfl rfl rfl rfl (fun h=>(aa.aQ rfl rfl an rfl)) ?_
   refine Kg 87 84 3 rfl (fun h=>(aa.fieldAddr rfl rfl an rfl)) ?_
   refine Kh 88 84 87 rfl rfl rfl rfl (fun h=>(Kl (.p (Di.oB p.dies)))) ?_
   refine Kh 89 84 88 rfl rfl rfl rfl (fun h=>(aa.aQ rfl rfl an rfl)) ?_
   refine aj.g 90 84 rfl rfl rfl rfl rfl rfl rfl [(86,_),(89,_)] (fun h=>And.intro (.inr ⟨_,rfl,h⟩) (And.intro (.inr ⟨_,rfl,h⟩) (trivial))) (fun h=>(aa.neq rfl rfl rfl)) ?_
   refine Kc (aa.me rfl rfl rfl ?_) ?_
   ·exact eM
   refine af ?_
   refine Ki (fun zI=> ?_) fun zI=> ?_
   ·exfalso
    simp at zI
    omega
   ·iterate 7 refine af ?_
    refine aB.cR [2,3,7,10,11,19,20,21,22,23,24,25,136,137,138,139,140,141,142,143,144,145,146,147,148,149,150,151,152,153,154,155,156,157,158,159,160,161,162,163,164,165,166,167,168,169,170,171,172,173,174,175,176,177,178,179,180,181,182,183,184,185,186,187,188,189,190,191,192,193,194,195,196,197,198,199,200,201,202,203,204,205,206,207,208,209,210,211,212,213,214,215,216,217,218,219,220,221,222,223,224,225,226,227,228,229,230,231,232,233,234,235,236,237,238,239,240,241,242,243,244,245,246,247,248,249,250,251,252,253,254,255,256,257,258,259,260,261,262] (fun g=>[(14,.p (.int .i64 ((g.1:Nat):Int)))]) (fun g=>(bS 0 F g.2)) (fun g=>g.1<=u.length∧(g.2=true->F.marks=[])) (fun g=>u.length - g.1) (0,z) ⟨Zl _,hz⟩ (To.sub KS) (fun g hg=> ?_)
    obtain⟨i,z1⟩:=g
    obtain⟨hil,hz1⟩:=hg
    dsimp only at hil hz1 ⊢
    iterate 8 refine af ?_
    refine Ki (fun xg=> ?_) fun xg=> ?_
    ·have ov:i<u.length:=by have h:=Zf xg;omega
     have hqw:=R4 hF (by rw[GW];exact hu) (i:=i) (by rw[GW];omega) (by rw[GW];exact Ws)
     obtain⟨hw0,hug,_⟩:=D2 hF (by rw[GW];exact hu) (i:=i) (by rw[GW];omega)
     rw[GW] at hqw hw0
     have hwi:=Di.tn p (i:Int) (Di.gt 0 u i) (Zz Ws (by decide))
     rw[hw0] at hwi
     iterate 4 refine af ?_
     refine aB.so 13 mixed (by kernel_rfl) (by decide) ?_
     refine aN.cons 99 rfl rfl rfl (Kl (.p (Di.bO p))) (fun _=>(Kl (.p (Di.bO p)))) ?_
     refine aN.cons 100 rfl rfl rfl (aa.move rfl rfl) (fun _=>(aa.move rfl rfl)) ?_
     refine aN.cons 101 rfl rfl rfl (aa.move rfl rfl) (fun _=>(aa.move rfl rfl)) ?_
     refine aN.cons 102 rfl rfl rfl (aa.move rfl rfl) (fun _=>(aa.move rfl rfl)) ?_
     refine aN.cons 103 rfl rfl rfl (aa.aJ (g:=Di.gt 0 u) (k:=i) (Di.aC _) rfl rfl rfl an dA rfl (fun _=>rfl) (by decide) ov) (fun _=>(aa.aJ (g:=Di.gt 0 u) (k:=i) (Di.aC _) rfl rfl rfl an dA rfl (fun _=>rfl) (by decide) ov)) ?_
     refine aN.cons 104 rfl rfl rfl (Kl (.p (.int .i64 (Di.gt 0 u i)))) (fun _=>(Kl (.p (.int .i64 (Di.gt 0 u i))))) ?_
     refine aN.cons 105 rfl rfl rfl (Kp (hwi)) (fun _=>(Kp (hwi))) ?_
     refine aN.cons 98 rfl rfl rfl (aa.move rfl rfl) (fun _=>(aa.move rfl rfl)) ?_
     refine aN.cons 106 rfl rfl rfl (aa.extract rfl rfl rfl) (fun _=>(aa.extract rfl rfl rfl)) ?_
     refine aN.cons 107 rfl rfl rfl (aa.extract rfl rfl rfl) (fun _=>(aa.extract rfl rfl rfl)) ?_
     refine aN.lay 15 rfl rfl rfl (aa.aO rfl an rfl) ?_
     refine aN.put rfl rfl (by decide) (aa.store (H':=(bS 0 F z1++[.cells [.p (.int .i64 (Di.bT p i (Di.gt 0 u i)).1.1),.p (.int .i64 (Di.bT p i (Di.gt 0 u i)).1.2)] 24])) rfl rfl rfl rfl rfl an rfl (zd (by rfl))) rfl ?_
     refine aN.cons 16 rfl rfl rfl (aa.assign rfl rfl) (fun _=>(aa.assign rfl rfl)) ?_
     refine aN.nil ?_
     iterate 2 refine af ?_
     refine aB.to (To.zj (s:=15) (h:=bS 0 F z1) (T2:=[(16,.p (.int .i64 0)),(11,.p (Di.bI u)),(14,.p (.int .i64 ((i:Nat):Int))),(10,.p (.ip (kn F.b) 0)),(2,.p (.int .u8 (c:Int))),(3,.p (.ip p.cells 0)),(7,.ptr 0 0)]) (Dk hm) (Zl _) rfl rfl (by rw[e8 hm];exact⟨rfl,trivial,rfl,trivial,rfl,trivial,rfl,trivial,rfl,trivial,rfl,trivial,rfl,(by show 0<47;decide),trivial⟩)) ?_
     iterate 3 refine af ?_
     refine Kc (Kp (kZ (i:Int) (by omega) (by omega))) ?_
     refine Kc (aa.ia [119,101,97,114,32] (Lib.itoa (i:Int)) rfl rfl rfl (by have h:=(A9 i (by omega)).1;rw[Zb] at h;show 5+_<_;have h5:Io.length=5:=rfl;omega)) ?_
     refine Da 113 F z1 ([119,101,97,114,32]++Lib.itoa (i:Int)) hF hz1 hqw rfl rfl rfl rfl rfl rfl an (T2:=[(15,.p (.ip [.int .i64 (Di.bT p i (Di.gt 0 u i)).1.1,.int .i64 (Di.bT p i (Di.gt 0 u i)).1.2] 0)),(16,.p (.int .i64 0)),(11,.p (Di.bI u)),(14,.p (.int .i64 ((i:Nat):Int))),(10,.p (.ip (kn F.b) 0)),(2,.p (.int .u8 (c:Int))),(3,.p (.ip p.cells 0)),(7,.ptr 0 0)]) KS rfl (fun z2 wm=> ?_)
     iterate 7 refine af ?_
     refine aB.az 20 mixed (by kernel_rfl) (by decide) ?_
     refine af ?_
     refine Kq (aa.neq rfl rfl rfl) ?_
     refine af ?_
     refine ay.guard 119 118 rfl rfl rfl rfl rfl rfl rfl [(18,_)] (fun h=>And.intro (.inl rfl) (trivial)) (fun h=>(aa.move rfl rfl)) ?_
     refine ay.guard 120 118 rfl rfl rfl rfl rfl rfl rfl [(119,_)] (fun h=>And.intro (.inr ⟨_,rfl,h⟩) (trivial)) (fun h=>(aa.neq rfl rfl rfl)) ?_
     refine Kq (aa.me rfl rfl rfl ?_) ?_
     ·exact eM
     refine af ?_
     refine ay.guard 123 122 rfl rfl rfl rfl rfl rfl rfl [(17,_)] (fun h=>And.intro (.inl rfl) (trivial)) (fun h=>(aa.move rfl rfl)) ?_
     refine ay.guard 124 122 rfl rfl rfl rfl rfl rfl rfl [(11,_)] (fun h=>And.intro (.inl rfl) (trivial)) (fun h=>(aa.move rfl rfl)) ?_
     refine ay.guard 125 122 rfl rfl rfl rfl rfl rfl rfl [(14,_)] (fun h=>And.intro (.inl rfl) (trivial)) (fun h=>(aa.move rfl rfl)) ?_
     refine ay.guard 126 122 rfl rfl rfl rfl rfl rfl rfl [(124,_),(125,_)] (fun h=>And.intro (.inr ⟨_,rfl,h⟩) (And.intro (.inr ⟨_,rfl,h⟩) (trivial))) (fun h=>(aa.aJ (g:=Di.gt 0 u) (k:=i) (Di.aC _) rfl rfl rfl an dA rfl (fun _=>rfl) (by decide) ov)) ?_
     refine ay.guard 127 122 rfl rfl rfl rfl rfl rfl rfl [(126,_)] (fun h=>And.intro (.inr ⟨_,rfl,h⟩) (trivial)) (fun h=>(Kl (.p (.int .i64 (Di.gt 0 u i))))) ?_
     refine ay.guard 128 122 rfl rfl rfl rfl rfl rfl rfl [(15,_)] (fun h=>And.intro (.inl rfl) (trivial)) (fun h=>(aa.fieldAddr rfl rfl an rfl)) ?_
     refine ay.guard 129 122 rfl rfl rfl rfl rfl rfl rfl [(128,_)] (fun h=>And.intro (.inr ⟨_,rfl,h⟩) (trivial)) (fun h=>(Kl (.p (.int .i64 (Di.bT p i (Di.gt 0 u i)).1.1)))) ?_
     refine ay.guard 130 122 rfl rfl rfl rfl rfl rfl rfl [(15,_)] (fun h=>And.intro (.inl rfl) (trivial)) (fun h=>(aa.fieldAddr rfl rfl an rfl)) ?_
     refine ay.guard 131 122 rfl rfl rfl rfl rfl rfl rfl [(130,_)] (fun h=>And.intro (.inr ⟨_,rfl,h⟩) (trivial)) (fun h=>(Kl (.p (.int .i64 (Di.bT p i (Di.gt 0 u i)).1.2)))) ?_
     refine ay.guard 132 122 rfl rfl rfl rfl rfl rfl rfl [(127,_),(129,_),(131,_)] (fun h=>And.intro (.inr ⟨_,rfl,h⟩) (And.intro (.inr ⟨_,rfl,h⟩) (And.intro (.inr ⟨_,rfl,h⟩) (trivial)))) (fun h=>(aa.aU rfl an (by decide) rfl rfl rfl)) ?_
     refine ay.guard 133 122 rfl rfl rfl rfl rfl rfl rfl [(132,_)] (fun h=>And.intro (.inr ⟨_,rfl,h⟩) (trivial)) (fun h=>(Kp (JY [119,101,97,114] [Di.gt 0 u i,(Di.bT p i (Di.gt 0 u i)).1.1,(Di.bT p i (Di.gt 0 u i)).1.2] (by decide) Kn (Tl hug)))) ?_
     refine ay.guard 134 122 rfl rfl rfl rfl rfl rfl rfl [(123,_),(133,_)] (fun h=>And.intro (.inr ⟨_,rfl,h⟩) (And.intro (.inr ⟨_,rfl,h⟩) (trivial))) (fun h=>(aa.qq (aS [119,101,97,114] [Di.gt 0 u i,(Di.bT p i (Di.gt 0 u i)).1.1,(Di.bT p i (Di.gt 0 u i)).1.2]) (aS [119,101,97,114] [Di.gt 0 u i,(Di.bT p i (Di.gt 0 u i)).1.1,(Di.bT p i (Di.gt 0 u i)).1.2]) rfl rfl rfl)) ?_
     refine Kq (aa.me rfl rfl rfl ?_) ?_
     ·exact eM
     refine ay.nil ?_
     refine af ?_
     refine Ki (fun wO=> ?_) fun wO=> ?_
     ·exfalso
      simp at wO
     ·iterate 3 refine af ?_
      refine Kc (aa.add (m:=((i+1:Nat):Int)) rfl rfl rfl ((aH ?_).trans ?_)) ?_
      ·omega
      ·omega
      iterate 2 refine af ?_
      refine⟨(i+1,z2),?_,?_,?_⟩
      ·exact⟨ov,wm⟩
      ·show u.length - (i+1)<u.length - i
       omega
      exact To.sub KS
    ·refine aB.exit ?_
     iterate 3 refine af ?_
     refine Kc (Kl (.p (Rx.fO F.b.ag))) ?_
     refine af ?_
     refine Kc (Kl (.p (.int .i64 (F.b.bad:Int)))) ?_
     refine af ?_
     refine Kc (Kl (.p (.int .i64 (F.b.good:Int)))) ?_
     refine Kc (Kp (Sv)) ?_
     iterate 9 refine af ?_
     refine Da 148 F z1 [98,108,97,109,101] hF hz1 (MR F) rfl rfl rfl rfl rfl rfl an (T2:=[(19,.p (.int .i64 (((Rx.jg F.b.ag F.b.bad F.b.good):Nat):Int))),(20,.p (.int .i64 (Rx.fW F.b.ag F.b.bad F.b.good))),(10,.p (.ip (kn F.b) 0)),(2,.p (.int .u8 (c:Int))),(3,.p (.ip p.cells 0)),(7,.ptr 0 0)]) KS rfl (fun z3 hz3=> ?_)
     iterate 13 refine af ?_
     refine Kg 155 154 20 rfl (fun h=>(aa.move rfl rfl)) ?_
     refine Kh 156 154 155 rfl rfl rfl rfl (fun h=>(aa.eql rfl rfl rfl)) ?_
     refine Kh 157 154 156 rfl rfl rfl rfl (fun h=>(aa.move rfl rfl)) ?_
     refine Kg 158 157 21 rfl (fun h=>(aa.move rfl rfl)) ?_
     refine Kg 159 157 19 rfl (fun h=>(aa.move rfl rfl)) ?_
     refine Kh 160 157 159 rfl rfl rfl rfl (fun h=>(Kp (vj [98,108,97,109,101] (Rx.jg F.b.ag F.b.bad F.b.good) (by decide) (VM hb.cd)))) ?_
     refine aj.g 161 157 rfl rfl rfl rfl rfl rfl rfl [(158,_),(160,_)] (fun h=>And.intro (.inr ⟨_,rfl,h⟩) (And.intro (.inr ⟨_,rfl,h⟩) (trivial))) (fun h=>(aa.qq (if (Rx.fW F.b.ag F.b.bad F.b.good)=0 then aS [98,108,97,109,101] (fB (Rx.jg F.b.ag F.b.bad F.b.good)) else[]) (aS [98,108,97,109,101] (fB (Rx.jg F.b.ag F.b.bad F.b.good))) rfl rfl rfl)) ?_
     refine aj.g 162 154 rfl rfl rfl rfl rfl rfl rfl [(157,_),(161,_)] (fun h=>And.intro (.inr ⟨_,rfl,h⟩) (And.intro (.inl rfl) (trivial))) (fun h=>(aa.dM rfl rfl rfl ?_)) ?_
     ·exact eM
     refine Kc (aa.me rfl rfl rfl ?_) ?_
     ·exact eM
     refine af ?_
     refine Ki (fun UN=> ?_) fun UN=> ?_
     ·exfalso
      by_cases hE:(Rx.fW F.b.ag F.b.bad F.b.good)=0 <;> simp[hE] at UN
     ·iterate 4 refine af ?_
      refine Kc (Kl (.p (Rx.fO F.b.ag))) ?_
      refine af ?_
      refine Kc (Kl (.p (.int .i64 (F.b.bad:Int)))) ?_
      refine af ?_
      refine Kc (Kl (.p (.int .i64 (F.b.good:Int)))) ?_
      refine Kc (Kp (Rx.wV F.b.ag F.b.bad F.b.good (Zz hcl (by decide)))) ?_
      iterate 6 refine af ?_
      refine Kz (aa.store (H':=(bS 0 F z3++[.cells [.p (.int .i64 (Rx.fF F.b.ag F.b.bad F.b.good).1),.p (.int .i64 (Rx.fF F.b.ag F.b.bad F.b.good).2)] 24])) rfl rfl rfl rfl rfl an rfl (zd (by rfl))) ?_
      iterate 3 refine af ?_
      refine aB.to (To.zj (s:=23) (h:=bS 0 F z3) (T2:=[(19,.p (.int .i64 (((Rx.lf F.b.ag F.b.bad F.b.good):Nat):Int))),(20,.p (.int .i64 (Rx.fW F.b.ag F.b.bad F.b.good))),(10,.p (.ip (kn F.b) 0)),(2,.p (.int .u8 (c:Int))),(3,.p (.ip p.cells 0)),(7,.ptr 0 0)]) (Dk hm) (Zl _) rfl rfl (by rw[e8 hm];exact⟨rfl,trivial,rfl,trivial,rfl,trivial,rfl,trivial,rfl,trivial,rfl,(by show 0<47;decide),trivial⟩)) ?_
      iterate 2 refine af ?_
      refine Da 177 F z3 [99,97,108,108] hF hz3 (Sw F) rfl rfl rfl rfl rfl rfl an (T2:=[(19,.p (.int .i64 (((Rx.lf F.b.ag F.b.bad F.b.good):Nat):Int))),(20,.p (.int .i64 (Rx.fW F.b.ag F.b.bad F.b.good))),(23,.p (.ip [.int .i64 (Rx.fF F.b.ag F.b.bad F.b.good).1,.int .i64 (Rx.fF F.b.ag F.b.bad F.b.good).2] 0)),(10,.p (.ip (kn F.b) 0)),(2,.p (.int .u8 (c:Int))),(3,.p (.ip p.cells 0)),(7,.ptr 0 0)]) KS rfl (fun z4 Y9=> ?_)
      iterate 13 refine af ?_
      refine Kg 184 183 20 rfl (fun h=>(aa.move rfl rfl)) ?_
      refine Kh 185 183 184 rfl rfl rfl rfl (fun h=>(aa.eql rfl rfl rfl)) ?_
      refine Kh 186 183 185 rfl rfl rfl rfl (fun h=>(aa.move rfl rfl)) ?_
      refine Kg 187 186 21 rfl (fun h=>(aa.move rfl rfl)) ?_
      refine Kg 188 186 23 rfl (fun h=>(aa.fieldAddr rfl rfl an rfl)) ?_
      refine Kh 189 186 188 rfl rfl rfl rfl (fun h=>(Kl (.p (.int .i64 (Rx.fF F.b.ag F.b.bad F.b.good).1)))) ?_
      refine Kg 190 186 23 rfl (fun h=>(aa.fieldAddr rfl rfl an rfl)) ?_
      refine Kh 191 186 190 rfl rfl rfl rfl (fun h=>(Kl (.p (.int .i64 (Rx.fF F.b.ag F.b.bad F.b.good).2)))) ?_
      refine aj.g 192 186 rfl rfl rfl rfl rfl rfl rfl [(189,_),(191,_)] (fun h=>And.intro (.inr ⟨_,rfl,h⟩) (And.intro (.inr ⟨_,rfl,h⟩) (trivial))) (fun h=>(aa.aU rfl an (by decide) rfl rfl rfl)) ?_
      refine Kg 193 186 19 rfl (fun h=>(aa.move rfl rfl)) ?_
      refine aj.g 194 186 rfl rfl rfl rfl rfl rfl rfl [(192,_),(193,_)] (fun h=>And.intro (.inr ⟨_,rfl,h⟩) (And.intro (.inr ⟨_,rfl,h⟩) (trivial))) (fun h=>(Kp (rT [99,97,108,108] [(Rx.fF F.b.ag F.b.bad F.b.good).1,(Rx.fF F.b.ag F.b.bad F.b.good).2] (Rx.lf F.b.ag F.b.bad F.b.good) (by decide) Kn (V2 hb.cd) (Ss hb.cd)))) ?_
      refine aj.g 195 186 rfl rfl rfl rfl rfl rfl rfl [(187,_),(194,_)] (fun h=>And.intro (.inr ⟨_,rfl,h⟩) (And.intro (.inr ⟨_,rfl,h⟩) (trivial))) (fun h=>(aa.qq (if (Rx.fW F.b.ag F.b.bad F.b.good)=0 then aS [99,97,108,108] ([(Rx.fF F.b.ag F.b.bad F.b.good).1,(Rx.fF F.b.ag F.b.bad F.b.good).2]++fB (Rx.lf F.b.ag F.b.bad F.b.good)) else[]) (aS [99,97,108,108] ([(Rx.fF F.b.ag F.b.bad F.b.good).1,(Rx.fF F.b.ag F.b.bad F.b.good).2]++fB (Rx.lf F.b.ag F.b.bad F.b.good))) rfl rfl rfl)) ?_
      refine aj.g 196 183 rfl rfl rfl rfl rfl rfl rfl [(186,_),(195,_)] (fun h=>And.intro (.inr ⟨_,rfl,h⟩) (And.intro (.inl rfl) (trivial))) (fun h=>(aa.dM rfl rfl rfl ?_)) ?_
      ·exact eM
      refine Kc (aa.me rfl rfl rfl ?_) ?_
      ·exact eM
      refine af ?_
      refine Ki (fun hc8=> ?_) fun hc8=> ?_
      ·exfalso
       by_cases hE:(Rx.fW F.b.ag F.b.bad F.b.good)=0 <;> simp[hE] at hc8
      ·iterate 4 refine af ?_
       refine Kc (aa.di rfl rfl (by rw[WA];rfl) yj (aH ?_)) ?_
       ·omega
       iterate 5 refine af ?_
       refine Kc (Kl (.p (Rx.fO F.b.ag))) ?_
       refine af ?_
       refine Kc (Kp (Rx.Dy F.b.ag c (Zz hcl (by decide)))) ?_
       iterate 10 refine af ?_
       refine Kc (Kp (kZ (c:Int) (by omega) (by omega))) ?_
       refine Kc (aa.ia [102,114,111,109,32] (Lib.itoa (c:Int)) rfl rfl rfl (by have h:=(Ap c (by omega)).1;rw[Zb] at h;show 5+_<_;have h5:Jc.length=5:=rfl;omega)) ?_
       refine Da 212 F z4 ([102,114,111,109,32]++Lib.itoa (c:Int)) hF Y9 (TJ F hc) rfl rfl rfl rfl rfl rfl an (T2:=[(19,.p (.int .i64 (((Rx.gE F.b.ag (Rx.bE F.b.ag) c):Nat):Int))),(20,.p (.int .i64 (Rx.dV F.b.ag c))),(10,.p (.ip (kn F.b) 0)),(2,.p (.int .u8 (c:Int))),(3,.p (.ip p.cells 0)),(7,.ptr 0 0)]) KS rfl (fun z5 hz5=> ?_)
       iterate 13 refine af ?_
       refine Kg 219 218 20 rfl (fun h=>(aa.move rfl rfl)) ?_
       refine Kh 220 218 219 rfl rfl rfl rfl (fun h=>(aa.eql rfl rfl rfl)) ?_
       refine Kh 221 218 220 rfl rfl rfl rfl (fun h=>(aa.move rfl rfl)) ?_
       refine Kg 222 221 21 rfl (fun h=>(aa.move rfl rfl)) ?_
       refine Kg 223 221 19 rfl (fun h=>(aa.move rfl rfl)) ?_
       refine Kh 224 221 223 rfl rfl rfl rfl (fun h=>(Kp (vj [102,114,111,109] (Rx.gE F.b.ag (Rx.bE F.b.ag) c) (by decide) (XF hb.cd c)))) ?_
       refine aj.g 225 221 rfl rfl rfl rfl rfl rfl rfl [(222,_),(224,_)] (fun h=>And.intro (.inr ⟨_,rfl,h⟩) (And.intro (.inr ⟨_,rfl,h⟩) (trivial))) (fun h=>(aa.qq (if (Rx.dV F.b.ag c)=0 then aS [102,114,111,109] (fB (Rx.gE F.b.ag (Rx.bE F.b.ag) c)) else[]) (aS [102,114,111,109] (fB (Rx.gE F.b.ag (Rx.bE F.b.ag) c))) rfl rfl rfl)) ?_
       refine aj.g 226 218 rfl rfl rfl rfl rfl rfl rfl [(221,_),(225,_)] (fun h=>And.intro (.inr ⟨_,rfl,h⟩) (And.intro (.inl rfl) (trivial))) (fun h=>(aa.dM rfl rfl rfl ?_)) ?_
       ·exact eM
       refine Kc (aa.me rfl rfl rfl ?_) ?_
       ·exact eM
       refine af ?_
       refine Ki (fun hc9=> ?_) fun hc9=> ?_
       ·exfalso
        by_cases hE:(Rx.dV F.b.ag c)=0 <;> simp[hE] at hc9
       ·iterate 4 refine af ?_
        refine Kc (vO hF (lQ [] F z5 hz5) rfl rfl rfl rfl an) ?_
        refine af ?_
        refine Kz (aa.store (H':=(bS 0 F z5++[.cells ((kn F.b).map .p) 41])) rfl rfl rfl rfl rfl an rfl (zd (by rfl))) ?_
        iterate 2 refine af ?_
        refine aB.to (To.zj (s:=25) (h:=bS 0 F z5) (T2:=[(10,.p (.ip (kn F.b) 0)),(2,.p (.int .u8 (c:Int))),(3,.p (.ip p.cells 0)),(7,.ptr 0 0)]) (Dk hm) (Zl _) rfl rfl (by rw[e8 hm];exact⟨rfl,trivial,rfl,trivial,rfl,trivial,rfl,(by show 0<47;decide),trivial⟩)) ?_
        iterate 2 refine af ?_
        refine Kc (Kl (.p (Rx.fO F.b.ag))) ?_
        iterate 2 refine af ?_
        refine Kc (Kl (.p (Rx.fO F.b.ag))) ?_
        iterate 3 refine af ?_
        refine Kg 238 237 25 rfl (fun h=>(aa.fieldAddr rfl rfl an rfl)) ?_
        refine Kh 239 237 238 rfl rfl rfl rfl (fun h=>(Kl (.p (Di.fJ F.b.aq)))) ?_
        refine Kh 240 237 239 rfl rfl rfl rfl (fun h=>(aa.aQ rfl rfl an rfl)) ?_
        refine Kg 241 237 10 rfl (fun h=>(aa.fieldAddr rfl rfl an rfl)) ?_
        refine Kh 242 237 241 rfl rfl rfl rfl (fun h=>(Kl (.p (Di.fJ F.b.aq)))) ?_
        refine Kh 243 237 242 rfl rfl rfl rfl (fun h=>(aa.aQ rfl rfl an rfl)) ?_
        refine aj.g 244 237 rfl rfl rfl rfl rfl rfl rfl [(240,_),(243,_)] (fun h=>And.intro (.inr ⟨_,rfl,h⟩) (And.intro (.inr ⟨_,rfl,h⟩) (trivial))) (fun h=>(aa.eql rfl rfl rfl)) ?_
        refine Kc (aa.dM rfl rfl rfl ?_) ?_
        ·exact eM
        refine af ?_
        refine Kg 247 246 25 rfl (fun h=>(aa.fieldAddr rfl rfl an rfl)) ?_
        refine Kh 248 246 247 rfl rfl rfl rfl (fun h=>(Kl (.p (.int .i64 (F.b.bad:Int))))) ?_
        refine Kg 249 246 10 rfl (fun h=>(aa.fieldAddr rfl rfl an rfl)) ?_
        refine Kh 250 246 249 rfl rfl rfl rfl (fun h=>(Kl (.p (.int .i64 (F.b.bad:Int))))) ?_
        refine aj.g 251 246 rfl rfl rfl rfl rfl rfl rfl [(248,_),(250,_)] (fun h=>And.intro (.inr ⟨_,rfl,h⟩) (And.intro (.inr ⟨_,rfl,h⟩) (trivial))) (fun h=>(aa.eql rfl rfl rfl)) ?_
        refine Kc (aa.dM rfl rfl rfl ?_) ?_
        ·exact eM
        refine af ?_
        refine Kg 254 253 25 rfl (fun h=>(aa.fieldAddr rfl rfl an rfl)) ?_
        refine Kh 255 253 254 rfl rfl rfl rfl (fun h=>(Kl (.p (.int .i64 (F.b.good:Int))))) ?_
        refine Kg 256 253 10 rfl (fun h=>(aa.fieldAddr rfl rfl an rfl)) ?_
        refine Kh 257 253 256 rfl rfl rfl rfl (fun h=>(Kl (.p (.int .i64 (F.b.good:Int))))) ?_
        refine aj.g 258 253 rfl rfl rfl rfl rfl rfl rfl [(255,_),(257,_)] (fun h=>And.intro (.inr ⟨_,rfl,h⟩) (And.intro (.inr ⟨_,rfl,h⟩) (trivial))) (fun h=>(aa.eql rfl rfl rfl)) ?_
        refine Kc (aa.dM rfl rfl rfl ?_) ?_
        ·exact eM
        refine af ?_
        refine aj.g 261 260 rfl rfl rfl rfl rfl rfl rfl [] (fun h=>trivial) (fun h=>(Kp (uO))) ?_
        exact MG
theorem VU(p:Di.bB)(ws:List Bs)(c:Nat)(hc:c<=255)(ku:ws.length<=9223372036854775807)(hpl:p.dies.length<=9223372036854775807):Pure Tryz.prog 8 [Di.bO p,b9 ws,.int .u8 (c:Int)] (.bool true):=by
 by_cases h1:8<p.dies.length∨30<ws.length
 ·exact Ma p ws c hc ku hpl h1
 ·cases h3:Di.dH p with
  | false=>exact SM p ws c hc ku hpl h1 h3
  | true=>
   by_cases h2:∃ w∈ws,200<w.length
   ·exact Ks p ws c hc ku hpl h1 h3 h2
   ·exact Xh p ws c hc ku hpl h1 h3 fun w hw=>Nat.le_of_not_lt fun h=>h2 ⟨w,hw,h⟩
theorem yb{x0 x1 x2:List PV}(h0:l7 DB x0)(h1:l7 [.sl [.leaf .string]] x1)(h2:l7 [.leaf (.int .u8)] x2):Pure Tryz.prog 8 [wh true x0,wh false x1,wh false x2] (.bool true):=by
 obtain⟨p,rfl,hp⟩:=CI h0
 obtain⟨ws,rfl,hw⟩:=yZ h1
 obtain⟨c,rfl,hc⟩:=Ln h2
 exact VU p ws c hc hw hp
end Go.Proofs.YtchiinjiflgepaaGreatDoor
end
