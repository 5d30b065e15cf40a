/-
 Builders.
 Chapter 15, the program: the lines of a script.
 strings.Lines.
 Chapter 15, the program: the own blocks of a script's run.
 The program of chapter 15: a new floor.
 The program of chapter 15: a script.
-/
import Derived.Test.YtibffijhebobmaaGreatDoorMzTF
import Derived.Test.YtibffijhebobmaaGreatDoorMzTG
import Derived.Test.YtibffijhebobmaaGreatDoorFaTF
import Derived.Test.YtibffijhebobmaaGreatDoorMzTZ
theorem A7{A:Prop}(h:A:=by
 refine Kc (aa.Gl _ _ rfl rfl rfl (by first | exact aau hl1 | exact aaN ⟨xG,OQ⟩ hne)) ?_
 refine aj.XQ 50 1 3 (Qu _ _ (by simp) (by first | rw[Az (r:=(aI (kC (newF p) ws k) (Di.gt [] ws k)).2.1) hne];exact hlen | rw[Dy vN];exact hlen)) (by decide) rfl rfl rfl rfl rfl rfl rfl rfl rfl an ?_
 refine af ?_
 refine⟨_,⟨z2,hfl.mz,rfl⟩,?_⟩
 first | rw[Az (r:=(aI (kC (newF p) ws k) (Di.gt [] ws k)).2.1) hne] | rw[Dy vN]
 exact Pd (F:=kC (newF p) ws (k+1)) (jc (L:=ws) hW (k+1)).mm Wx):A:=h
theorem u6{A:Prop}(h:A:=by
 exfalso
 have h4:=Zk hc0
 rw[gD] at h4
 omega):A:=h
theorem Dk{A:Prop}(h:A:=by
 exfalso
 rcases h2 with rfl | h2
 ·cases cR
 ·rw[U8 h2] at cR
  simp at cR):A:=h
theorem Cd{A:Prop}(h:A:=by
 refine af ?_
 refine aA.nil ?_
 iterate 2 refine af ?_
 exact lP.one rfl rfl ⟨rfl,rfl⟩):A:=h
set_option linter.unusedSimpArgs false
set_option linter.unusedVariables false
section
set_option maxRecDepth 100000
set_option maxHeartbeats 4000000
namespace Go.Proofs.YtibffijhebobmaaGreatDoor
open Go.AF
theorem VZ:Yf Tryz.prog 174:=⟨_, Tryz.func174,by kernel_rfl,by kernel_rfl,by kernel_rfl,by kernel_rfl⟩
theorem Pf:liesAt Tryz.prog Tryz.prog.depth 148 (2 / Tryz.prog.cellsOf 148) 0 148 1=true:=by kernel_rfl
theorem LM(v:V)(B:ah):ax Tryz.prog 135 [.ptr 0 0] [.cells [.p .nilPtr,v] 148,B] fun r H'=>r= .p (.tuple [])∧H'=[.cells [.ptr 0 0,v] 148,B]:=by
 refine ax.start (N:=20) Tryz.func135 rfl rfl Kn ?_
 iterate 6 refine af ?_
 refine Kc (aa.VJ rfl rfl rfl an) ?_
 refine af ?_
 refine aF.BW rfl ?_
 iterate 3 refine af ?_
 refine Kc (aa.XT rfl rfl an an (by decide) rfl (RW _)) ?_
 refine Kc (aa.Y2 rfl rfl VZ) ?_
 refine Kc (aa.aab rfl rfl an an rfl Pf) ?_
 iterate 4 refine af ?_
 exact qZ
theorem Rp(v:V)(B:ah):ax Tryz.prog 135 [.ptr 0 0] [.cells [.ptr 0 0,v] 148,B] fun r H'=>r= .p (.tuple [])∧H'=[.cells [.ptr 0 0,v] 148,B]:=by
 refine ax.start (N:=20) Tryz.func135 rfl rfl Kn ?_
 iterate 6 refine af ?_
 refine Kc (aa.FI rfl rfl rfl an) ?_
 refine af ?_
 refine aF.tP rfl ?_
 iterate 7 refine af ?_
 refine Kc (aa.PX rfl rfl rfl an) ?_
 refine af ?_
 refine aF.tP rfl ?_
 refine af ?_
 exact qZ
theorem Xb(l:Bs):ax Tryz.prog 135 [.ptr 0 0] [wC 148 0 1 l,wF 5 l] fun r H'=>r= .p (.tuple [])∧H'=[.cells [.ptr 0 0,ke 1 l.length] 148,wF 5 l]:=by
 cases l with
 | nil=>exact LM _ _
 | cons c t=>exact Rp _ _
theorem YG(l s:Bs)(hs:0<s.length):[ah.cells [.ptr 0 0,.row 2 (l.length+s.length)] 148,.dead,.gV (bV l++bV s) 5]=[wC 148 0 2 (l++s),.dead,wF 5 (l++s)]:=by
 have h:0<(l++s).length:=by rw[Zb];omega
 rw[VA h,VL h,Jk,Zb]
theorem Qu(l:Bs)(s:Bs)(hs:0<s.length)(hb:(l++s).length<=1099511627776):GO Tryz.prog 148 5 79 [.str (sB s)] l (s) (.tuple [.int .i64 (s.length:Int),.nilIface]):=by
 have hlen:l.length<=1099511627776:=by rw[Zb] at hb;omega
 have jC:=hb
 rw[Zb] at jC
 refine ax.start (N:=19) Tryz.func79 rfl rfl Kn ?_
 iterate 8 refine af ?_
 refine aj.yM 7 (Xb l) rfl rfl rfl rfl rfl rfl rfl an (fun v H2 iw=> ?_)
 obtain⟨rfl,rfl⟩:=iw
 iterate 9 refine af ?_
 refine Kc (aa.Fo rfl rfl an rfl (by simp[kU]) (J5.str rfl an) hs (Vk _) an (by decide) (by omega)) ?_
 iterate 7 refine af ?_
 refine Kc (aa.l7 rfl rfl Ro) ?_
 iterate 4 refine af ?_
 exact lP.many (xs:=[.int .i64 (s.length:Int),.nilIface]) rfl ⟨_,_,rfl,rfl,⟨_,_,rfl,rfl,rfl⟩⟩ rfl ⟨rfl,YG l s hs⟩
theorem Nf(a:V):ax Tryz.prog 80 [.ptr 0 0] [.cells [a,.p .nilSlice] 148,.dead] fun r H'=>r= .p (.str (sB []))∧H'=[.cells [a,.p .nilSlice] 148,.dead]:=by
 refine ax.start (N:=14) Tryz.func80 rfl rfl Kn ?_
 iterate 5 refine af ?_
 refine aF.aD 12 mixed (by kernel_rfl) (by decide) ?_
 refine af ?_
 refine Kq (aa.nilCheck rfl rfl) ?_
 iterate 2 refine af ?_
 refine Kq (aa.Ak rfl rfl) ?_
 refine af ?_
 refine Kq (aa.nilCheck rfl rfl) ?_
 iterate 2 refine af ?_
 refine Kq (aa.bq rfl rfl an rfl) ?_
 refine Kq (aa.O5 rfl rfl rfl) ?_
 exact Cd
theorem JQ(a:V)(l:Bs)(hl:0<l.length)(hb:l.length<=1099511627776):ax Tryz.prog 80 [.ptr 0 0] [.cells [a,.row 1 l.length] 148,.gV (bV l) 5] fun r H'=>r= .p (.str (sB l))∧H'=[.cells [a,.row 1 l.length] 148,.gV (bV l) 5]:=by
 refine ax.start (N:=14) Tryz.func80 rfl rfl Kn ?_
 iterate 5 refine af ?_
 refine aF.aD 12 mixed (by kernel_rfl) (by decide) ?_
 refine af ?_
 refine Kq (aa.nilCheck rfl rfl) ?_
 iterate 2 refine af ?_
 refine Kq (aa.AR rfl rfl hl) ?_
 refine af ?_
 refine Kq (aa.nilCheck rfl rfl) ?_
 iterate 2 refine af ?_
 refine Kq (aa.bq rfl rfl an rfl) ?_
 refine Kq (aa.RA l rfl rfl rfl an rfl hl (by omega)) ?_
 exact Cd
theorem P9(l:Bs)(hb:l.length<=1099511627776):ax Tryz.prog 80 [.ptr 0 0] [wC 148 0 1 l,wF 5 l] fun r H'=>r= .p (.str (sB l))∧H'=[wC 148 0 1 l,wF 5 l]:=by
 cases l with
 | nil=>exact Nf _
 | cons c t=>exact JQ _ (c::t) (RW _) hb
def jL(ws:List Bs):Bs:=ws.flatMap (· ++[10])
theorem G4(w:Bs)(ws:List Bs):jL (w::ws)=w++10::jL ws:=by
 unfold jL
 rw[ZH,ZK]
 rfl
theorem Tq(a b:List Bs):jL (a++b)=jL a++jL b:=by unfold jL;rw[IC]
theorem lK{ws:List Bs}{k:Nat}(hk:k<ws.length):jL (ws.drop k)=ws[k]++10::jL (ws.drop (k+1)):=by
 rw[Uu hk,G4]
theorem SL:∀(w r:Bs),10∉w->Lib.indexByte (w++10::r) 10=(w.length:Int)
 | [],r,_=>rfl
 | b::w,r,h=>by
  have hb:(b==10)=false:=by
   have:b≠10:=fun e=>h (by rw[e];exact Zt)
   simpa using this
  have ih:=SL w r (fun hm=>h (Zh _ hm))
  show(if (b==10)=true then(0:Int) else if (Lib.indexByte (w++10::r) 10== -1)=true then -1 else Lib.indexByte (w++10::r) 10+1)=_
  rw[hb,ih,if_neg (by decide),if_neg (by
   intro hc
   have:=eq_of_beq hc
   omega),Zm]
  rfl
theorem Fx:∀(s cur:Bs),10∉cur->∃ ws last,eg 10 cur s=ws++[last]∧jL ws++last=cur++s∧10∉last∧∀ w∈ws,10∉w
 | [],cur,h=>⟨[],cur,by rw[eg];rfl,by simp[jL],h,fun _ h=>by cases h⟩
 | b::s,cur,h=>by
  rw[eg]
  by_cases hb:b=10
  ·rw[if_pos hb]
   obtain⟨ws,last,h1,h2,h3,h4⟩:=Fx s [] (by simp)
   refine⟨cur::ws,last,by rw[h1];rfl,?_,h3,fun w hw=> ?_⟩
   ·rw[G4,ZK,OK,h2,hb];rfl
   ·rcases Zr.1 hw with rfl | hw
    ·exact h
    ·exact h4 w hw
  ·rw[if_neg hb]
   obtain⟨ws,last,h1,h2,h3,h4⟩:=Fx s (cur++[b]) (fun hm=>by
    rcases Zo.1 hm with hm | hm
    ·exact h hm
    ·exact hb (ZI.1 hm).symm)
   exact⟨ws,last,h1,by rw[h2,ZK];rfl,h3,h4⟩
theorem Oo{s:Bs}(h:s=[]∨s.getLast?=some 10):jL (eg 10 [] s).dropLast=s∧∀ w∈(eg 10 [] s).dropLast,10∉w:=by
 obtain⟨ws,last,h1,h2,h3,h4⟩:=Fx s [] (by simp)
 rw[h1,List.dropLast_concat]
 refine⟨?_,h4⟩
 have hl:last=[]:=by
  rcases h with rfl | h
  ·have:=List.append_eq_nil_iff.1 h2;exact this.2
  ·cases hla:last.getLast? with
   | none=>exact List.getLast?_eq_none_iff.1 hla
   | some x=>
    rw[OW] at h2
    rw[<- h2,List.getLast?_append,hla] at h
    have hx:x=10:=by simpa using h
    exact absurd (by rw[<- hx];exact List.mem_of_getLast? hla) h3
 rw[hl,ZT] at h2
 exact h2
theorem Uw{ws:List Bs}{k:Nat}(hk:k<ws.length):0<(jL (ws.drop k)).length:=by
 rw[lK hk,Zb,Zm];omega
theorem TF{ws:List Bs}:jL (ws.drop ws.length)=[]:=by rw[List.drop_length];rfl
theorem SK(ws:List Bs)(k:Nat):(jL (ws.drop k)).length<=(jL ws).length:=by
 have h:jL ws=jL (ws.take k)++jL (ws.drop k):=by rw[<- Tq,WV]
 have:=congrArg List.length h
 rw[Zb] at this
 omega
theorem SP{ws:List Bs}{k:Nat}(hk:k<ws.length){f:Bs->List V}:(ws.map f)[k]? =some (f ws[k]):=by
 rw[Zu,Zc hk];rfl
theorem ry{H:List ah}{i:Nat}{v:V}{vs:List V}{e:TypeId}(h:H[i]? =some (.cells (v::vs) e)):cN H false 1 (.ptr i 0)=some v:=by
 unfold cN
 simp only[h]
 rfl
theorem PB{H:List ah}{i:Nat}{v u:V}{e:TypeId}(h:H[i]? =some (.cells [v] e)):fK H i 0 [u]=some (H.set i (.cells [u] e)):=by
 unfold fK
 simp only[h]
 rfl
theorem Qk(i:Nat):some (LV (i+1) (.ptr i 0))=some (V.ptr i 0):=by
 have h:Nat.blt i (i+1)=true:=by unfold Nat.blt;exact Nat.ble_eq_true_of_le (Zf _)
 show some (bif Nat.blt i (i+1) then V.ptr i 0 else .top)=_
 rw[h]
 rfl
theorem aa.Hi{P:Program}{N:Nat}{o:Oper}{T:Tm}{H:List ah}{x:Operand}{t:TypeId}{lo hi:Option Operand}(l:Bs)(i j:Nat)(r:Bs)(ho:o.op= .slice t x lo hi none)(hx:ev T x=some (.p (.str (sB l))))(ht:BI P t=true)(hl:gC T lo 0 i)(hh:gC T hi l.length j)(h1:i<=j)(h2:j<=l.length)(e:(l.drop i).take (j - i)=r):aa P N o T H (.p (.str (sB r))) H:=
 e▸aa.Ts l i j ho hx ht hl hh h1 h2
theorem abc{ws:List Bs}{k:Nat}(hk:k<ws.length):((jL (ws.drop k)).drop 0).take (ws[k].length+1 - 0)=ws[k]++[10]:=by
 rw[Wm,Nat.sub_zero,lK hk,show ws[k]++10::jL (ws.drop (k+1))=(ws[k]++[10])++jL (ws.drop (k+1)) by simp,List.take_left' (by simp)]
theorem aaB{ws:List Bs}{k:Nat}(hk:k<ws.length):((jL (ws.drop k)).drop (ws[k].length+1)).take ((jL (ws.drop k)).length - (ws[k].length+1))=jL (ws.drop (k+1)):=by
 rw[OI (by rw[KP];exact Zf _),lK hk,List.drop_append]
 simp
theorem LD(s:Bs):ax Tryz.prog 76 ([.str (sB s)].map .p) [] fun v H2=>v= .func (.func 131) [] [.ptr 0 0]∧H2=[.cells [.p (.str (sB s))] 9]:=by
 refine ax.start (N:=4) Tryz.func76 rfl rfl Kn ?_
 iterate 2 refine af ?_
 refine Kc (aa.kF rfl rfl rfl) ?_
 iterate 4 refine af ?_
 refine Kc (aa.makeFunc rfl rfl rfl) ?_
 exact nR
theorem Ve{ws:List Bs}{k:Nat}(hk:k<ws.length)(hw:∀ w∈ws,10∉w):Pure Tryz.prog 132 [.str (sB (jL (ws.drop k))),.int .u8 10] (.int .i64 (ws[k].length:Int)):=by
 have h:=zA (jL (ws.drop k)) 10
 rw[lK hk] at h
 rw[SL _ _ (hw _ (zL hk)),<- lK hk] at h
 exact h
theorem Jq(ws:List Bs)(i:Nat)(hl:(jL ws).length<=1000000)(hw:∀ w∈ws,10∉w):Sv Tryz.prog (i+1) i (fun k=> .cells [.p (.str (sB (jL (ws.drop k))))] 9) 131 (fun y=>[y,.ptr i 0]) (ws.map fun w=>[.p (.str (sB (w++[10])))]):=by
 intro l κ nn inv fin hk0 hκ TG Gk hb h0 nA
 refine jY.gQ (N:=25) Tryz.func131 rfl rfl Kn ?_
 refine af ?_
 refine aF.fE [0,1] (fun g=>[]) (fun g=>g.2) (fun g=>g.1<=ws.length∧inv g.1 g.2) (fun g=>ws.length - g.1) (0,h0) (show(0:Nat)<=ws.length∧inv 0 h0 from⟨Zs _,nA⟩) (To.sub (Sub.Jw (Sub.nil))) (fun g hg=> ?_)
 obtain⟨k,LB⟩:=g
 obtain⟨hle,hinv⟩:=hg
 dsimp only at hle hinv ⊢
 have hR:=(TG _ _ hinv).2
 have Xp:=(TG _ _ hinv).1
 have hjl:=SK ws k
 iterate 3 refine af ?_
 refine Kc (aa.load (v:= .p (.str (sB (jL (ws.drop k))))) rfl rfl an (ry hR)) ?_
 refine Kc (aa.l7 rfl rfl Ro) ?_
 iterate 2 refine af ?_
 refine Ki (fun hc0=> ?_) fun hc0=> ?_
 ·have pQ:k<ws.length:=by
   rcases ZS k ws.length with h | h
   ·exact h
   ·obtain rfl:k=ws.length:=by omega
    rw[TF] at hc0
    cases hc0
  have eR:=lK pQ
  have eL:=congrArg List.length eR
  rw[Zb,Zm] at eL
  have hbk:=hb k LB _ hinv (SP pQ)
  iterate 9 refine af ?_
  refine Kc (aa.load (v:= .p (.str (sB (jL (ws.drop k))))) rfl rfl an (ry hR)) ?_
  refine Kc (Kp (Ve pQ hw)) ?_
  iterate 7 refine af ?_
  refine Ki (fun cR=> ?_) fun cR=> ?_
  ·refine aF.aD 9 mixed (by kernel_rfl) (by decide) ?_
   refine Kq (aa.load (v:= .p (.str (sB (jL (ws.drop k))))) rfl rfl an (ry hR)) ?_
   refine af ?_
   refine Kq (aa.add rfl rfl rfl (aK ?_)) ?_
   ·omega
   refine Kq (aa.Hi (jL (ws.drop k)) 0 (ws[k].length+1) (ws[k]++[10]) rfl rfl an rfl ⟨_,rfl⟩ (Zs _) (by rw[eL];omega) (abc pQ)) ?_
   refine Kq (aa.load (v:= .p (.str (sB (jL (ws.drop k))))) rfl rfl an (ry hR)) ?_
   refine af ?_
   refine Kq (aa.add rfl rfl rfl (aK ?_)) ?_
   ·omega
   refine Kq (aa.Hi (jL (ws.drop k)) (ws[k].length+1) (jL (ws.drop k)).length (jL (ws.drop (k+1))) rfl rfl an ⟨_,rfl⟩ rfl (by rw[eL];omega) (Zf _) (aaB pQ)) ?_
   refine af ?_
   refine aA.nil ?_
   refine Kz (aa.store (H':=(LB.set i (.cells [.p (.str (sB (jL (ws.drop (k+1)))))] 9))) rfl rfl rfl rfl rfl an rfl (PB hR)) ?_
   iterate 5 refine af ?_
   refine aj.Vo (i+1) 23 hk0 (by rw[ZZ];omega) rfl rfl rfl rfl rfl rfl (by exact hbk) ?_
   intro b2 h2 hq
   iterate 2 refine af ?_
   refine Ki (fun jR=> ?_) fun jR=> ?_
   ·have iu:b2=false:=by simpa using jR
    rw[if_neg (by rw[iu];decide)] at hq
    refine af ?_
    exact⟨.inr rfl,_,en.none_ rfl,.inr hq⟩
   ·have iu:b2=true:=by simpa using jR
    rw[if_pos iu] at hq
    have hN:inv (k+1) h2:=hq
    refine af ?_
    refine⟨(k+1,h2),?_,?_,?_⟩
    ·exact⟨pQ,hN⟩
    ·show ws.length - (k+1)<ws.length - k
     omega
    exact To.sub (Sub.cons rfl (Sub.cons (Qk i) Sub.nil))
  ·exfalso
   simp at cR
 ·have QD:k=ws.length:=by
   rcases ZS k ws.length with h | h
   ·have h2:=Uw h;have h3:=Zl hc0;rw[gD] at h3;omega
   ·omega
  subst QD
  refine aF.exit ?_
  exact⟨.inl rfl,_,en.none_ rfl,.inl (by rw[Zp];exact hinv)⟩
section
variable {P:Program} {N κ:Nat} {T T2:Tm} {F:cW} {z:Bool} {out s:Bs} {r:vH}
def rE(i:Nat):ah:= .cells [.ptr i 0] 30
def ug(s:Bs):ah:= .cells [.p (.str (sB s))] 9
def lG(s out:Bs)(F:cW)(z:Bool):List ah:=[rE 4,wC 148 1 3 out,ug s,wF 5 out]++cD 4 F z
theorem AB{σ:Nat->Option Nat}{i j:Nat}(h:σ i=some j):aE σ (rE i)=rE j:=by
 show ah.cells [bf σ (.ptr i 0)] 30=_
 simp only[bf,h]
 rfl
theorem Bj{σ:Nat->Option Nat}{st:LoopState}{pe:Option Code}(h:eV σ r.T=r.T):aE σ (.loop r st pe)= .loop r st pe:=by
 show ah.loop {r with T:=eV σ r.T} st pe=_
 rw[h]
theorem UY(hm:F.marks.length<=8)(hT:∀ σ,σ 47=some 0->σ 48=some 1->σ 49=some 2->Sub T2 (eV σ T)):To P 0 N T (cD 0 F z++[rE 0,.cells [.p .nilPtr,.p .nilSlice] 148,ug s]) T2 (lG s [] F z):=by
 have hl:=iJ (c:=0) (z:=z) hm
 obtain⟨σ,_,h2,h3,hto⟩:=To.rot (P:=P) (κ:=0) (N:=N) (T:=T) [] (cD 0 F z) [rE 0,.cells [.p .nilPtr,.p .nilSlice] 148,ug s,.dead] (Zf _)
 have g0:σ 0=some 4:=by have:=h2 0 (by rw[hl];decide);simpa using this
 have gk:∀ k,k<47->σ (0+k)=some (4+k):=fun k hk=>by have:=h2 k (by rw[hl];exact hk);simpa using this
 have e0:=h3 0 (by simp)
 have e1:=h3 1 (by simp)
 have e2:=h3 2 (by simp)
 rw[hl] at e0 e1 e2
 refine To.trans (To.tW To.pad (H3:=[]++(cD 0 F z++[rE 0,.cells [.p .nilPtr,.p .nilSlice] 148,ug s,.dead])) (by simp)) (To.trans hto (To.tW (To.sub (hT σ e0 e1 e2)) ?_))
 rw[rI hm gk]
 show[aE σ (rE 0),_,_,_]++cD 4 F z=_
 rw[AB g0]
 rfl
theorem U7(hm:F.marks.length<=8)(hr:∀ σ,σ 0=some 0->σ 1=some 1->σ 2=some 2->eV σ r.T=r.T)(hT:∀ σ,σ 0=some 0->σ 1=some 1->σ 2=some 2->Sub T2 (eV σ T)):To P 3 N T (lG s out F z++[.loop r .busy none]) T2 ([rE 5,wC 148 1 3 out,ug s,wF 5 out,.loop r .busy none]++cD 5 F z):=by
 have hl:=iJ (c:=4) (z:=z) hm
 obtain⟨σ,h1,h2,h3,hto⟩:=To.rot (P:=P) (κ:=3) (N:=N) (T:=T) [rE 4,wC 148 1 3 out,ug s,wF 5 out] (cD 4 F z) [.loop r .busy none] (by simp)
 have e0:=h1 0 (by simp)
 have e1:=h1 1 (by simp)
 have e2:=h1 2 (by simp)
 have e3:=h1 3 (by simp)
 have g4:σ 4=some 5:=by have:=h2 0 (by rw[hl];decide);simpa using this
 have gk:∀ k,k<47->σ (4+k)=some (5+k):=fun k hk=>by have:=h2 k (by rw[hl];exact hk);simpa using this
 refine To.trans (To.tW hto (H3:=[rE 5,wC 148 1 3 out,ug s,wF 5 out,.loop r .busy none]++cD 5 F z) ?_) (To.sub (hT σ e0 e1 e2))|>fun h=>To.tW (H2:=_) h rfl|>fun h=>by
  have e:lG s out F z++[.loop r .busy none]=[rE 4,wC 148 1 3 out,ug s,wF 5 out]++(cD 4 F z++[.loop r .busy none]):=by unfold lG;rw[ZK]
  rw[e]
  exact h
 rw[rI hm gk]
 show[aE σ (rE 4),aE σ (wC 148 1 3 out),aE σ (ug s),aE σ (wF 5 out)]++([aE σ (.loop r .busy none)]++cD 5 F z)=_
 rw[AB g4,F6 e1 e3,Fy,Bj (hr σ e0 e1 e2)]
 rfl
theorem Vr(hm:F.marks.length<=8)(hr:∀ σ,σ 0=some 0->σ 1=some 1->σ 2=some 2->eV σ r.T=r.T):To P 3 N T ([rE 5,wC 148 1 52 out,ug s,.dead,.loop r .busy none]++(cD 5 F z++[wF 5 out])) [] (lG s out F z++[.loop r .busy none]):=by
 have hl:=iJ (c:=5) (z:=z) hm
 obtain⟨H,eH⟩:∃ H,H=[rE 5,wC 148 1 52 out,ug s,.dead,.loop r .busy none]++(cD 5 F z++[wF 5 out]):=⟨_,rfl⟩
 have UF:H.length=53:=by rw[eH];simp[hl]
 obtain⟨ks,yj⟩:∃ ks:List Nat,ks=[0,1,2,52]++(List.range' 5 47++[4]):=⟨_,rfl⟩
 have hkeep:jA 3 H.length ks=true:=by rw[UF,yj];rfl
 have hk:=To.keep (P:=P) (κ:=3) (N:=N) (T:=T) (H:=H) ks hkeep
 have e0:pl ks 0=some 0:=by rw[yj];rfl
 have e1:pl ks 1=some 1:=by rw[yj];rfl
 have e2:pl ks 2=some 2:=by rw[yj];rfl
 have e52:pl ks 52=some 3:=by rw[yj];rfl
 have gk:∀ k,k<47->pl ks (5+k)=some (4+k):=by rw[yj];decide
 have g5:pl ks 5=some 4:=gk 0 (by decide)
 have uq:∀ k,k<47->H[5+k]? =(cD 5 F z)[k]? :=fun k hk=>by
  rw[eH,Zj (by simp),Zd (by rw[hl];simpa using hk)]
  congr 1
  simp
 have abd:H[52]? =some (wF 5 out):=by
  rw[eH,Zj (by simp),Zj (by rw[hl];simp),hl]
  rfl
 rw[<- eH]
 refine To.trans (To.tW hk (H3:=lG s out F z++[.loop r .busy none]) ?_) (To.sub Sub.nil)
 have seg:(List.range' 5 47).map (fun i=>aE (pl ks) (H.getD i .dead))=(cD 5 F z).map (aE (pl ks)):=by
  apply Fp
  intro i
  rw[Zu,Zu]
  rcases ZS i 47 with hi | hi
  ·have hx:=Zc (show i<(cD 5 F z).length by rw[hl];exact hi)
   rw[Wo hi,ZO]
   show some (aE (pl ks) (H.getD (5+i) .dead))=_
   rw[Ze,uq i hi,hx]
   rfl
  ·rw[ZF (by rw[VR];exact hi),ZF (by rw[hl];exact hi)]
   rfl
 have g:∀{i:Nat} {x:ah},H[i]? =some x->H.getD i .dead=x:=fun hx=>by rw[Ze,hx];rfl
 have m1:ks.map (fun i=>aE (pl ks) (H.getD i .dead))=[0,1,2,52].map (fun i=>aE (pl ks) (H.getD i .dead))++((List.range' 5 47).map (fun i=>aE (pl ks) (H.getD i .dead))++[4].map (fun i=>aE (pl ks) (H.getD i .dead))):=by
  conv=>lhs;arg 2;rw[yj]
  rw[ZA,ZA]
 rw[m1,seg,rI hm gk]
 show[aE (pl ks) (H.getD 0 .dead),aE (pl ks) (H.getD 1 .dead),aE (pl ks) (H.getD 2 .dead),aE (pl ks) (H.getD 52 .dead)]++(cD 4 F z++[aE (pl ks) (H.getD 4 .dead)])=_
 rw[g abd,g (show H[0]? =some (rE 5) by rw[eH];rfl),g (show H[1]? =some (wC 148 1 52 out) by rw[eH];rfl),g (show H[2]? =some (ug s) by rw[eH];rfl),g (show H[4]? =some (.loop r .busy none) by rw[eH];rfl),
  AB g5,F6 e1 e52,Fy,Bj (hr _ e0 e1 e2)]
 unfold lG
 rw[ZK]
 rfl
theorem VW{rest:List ah}(hT:∀ σ,σ 1=some 0->Sub T2 (eV σ T)):To P 0 N T ([rE 4,wC 148 1 3 out,ug s,wF 5 out]++rest) T2 [wC 148 0 1 out,wF 5 out]:=by
 have hkeep:jA 0 ([rE 4,wC 148 1 3 out,ug s,wF 5 out]++rest).length [1,3]=true:=by
  unfold jA
  simp only[Zn,beq_iff_eq,Zx,Zq]
  refine⟨⟨rfl,fun i hi=> ?_⟩,by decide⟩
  have:i<([rE 4,wC 148 1 3 out,ug s,wF 5 out]++rest).length:=by
   rw[Zb]
   simp only[Zr,KF,or_false] at hi
   show i<4+_
   omega
  simpa[Nat.blt,Zw] using this
 have hk:=To.keep (P:=P) (κ:=0) (N:=N) (T:=T) [1,3] hkeep
 refine To.trans (To.tW hk (H3:=[wC 148 0 1 out,wF 5 out]) ?_) (To.sub (hT _ rfl))
 show[aE (pl [1,3]) (wC 148 1 3 out),aE (pl [1,3]) (wF 5 out)]=_
 rw[F6 (σ:=pl [1,3]) (i':=0) (j':=1) rfl rfl,Fy]
theorem nZ(hm:F.marks.length<=8):(lG s out F z).length=51:=by
 unfold lG
 rw[Zb,iJ hm]
 rfl
theorem DH{x y:ah}{n:Nat}(hm:F.marks.length<=8)(hn:n=51):(lG s out F z++[x])[n]? =some x∧(lG s out F z++[x]).set n y=lG s out F z++[y]:=by
 have h:=nZ (s:=s) (out:=out) (z:=z) hm
 subst hn
 rw[<- h]
 exact⟨by simp,by simp⟩
theorem Pd{B1:Bs}(hm:F.marks.length<=8)(hr:∀ σ,σ 0=some 0->σ 1=some 1->σ 2=some 2->eV σ r.T=r.T):To P 3 N T (((([rE 5,wC 148 1 3 B1,ug s,wF 5 B1,.loop r .busy none]++cD 5 F z).set 1 (wC 148 1 ([rE 5,wC 148 1 3 B1,ug s,wF 5 B1,.loop r .busy none]++cD 5 F z).length out)).set 3 .dead)++[wF 5 out]) [] (lG s out F z++[.loop r .busy none]):=by
 have hl:=iJ (c:=5) (z:=z) hm
 have e:((([rE 5,wC 148 1 3 B1,ug s,wF 5 B1,.loop r .busy none]++cD 5 F z).set 1 (wC 148 1 ([rE 5,wC 148 1 3 B1,ug s,wF 5 B1,.loop r .busy none]++cD 5 F z).length out)).set 3 .dead)++[wF 5 out]=[rE 5,wC 148 1 52 out,ug s,.dead,.loop r .busy none]++(cD 5 F z++[wF 5 out]):=by
  rw[Zb,hl]
  rfl
 rw[e]
 exact Vr hm hr
def GLn(F:cW)(w:Bs)(H:List ah):List ah->Prop:=fun H2=>(∃ z q im qs,fV 5 (aI F w).1 z H2 q im qs)∧∀ i,i<5->H2[i]? =H[i]?
theorem aaX{w:Bs}{H:List ah}(h0:H[0]? =some (rE 5)):∀ H0,(H0=H∨GLn F w H H0)->cN H0 false 1 (.ptr 0 0)=some (.ptr 5 0):=fun H0 h=>by
 have:H0[0]? =some (.cells [.ptr 5 0] 30):=by
  rcases h with rfl | ⟨_,h⟩
  ·exact h0
  ·rw[h 0 (by decide)];exact h0
 exact ry this
theorem UR{e:TypeId}{i j n:Nat}{l:Bs}(hi:i<n)(hj:j<n):IU n (wC e i j l):=by
 have h:∀ k,k<n->below n k=some k:=fun k hk=>by unfold below;rw[if_pos (by simpa[Nat.blt,Zw] using hk)]
 cases l with
 | nil=>rfl
 | cons c t=>
  show bA _ [.ptr i 0,.row j _]=_
  simp only[bA,bf,h i hi,h j hj]
  rfl
theorem TK{eb:TypeId}{n:Nat}{l:Bs}:IU n (wF eb l):=by
 cases l with
 | nil=>trivial
 | cons c t=>exact uv _ _
theorem QH(hr:eV (below 6) r.T=r.T):∀(i:Nat) (x:ah),[rE 5,wC 148 1 3 out,ug s,wF 5 out,.loop r .busy none][i]? =some x->IU 6 x:=fun i x h=>by
 match i,h with
 | 0,h=>cases h;rfl
 | 1,h=>cases h;exact UR (by decide) (by decide)
 | 2,h=>cases h;rfl
 | 3,h=>cases h;exact TK
 | 4,h=>cases h;exact hr
theorem Mw{w:Bs}{H2:List ah}{q:P5}{im:Nat}{qs:List P5}{z2:Bool}(hr:eV (below 6) r.T=r.T)(hfl:fV 5 (aI F w).1 z2 H2 q im qs)(hlow:∀ i,i<5->H2[i]? =([rE 5,wC 148 1 3 out,ug s,wF 5 out,.loop r .busy none]++cD 5 F z)[i]?)(hT:Sub T2 T)(hl:eV (below 6) T2=T2):To P 3 N T H2 T2 ([rE 5,wC 148 1 3 out,ug s,wF 5 out,.loop r .busy none]++cD 5 (aI F w).1 z2):=by
 refine qE hfl rfl (fun i x hx=>⟨?_,QH hr i x hx⟩) (by decide) hT hl
 have hi:=(Za.1 hx).1
 rw[hlow i hi,Zd hi]
 exact hx
theorem Rb(w:Bs)(hw:w.length<=1000000):Pure Tryz.prog 77 [.str (sB (w++[10])),.str (sB [10])] (.str (sB w)):=by
 have h:=xS (w++[10]) [10] (by simp;omega)
 have e:Lib.trimSuffix (w++[10]) [10]=w:=by
  unfold Lib.trimSuffix
  rw[if_pos (by unfold Lib.hasSuffix;simp)]
  simp
 rwa [e] at h
theorem U8{s:Bs}(h:s.getLast?=some 10):([10]:Bs).isSuffixOf s=true:=by
 rw[List.isSuffixOf_iff_suffix]
 obtain⟨t,ht⟩:=List.getLast?_eq_some_iff.1 h
 exact⟨t,ht.symm⟩
theorem WC{s:Bs}(h:s.getLast?≠some 10):([10]:Bs).isSuffixOf s=false:=by
 cases e:([10]:Bs).isSuffixOf s with
 | false=>rfl
 | true=>
  rw[List.isSuffixOf_iff_suffix] at e
  obtain⟨t,ht⟩:=e
  exact absurd (by rw[<- ht];simp) h
theorem Az{r:Bs}{e:Int}(he:e≠0):cQ 32 (jJ [.str F9,.num e])++[10]=AP r e:=by
 unfold AP
 rw[if_neg he,eJ]
 rfl
theorem Dy{r:Bs}{e:Int}(he:e=0):r++[10]=AP r e:=by
 unfold AP
 rw[if_pos he]
theorem Yv{ws:List Bs}{k:Nat}(hk:k<ws.length){f:Bs->List V}:(ws.map f)[k]? =some (f (Di.gt [] ws k)):=by
 rw[SP hk,Di.aC [] k hk]
theorem Py{x:ah}{n:Nat}(hm:F.marks.length<=8)(hn:n=51):(lG s out F z++[x])[n]? =some x:=(DH (y:= .dead) hm hn).1
theorem OF{x y:ah}{n:Nat}(hm:F.marks.length<=8)(hn:n=51):(lG s out F z++[x]).set n y=lG s out F z++[y]:=(DH hm hn).2
theorem aF.EG{R:Option Nat}{Q:Post}{H:List ah}{l:List Oper}{id:Nat}(m:Nat)(F:cW)(w:Bs)(FK:P.follows .mixedOrders=true)(hk:kr m l=true)(hm:m<=l.length)(h:ay P N l.toArray H (GLn F w H) (fun T'=>∀ H2,GLn F w H H2->aj P R N κ l.toArray (l.drop m) Q T' H2) false (l.take m) T):aF P R N κ (.region id l.toArray true) Q T H:=
 aF.mR m (GLn F w H) FK hk hm h
theorem aau{r:Bs}(h1:r.length<=3000):r.length+([10]:Bs).length<9223372036854775808:=by simp;omega
theorem aaN{e:Int}(h:0<=e∧e<=15)(he:e≠0):(cQ 32 (jJ [.str F9,.num e])).length+([10]:Bs).length<9223372036854775808:=by
 have h2:=ur (r:=[]) (e:=e) ⟨Zs _,h⟩
 rw[<- Az (r:=[]) he,Zb] at h2
 omega
end
theorem JO(l:List Di.dw)(hl:l.length<=1000000):ax Tryz.prog 58 [.p (Di.oZ l)] [] fun v H2=>v=aZ 0 l.length∧H2=[dU ((l.flatMap Di.dw.cells).map .p) 122 l.length]:=by
 refine ax.start (N:=8) Tryz.func58 rfl rfl Kn ?_
 iterate 8 refine af ?_
 refine aj.Ae 4 rfl rfl rfl an rfl rfl rfl (fun b hb0=> ?_)
 refine af ?_
 refine Ki (fun hc0=> ?_) fun hc0=> ?_
 ·have h0:l.length=0:=hb0 hc0
  iterate 3 refine af ?_
  refine aj.to (To.z0 2 rfl) ?_
  refine aj.to To.pad ?_
  iterate 2 refine af ?_
  have hq:V.z0=aZ 0 l.length∧([.dead]:List ah)=[dU ((l.flatMap Di.dw.cells).map .p) 122 l.length]:=⟨(oD h0).symm,by rw[oC h0]⟩
  exact qp
 ·iterate 3 refine af ?_
  refine Kc (aa.uC rfl an) ?_
  refine af ?_
  refine Kc (aa.qF rfl rfl rfl an an (lM (xs:=(l.flatMap Di.dw.cells)) (n:=l.length) (sz:=3) (AF.cu (c:=3) (fun _=>rfl) l)) (Jv Di.dw.cells l (fun _=>rfl)) an (by decide) ?_) ?_
  ·show(2*l.length+192)*24<=281474976710656;omega
  exact nR
theorem JE(l:List Di.dw)(hl:l.length<=1000000)(h1:1<=l.length):ax Tryz.prog 58 ([Di.oZ l].map .p) [] fun v H2=>v= .row 0 l.length∧H2=[.row ((l.flatMap Di.dw.cells).map .p) 122]:=
 fun w I ρ us hi hu=>(JO l hl w I ρ us hi hu).mono fun e w' ⟨u,v,J,σ,H2,a1,⟨a2,a3⟩,a4,a5,a6⟩=>⟨u,v,J,σ,H2,a1,⟨by rw[a2,KT h1],by rw[a3,L2 h1]⟩,a4,a5,a6⟩
theorem SH:∀ l:List Di.dw,Pt (l.flatMap Di.dw.cells)=true
 | []=>rfl
 | x::l=>by
  show Pt (x.cells++l.flatMap Di.dw.cells)=true
  show(true&&(true&&(true&&Pt (l.flatMap Di.dw.cells))))=true
  rw[SH l];rfl
theorem JZ(p:Di.bn)(hp:p.dies.length<=100)(h:Di.cL p=false):Pure Tryz.prog 29 [Di.dO p,.nilSlice,.nilSlice] (.tuple [.nilSlice,.int .i64 0,.int .i64 1]):=by
 have h2:=Pure.R4 (Di.oq p [] [] (ZW hp (by decide)) (by decide) (by decide))
 rw[Di.FB h] at h2
 exact h2
theorem Fq(p:Di.bn)(h:Di.cL p=true):Di.eC p [] []=(some (List.replicate p.dies.length 0),0,0):=by
 rw[Di.gG h rfl]
 rfl
theorem Ga(p:Di.bn)(hp:p.dies.length<=100)(h:Di.cL p=true):Pure Tryz.prog 29 [Di.dO p,.nilSlice,.nilSlice] (.tuple [Di.bw (List.replicate p.dies.length 0),.int .i64 0,.int .i64 0]):=by
 have h2:=Pure.R4 (Di.oq p [] [] (ZW hp (by decide)) (by decide) (by decide))
 rw[Fq p h] at h2
 exact h2
theorem VY(p:Di.bn)(hp:p.dies.length<=100)(h:Di.cL p=false):Pure Tryz.prog 20 [Di.dO p] (.tuple [.nilPtr,.int .i64 1]):=by
 refine Kf (N:=22) Tryz.func20 ?_
 iterate 2 refine af ?_
 refine Kc (aa.kF rfl rfl rfl) ?_
 iterate 6 refine af ?_
 refine Kc (Kl (.p (Di.dO p))) ?_
 refine Kc (Kp (JZ p hp h)) ?_
 iterate 13 refine af ?_
 refine aF.BW rfl ?_
 iterate 6 refine af ?_
 refine Fin.ep (xs:=[.nilPtr,.int .i64 1]) rfl ⟨_,_,rfl,rfl,⟨_,_,rfl,rfl,rfl⟩⟩ rfl rfl
theorem zw(p:Di.bn)(hp:p.dies.length<=100)(h:Di.cL p=true):ax Tryz.prog 20 ([Di.dO p].map .p) [] fun v H2=>v= .tuple [.ptr 0 0,.p (.int .i64 0)]∧H2=cD 0 (newF p) true:=by
 obtain⟨⟨n1,n4⟩,_⟩:=Di.c9 h
 refine ax.start (N:=22) Tryz.func20 rfl rfl Kn ?_
 iterate 2 refine af ?_
 refine Kc (aa.kF rfl rfl rfl) ?_
 iterate 6 refine af ?_
 refine Kc (Kl (.p (Di.dO p))) ?_
 refine Kc (Kp (Ga p hp h)) ?_
 iterate 13 refine af ?_
 refine aF.tP rfl ?_
 iterate 4 refine af ?_
 refine Kc (Kl (.p (Di.oZ p.dies))) ?_
 refine Kc (aa.QJ 3 (JE p.dies (by omega) n1) (SH _) rfl rfl rfl rfl rfl an) ?_
 refine aj.to (To.freeze 1 rfl (iE _)) ?_
 iterate 5 refine af ?_
 refine Kc (Kl (.p (Di.dO p))) ?_
 refine af ?_
 refine Kc (aa.kF rfl rfl rfl) ?_
 iterate 2 refine af ?_
 refine aj.to (To.z0B 2 rfl) ?_
 refine aj.to (To.Qo 45) ?_
 refine aj.to (To.done (2::1::List.range' 3 45) (S:=[(2,.ptr 0 0),(3,.p (.int .i64 0))]) rfl KS (H2:=cD 0 (newF p) true) rfl) ?_
 iterate 2 refine af ?_
 exact⟨.inr rfl,_,en.many (vs:=[.ptr 0 0,.p (.int .i64 0)]) rfl ⟨_,_,rfl,rfl,⟨_,_,rfl,rfl,rfl⟩⟩,rfl,rfl⟩
theorem JL(p:Di.bn)(s:Bs)(h1:131072<s.length):Pure Tryz.prog 33 [Di.dO p,.str (sB s)] (.tuple [.str (sB []),.int .i64 3]):=by
 refine Kf (N:=52) Tryz.func33 ?_
 iterate 11 refine af ?_
 refine Kc (aa.l7 rfl rfl Ro) ?_
 iterate 3 refine af ?_
 refine Ki (fun hc0=> ?_) fun hc0=> ?_
 ·iterate 6 refine af ?_
  exact Fin.ep (xs:=[.str (sB []),.int .i64 3]) rfl ⟨_,_,rfl,rfl,⟨_,_,rfl,rfl,rfl⟩⟩ rfl rfl
 ·exfalso
  have h2:=Zl hc0
  rw[gD] at h2
  omega
theorem IQ(p:Di.bn)(s:Bs)(h1:¬ 131072<s.length)(h2:s≠[])(h3:s.getLast?≠some 10):Pure Tryz.prog 33 [Di.dO p,.str (sB s)] (.tuple [.str (sB []),.int .i64 8]):=by
 refine Kf (N:=52) Tryz.func33 ?_
 iterate 11 refine af ?_
 refine Kc (aa.l7 rfl rfl Ro) ?_
 iterate 3 refine af ?_
 refine Ki (fun hc0=> ?_) fun hc0=> ?_
 ·exact u6
 ·iterate 3 refine af ?_
  refine Kc (aa.xb s [] rfl rfl rfl) ?_
  refine af ?_
  refine Kg 19 18 1 rfl (fun h=>(aa.move rfl rfl)) ?_
  refine Kh 20 18 19 rfl rfl rfl rfl (fun h=>(Kp (mh s [10] (by omega)))) ?_
  refine Kh 21 18 20 rfl rfl rfl rfl (fun h=>(aa.gr rfl rfl)) ?_
  refine Kc (aa.fH rfl rfl rfl ?_) ?_
  ·exact az
  iterate 2 refine af ?_
  refine Ki (fun cR=> ?_) fun cR=> ?_
  ·iterate 6 refine af ?_
   exact Fin.ep (xs:=[.str (sB []),.int .i64 8]) rfl ⟨_,_,rfl,rfl,⟨_,_,rfl,rfl,rfl⟩⟩ rfl rfl
  ·exfalso
   rw[WC h3] at cR
   simp[h2] at cR
theorem MS(p:Di.bn)(s:Bs)(hp:p.dies.length<=100)(h1:¬ 131072<s.length)(h2:s=[]∨s.getLast?=some 10)(h3:Di.cL p=false):Pure Tryz.prog 33 [Di.dO p,.str (sB s)] (.tuple [.str (sB []),.int .i64 1]):=by
 refine Kf (N:=52) Tryz.func33 ?_
 iterate 11 refine af ?_
 refine Kc (aa.l7 rfl rfl Ro) ?_
 iterate 3 refine af ?_
 refine Ki (fun hc0=> ?_) fun hc0=> ?_
 ·exact u6
 ·iterate 3 refine af ?_
  refine Kc (aa.xb s [] rfl rfl rfl) ?_
  refine af ?_
  refine Kg 19 18 1 rfl (fun h=>(aa.move rfl rfl)) ?_
  refine Kh 20 18 19 rfl rfl rfl rfl (fun h=>(Kp (mh s [10] (by omega)))) ?_
  refine Kh 21 18 20 rfl rfl rfl rfl (fun h=>(aa.gr rfl rfl)) ?_
  refine Kc (aa.fH rfl rfl rfl ?_) ?_
  ·exact az
  iterate 2 refine af ?_
  refine Ki (fun cR=> ?_) fun cR=> ?_
  ·exact Dk
  ·iterate 3 refine af ?_
   refine Kc (Kl (.p (Di.dO p))) ?_
   refine Kc (Kp (VY p hp h3)) ?_
   iterate 13 refine af ?_
   refine aF.BW rfl ?_
   iterate 7 refine af ?_
   exact Fin.ep (xs:=[.str (sB []),.int .i64 1]) rfl ⟨_,_,rfl,rfl,⟨_,_,rfl,rfl,rfl⟩⟩ rfl rfl
theorem Qg(p:Di.bn)(s:Bs)(hp:p.dies.length<=100)(h1:¬ 131072<s.length)(h2:s=[]∨s.getLast?=some 10)(h3:Di.cL p=true):Pure Tryz.prog 33 [Di.dO p,.str (sB s)] (.tuple [.str (sB (xR (newF p) (eg 10 [] s).dropLast)),.int .i64 0]):=by
 obtain⟨ws,ews⟩:∃ ws,ws=(eg 10 [] s).dropLast:=⟨_,rfl⟩
 obtain⟨eS,hno⟩:=Oo h2
 rw[<- ews] at eS hno ⊢
 have hW:=zv h3
 have hjs:(jL ws).length<=131072:=by rw[eS];omega
 have Uv:ws.length<=131072:=by have h4:=(je 10 s []).2;have h5:=congrArg List.length ews;rw[List.length_dropLast] at h5;omega
 refine Kf (N:=52) Tryz.func33 ?_
 iterate 11 refine af ?_
 refine Kc (aa.l7 rfl rfl Ro) ?_
 iterate 3 refine af ?_
 refine Ki (fun hc0=> ?_) fun hc0=> ?_
 ·exact u6
 ·iterate 3 refine af ?_
  refine Kc (aa.xb s [] rfl rfl rfl) ?_
  refine af ?_
  refine Kg 19 18 1 rfl (fun h=>(aa.move rfl rfl)) ?_
  refine Kh 20 18 19 rfl rfl rfl rfl (fun h=>(Kp (mh s [10] (by omega)))) ?_
  refine Kh 21 18 20 rfl rfl rfl rfl (fun h=>(aa.gr rfl rfl)) ?_
  refine Kc (aa.fH rfl rfl rfl ?_) ?_
  ·exact az
  iterate 2 refine af ?_
  refine Ki (fun cR=> ?_) fun cR=> ?_
  ·exact Dk
  ·iterate 3 refine af ?_
   refine Kc (Kl (.p (Di.dO p))) ?_
   refine aj.yM 25 (zw p hp h3) rfl rfl rfl rfl rfl rfl rfl an (fun v H2 iw=> ?_)
   obtain⟨rfl,rfl⟩:=iw
   iterate 13 refine af ?_
   refine aF.tP rfl ?_
   iterate 9 refine af ?_
   refine aj.Au (Qp:=fun _ _=>False) 32 [] (LD s).LQ rfl rfl rfl (fun _ _ _=>⟨Zs _,fun j i y h=>by simp at h⟩) (fun _ _ h=>h.elim) rfl rfl rfl rfl rfl rfl rfl an (fun _ _ h=>h.elim) (fun v H2 iw=> ?_)
   obtain⟨rfl,rfl⟩:=iw
   iterate 2 refine af ?_
   refine aF.tW (show cD 0 (newF p) true++[rE 0,.cells [.p .nilPtr,.p .nilSlice] 148,ug s]=_ from rfl) ?_
   refine aF.to (To.sub (T2:=[(7,.ptr 48 0),(32,.func (.func 131) [] [.ptr 49 0]),(6,.ptr 47 0)]) KS) ?_
   refine aF.to (UY (T2:=[(7,.ptr 1 0),(32,.func (.func 131) [] [.ptr 2 0]),(6,.ptr 0 0)]) (Zs _) (fun σ e0 e1 e2=>by simp only[eV,bf,bA,e0,e1,e2];exact KS)) ?_
   refine aF.Gc 3 3 2 (fun k=> .cells [.p (.str (sB (jL (ws.drop k))))] 9) rfl (fun _=>rfl) an (Jq ws 2 (by omega) hno) (Zf 3) (Zs _) (by rw[nZ (F:=newF p) (Zs _)];decide) (fun _ h=>by cases h) (fun x hx=>by obtain⟨w,_,rfl⟩:=uE.1 hx;rfl) rfl (fun k h=>∃ z,(z=true->(kC (newF p) ws k).marks=[])∧h=lG (jL (ws.drop k)) (pE (newF p) ws k) (kC (newF p) ws k) z) (fun c h=>False) (fun k h ⟨z,_,e⟩=>by rw[e,nZ (jc (L:=ws) hW k).mm,nZ (F:=newF p) (Zs _)];exact⟨rfl,rfl⟩) (fun _ _ h=>h.elim) ⟨true,fun _=>rfl,by rw[<- eS];rfl⟩ ?_ ?_ ?_
   ·intro l tmps k h x hJ hx
    obtain⟨z,hz,rfl⟩:=hJ
    have hk:k<ws.length:=by have h5:=(Za.1 hx).1;rwa [Zp] at h5
    rw[Yv hk] at hx
    cases hx
    have hwk:(Di.gt [] ws k).length<=1000000:=by have h5:=SK ws k;rw[lK hk,Zb,Di.aC [] k hk] at h5;omega
    have hlen:((pE (newF p) ws k)++AP (aI (kC (newF p) ws k) (Di.gt [] ws k)).2.1 (aI (kC (newF p) ws k) (Di.gt [] ws k)).2.2).length<=1099511627776:=by have h5:=sL (L:=ws) hW (k+1);exact ZW h5 (by omega)
    have hlk:=G1 (s:=(Di.gt [] ws k)) (jc (L:=ws) hW k)
    obtain⟨hl1,xG,OQ⟩:=hlk
    show Round _ _ _ _ _ _ _ _ _ (lG (jL (ws.drop (k+1))) (pE (newF p) ws k) (kC (newF p) ws k) z++[.loop _ .ready none])
    iterate 3 refine af ?_
    refine⟨rfl,Py (jc (L:=ws) hW k).mm (nZ (F:=newF p) (Zs _)),?_⟩
    rw[OF (jc (L:=ws) hW k).mm (nZ (F:=newF p) (Zs _))]
    have Wx:∀ σ:Nat->Option Nat,σ 0=some 0->σ 1=some 1->σ 2=some 2->eV σ [(7,.ptr 1 0),(32,.func (.func 131) [] [.ptr 2 0]),(6,.ptr 0 0)]=[(7,.ptr 1 0),(32,.func (.func 131) [] [.ptr 2 0]),(6,.ptr 0 0)]:=fun σ e0 e1 e2=>by simp only[eV,bf,bA,e0,e1,e2]
    refine aF.to (U7 (T2:=[(8,.p (.str (sB ((Di.gt [] ws k)++[10])))),(7,.ptr 1 0),(6,.ptr 0 0)]) (jc (L:=ws) hW k).mm Wx (fun σ e0 e1 e2=>by show AF.Sub _ (eV σ ((8,_)::(33,_)::[(7,.ptr 1 0),(32,.func (.func 131) [] [.ptr 2 0]),(6,.ptr 0 0)]));simp only[eV,bf,bA,e0,e1,e2];exact KS)) ?_
    iterate 2 refine af ?_
    refine aF.EG 8 (kC (newF p) ws k) (Di.gt [] ws k) mixed (by kernel_rfl) (by decide) ?_
    refine ay.cons 35 rfl rfl rfl (fun H0 h0=>aa.load (v:= .ptr 5 0) rfl rfl an (aaX rfl H0 h0)) ?_
    refine ay.cons 36 rfl rfl rfl (fun _ _=>aa.move rfl rfl) ?_
    refine ay.cons 37 rfl rfl rfl (fun _ _=>aa.eY (Rb (Di.gt [] ws k) hwk) rfl rfl rfl rfl an) ?_
    refine ay.lay 38 rfl rfl rfl (SZ.eY (og (rj _ (kC (newF p) ws k) z hz) (jc (L:=ws) hW k) (Di.gt [] ws k)) (fun x H2 h=>⟨h.1,h.2⟩) rfl rfl rfl rfl an) ?_
    refine ay.cons 34 rfl rfl rfl (fun _ _=>aa.move rfl rfl) ?_
    refine ay.cons 39 rfl rfl rfl (fun _ _=>aa.extract rfl rfl rfl) ?_
    refine ay.cons 40 rfl rfl rfl (fun _ _=>aa.extract rfl rfl rfl) ?_
    refine ay.cons 9 rfl rfl rfl (fun _ _=>aa.assign rfl rfl) ?_
    refine ay.nil ?_
    rintro H2 ⟨⟨z2,q,im,qs,hfl⟩,hlow⟩
    iterate 2 refine af ?_
    refine aF.to (Mw (T2:=[(9,.p (.str (sB (aI (kC (newF p) ws k) (Di.gt [] ws k)).2.1))),(10,.p (.int .i64 (aI (kC (newF p) ws k) (Di.gt [] ws k)).2.2)),(7,.ptr 1 0)]) rfl hfl hlow KS rfl) ?_
    iterate 6 refine af ?_
    refine Ki (fun pG=> ?_) fun pG=> ?_
    ·have hne:(aI (kC (newF p) ws k) (Di.gt [] ws k)).2.2≠0:=by simpa using pG
     refine af ?_
     refine Kc (aa.aG rfl rfl lN) ?_
     refine af ?_
     refine Kc (aa.aG rfl rfl kn) ?_
     refine Kc (aa.aS rfl an (by decide) rfl rfl rfl) ?_
     refine Kc (Kp (dy [.str F9,.num (aI (kC (newF p) ws k) (Di.gt [] ws k)).2.2] Kn Kn (fD (by decide) (eG (by omega) gf)))) ?_
     iterate 4 refine af ?_
     exact A7
    ·have vN:(aI (kC (newF p) ws k) (Di.gt [] ws k)).2.2=0:=by simpa using pG
     iterate 3 refine af ?_
     exact A7
   ·rintro h ⟨z,hz,e⟩
    rw[Zp] at e
    subst e
    refine aF.tW (show[rE 4,wC 148 1 3 (pE (newF p) ws ws.length),ug (jL (ws.drop ws.length)),wF 5 (pE (newF p) ws ws.length)]++(cD 4 (kC (newF p) ws ws.length) z++[.dead])=_ from by unfold lG;rw[ZK]) ?_
    refine aF.to (VW (T2:=[(7,.ptr 0 0)]) (fun σ e=>by simp only[eV,bf,bA,e];exact KS)) ?_
    iterate 2 refine af ?_
    refine aj.yM 51 (P9 _ (by have:=sL (L:=ws) hW ws.length;omega)) rfl rfl rfl rfl rfl rfl rfl an (fun v H2 iw=> ?_)
    obtain⟨rfl,rfl⟩:=iw
    iterate 4 refine af ?_
    have eO:=yy (newF p) ws ws.length (Zf _)
    rw[ZP] at eO
    exact Fin.ep (xs:=[.str (sB (xR (newF p) ws)),.int .i64 0]) rfl ⟨_,_,rfl,rfl,⟨_,_,rfl,rfl,rfl⟩⟩ (by show[V.p (.str (sB (pE (newF p) ws ws.length))),_]=_;rw[eO];rfl) rfl
   ·exact gZ
end Go.Proofs.YtibffijhebobmaaGreatDoor
end
