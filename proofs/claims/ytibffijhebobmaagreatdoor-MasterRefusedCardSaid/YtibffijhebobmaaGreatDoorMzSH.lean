/-
 Builders.
 Chapter 15, the program: the lines of a script.
 strings.Lines.
 Chapter 15, the program: the own blocks of a script's run.
 The program of chapter 15: a new floor.
 The program of chapter 15: a script.
-/
import Derived.Test.YtibffijhebobmaaGreatDoorMzSF
import Derived.Test.YtibffijhebobmaaGreatDoorMzSG
import Derived.Test.YtibffijhebobmaaGreatDoorFaSF
import Derived.Test.YtibffijhebobmaaGreatDoorMzSZ
theorem DJ{A:Prop}(h:A:=by
 refine Kc (aa.nB _ _ rfl rfl rfl (by first | exact aaJ hl1 | exact abc ⟨vP,OW⟩ hne)) ?_
 refine aj.Yy 50 1 3 (QW _ _ (by simp) (by first | rw[zw (r:=(aD (gh (newF p) ws k) (Di.gt [] ws k)).2.1) hne];exact hlen | rw[CM xm];exact hlen)) (by decide) rfl rfl rfl rfl rfl rfl rfl rfl rfl an ?_
 refine af ?_
 refine⟨_,⟨z2,hfl.mz,rfl⟩,?_⟩
 first | rw[zw (r:=(aD (gh (newF p) ws k) (Di.gt [] ws k)).2.1) hne] | rw[CM xm]
 exact Rs (F:=gh (newF p) ws (k+1)) (fU (L:=ws) hW (k+1)).mm W8):A:=h
theorem vL{A:Prop}(h:A:=by
 exfalso
 have h4:=Zg hc0
 rw[cU] at h4
 omega):A:=h
theorem Ew{A:Prop}(h:A:=by
 exfalso
 rcases h2 with rfl | h2
 ·cases cK
 ·rw[U0 h2] at cK
  simp at cK):A:=h
theorem EI{A:Prop}(h:A:=by
 refine af ?_
 refine av.nil ?_
 iterate 2 refine af ?_
 exact jV.one rfl rfl ⟨rfl,rfl⟩):A:=h
set_option linter.unusedSimpArgs false
set_option linter.unusedVariables false
section
set_option maxRecDepth 100000
set_option maxHeartbeats 4000000
namespace Go.Proofs.YtibffijhebobmaaGreatDoor
open Go.AF
theorem T9:Yo Tryz.prog 174:=⟨_, Tryz.func174,by kernel_rfl,by kernel_rfl,by kernel_rfl,by kernel_rfl⟩
theorem Qe:liesAt Tryz.prog Tryz.prog.depth 148 (2 / Tryz.prog.cellsOf 148) 0 148 1=true:=by kernel_rfl
theorem KX(v:V)(B:ai):az Tryz.prog 135 [.ptr 0 0] [.cells [.p .nilPtr,v] 148,B] fun r H'=>r= .p (.tuple [])∧H'=[.cells [.ptr 0 0,v] 148,B]:=by
 refine az.start (N:=20) Tryz.func135 rfl rfl Kn ?_
 iterate 6 refine af ?_
 refine Kc (aa.Nh rfl rfl rfl an) ?_
 refine af ?_
 refine aF.yx rfl ?_
 iterate 3 refine af ?_
 refine Kc (aa.Xe rfl rfl an an (by decide) rfl (Tu _)) ?_
 refine Kc (aa.Y7 rfl rfl T9) ?_
 refine Kc (aa.YU rfl rfl an an rfl Qe) ?_
 iterate 4 refine af ?_
 exact rL
theorem P2(v:V)(B:ai):az Tryz.prog 135 [.ptr 0 0] [.cells [.ptr 0 0,v] 148,B] fun r H'=>r= .p (.tuple [])∧H'=[.cells [.ptr 0 0,v] 148,B]:=by
 refine az.start (N:=20) Tryz.func135 rfl rfl Kn ?_
 iterate 6 refine af ?_
 refine Kc (aa.si rfl rfl rfl an) ?_
 refine af ?_
 refine aF.nJ rfl ?_
 iterate 7 refine af ?_
 refine Kc (aa.RJ rfl rfl rfl an) ?_
 refine af ?_
 refine aF.nJ rfl ?_
 refine af ?_
 exact rL
theorem WV(l:Bs):az Tryz.prog 135 [.ptr 0 0] [wC 148 0 1 l,wF 5 l] fun r H'=>r= .p (.tuple [])∧H'=[.cells [.ptr 0 0,hO 1 l.length] 148,wF 5 l]:=by
 cases l with
 | nil=>exact KX _ _
 | cons c t=>exact P2 _ _
theorem XM(l s:Bs)(hs:0<s.length):[ai.cells [.ptr 0 0,.row 2 (l.length+s.length)] 148,.dead,.gZ (bV l++bV s) 5]=[wC 148 0 2 (l++s),.dead,wF 5 (l++s)]:=by
 have h:0<(l++s).length:=by rw[Zc];omega
 rw[T6 h,VX h,JZ,Zc]
theorem QW(l:Bs)(s:Bs)(hs:0<s.length)(hb:(l++s).length<=1099511627776):GM Tryz.prog 148 5 79 [.str (sB s)] l (s) (.tuple [.int .i64 (s.length:Int),.nilIface]):=by
 have hlen:l.length<=1099511627776:=by rw[Zc] at hb;omega
 have ju:=hb
 rw[Zc] at ju
 refine az.start (N:=19) Tryz.func79 rfl rfl Kn ?_
 iterate 8 refine af ?_
 refine aj.tN 7 (WV l) rfl rfl rfl rfl rfl rfl rfl an (fun v H2 iz=> ?_)
 obtain⟨rfl,rfl⟩:=iz
 iterate 9 refine af ?_
 refine Kc (aa.FJ rfl rfl an rfl (by simp[kY]) (Jn.str rfl an) hs (VL _) an (by decide) (by omega)) ?_
 iterate 7 refine af ?_
 refine Kc (aa.gw rfl rfl EV) ?_
 iterate 4 refine af ?_
 exact jV.many (xs:=[.int .i64 (s.length:Int),.nilIface]) rfl ⟨_,_,rfl,rfl,⟨_,_,rfl,rfl,rfl⟩⟩ rfl ⟨rfl,XM l s hs⟩
theorem K0(a:V):az Tryz.prog 80 [.ptr 0 0] [.cells [a,.p .nilSlice] 148,.dead] fun r H'=>r= .p (.str (sB []))∧H'=[.cells [a,.p .nilSlice] 148,.dead]:=by
 refine az.start (N:=14) Tryz.func80 rfl rfl Kn ?_
 iterate 5 refine af ?_
 refine aF.aB 12 mixed (by kernel_rfl) (by decide) ?_
 refine af ?_
 refine Kq (aa.nilCheck rfl rfl) ?_
 iterate 2 refine af ?_
 refine Kq (aa.zH rfl rfl) ?_
 refine af ?_
 refine Kq (aa.nilCheck rfl rfl) ?_
 iterate 2 refine af ?_
 refine Kq (aa.bD rfl rfl an rfl) ?_
 refine Kq (aa.R7 rfl rfl rfl) ?_
 exact EI
theorem JY(a:V)(l:Bs)(hl:0<l.length)(hb:l.length<=1099511627776):az Tryz.prog 80 [.ptr 0 0] [.cells [a,.row 1 l.length] 148,.gZ (bV l) 5] fun r H'=>r= .p (.str (sB l))∧H'=[.cells [a,.row 1 l.length] 148,.gZ (bV l) 5]:=by
 refine az.start (N:=14) Tryz.func80 rfl rfl Kn ?_
 iterate 5 refine af ?_
 refine aF.aB 12 mixed (by kernel_rfl) (by decide) ?_
 refine af ?_
 refine Kq (aa.nilCheck rfl rfl) ?_
 iterate 2 refine af ?_
 refine Kq (aa.Ak rfl rfl hl) ?_
 refine af ?_
 refine Kq (aa.nilCheck rfl rfl) ?_
 iterate 2 refine af ?_
 refine Kq (aa.bD rfl rfl an rfl) ?_
 refine Kq (aa.Qu l rfl rfl rfl an rfl hl (by omega)) ?_
 exact EI
theorem Pt(l:Bs)(hb:l.length<=1099511627776):az Tryz.prog 80 [.ptr 0 0] [wC 148 0 1 l,wF 5 l] fun r H'=>r= .p (.str (sB l))∧H'=[wC 148 0 1 l,wF 5 l]:=by
 cases l with
 | nil=>exact K0 _
 | cons c t=>exact JY _ (c::t) (Tu _) hb
def jL(ws:List Bs):Bs:=ws.flatMap (· ++[10])
theorem G2(w:Bs)(ws:List Bs):jL (w::ws)=w++10::jL ws:=by
 unfold jL
 rw[ZI,ZQ]
 rfl
theorem U4(a b:List Bs):jL (a++b)=jL a++jL b:=by unfold jL;rw[Hp]
theorem lZ{ws:List Bs}{k:Nat}(hk:k<ws.length):jL (ws.drop k)=ws[k]++10::jL (ws.drop (k+1)):=by
 rw[U3 hk,G2]
theorem Sv:∀(w r:Bs),10∉w->Lib.indexByte (w++10::r) 10=(w.length:Int)
 | [],r,_=>rfl
 | b::w,r,h=>by
  have hb:(b==10)=false:=by
   have:b≠10:=fun e=>h (by rw[e];exact Zv)
   simpa using this
  have ih:=Sv w r (fun hm=>h (Zl _ hm))
  show(if (b==10)=true then(0:Int) else if (Lib.indexByte (w++10::r) 10== -1)=true then -1 else Lib.indexByte (w++10::r) 10+1)=_
  rw[hb,ih,if_neg (by decide),if_neg (by
   intro hc
   have:=eq_of_beq hc
   omega),Zo]
  rfl
theorem FG:∀(s cur:Bs),10∉cur->∃ ws last,c5 10 cur s=ws++[last]∧jL ws++last=cur++s∧10∉last∧∀ w∈ws,10∉w
 | [],cur,h=>⟨[],cur,by rw[c5];rfl,by simp[jL],h,fun _ h=>by cases h⟩
 | b::s,cur,h=>by
  rw[c5]
  by_cases hb:b=10
  ·rw[if_pos hb]
   obtain⟨ws,last,h1,h2,h3,h4⟩:=FG s [] (by simp)
   refine⟨cur::ws,last,by rw[h1];rfl,?_,h3,fun w hw=> ?_⟩
   ·rw[G2,ZQ,Po,h2,hb];rfl
   ·rcases Zw.1 hw with rfl | hw
    ·exact h
    ·exact h4 w hw
  ·rw[if_neg hb]
   obtain⟨ws,last,h1,h2,h3,h4⟩:=FG s (cur++[b]) (fun hm=>by
    rcases Zq.1 hm with hm | hm
    ·exact h hm
    ·exact hb (ZK.1 hm).symm)
   exact⟨ws,last,h1,by rw[h2,ZQ];rfl,h3,h4⟩
theorem N0{s:Bs}(h:s=[]∨s.getLast?=some 10):jL (c5 10 [] s).dropLast=s∧∀ w∈(c5 10 [] s).dropLast,10∉w:=by
 obtain⟨ws,last,h1,h2,h3,h4⟩:=FG s [] (by simp)
 rw[h1,List.dropLast_concat]
 refine⟨?_,h4⟩
 have hl:last=[]:=by
  rcases h with rfl | h
  ·have:=List.append_eq_nil_iff.1 h2;exact this.2
  ·cases hla:last.getLast? with
   | none=>exact List.getLast?_eq_none_iff.1 hla
   | some x=>
    rw[Px] at h2
    rw[<- h2,List.getLast?_append,hla] at h
    have hx:x=10:=by simpa using h
    exact absurd (by rw[<- hx];exact List.mem_of_getLast? hla) h3
 rw[hl,ZX] at h2
 exact h2
theorem Vr{ws:List Bs}{k:Nat}(hk:k<ws.length):0<(jL (ws.drop k)).length:=by
 rw[lZ hk,Zc,Zo];omega
theorem Ue{ws:List Bs}:jL (ws.drop ws.length)=[]:=by rw[List.drop_length];rfl
theorem SL(ws:List Bs)(k:Nat):(jL (ws.drop k)).length<=(jL ws).length:=by
 have h:jL ws=jL (ws.take k)++jL (ws.drop k):=by rw[<- U4,YV]
 have:=congrArg List.length h
 rw[Zc] at this
 omega
theorem S4{ws:List Bs}{k:Nat}(hk:k<ws.length){f:Bs->List V}:(ws.map f)[k]? =some (f ws[k]):=by
 rw[Zs,Zb hk];rfl
theorem pX{H:List ai}{i:Nat}{v:V}{vs:List V}{e:TypeId}(h:H[i]? =some (.cells (v::vs) e)):cV H false 1 (.ptr i 0)=some v:=by
 unfold cV
 simp only[h]
 rfl
theorem QO{H:List ai}{i:Nat}{v u:V}{e:TypeId}(h:H[i]? =some (.cells [v] e)):fI H i 0 [u]=some (H.set i (.cells [u] e)):=by
 unfold fI
 simp only[h]
 rfl
theorem P7(i:Nat):some (LQ (i+1) (.ptr i 0))=some (V.ptr i 0):=by
 have h:Nat.blt i (i+1)=true:=by unfold Nat.blt;exact Nat.ble_eq_true_of_le (Zf _)
 show some (bif Nat.blt i (i+1) then V.ptr i 0 else .top)=_
 rw[h]
 rfl
theorem aa.Hg{P:Program}{N:Nat}{o:Oper}{T:Tm}{H:List ai}{x:Operand}{t:TypeId}{lo hi:Option Operand}(l:Bs)(i j:Nat)(r:Bs)(ho:o.op= .slice t x lo hi none)(hx:ev T x=some (.p (.str (sB l))))(ht:DF P t=true)(hl:gH T lo 0 i)(hh:gH T hi l.length j)(h1:i<=j)(h2:j<=l.length)(e:(l.drop i).take (j - i)=r):aa P N o T H (.p (.str (sB r))) H:=
 e▸aa.OD l i j ho hx ht hl hh h1 h2
theorem aaR{ws:List Bs}{k:Nat}(hk:k<ws.length):((jL (ws.drop k)).drop 0).take (ws[k].length+1 - 0)=ws[k]++[10]:=by
 rw[Wh,Nat.sub_zero,lZ hk,show ws[k]++10::jL (ws.drop (k+1))=(ws[k]++[10])++jL (ws.drop (k+1)) by simp,List.take_left' (by simp)]
theorem aa7{ws:List Bs}{k:Nat}(hk:k<ws.length):((jL (ws.drop k)).drop (ws[k].length+1)).take ((jL (ws.drop k)).length - (ws[k].length+1))=jL (ws.drop (k+1)):=by
 rw[O4 (by rw[P1];exact Zf _),lZ hk,List.drop_append]
 simp
theorem OH(s:Bs):az Tryz.prog 76 ([.str (sB s)].map .p) [] fun v H2=>v= .func (.func 131) [] [.ptr 0 0]∧H2=[.cells [.p (.str (sB s))] 9]:=by
 refine az.start (N:=4) Tryz.func76 rfl rfl Kn ?_
 iterate 2 refine af ?_
 refine Kc (aa.jf rfl rfl rfl) ?_
 iterate 4 refine af ?_
 refine Kc (aa.makeFunc rfl rfl rfl) ?_
 exact nM
theorem TX{ws:List Bs}{k:Nat}(hk:k<ws.length)(hw:∀ w∈ws,10∉w):Pure Tryz.prog 132 [.str (sB (jL (ws.drop k))),.int .u8 10] (.int .i64 (ws[k].length:Int)):=by
 have h:=zK (jL (ws.drop k)) 10
 rw[lZ hk] at h
 rw[Sv _ _ (hw _ (Cg hk)),<- lZ hk] at h
 exact h
theorem IQ(ws:List Bs)(i:Nat)(hl:(jL ws).length<=1000000)(hw:∀ w∈ws,10∉w):SJ Tryz.prog (i+1) i (fun k=> .cells [.p (.str (sB (jL (ws.drop k))))] 9) 131 (fun y=>[y,.ptr i 0]) (ws.map fun w=>[.p (.str (sB (w++[10])))]):=by
 intro l κ nn inv fin hk0 hκ Uc FD hb h0 uV
 refine j4.ir (N:=25) Tryz.func131 rfl rfl Kn ?_
 refine af ?_
 refine aF.eU [0,1] (fun g=>[]) (fun g=>g.2) (fun g=>g.1<=ws.length∧inv g.1 g.2) (fun g=>ws.length - g.1) (0,h0) (show(0:Nat)<=ws.length∧inv 0 h0 from⟨Zp _,uV⟩) (To.sub (Sub.zY (Sub.nil))) (fun g hg=> ?_)
 obtain⟨k,Lh⟩:=g
 obtain⟨hle,hinv⟩:=hg
 dsimp only at hle hinv ⊢
 have hR:=(Uc _ _ hinv).2
 have VO:=(Uc _ _ hinv).1
 have hjl:=SL ws k
 iterate 3 refine af ?_
 refine Kc (aa.load (v:= .p (.str (sB (jL (ws.drop k))))) rfl rfl an (pX hR)) ?_
 refine Kc (aa.gw rfl rfl EV) ?_
 iterate 2 refine af ?_
 refine Ki (fun hc0=> ?_) fun hc0=> ?_
 ·have tJ:k<ws.length:=by
   rcases ZM k ws.length with h | h
   ·exact h
   ·obtain rfl:k=ws.length:=by omega
    rw[Ue] at hc0
    cases hc0
  have eR:=lZ tJ
  have eL:=congrArg List.length eR
  rw[Zc,Zo] at eL
  have hbk:=hb k Lh _ hinv (S4 tJ)
  iterate 9 refine af ?_
  refine Kc (aa.load (v:= .p (.str (sB (jL (ws.drop k))))) rfl rfl an (pX hR)) ?_
  refine Kc (Kp (TX tJ hw)) ?_
  iterate 7 refine af ?_
  refine Ki (fun cK=> ?_) fun cK=> ?_
  ·refine aF.aB 9 mixed (by kernel_rfl) (by decide) ?_
   refine Kq (aa.load (v:= .p (.str (sB (jL (ws.drop k))))) rfl rfl an (pX hR)) ?_
   refine af ?_
   refine Kq (aa.add rfl rfl rfl (aI ?_)) ?_
   ·omega
   refine Kq (aa.Hg (jL (ws.drop k)) 0 (ws[k].length+1) (ws[k]++[10]) rfl rfl an rfl ⟨_,rfl⟩ (Zp _) (by rw[eL];omega) (aaR tJ)) ?_
   refine Kq (aa.load (v:= .p (.str (sB (jL (ws.drop k))))) rfl rfl an (pX hR)) ?_
   refine af ?_
   refine Kq (aa.add rfl rfl rfl (aI ?_)) ?_
   ·omega
   refine Kq (aa.Hg (jL (ws.drop k)) (ws[k].length+1) (jL (ws.drop k)).length (jL (ws.drop (k+1))) rfl rfl an ⟨_,rfl⟩ rfl (by rw[eL];omega) (Zf _) (aa7 tJ)) ?_
   refine af ?_
   refine av.nil ?_
   refine Kz (aa.store (H':=(Lh.set i (.cells [.p (.str (sB (jL (ws.drop (k+1)))))] 9))) rfl rfl rfl rfl rfl an rfl (QO hR)) ?_
   iterate 5 refine af ?_
   refine aj.U1 (i+1) 23 hk0 (by rw[yX];omega) rfl rfl rfl rfl rfl rfl (by exact hbk) ?_
   intro b2 h2 hq
   iterate 2 refine af ?_
   refine Ki (fun jb=> ?_) fun jb=> ?_
   ·have iW:b2=false:=by simpa using jb
    rw[if_neg (by rw[iW];decide)] at hq
    refine af ?_
    exact⟨.inr rfl,_,eX.none_ rfl,.inr hq⟩
   ·have iW:b2=true:=by simpa using jb
    rw[if_pos iW] at hq
    have hN:inv (k+1) h2:=hq
    refine af ?_
    refine⟨(k+1,h2),?_,?_,?_⟩
    ·exact⟨tJ,hN⟩
    ·show ws.length - (k+1)<ws.length - k
     omega
    exact To.sub (Sub.cons rfl (Sub.cons (P7 i) Sub.nil))
  ·exfalso
   simp at cK
 ·have Vn:k=ws.length:=by
   rcases ZM k ws.length with h | h
   ·have h2:=Vr h;have h3:=Zk hc0;rw[cU] at h3;omega
   ·omega
  subst Vn
  refine aF.exit ?_
  exact⟨.inl rfl,_,eX.none_ rfl,.inl (by rw[Zr];exact hinv)⟩
section
variable {P:Program} {N κ:Nat} {T T2:Tm} {F:bT} {z:Bool} {out s:Bs} {r:wz}
def qX(i:Nat):ai:= .cells [.ptr i 0] 30
def tU(s:Bs):ai:= .cells [.p (.str (sB s))] 9
def l8(s out:Bs)(F:bT)(z:Bool):List ai:=[qX 4,wC 148 1 3 out,tU s,wF 5 out]++bH 4 F z
theorem Ao{σ:Nat->Option Nat}{i j:Nat}(h:σ i=some j):aH σ (qX i)=qX j:=by
 show ai.cells [aY σ (.ptr i 0)] 30=_
 simp only[aY,h]
 rfl
theorem A5{σ:Nat->Option Nat}{st:LoopState}{pe:Option Code}(h:eV σ r.T=r.T):aH σ (.loop r st pe)= .loop r st pe:=by
 show ai.loop {r with T:=eV σ r.T} st pe=_
 rw[h]
theorem UG(hm:F.marks.length<=8)(hT:∀ σ,σ 47=some 0->σ 48=some 1->σ 49=some 2->Sub T2 (eV σ T)):To P 0 N T (bH 0 F z++[qX 0,.cells [.p .nilPtr,.p .nilSlice] 148,tU s]) T2 (l8 s [] F z):=by
 have hl:=fj (c:=0) (z:=z) hm
 obtain⟨σ,_,h2,h3,hto⟩:=To.rot (P:=P) (κ:=0) (N:=N) (T:=T) [] (bH 0 F z) [qX 0,.cells [.p .nilPtr,.p .nilSlice] 148,tU s,.dead] (Zf _)
 have g0:σ 0=some 4:=by have:=h2 0 (by rw[hl];decide);simpa using this
 have gk:∀ k,k<47->σ (0+k)=some (4+k):=fun k hk=>by have:=h2 k (by rw[hl];exact hk);simpa using this
 have e0:=h3 0 (by simp)
 have e1:=h3 1 (by simp)
 have e2:=h3 2 (by simp)
 rw[hl] at e0 e1 e2
 refine To.trans (To.xO To.pad (H3:=[]++(bH 0 F z++[qX 0,.cells [.p .nilPtr,.p .nilSlice] 148,tU s,.dead])) (by simp)) (To.trans hto (To.xO (To.sub (hT σ e0 e1 e2)) ?_))
 rw[qF hm gk]
 show[aH σ (qX 0),_,_,_]++bH 4 F z=_
 rw[Ao g0]
 rfl
theorem VV(hm:F.marks.length<=8)(hr:∀ σ,σ 0=some 0->σ 1=some 1->σ 2=some 2->eV σ r.T=r.T)(hT:∀ σ,σ 0=some 0->σ 1=some 1->σ 2=some 2->Sub T2 (eV σ T)):To P 3 N T (l8 s out F z++[.loop r .busy none]) T2 ([qX 5,wC 148 1 3 out,tU s,wF 5 out,.loop r .busy none]++bH 5 F z):=by
 have hl:=fj (c:=4) (z:=z) hm
 obtain⟨σ,h1,h2,h3,hto⟩:=To.rot (P:=P) (κ:=3) (N:=N) (T:=T) [qX 4,wC 148 1 3 out,tU s,wF 5 out] (bH 4 F z) [.loop r .busy none] (by simp)
 have e0:=h1 0 (by simp)
 have e1:=h1 1 (by simp)
 have e2:=h1 2 (by simp)
 have e3:=h1 3 (by simp)
 have g4:σ 4=some 5:=by have:=h2 0 (by rw[hl];decide);simpa using this
 have gk:∀ k,k<47->σ (4+k)=some (5+k):=fun k hk=>by have:=h2 k (by rw[hl];exact hk);simpa using this
 refine To.trans (To.xO hto (H3:=[qX 5,wC 148 1 3 out,tU s,wF 5 out,.loop r .busy none]++bH 5 F z) ?_) (To.sub (hT σ e0 e1 e2))|>fun h=>To.xO (H2:=_) h rfl|>fun h=>by
  have e:l8 s out F z++[.loop r .busy none]=[qX 4,wC 148 1 3 out,tU s,wF 5 out]++(bH 4 F z++[.loop r .busy none]):=by unfold l8;rw[ZQ]
  rw[e]
  exact h
 rw[qF hm gk]
 show[aH σ (qX 4),aH σ (wC 148 1 3 out),aH σ (tU s),aH σ (wF 5 out)]++([aH σ (.loop r .busy none)]++bH 5 F z)=_
 rw[Ao g4,E6 e1 e3,Ft,A5 (hr σ e0 e1 e2)]
 rfl
theorem UR(hm:F.marks.length<=8)(hr:∀ σ,σ 0=some 0->σ 1=some 1->σ 2=some 2->eV σ r.T=r.T):To P 3 N T ([qX 5,wC 148 1 52 out,tU s,.dead,.loop r .busy none]++(bH 5 F z++[wF 5 out])) [] (l8 s out F z++[.loop r .busy none]):=by
 have hl:=fj (c:=5) (z:=z) hm
 obtain⟨H,eH⟩:∃ H,H=[qX 5,wC 148 1 52 out,tU s,.dead,.loop r .busy none]++(bH 5 F z++[wF 5 out]):=⟨_,rfl⟩
 have Vi:H.length=53:=by rw[eH];simp[hl]
 obtain⟨ks,yP⟩:∃ ks:List Nat,ks=[0,1,2,52]++(List.range' 5 47++[4]):=⟨_,rfl⟩
 have hkeep:jK 3 H.length ks=true:=by rw[Vi,yP];rfl
 have hk:=To.keep (P:=P) (κ:=3) (N:=N) (T:=T) (H:=H) ks hkeep
 have e0:pl ks 0=some 0:=by rw[yP];rfl
 have e1:pl ks 1=some 1:=by rw[yP];rfl
 have e2:pl ks 2=some 2:=by rw[yP];rfl
 have e52:pl ks 52=some 3:=by rw[yP];rfl
 have gk:∀ k,k<47->pl ks (5+k)=some (4+k):=by rw[yP];decide
 have g5:pl ks 5=some 4:=gk 0 (by decide)
 have uD:∀ k,k<47->H[5+k]? =(bH 5 F z)[k]? :=fun k hk=>by
  rw[eH,Zj (by simp),Zd (by rw[hl];simpa using hk)]
  congr 1
  simp
 have aag:H[52]? =some (wF 5 out):=by
  rw[eH,Zj (by simp),Zj (by rw[hl];simp),hl]
  rfl
 rw[<- eH]
 refine To.trans (To.xO hk (H3:=l8 s out F z++[.loop r .busy none]) ?_) (To.sub Sub.nil)
 have seg:(List.range' 5 47).map (fun i=>aH (pl ks) (H.getD i .dead))=(bH 5 F z).map (aH (pl ks)):=by
  apply Fm
  intro i
  rw[Zs,Zs]
  rcases ZM i 47 with hi | hi
  ·have hx:=Zb (show i<(bH 5 F z).length by rw[hl];exact hi)
   rw[Ws hi,ZL]
   show some (aH (pl ks) (H.getD (5+i) .dead))=_
   rw[Ze,uD i hi,hx]
   rfl
  ·rw[ZF (by rw[TK];exact hi),ZF (by rw[hl];exact hi)]
   rfl
 have g:∀{i:Nat} {x:ai},H[i]? =some x->H.getD i .dead=x:=fun hx=>by rw[Ze,hx];rfl
 have m1:ks.map (fun i=>aH (pl ks) (H.getD i .dead))=[0,1,2,52].map (fun i=>aH (pl ks) (H.getD i .dead))++((List.range' 5 47).map (fun i=>aH (pl ks) (H.getD i .dead))++[4].map (fun i=>aH (pl ks) (H.getD i .dead))):=by
  conv=>lhs;arg 2;rw[yP]
  rw[ZC,ZC]
 rw[m1,seg,qF hm gk]
 show[aH (pl ks) (H.getD 0 .dead),aH (pl ks) (H.getD 1 .dead),aH (pl ks) (H.getD 2 .dead),aH (pl ks) (H.getD 52 .dead)]++(bH 4 F z++[aH (pl ks) (H.getD 4 .dead)])=_
 rw[g aag,g (show H[0]? =some (qX 5) by rw[eH];rfl),g (show H[1]? =some (wC 148 1 52 out) by rw[eH];rfl),g (show H[2]? =some (tU s) by rw[eH];rfl),g (show H[4]? =some (.loop r .busy none) by rw[eH];rfl),
  Ao g5,E6 e1 e52,Ft,A5 (hr _ e0 e1 e2)]
 unfold l8
 rw[ZQ]
 rfl
theorem Tw{rest:List ai}(hT:∀ σ,σ 1=some 0->Sub T2 (eV σ T)):To P 0 N T ([qX 4,wC 148 1 3 out,tU s,wF 5 out]++rest) T2 [wC 148 0 1 out,wF 5 out]:=by
 have hkeep:jK 0 ([qX 4,wC 148 1 3 out,tU s,wF 5 out]++rest).length [1,3]=true:=by
  unfold jK
  simp only[Zm,beq_iff_eq,Zz,Zn]
  refine⟨⟨rfl,fun i hi=> ?_⟩,by decide⟩
  have:i<([qX 4,wC 148 1 3 out,tU s,wF 5 out]++rest).length:=by
   rw[Zc]
   simp only[Zw,R5,or_false] at hi
   show i<4+_
   omega
  simpa[Nat.blt,Zx] using this
 have hk:=To.keep (P:=P) (κ:=0) (N:=N) (T:=T) [1,3] hkeep
 refine To.trans (To.xO hk (H3:=[wC 148 0 1 out,wF 5 out]) ?_) (To.sub (hT _ rfl))
 show[aH (pl [1,3]) (wC 148 1 3 out),aH (pl [1,3]) (wF 5 out)]=_
 rw[E6 (σ:=pl [1,3]) (i':=0) (j':=1) rfl rfl,Ft]
theorem oN(hm:F.marks.length<=8):(l8 s out F z).length=51:=by
 unfold l8
 rw[Zc,fj hm]
 rfl
theorem AS{x y:ai}{n:Nat}(hm:F.marks.length<=8)(hn:n=51):(l8 s out F z++[x])[n]? =some x∧(l8 s out F z++[x]).set n y=l8 s out F z++[y]:=by
 have h:=oN (s:=s) (out:=out) (z:=z) hm
 subst hn
 rw[<- h]
 exact⟨by simp,by simp⟩
theorem Rs{CE:Bs}(hm:F.marks.length<=8)(hr:∀ σ,σ 0=some 0->σ 1=some 1->σ 2=some 2->eV σ r.T=r.T):To P 3 N T (((([qX 5,wC 148 1 3 CE,tU s,wF 5 CE,.loop r .busy none]++bH 5 F z).set 1 (wC 148 1 ([qX 5,wC 148 1 3 CE,tU s,wF 5 CE,.loop r .busy none]++bH 5 F z).length out)).set 3 .dead)++[wF 5 out]) [] (l8 s out F z++[.loop r .busy none]):=by
 have hl:=fj (c:=5) (z:=z) hm
 have e:((([qX 5,wC 148 1 3 CE,tU s,wF 5 CE,.loop r .busy none]++bH 5 F z).set 1 (wC 148 1 ([qX 5,wC 148 1 3 CE,tU s,wF 5 CE,.loop r .busy none]++bH 5 F z).length out)).set 3 .dead)++[wF 5 out]=[qX 5,wC 148 1 52 out,tU s,.dead,.loop r .busy none]++(bH 5 F z++[wF 5 out]):=by
  rw[Zc,hl]
  rfl
 rw[e]
 exact UR hm hr
def GLn(F:bT)(w:Bs)(H:List ai):List ai->Prop:=fun H2=>(∃ z q im qs,e8 5 (aD F w).1 z H2 q im qs)∧∀ i,i<5->H2[i]? =H[i]?
theorem aaz{w:Bs}{H:List ai}(h0:H[0]? =some (qX 5)):∀ H0,(H0=H∨GLn F w H H0)->cV H0 false 1 (.ptr 0 0)=some (.ptr 5 0):=fun H0 h=>by
 have:H0[0]? =some (.cells [.ptr 5 0] 30):=by
  rcases h with rfl | ⟨_,h⟩
  ·exact h0
  ·rw[h 0 (by decide)];exact h0
 exact pX this
theorem UT{e:TypeId}{i j n:Nat}{l:Bs}(hi:i<n)(hj:j<n):IE n (wC e i j l):=by
 have h:∀ k,k<n->below n k=some k:=fun k hk=>by unfold below;rw[if_pos (by simpa[Nat.blt,Zx] using hk)]
 cases l with
 | nil=>rfl
 | cons c t=>
  show bw _ [.ptr i 0,.row j _]=_
  simp only[bw,aY,h i hi,h j hj]
  rfl
theorem Um{eb:TypeId}{n:Nat}{l:Bs}:IE n (wF eb l):=by
 cases l with
 | nil=>trivial
 | cons c t=>exact uE _ _
theorem PT(hr:eV (below 6) r.T=r.T):∀(i:Nat) (x:ai),[qX 5,wC 148 1 3 out,tU s,wF 5 out,.loop r .busy none][i]? =some x->IE 6 x:=fun i x h=>by
 match i,h with
 | 0,h=>cases h;rfl
 | 1,h=>cases h;exact UT (by decide) (by decide)
 | 2,h=>cases h;rfl
 | 3,h=>cases h;exact Um
 | 4,h=>cases h;exact hr
theorem N1{w:Bs}{H2:List ai}{q:P5}{im:Nat}{qs:List P5}{z2:Bool}(hr:eV (below 6) r.T=r.T)(hfl:e8 5 (aD F w).1 z2 H2 q im qs)(hlow:∀ i,i<5->H2[i]? =([qX 5,wC 148 1 3 out,tU s,wF 5 out,.loop r .busy none]++bH 5 F z)[i]?)(hT:Sub T2 T)(hl:eV (below 6) T2=T2):To P 3 N T H2 T2 ([qX 5,wC 148 1 3 out,tU s,wF 5 out,.loop r .busy none]++bH 5 (aD F w).1 z2):=by
 refine wU hfl rfl (fun i x hx=>⟨?_,PT hr i x hx⟩) (by decide) hT hl
 have hi:=(Za.1 hx).1
 rw[hlow i hi,Zd hi]
 exact hx
theorem Sc(w:Bs)(hw:w.length<=1000000):Pure Tryz.prog 77 [.str (sB (w++[10])),.str (sB [10])] (.str (sB w)):=by
 have h:=xZ (w++[10]) [10] (by simp;omega)
 have e:Lib.trimSuffix (w++[10]) [10]=w:=by
  unfold Lib.trimSuffix
  rw[if_pos (by unfold Lib.hasSuffix;simp)]
  simp
 rwa [e] at h
theorem U0{s:Bs}(h:s.getLast?=some 10):([10]:Bs).isSuffixOf s=true:=by
 rw[List.isSuffixOf_iff_suffix]
 obtain⟨t,ht⟩:=List.getLast?_eq_some_iff.1 h
 exact⟨t,ht.symm⟩
theorem YI{s:Bs}(h:s.getLast?≠some 10):([10]:Bs).isSuffixOf s=false:=by
 cases e:([10]:Bs).isSuffixOf s with
 | false=>rfl
 | true=>
  rw[List.isSuffixOf_iff_suffix] at e
  obtain⟨t,ht⟩:=e
  exact absurd (by rw[<- ht];simp) h
theorem zw{r:Bs}{e:Int}(he:e≠0):cQ 32 (jJ [.str E4,.num e])++[10]=zL r e:=by
 unfold zL
 rw[if_neg he,fC]
 rfl
theorem CM{r:Bs}{e:Int}(he:e=0):r++[10]=zL r e:=by
 unfold zL
 rw[if_pos he]
theorem WD{ws:List Bs}{k:Nat}(hk:k<ws.length){f:Bs->List V}:(ws.map f)[k]? =some (f (Di.gt [] ws k)):=by
 rw[S4 hk,Di.aE [] k hk]
theorem Qt{x:ai}{n:Nat}(hm:F.marks.length<=8)(hn:n=51):(l8 s out F z++[x])[n]? =some x:=(AS (y:= .dead) hm hn).1
theorem LU{x y:ai}{n:Nat}(hm:F.marks.length<=8)(hn:n=51):(l8 s out F z++[x]).set n y=l8 s out F z++[y]:=(AS hm hn).2
theorem aF.Bm{R:Option Nat}{Q:Post}{H:List ai}{l:List Oper}{id:Nat}(m:Nat)(F:bT)(w:Bs)(FN:P.follows .mixedOrders=true)(hk:kg m l=true)(hm:m<=l.length)(h:aN P N l.toArray H (GLn F w H) (fun T'=>∀ H2,GLn F w H H2->aj P R N κ l.toArray (l.drop m) Q T' H2) false (l.take m) T):aF P R N κ (.region id l.toArray true) Q T H:=
 aF.tG m (GLn F w H) FN hk hm h
theorem aaJ{r:Bs}(h1:r.length<=3000):r.length+([10]:Bs).length<9223372036854775808:=by simp;omega
theorem abc{e:Int}(h:0<=e∧e<=15)(he:e≠0):(cQ 32 (jJ [.str E4,.num e])).length+([10]:Bs).length<9223372036854775808:=by
 have h2:=uo (r:=[]) (e:=e) ⟨Zp _,h⟩
 rw[<- zw (r:=[]) he,Zc] at h2
 omega
end
theorem I8(l:List Di.eg)(hl:l.length<=1000000):az Tryz.prog 58 [.p (Di.C8 l)] [] fun v H2=>v=aW 0 l.length∧H2=[dA ((l.flatMap Di.eg.cells).map .p) 122 l.length]:=by
 refine az.start (N:=8) Tryz.func58 rfl rfl Kn ?_
 iterate 8 refine af ?_
 refine aj.Ar 4 rfl rfl rfl an rfl rfl rfl (fun b hb0=> ?_)
 refine af ?_
 refine Ki (fun hc0=> ?_) fun hc0=> ?_
 ·have h0:l.length=0:=hb0 hc0
  iterate 3 refine af ?_
  refine aj.to (To.z0 2 rfl) ?_
  refine aj.to To.pad ?_
  iterate 2 refine af ?_
  have hq:V.z0=aW 0 l.length∧([.dead]:List ai)=[dA ((l.flatMap Di.eg.cells).map .p) 122 l.length]:=⟨(oH h0).symm,by rw[oE h0]⟩
  exact qz
 ·iterate 3 refine af ?_
  refine Kc (aa.ug rfl an) ?_
  refine af ?_
  refine Kc (aa.qM rfl rfl rfl an an (rm (xs:=(l.flatMap Di.eg.cells)) (n:=l.length) (sz:=3) (AF.cy (c:=3) (fun _=>rfl) l)) (MG Di.eg.cells l (fun _=>rfl)) an (by decide) ?_) ?_
  ·show(2*l.length+192)*24<=281474976710656;omega
  exact nM
theorem Iu(l:List Di.eg)(hl:l.length<=1000000)(h1:1<=l.length):az Tryz.prog 58 ([Di.C8 l].map .p) [] fun v H2=>v= .row 0 l.length∧H2=[.row ((l.flatMap Di.eg.cells).map .p) 122]:=
 fun w I ρ us hi hu=>(I8 l hl w I ρ us hi hu).mono fun e w' ⟨u,v,J,σ,H2,a1,⟨a2,a3⟩,a4,a5,a6⟩=>⟨u,v,J,σ,H2,a1,⟨by rw[a2,KN h1],by rw[a3,Lj h1]⟩,a4,a5,a6⟩
theorem Sd:∀ l:List Di.eg,Q7 (l.flatMap Di.eg.cells)=true
 | []=>rfl
 | x::l=>by
  show Q7 (x.cells++l.flatMap Di.eg.cells)=true
  show(true&&(true&&(true&&Q7 (l.flatMap Di.eg.cells))))=true
  rw[Sd l];rfl
theorem Iv(p:Di.bJ)(hp:p.dies.length<=100)(h:Di.eF p=false):Pure Tryz.prog 29 [Di.cI p,.nilSlice,.nilSlice] (.tuple [.nilSlice,.int .i64 0,.int .i64 1]):=by
 have h2:=Pure.SG (Di.sH p [] [] (ZS hp (by decide)) (by decide) (by decide))
 rw[Di.FY h] at h2
 exact h2
theorem FX(p:Di.bJ)(h:Di.eF p=true):Di.gN p [] []=(some (List.replicate p.dies.length 0),0,0):=by
 rw[Di.gM h rfl]
 rfl
theorem Fw(p:Di.bJ)(hp:p.dies.length<=100)(h:Di.eF p=true):Pure Tryz.prog 29 [Di.cI p,.nilSlice,.nilSlice] (.tuple [Di.bh (List.replicate p.dies.length 0),.int .i64 0,.int .i64 0]):=by
 have h2:=Pure.SG (Di.sH p [] [] (ZS hp (by decide)) (by decide) (by decide))
 rw[FX p h] at h2
 exact h2
theorem MS(p:Di.bJ)(hp:p.dies.length<=100)(h:Di.eF p=false):Pure Tryz.prog 20 [Di.cI p] (.tuple [.nilPtr,.int .i64 1]):=by
 refine Kf (N:=22) Tryz.func20 ?_
 iterate 2 refine af ?_
 refine Kc (aa.jf rfl rfl rfl) ?_
 iterate 6 refine af ?_
 refine Kc (Kl (.p (Di.cI p))) ?_
 refine Kc (Kp (Iv p hp h)) ?_
 iterate 13 refine af ?_
 refine aF.yx rfl ?_
 iterate 6 refine af ?_
 refine Fin.dI (xs:=[.nilPtr,.int .i64 1]) rfl ⟨_,_,rfl,rfl,⟨_,_,rfl,rfl,rfl⟩⟩ rfl rfl
theorem Hv(p:Di.bJ)(hp:p.dies.length<=100)(h:Di.eF p=true):az Tryz.prog 20 ([Di.cI p].map .p) [] fun v H2=>v= .tuple [.ptr 0 0,.p (.int .i64 0)]∧H2=bH 0 (newF p) true:=by
 obtain⟨⟨n1,n4⟩,_⟩:=Di.iD h
 refine az.start (N:=22) Tryz.func20 rfl rfl Kn ?_
 iterate 2 refine af ?_
 refine Kc (aa.jf rfl rfl rfl) ?_
 iterate 6 refine af ?_
 refine Kc (Kl (.p (Di.cI p))) ?_
 refine Kc (Kp (Fw p hp h)) ?_
 iterate 13 refine af ?_
 refine aF.nJ rfl ?_
 iterate 4 refine af ?_
 refine Kc (Kl (.p (Di.C8 p.dies))) ?_
 refine Kc (aa.Rf 3 (Iu p.dies (by omega) n1) (Sd _) rfl rfl rfl rfl rfl an) ?_
 refine aj.to (To.freeze 1 rfl (lB _)) ?_
 iterate 5 refine af ?_
 refine Kc (Kl (.p (Di.cI p))) ?_
 refine af ?_
 refine Kc (aa.jf rfl rfl rfl) ?_
 iterate 2 refine af ?_
 refine aj.to (To.z0B 2 rfl) ?_
 refine aj.to (To.RN 45) ?_
 refine aj.to (To.done (2::1::List.range' 3 45) (S:=[(2,.ptr 0 0),(3,.p (.int .i64 0))]) rfl KS (H2:=bH 0 (newF p) true) rfl) ?_
 iterate 2 refine af ?_
 exact⟨.inr rfl,_,eX.many (vs:=[.ptr 0 0,.p (.int .i64 0)]) rfl ⟨_,_,rfl,rfl,⟨_,_,rfl,rfl,rfl⟩⟩,rfl,rfl⟩
theorem Im(p:Di.bJ)(s:Bs)(h1:131072<s.length):Pure Tryz.prog 33 [Di.cI p,.str (sB s)] (.tuple [.str (sB []),.int .i64 3]):=by
 refine Kf (N:=52) Tryz.func33 ?_
 iterate 11 refine af ?_
 refine Kc (aa.gw rfl rfl EV) ?_
 iterate 3 refine af ?_
 refine Ki (fun hc0=> ?_) fun hc0=> ?_
 ·iterate 6 refine af ?_
  exact Fin.dI (xs:=[.str (sB []),.int .i64 3]) rfl ⟨_,_,rfl,rfl,⟨_,_,rfl,rfl,rfl⟩⟩ rfl rfl
 ·exfalso
  have h2:=Zk hc0
  rw[cU] at h2
  omega
theorem J1(p:Di.bJ)(s:Bs)(h1:¬ 131072<s.length)(h2:s≠[])(h3:s.getLast?≠some 10):Pure Tryz.prog 33 [Di.cI p,.str (sB s)] (.tuple [.str (sB []),.int .i64 8]):=by
 refine Kf (N:=52) Tryz.func33 ?_
 iterate 11 refine af ?_
 refine Kc (aa.gw rfl rfl EV) ?_
 iterate 3 refine af ?_
 refine Ki (fun hc0=> ?_) fun hc0=> ?_
 ·exact vL
 ·iterate 3 refine af ?_
  refine Kc (aa.mQ s [] rfl rfl rfl) ?_
  refine af ?_
  refine Kg 19 18 1 rfl (fun h=>(aa.move rfl rfl)) ?_
  refine Kh 20 18 19 rfl rfl rfl rfl (fun h=>(Kp (l9 s [10] (by omega)))) ?_
  refine Kh 21 18 20 rfl rfl rfl rfl (fun h=>(aa.gW rfl rfl)) ?_
  refine Kc (aa.ec rfl rfl rfl ?_) ?_
  ·exact ax
  iterate 2 refine af ?_
  refine Ki (fun cK=> ?_) fun cK=> ?_
  ·iterate 6 refine af ?_
   exact Fin.dI (xs:=[.str (sB []),.int .i64 8]) rfl ⟨_,_,rfl,rfl,⟨_,_,rfl,rfl,rfl⟩⟩ rfl rfl
  ·exfalso
   rw[YI h3] at cK
   simp[h2] at cK
theorem Oc(p:Di.bJ)(s:Bs)(hp:p.dies.length<=100)(h1:¬ 131072<s.length)(h2:s=[]∨s.getLast?=some 10)(h3:Di.eF p=false):Pure Tryz.prog 33 [Di.cI p,.str (sB s)] (.tuple [.str (sB []),.int .i64 1]):=by
 refine Kf (N:=52) Tryz.func33 ?_
 iterate 11 refine af ?_
 refine Kc (aa.gw rfl rfl EV) ?_
 iterate 3 refine af ?_
 refine Ki (fun hc0=> ?_) fun hc0=> ?_
 ·exact vL
 ·iterate 3 refine af ?_
  refine Kc (aa.mQ s [] rfl rfl rfl) ?_
  refine af ?_
  refine Kg 19 18 1 rfl (fun h=>(aa.move rfl rfl)) ?_
  refine Kh 20 18 19 rfl rfl rfl rfl (fun h=>(Kp (l9 s [10] (by omega)))) ?_
  refine Kh 21 18 20 rfl rfl rfl rfl (fun h=>(aa.gW rfl rfl)) ?_
  refine Kc (aa.ec rfl rfl rfl ?_) ?_
  ·exact ax
  iterate 2 refine af ?_
  refine Ki (fun cK=> ?_) fun cK=> ?_
  ·exact Ew
  ·iterate 3 refine af ?_
   refine Kc (Kl (.p (Di.cI p))) ?_
   refine Kc (Kp (MS p hp h3)) ?_
   iterate 13 refine af ?_
   refine aF.yx rfl ?_
   iterate 7 refine af ?_
   exact Fin.dI (xs:=[.str (sB []),.int .i64 1]) rfl ⟨_,_,rfl,rfl,⟨_,_,rfl,rfl,rfl⟩⟩ rfl rfl
theorem PN(p:Di.bJ)(s:Bs)(hp:p.dies.length<=100)(h1:¬ 131072<s.length)(h2:s=[]∨s.getLast?=some 10)(h3:Di.eF p=true):Pure Tryz.prog 33 [Di.cI p,.str (sB s)] (.tuple [.str (sB (ya (newF p) (c5 10 [] s).dropLast)),.int .i64 0]):=by
 obtain⟨ws,ews⟩:∃ ws,ws=(c5 10 [] s).dropLast:=⟨_,rfl⟩
 obtain⟨eS,hno⟩:=N0 h2
 rw[<- ews] at eS hno ⊢
 have hW:=vE h3
 have hjs:(jL ws).length<=131072:=by rw[eS];omega
 have nA:ws.length<=131072:=by have h4:=(iH 10 s []).2;have h5:=congrArg List.length ews;rw[List.length_dropLast] at h5;omega
 refine Kf (N:=52) Tryz.func33 ?_
 iterate 11 refine af ?_
 refine Kc (aa.gw rfl rfl EV) ?_
 iterate 3 refine af ?_
 refine Ki (fun hc0=> ?_) fun hc0=> ?_
 ·exact vL
 ·iterate 3 refine af ?_
  refine Kc (aa.mQ s [] rfl rfl rfl) ?_
  refine af ?_
  refine Kg 19 18 1 rfl (fun h=>(aa.move rfl rfl)) ?_
  refine Kh 20 18 19 rfl rfl rfl rfl (fun h=>(Kp (l9 s [10] (by omega)))) ?_
  refine Kh 21 18 20 rfl rfl rfl rfl (fun h=>(aa.gW rfl rfl)) ?_
  refine Kc (aa.ec rfl rfl rfl ?_) ?_
  ·exact ax
  iterate 2 refine af ?_
  refine Ki (fun cK=> ?_) fun cK=> ?_
  ·exact Ew
  ·iterate 3 refine af ?_
   refine Kc (Kl (.p (Di.cI p))) ?_
   refine aj.tN 25 (Hv p hp h3) rfl rfl rfl rfl rfl rfl rfl an (fun v H2 iz=> ?_)
   obtain⟨rfl,rfl⟩:=iz
   iterate 13 refine af ?_
   refine aF.nJ rfl ?_
   iterate 9 refine af ?_
   refine aj.GW (Qp:=fun _ _=>False) 32 [] (OH s).Kd rfl rfl rfl (fun _ _ _=>⟨Zp _,fun j i y h=>by simp at h⟩) (fun _ _ h=>h.elim) rfl rfl rfl rfl rfl rfl rfl an (fun _ _ h=>h.elim) (fun v H2 iz=> ?_)
   obtain⟨rfl,rfl⟩:=iz
   iterate 2 refine af ?_
   refine aF.xO (show bH 0 (newF p) true++[qX 0,.cells [.p .nilPtr,.p .nilSlice] 148,tU s]=_ from rfl) ?_
   refine aF.to (To.sub (T2:=[(7,.ptr 48 0),(32,.func (.func 131) [] [.ptr 49 0]),(6,.ptr 47 0)]) KS) ?_
   refine aF.to (UG (T2:=[(7,.ptr 1 0),(32,.func (.func 131) [] [.ptr 2 0]),(6,.ptr 0 0)]) (Zp _) (fun σ e0 e1 e2=>by simp only[eV,aY,bw,e0,e1,e2];exact KS)) ?_
   refine aF.E7 3 3 2 (fun k=> .cells [.p (.str (sB (jL (ws.drop k))))] 9) rfl (fun _=>rfl) an (IQ ws 2 (by omega) hno) (Zf 3) (Zp _) (by rw[oN (F:=newF p) (Zp _)];decide) (fun _ h=>by cases h) (fun x hx=>by obtain⟨w,_,rfl⟩:=zl.1 hx;rfl) rfl (fun k h=>∃ z,(z=true->(gh (newF p) ws k).marks=[])∧h=l8 (jL (ws.drop k)) (o5 (newF p) ws k) (gh (newF p) ws k) z) (fun c h=>False) (fun k h ⟨z,_,e⟩=>by rw[e,oN (fU (L:=ws) hW k).mm,oN (F:=newF p) (Zp _)];exact⟨rfl,rfl⟩) (fun _ _ h=>h.elim) ⟨true,fun _=>rfl,by rw[<- eS];rfl⟩ ?_ ?_ ?_
   ·intro l tmps k h x hJ hx
    obtain⟨z,hz,rfl⟩:=hJ
    have hk:k<ws.length:=by have h5:=(Za.1 hx).1;rwa [Zr] at h5
    rw[WD hk] at hx
    cases hx
    have hwk:(Di.gt [] ws k).length<=1000000:=by have h5:=SL ws k;rw[lZ hk,Zc,Di.aE [] k hk] at h5;omega
    have hlen:((o5 (newF p) ws k)++zL (aD (gh (newF p) ws k) (Di.gt [] ws k)).2.1 (aD (gh (newF p) ws k) (Di.gt [] ws k)).2.2).length<=1099511627776:=by have h5:=sy (L:=ws) hW (k+1);exact ZS h5 (by omega)
    have hlk:=zJ (s:=(Di.gt [] ws k)) (fU (L:=ws) hW k)
    obtain⟨hl1,vP,OW⟩:=hlk
    show Round _ _ _ _ _ _ _ _ _ (l8 (jL (ws.drop (k+1))) (o5 (newF p) ws k) (gh (newF p) ws k) z++[.loop _ .ready none])
    iterate 3 refine af ?_
    refine⟨rfl,Qt (fU (L:=ws) hW k).mm (oN (F:=newF p) (Zp _)),?_⟩
    rw[LU (fU (L:=ws) hW k).mm (oN (F:=newF p) (Zp _))]
    have W8:∀ σ:Nat->Option Nat,σ 0=some 0->σ 1=some 1->σ 2=some 2->eV σ [(7,.ptr 1 0),(32,.func (.func 131) [] [.ptr 2 0]),(6,.ptr 0 0)]=[(7,.ptr 1 0),(32,.func (.func 131) [] [.ptr 2 0]),(6,.ptr 0 0)]:=fun σ e0 e1 e2=>by simp only[eV,aY,bw,e0,e1,e2]
    refine aF.to (VV (T2:=[(8,.p (.str (sB ((Di.gt [] ws k)++[10])))),(7,.ptr 1 0),(6,.ptr 0 0)]) (fU (L:=ws) hW k).mm W8 (fun σ e0 e1 e2=>by show AF.Sub _ (eV σ ((8,_)::(33,_)::[(7,.ptr 1 0),(32,.func (.func 131) [] [.ptr 2 0]),(6,.ptr 0 0)]));simp only[eV,aY,bw,e0,e1,e2];exact KS)) ?_
    iterate 2 refine af ?_
    refine aF.Bm 8 (gh (newF p) ws k) (Di.gt [] ws k) mixed (by kernel_rfl) (by decide) ?_
    refine aN.cons 35 rfl rfl rfl (fun H0 h0=>aa.load (v:= .ptr 5 0) rfl rfl an (aaz rfl H0 h0)) ?_
    refine aN.cons 36 rfl rfl rfl (fun _ _=>aa.move rfl rfl) ?_
    refine aN.cons 37 rfl rfl rfl (fun _ _=>aa.dH (Sc (Di.gt [] ws k) hwk) rfl rfl rfl rfl an) ?_
    refine aN.lay 38 rfl rfl rfl (NU.dH (tv (en _ (gh (newF p) ws k) z hz) (fU (L:=ws) hW k) (Di.gt [] ws k)) (fun x H2 h=>⟨h.1,h.2⟩) rfl rfl rfl rfl an) ?_
    refine aN.cons 34 rfl rfl rfl (fun _ _=>aa.move rfl rfl) ?_
    refine aN.cons 39 rfl rfl rfl (fun _ _=>aa.extract rfl rfl rfl) ?_
    refine aN.cons 40 rfl rfl rfl (fun _ _=>aa.extract rfl rfl rfl) ?_
    refine aN.cons 9 rfl rfl rfl (fun _ _=>aa.assign rfl rfl) ?_
    refine aN.nil ?_
    rintro H2 ⟨⟨z2,q,im,qs,hfl⟩,hlow⟩
    iterate 2 refine af ?_
    refine aF.to (N1 (T2:=[(9,.p (.str (sB (aD (gh (newF p) ws k) (Di.gt [] ws k)).2.1))),(10,.p (.int .i64 (aD (gh (newF p) ws k) (Di.gt [] ws k)).2.2)),(7,.ptr 1 0)]) rfl hfl hlow KS rfl) ?_
    iterate 6 refine af ?_
    refine Ki (fun mc=> ?_) fun mc=> ?_
    ·have hne:(aD (gh (newF p) ws k) (Di.gt [] ws k)).2.2≠0:=by simpa using mc
     refine af ?_
     refine Kc (aa.aG rfl rfl mh) ?_
     refine af ?_
     refine Kc (aa.aG rfl rfl ku) ?_
     refine Kc (aa.aR rfl an (by decide) rfl rfl rfl) ?_
     refine Kc (Kp (de [.str E4,.num (aD (gh (newF p) ws k) (Di.gt [] ws k)).2.2] Kn Kn (fE (by decide) (ew (by omega) gr)))) ?_
     iterate 4 refine af ?_
     exact DJ
    ·have xm:(aD (gh (newF p) ws k) (Di.gt [] ws k)).2.2=0:=by simpa using mc
     iterate 3 refine af ?_
     exact DJ
   ·rintro h ⟨z,hz,e⟩
    rw[Zr] at e
    subst e
    refine aF.xO (show[qX 4,wC 148 1 3 (o5 (newF p) ws ws.length),tU (jL (ws.drop ws.length)),wF 5 (o5 (newF p) ws ws.length)]++(bH 4 (gh (newF p) ws ws.length) z++[.dead])=_ from by unfold l8;rw[ZQ]) ?_
    refine aF.to (Tw (T2:=[(7,.ptr 0 0)]) (fun σ e=>by simp only[eV,aY,bw,e];exact KS)) ?_
    iterate 2 refine af ?_
    refine aj.tN 51 (Pt _ (by have:=sy (L:=ws) hW ws.length;omega)) rfl rfl rfl rfl rfl rfl rfl an (fun v H2 iz=> ?_)
    obtain⟨rfl,rfl⟩:=iz
    iterate 4 refine af ?_
    have eO:=yK (newF p) ws ws.length (Zf _)
    rw[ZV] at eO
    exact Fin.dI (xs:=[.str (sB (ya (newF p) ws)),.int .i64 0]) rfl ⟨_,_,rfl,rfl,⟨_,_,rfl,rfl,rfl⟩⟩ (by show[V.p (.str (sB (o5 (newF p) ws ws.length))),_]=_;rw[eO];rfl) rfl
   ·exact gY
end Go.Proofs.YtibffijhebobmaaGreatDoor
end
