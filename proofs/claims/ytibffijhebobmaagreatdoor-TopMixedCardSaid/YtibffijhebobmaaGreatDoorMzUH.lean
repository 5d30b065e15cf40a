/-
 Builders.
 Chapter 15, the program: the lines of a script.
 strings.Lines.
 Chapter 15, the program: the own blocks of a script's run.
 The program of chapter 15: a new floor.
 The program of chapter 15: a script.
-/
import Derived.Test.YtibffijhebobmaaGreatDoorMzUF
import Derived.Test.YtibffijhebobmaaGreatDoorMzUG
import Derived.Test.YtibffijhebobmaaGreatDoorFaUF
import Derived.Test.YtibffijhebobmaaGreatDoorMzUZ
theorem DU{A:Prop}(h:A:=by
 refine Kc (aa.vJ _ _ rfl rfl rfl (by first | exact aaU hl1 | exact aar ⟨ur,Ot⟩ hne)) ?_
 refine aj.Wq 50 1 3 (Qg _ _ (by simp) (by first | rw[zf (r:=(aP (j8 (newF p) ws k) (Di.gt [] ws k)).2.1) hne];exact hlen | rw[D3 uL];exact hlen)) (by decide) rfl rfl rfl rfl rfl rfl rfl rfl rfl an ?_
 refine af ?_
 refine⟨_,⟨z2,hfl.mz,rfl⟩,?_⟩
 first | rw[zf (r:=(aP (j8 (newF p) ws k) (Di.gt [] ws k)).2.1) hne] | rw[D3 uL]
 exact Qn (F:=j8 (newF p) ws (k+1)) (iT (L:=ws) hW (k+1)).mm Ym):A:=h
theorem uw{A:Prop}(h:A:=by
 exfalso
 have h4:=Zm hc0
 rw[eX] at h4
 omega):A:=h
theorem C8{A:Prop}(h:A:=by
 exfalso
 rcases h2 with rfl | h2
 ·cases c8
 ·rw[SS h2] at c8
  simp at c8):A:=h
theorem AU{A:Prop}(h:A:=by
 refine af ?_
 refine aE.nil ?_
 iterate 2 refine af ?_
 exact lK.one rfl rfl ⟨rfl,rfl⟩):A:=h
set_option linter.unusedSimpArgs false
set_option linter.unusedVariables false
section
set_option maxRecDepth 100000
set_option maxHeartbeats 4000000
namespace Go.Proofs.YtibffijhebobmaaGreatDoor
open Go.AF
theorem S1:Vt Tryz.prog 174:=⟨_, Tryz.func174,by kernel_rfl,by kernel_rfl,by kernel_rfl,by kernel_rfl⟩
theorem Qa:liesAt Tryz.prog Tryz.prog.depth 148 (2 / Tryz.prog.cellsOf 148) 0 148 1=true:=by kernel_rfl
theorem KQ(v:V)(B:ai):ax Tryz.prog 135 [.ptr 0 0] [.cells [.p .nilPtr,v] 148,B] fun r H'=>r= .p (.tuple [])∧H'=[.cells [.ptr 0 0,v] 148,B]:=by
 refine ax.start (N:=20) Tryz.func135 rfl rfl Kn ?_
 iterate 6 refine af ?_
 refine Kc (aa.UR rfl rfl rfl an) ?_
 refine af ?_
 refine aI.GQ rfl ?_
 iterate 3 refine af ?_
 refine Kc (aa.Xo rfl rfl an an (by decide) rfl (TJ _)) ?_
 refine Kc (aa.X5 rfl rfl S1) ?_
 refine Kc (aa.XS rfl rfl an an rfl Qa) ?_
 iterate 4 refine af ?_
 exact qU
theorem OK(v:V)(B:ai):ax Tryz.prog 135 [.ptr 0 0] [.cells [.ptr 0 0,v] 148,B] fun r H'=>r= .p (.tuple [])∧H'=[.cells [.ptr 0 0,v] 148,B]:=by
 refine ax.start (N:=20) Tryz.func135 rfl rfl Kn ?_
 iterate 6 refine af ?_
 refine Kc (aa.Gi rfl rfl rfl an) ?_
 refine af ?_
 refine aI.yl rfl ?_
 iterate 7 refine af ?_
 refine Kc (aa.P2 rfl rfl rfl an) ?_
 refine af ?_
 refine aI.yl rfl ?_
 refine af ?_
 exact qU
theorem VW(l:Bs):ax Tryz.prog 135 [.ptr 0 0] [wC 148 0 1 l,wF 5 l] fun r H'=>r= .p (.tuple [])∧H'=[.cells [.ptr 0 0,kL 1 l.length] 148,wF 5 l]:=by
 cases l with
 | nil=>exact KQ _ _
 | cons c t=>exact OK _ _
theorem XQ(l s:Bs)(hs:0<s.length):[ai.cells [.ptr 0 0,.row 2 (l.length+s.length)] 148,.dead,.gJ (bV l++bV s) 5]=[wC 148 0 2 (l++s),.dead,wF 5 (l++s)]:=by
 have h:0<(l++s).length:=by rw[Zd];omega
 rw[UN h,UG h,Iy,Zd]
theorem Qg(l:Bs)(s:Bs)(hs:0<s.length)(hb:(l++s).length<=1099511627776):HB Tryz.prog 148 5 79 [.str (sB s)] l (s) (.tuple [.int .i64 (s.length:Int),.nilIface]):=by
 have hlen:l.length<=1099511627776:=by rw[Zd] at hb;omega
 have jH:=hb
 rw[Zd] at jH
 refine ax.start (N:=19) Tryz.func79 rfl rfl Kn ?_
 iterate 8 refine af ?_
 refine aj.BQ 7 (VW l) rfl rfl rfl rfl rfl rfl rfl an (fun v H2 iH=> ?_)
 obtain⟨rfl,rfl⟩:=iH
 iterate 9 refine af ?_
 refine Kc (aa.F8 rfl rfl an rfl (by simp[lp]) (Jy.str rfl an) hs (Sn _) an (by decide) (by omega)) ?_
 iterate 7 refine af ?_
 refine Kc (aa.lY rfl rfl Qh) ?_
 iterate 4 refine af ?_
 exact lK.many (xs:=[.int .i64 (s.length:Int),.nilIface]) rfl ⟨_,_,rfl,rfl,⟨_,_,rfl,rfl,rfl⟩⟩ rfl ⟨rfl,XQ l s hs⟩
theorem Oe(a:V):ax Tryz.prog 80 [.ptr 0 0] [.cells [a,.p .nilSlice] 148,.dead] fun r H'=>r= .p (.str (sB []))∧H'=[.cells [a,.p .nilSlice] 148,.dead]:=by
 refine ax.start (N:=14) Tryz.func80 rfl rfl Kn ?_
 iterate 5 refine af ?_
 refine aI.aB 12 mixed (by kernel_rfl) (by decide) ?_
 refine af ?_
 refine Kq (aa.nilCheck rfl rfl) ?_
 iterate 2 refine af ?_
 refine Kq (aa.zh rfl rfl) ?_
 refine af ?_
 refine Kq (aa.nilCheck rfl rfl) ?_
 iterate 2 refine af ?_
 refine Kq (aa.cD rfl rfl an rfl) ?_
 refine Kq (aa.P1 rfl rfl rfl) ?_
 exact AU
theorem Jr(a:V)(l:Bs)(hl:0<l.length)(hb:l.length<=1099511627776):ax Tryz.prog 80 [.ptr 0 0] [.cells [a,.row 1 l.length] 148,.gJ (bV l) 5] fun r H'=>r= .p (.str (sB l))∧H'=[.cells [a,.row 1 l.length] 148,.gJ (bV l) 5]:=by
 refine ax.start (N:=14) Tryz.func80 rfl rfl Kn ?_
 iterate 5 refine af ?_
 refine aI.aB 12 mixed (by kernel_rfl) (by decide) ?_
 refine af ?_
 refine Kq (aa.nilCheck rfl rfl) ?_
 iterate 2 refine af ?_
 refine Kq (aa.zT rfl rfl hl) ?_
 refine af ?_
 refine Kq (aa.nilCheck rfl rfl) ?_
 iterate 2 refine af ?_
 refine Kq (aa.cD rfl rfl an rfl) ?_
 refine Kq (aa.P3 l rfl rfl rfl an rfl hl (by omega)) ?_
 exact AU
theorem O8(l:Bs)(hb:l.length<=1099511627776):ax Tryz.prog 80 [.ptr 0 0] [wC 148 0 1 l,wF 5 l] fun r H'=>r= .p (.str (sB l))∧H'=[wC 148 0 1 l,wF 5 l]:=by
 cases l with
 | nil=>exact Oe _
 | cons c t=>exact Jr _ (c::t) (TJ _) hb
def jL(ws:List Bs):Bs:=ws.flatMap (· ++[10])
theorem Gv(w:Bs)(ws:List Bs):jL (w::ws)=w++10::jL ws:=by
 unfold jL
 rw[ZL,ZH]
 rfl
theorem UF(a b:List Bs):jL (a++b)=jL a++jL b:=by unfold jL;rw[JP]
theorem lW{ws:List Bs}{k:Nat}(hk:k<ws.length):jL (ws.drop k)=ws[k]++10::jL (ws.drop (k+1)):=by
 rw[XN hk,Gv]
theorem RL:∀(w r:Bs),10∉w->Lib.indexByte (w++10::r) 10=(w.length:Int)
 | [],r,_=>rfl
 | b::w,r,h=>by
  have hb:(b==10)=false:=by
   have:b≠10:=fun e=>h (by rw[e];exact Zq)
   exact dx
  have ih:=RL w r (fun hm=>h (Zg _ hm))
  show(if (b==10)=true then(0:Int) else if (Lib.indexByte (w++10::r) 10== -1)=true then -1 else Lib.indexByte (w++10::r) 10+1)=_
  rw[hb,ih,if_neg (by decide),if_neg (by
   intro hc
   have:=eq_of_beq hc
   omega),Zn]
  rfl
theorem FJ:∀(s cur:Bs),10∉cur->∃ ws last,dQ 10 cur s=ws++[last]∧jL ws++last=cur++s∧10∉last∧∀ w∈ws,10∉w
 | [],cur,h=>⟨[],cur,by rw[dQ];rfl,by simp[jL],h,fun _ h=>by cases h⟩
 | b::s,cur,h=>by
  rw[dQ]
  by_cases hb:b=10
  ·rw[if_pos hb]
   obtain⟨ws,last,h1,h2,h3,h4⟩:=FJ s [] (by simp)
   refine⟨cur::ws,last,by rw[h1];rfl,?_,h3,fun w hw=> ?_⟩
   ·rw[Gv,ZH,NF,h2,hb];rfl
   ·rcases Zr.1 hw with rfl | hw
    ·exact h
    ·exact h4 w hw
  ·rw[if_neg hb]
   obtain⟨ws,last,h1,h2,h3,h4⟩:=FJ s (cur++[b]) (fun hm=>by
    rcases Zp.1 hm with hm | hm
    ·exact h hm
    ·exact hb (ZJ.1 hm).symm)
   exact⟨ws,last,h1,by rw[h2,ZH];rfl,h3,h4⟩
theorem Nh{s:Bs}(h:s=[]∨s.getLast?=some 10):jL (dQ 10 [] s).dropLast=s∧∀ w∈(dQ 10 [] s).dropLast,10∉w:=by
 obtain⟨ws,last,h1,h2,h3,h4⟩:=FJ s [] (by simp)
 rw[h1,List.dropLast_concat]
 refine⟨?_,h4⟩
 have hl:last=[]:=by
  rcases h with rfl | h
  ·have:=List.append_eq_nil_iff.1 h2;exact this.2
  ·cases hla:last.getLast? with
   | none=>exact List.getLast?_eq_none_iff.1 hla
   | some x=>
    rw[IS] at h2
    rw[<- h2,List.getLast?_append,hla] at h
    have hx:x=10:=by simpa using h
    exact absurd (by rw[<- hx];exact List.mem_of_getLast? hla) h3
 rw[hl,ZU] at h2
 exact h2
theorem Su{ws:List Bs}{k:Nat}(hk:k<ws.length):0<(jL (ws.drop k)).length:=by
 rw[lW hk,Zd,Zn];omega
theorem Ur{ws:List Bs}:jL (ws.drop ws.length)=[]:=by rw[List.drop_length];rfl
theorem Rt(ws:List Bs)(k:Nat):(jL (ws.drop k)).length<=(jL ws).length:=by
 have h:jL ws=jL (ws.take k)++jL (ws.drop k):=by rw[<- UF,Xy]
 have:=congrArg List.length h
 rw[Zd] at this
 omega
theorem RJ{ws:List Bs}{k:Nat}(hk:k<ws.length){f:Bs->List V}:(ws.map f)[k]? =some (f ws[k]):=by
 rw[Zt,Zb hk];rfl
theorem qF{H:List ai}{i:Nat}{v:V}{vs:List V}{e:TypeId}(h:H[i]? =some (.cells (v::vs) e)):c7 H false 1 (.ptr i 0)=some v:=by
 unfold c7
 simp only[h]
 rfl
theorem PM{H:List ai}{i:Nat}{v u:V}{e:TypeId}(h:H[i]? =some (.cells [v] e)):gu H i 0 [u]=some (H.set i (.cells [u] e)):=by
 unfold gu
 simp only[h]
 rfl
theorem PJ(i:Nat):some (Lj (i+1) (.ptr i 0))=some (V.ptr i 0):=by
 have h:Nat.blt i (i+1)=true:=by unfold Nat.blt;exact Nat.ble_eq_true_of_le (Ze _)
 show some (bif Nat.blt i (i+1) then V.ptr i 0 else .top)=_
 rw[h]
 rfl
theorem aa.Hg{P:Program}{N:Nat}{o:Oper}{T:Tm}{H:List ai}{x:Operand}{t:TypeId}{lo hi:Option Operand}(l:Bs)(i j:Nat)(r:Bs)(ho:o.op= .slice t x lo hi none)(hx:ev T x=some (.p (.str (sB l))))(ht:DB P t=true)(hl:gf T lo 0 i)(hh:gf T hi l.length j)(h1:i<=j)(h2:j<=l.length)(e:(l.drop i).take (j - i)=r):aa P N o T H (.p (.str (sB r))) H:=
 e▸aa.S2 l i j ho hx ht hl hh h1 h2
theorem Y7{ws:List Bs}{k:Nat}(hk:k<ws.length):((jL (ws.drop k)).drop 0).take (ws[k].length+1 - 0)=ws[k]++[10]:=by
 rw[List.drop_zero,Nat.sub_zero,lW hk,show ws[k]++10::jL (ws.drop (k+1))=(ws[k]++[10])++jL (ws.drop (k+1)) by simp,List.take_left' (by simp)]
theorem Z0{ws:List Bs}{k:Nat}(hk:k<ws.length):((jL (ws.drop k)).drop (ws[k].length+1)).take ((jL (ws.drop k)).length - (ws[k].length+1))=jL (ws.drop (k+1)):=by
 rw[OB (by rw[R0];exact Ze _),lW hk,List.drop_append]
 simp
theorem MT(s:Bs):ax Tryz.prog 76 ([.str (sB s)].map .p) [] fun v H2=>v= .func (.func 131) [] [.ptr 0 0]∧H2=[.cells [.p (.str (sB s))] 9]:=by
 refine ax.start (N:=4) Tryz.func76 rfl rfl Kn ?_
 iterate 2 refine af ?_
 refine Kc (aa.j7 rfl rfl rfl) ?_
 iterate 4 refine af ?_
 refine Kc (aa.makeFunc rfl rfl rfl) ?_
 exact mD
theorem Sx{ws:List Bs}{k:Nat}(hk:k<ws.length)(hw:∀ w∈ws,10∉w):Pure Tryz.prog 132 [.str (sB (jL (ws.drop k))),.int .u8 10] (.int .i64 (ws[k].length:Int)):=by
 have h:=zL (jL (ws.drop k)) 10
 rw[lW hk] at h
 rw[RL _ _ (hw _ (ZZ hk)),<- lW hk] at h
 exact h
theorem Kb(ws:List Bs)(i:Nat)(hl:(jL ws).length<=1000000)(hw:∀ w∈ws,10∉w):Rv Tryz.prog (i+1) i (fun k=> .cells [.p (.str (sB (jL (ws.drop k))))] 9) 131 (fun y=>[y,.ptr i 0]) (ws.map fun w=>[.p (.str (sB (w++[10])))]):=by
 intro l κ nn inv fin hk0 hκ Si Fu hb h0 vB
 refine jU.gN (N:=25) Tryz.func131 rfl rfl Kn ?_
 refine af ?_
 refine aI.iK [0,1] (fun g=>[]) (fun g=>g.2) (fun g=>g.1<=ws.length∧inv g.1 g.2) (fun g=>ws.length - g.1) (0,h0) (show(0:Nat)<=ws.length∧inv 0 h0 from⟨Zv _,vB⟩) (To.sub (Sub.Mc (Sub.nil))) (fun g hg=> ?_)
 obtain⟨k,No⟩:=g
 obtain⟨hle,hinv⟩:=hg
 dsimp only at hle hinv ⊢
 have hR:=(Si _ _ hinv).2
 have XG:=(Si _ _ hinv).1
 have hjl:=Rt ws k
 iterate 3 refine af ?_
 refine Kc (aa.load (v:= .p (.str (sB (jL (ws.drop k))))) rfl rfl an (qF hR)) ?_
 refine Kc (aa.lY rfl rfl Qh) ?_
 iterate 2 refine af ?_
 refine Ki (fun hc0=> ?_) fun hc0=> ?_
 ·have tL:k<ws.length:=by
   rcases ZD k ws.length with h | h
   ·exact h
   ·obtain rfl:k=ws.length:=by omega
    rw[Ur] at hc0
    cases hc0
  have eR:=lW tL
  have eL:=congrArg List.length eR
  rw[Zd,Zn] at eL
  have hbk:=hb k No _ hinv (RJ tL)
  iterate 9 refine af ?_
  refine Kc (aa.load (v:= .p (.str (sB (jL (ws.drop k))))) rfl rfl an (qF hR)) ?_
  refine Kc (Kp (Sx tL hw)) ?_
  iterate 7 refine af ?_
  refine Ki (fun c8=> ?_) fun c8=> ?_
  ·refine aI.aB 9 mixed (by kernel_rfl) (by decide) ?_
   refine Kq (aa.load (v:= .p (.str (sB (jL (ws.drop k))))) rfl rfl an (qF hR)) ?_
   refine af ?_
   refine Kq (aa.add rfl rfl rfl (aG ?_)) ?_
   ·omega
   refine Kq (aa.Hg (jL (ws.drop k)) 0 (ws[k].length+1) (ws[k]++[10]) rfl rfl an rfl ⟨_,rfl⟩ (Zv _) (by rw[eL];omega) (Y7 tL)) ?_
   refine Kq (aa.load (v:= .p (.str (sB (jL (ws.drop k))))) rfl rfl an (qF hR)) ?_
   refine af ?_
   refine Kq (aa.add rfl rfl rfl (aG ?_)) ?_
   ·omega
   refine Kq (aa.Hg (jL (ws.drop k)) (ws[k].length+1) (jL (ws.drop k)).length (jL (ws.drop (k+1))) rfl rfl an ⟨_,rfl⟩ rfl (by rw[eL];omega) (Ze _) (Z0 tL)) ?_
   refine af ?_
   refine aE.nil ?_
   refine Kz (aa.store (H':=(No.set i (.cells [.p (.str (sB (jL (ws.drop (k+1)))))] 9))) rfl rfl rfl rfl rfl an rfl (PM hR)) ?_
   iterate 5 refine af ?_
   refine aj.Tq (i+1) 23 hk0 (by rw[yd];omega) rfl rfl rfl rfl rfl rfl (by exact hbk) ?_
   intro b2 h2 hq
   iterate 2 refine af ?_
   refine Ki (fun mu=> ?_) fun mu=> ?_
   ·have gZ:b2=false:=by simpa using mu
    rw[if_neg (by rw[gZ];decide)] at hq
    refine af ?_
    exact⟨.inr rfl,_,eT.none_ rfl,.inr hq⟩
   ·have gZ:b2=true:=by simpa using mu
    rw[if_pos gZ] at hq
    have hN:inv (k+1) h2:=hq
    refine af ?_
    refine⟨(k+1,h2),?_,?_,?_⟩
    ·exact⟨tL,hN⟩
    ·show ws.length - (k+1)<ws.length - k
     omega
    exact To.sub (Sub.cons rfl (Sub.cons (PJ i) Sub.nil))
  ·exfalso
   simp at c8
 ·have WD:k=ws.length:=by
   rcases ZD k ws.length with h | h
   ·have h2:=Su h;have h3:=Zs hc0;rw[eX] at h3;omega
   ·omega
  subst WD
  refine aI.exit ?_
  exact⟨.inl rfl,_,eT.none_ rfl,.inl (by rw[Zo];exact hinv)⟩
section
variable {P:Program} {N κ:Nat} {T T2:Tm} {F:cT} {z:Bool} {out s:Bs} {r:uH}
def qk(i:Nat):ai:= .cells [.ptr i 0] 30
def tu(s:Bs):ai:= .cells [.p (.str (sB s))] 9
def lC(s out:Bs)(F:cT)(z:Bool):List ai:=[qk 4,wC 148 1 3 out,tu s,wF 5 out]++cZ 4 F z
theorem Ag{σ:Nat->Option Nat}{i j:Nat}(h:σ i=some j):aD σ (qk i)=qk j:=by
 show ai.cells [aW σ (.ptr i 0)] 30=_
 simp only[aW,h]
 rfl
theorem CQ{σ:Nat->Option Nat}{st:LoopState}{pe:Option Code}(h:eV σ r.T=r.T):aD σ (.loop r st pe)= .loop r st pe:=by
 show ai.loop {r with T:=eV σ r.T} st pe=_
 rw[h]
theorem Tz(hm:F.marks.length<=8)(hT:∀ σ,σ 47=some 0->σ 48=some 1->σ 49=some 2->Sub T2 (eV σ T)):To P 0 N T (cZ 0 F z++[qk 0,.cells [.p .nilPtr,.p .nilSlice] 148,tu s]) T2 (lC s [] F z):=by
 have hl:=jj (c:=0) (z:=z) hm
 obtain⟨σ,_,h2,h3,hto⟩:=To.rot (P:=P) (κ:=0) (N:=N) (T:=T) [] (cZ 0 F z) [qk 0,.cells [.p .nilPtr,.p .nilSlice] 148,tu s,.dead] (Ze _)
 have g0:σ 0=some 4:=by have:=h2 0 (by rw[hl];decide);simpa using this
 have gk:∀ k,k<47->σ (0+k)=some (4+k):=fun k hk=>by have:=h2 k (by rw[hl];exact hk);simpa using this
 have e0:=h3 0 (by simp)
 have e1:=h3 1 (by simp)
 have e2:=h3 2 (by simp)
 rw[hl] at e0 e1 e2
 refine To.trans (To.xj To.pad (H3:=[]++(cZ 0 F z++[qk 0,.cells [.p .nilPtr,.p .nilSlice] 148,tu s,.dead])) (by simp)) (To.trans hto (To.xj (To.sub (hT σ e0 e1 e2)) ?_))
 rw[qy hm gk]
 show[aD σ (qk 0),_,_,_]++cZ 4 F z=_
 rw[Ag g0]
 rfl
theorem Ua(hm:F.marks.length<=8)(hr:∀ σ,σ 0=some 0->σ 1=some 1->σ 2=some 2->eV σ r.T=r.T)(hT:∀ σ,σ 0=some 0->σ 1=some 1->σ 2=some 2->Sub T2 (eV σ T)):To P 3 N T (lC s out F z++[.loop r .busy none]) T2 ([qk 5,wC 148 1 3 out,tu s,wF 5 out,.loop r .busy none]++cZ 5 F z):=by
 have hl:=jj (c:=4) (z:=z) hm
 obtain⟨σ,h1,h2,h3,hto⟩:=To.rot (P:=P) (κ:=3) (N:=N) (T:=T) [qk 4,wC 148 1 3 out,tu s,wF 5 out] (cZ 4 F z) [.loop r .busy none] (by simp)
 have e0:=h1 0 (by simp)
 have e1:=h1 1 (by simp)
 have e2:=h1 2 (by simp)
 have e3:=h1 3 (by simp)
 have g4:σ 4=some 5:=by have:=h2 0 (by rw[hl];decide);simpa using this
 have gk:∀ k,k<47->σ (4+k)=some (5+k):=fun k hk=>by have:=h2 k (by rw[hl];exact hk);simpa using this
 refine To.trans (To.xj hto (H3:=[qk 5,wC 148 1 3 out,tu s,wF 5 out,.loop r .busy none]++cZ 5 F z) ?_) (To.sub (hT σ e0 e1 e2))|>fun h=>To.xj (H2:=_) h rfl|>fun h=>by
  have e:lC s out F z++[.loop r .busy none]=[qk 4,wC 148 1 3 out,tu s,wF 5 out]++(cZ 4 F z++[.loop r .busy none]):=by unfold lC;rw[ZH]
  rw[e]
  exact h
 rw[qy hm gk]
 show[aD σ (qk 4),aD σ (wC 148 1 3 out),aD σ (tu s),aD σ (wF 5 out)]++([aD σ (.loop r .busy none)]++cZ 5 F z)=_
 rw[Ag g4,Fw e1 e3,Fk,CQ (hr σ e0 e1 e2)]
 rfl
theorem TD(hm:F.marks.length<=8)(hr:∀ σ,σ 0=some 0->σ 1=some 1->σ 2=some 2->eV σ r.T=r.T):To P 3 N T ([qk 5,wC 148 1 52 out,tu s,.dead,.loop r .busy none]++(cZ 5 F z++[wF 5 out])) [] (lC s out F z++[.loop r .busy none]):=by
 have hl:=jj (c:=5) (z:=z) hm
 obtain⟨H,eH⟩:∃ H,H=[qk 5,wC 148 1 52 out,tu s,.dead,.loop r .busy none]++(cZ 5 F z++[wF 5 out]):=⟨_,rfl⟩
 have SO:H.length=53:=by rw[eH];simp[hl]
 obtain⟨ks,yW⟩:∃ ks:List Nat,ks=[0,1,2,52]++(List.range' 5 47++[4]):=⟨_,rfl⟩
 have hkeep:jf 3 H.length ks=true:=by rw[SO,yW];rfl
 have hk:=To.keep (P:=P) (κ:=3) (N:=N) (T:=T) (H:=H) ks hkeep
 have e0:pl ks 0=some 0:=by rw[yW];rfl
 have e1:pl ks 1=some 1:=by rw[yW];rfl
 have e2:pl ks 2=some 2:=by rw[yW];rfl
 have e52:pl ks 52=some 3:=by rw[yW];rfl
 have gk:∀ k,k<47->pl ks (5+k)=some (4+k):=by rw[yW];decide
 have g5:pl ks 5=some 4:=gk 0 (by decide)
 have tN:∀ k,k<47->H[5+k]? =(cZ 5 F z)[k]? :=fun k hk=>by
  rw[eH,Zi (by simp),Zc (by rw[hl];simpa using hk)]
  congr 1
  simp
 have aaZ:H[52]? =some (wF 5 out):=by
  rw[eH,Zi (by simp),Zi (by rw[hl];simp),hl]
  rfl
 rw[<- eH]
 refine To.trans (To.xj hk (H3:=lC s out F z++[.loop r .busy none]) ?_) (To.sub Sub.nil)
 have seg:(List.range' 5 47).map (fun i=>aD (pl ks) (H.getD i .dead))=(cZ 5 F z).map (aD (pl ks)):=by
  apply Gg
  intro i
  rw[Zt,Zt]
  rcases ZD i 47 with hi | hi
  ·have hx:=Zb (show i<(cZ 5 F z).length by rw[hl];exact hi)
   rw[U2 hi,ZM]
   show some (aD (pl ks) (H.getD (5+i) .dead))=_
   rw[Zf,tN i hi,hx]
   rfl
  ·rw[ZE (by rw[TI];exact hi),ZE (by rw[hl];exact hi)]
   rfl
 have g:∀{i:Nat} {x:ai},H[i]? =some x->H.getD i .dead=x:=fun hx=>by rw[Zf,hx];rfl
 have m1:ks.map (fun i=>aD (pl ks) (H.getD i .dead))=[0,1,2,52].map (fun i=>aD (pl ks) (H.getD i .dead))++((List.range' 5 47).map (fun i=>aD (pl ks) (H.getD i .dead))++[4].map (fun i=>aD (pl ks) (H.getD i .dead))):=by
  conv=>lhs;arg 2;rw[yW]
  rw[ZG,ZG]
 rw[m1,seg,qy hm gk]
 show[aD (pl ks) (H.getD 0 .dead),aD (pl ks) (H.getD 1 .dead),aD (pl ks) (H.getD 2 .dead),aD (pl ks) (H.getD 52 .dead)]++(cZ 4 F z++[aD (pl ks) (H.getD 4 .dead)])=_
 rw[g aaZ,g (show H[0]? =some (qk 5) by rw[eH];rfl),g (show H[1]? =some (wC 148 1 52 out) by rw[eH];rfl),g (show H[2]? =some (tu s) by rw[eH];rfl),g (show H[4]? =some (.loop r .busy none) by rw[eH];rfl),
  Ag g5,Fw e1 e52,Fk,CQ (hr _ e0 e1 e2)]
 unfold lC
 rw[ZH]
 rfl
theorem Up{rest:List ai}(hT:∀ σ,σ 1=some 0->Sub T2 (eV σ T)):To P 0 N T ([qk 4,wC 148 1 3 out,tu s,wF 5 out]++rest) T2 [wC 148 0 1 out,wF 5 out]:=by
 have hkeep:jf 0 ([qk 4,wC 148 1 3 out,tu s,wF 5 out]++rest).length [1,3]=true:=by
  unfold jf
  simp only[Zk,beq_iff_eq,Zz,Zj]
  refine⟨⟨rfl,fun i hi=> ?_⟩,by decide⟩
  have:i<([qk 4,wC 148 1 3 out,tu s,wF 5 out]++rest).length:=by
   rw[Zd]
   simp only[Zr,HL,or_false] at hi
   show i<4+_
   omega
  simpa[Nat.blt,Zw] using this
 have hk:=To.keep (P:=P) (κ:=0) (N:=N) (T:=T) [1,3] hkeep
 refine To.trans (To.xj hk (H3:=[wC 148 0 1 out,wF 5 out]) ?_) (To.sub (hT _ rfl))
 show[aD (pl [1,3]) (wC 148 1 3 out),aD (pl [1,3]) (wF 5 out)]=_
 rw[Fw (σ:=pl [1,3]) (i':=0) (j':=1) rfl rfl,Fk]
theorem nK(hm:F.marks.length<=8):(lC s out F z).length=51:=by
 unfold lC
 rw[Zd,jj hm]
 rfl
theorem Cy{x y:ai}{n:Nat}(hm:F.marks.length<=8)(hn:n=51):(lC s out F z++[x])[n]? =some x∧(lC s out F z++[x]).set n y=lC s out F z++[y]:=by
 have h:=nK (s:=s) (out:=out) (z:=z) hm
 subst hn
 rw[<- h]
 exact⟨by simp,by simp⟩
theorem Qn{DJ:Bs}(hm:F.marks.length<=8)(hr:∀ σ,σ 0=some 0->σ 1=some 1->σ 2=some 2->eV σ r.T=r.T):To P 3 N T (((([qk 5,wC 148 1 3 DJ,tu s,wF 5 DJ,.loop r .busy none]++cZ 5 F z).set 1 (wC 148 1 ([qk 5,wC 148 1 3 DJ,tu s,wF 5 DJ,.loop r .busy none]++cZ 5 F z).length out)).set 3 .dead)++[wF 5 out]) [] (lC s out F z++[.loop r .busy none]):=by
 have hl:=jj (c:=5) (z:=z) hm
 have e:((([qk 5,wC 148 1 3 DJ,tu s,wF 5 DJ,.loop r .busy none]++cZ 5 F z).set 1 (wC 148 1 ([qk 5,wC 148 1 3 DJ,tu s,wF 5 DJ,.loop r .busy none]++cZ 5 F z).length out)).set 3 .dead)++[wF 5 out]=[qk 5,wC 148 1 52 out,tu s,.dead,.loop r .busy none]++(cZ 5 F z++[wF 5 out]):=by
  rw[Zd,hl]
  rfl
 rw[e]
 exact TD hm hr
def YZ(F:cT)(w:Bs)(H:List ai):List ai->Prop:=fun H2=>(∃ z q im qs,gX 5 (aP F w).1 z H2 q im qs)∧∀ i,i<5->H2[i]? =H[i]?
theorem aax{w:Bs}{H:List ai}(h0:H[0]? =some (qk 5)):∀ H0,(H0=H∨YZ F w H H0)->c7 H0 false 1 (.ptr 0 0)=some (.ptr 5 0):=fun H0 h=>by
 have:H0[0]? =some (.cells [.ptr 5 0] 30):=by
  rcases h with rfl | ⟨_,h⟩
  ·exact h0
  ·rw[h 0 (by decide)];exact h0
 exact qF this
theorem UI{e:TypeId}{i j n:Nat}{l:Bs}(hi:i<n)(hj:j<n):II n (wC e i j l):=by
 have h:∀ k,k<n->below n k=some k:=fun k hk=>by unfold below;rw[if_pos (by simpa[Nat.blt,Zw] using hk)]
 cases l with
 | nil=>rfl
 | cons c t=>
  show bq _ [.ptr i 0,.row j _]=_
  simp only[bq,aW,h i hi,h j hj]
  rfl
theorem SM{eb:TypeId}{n:Nat}{l:Bs}:II n (wF eb l):=by
 cases l with
 | nil=>trivial
 | cons c t=>exact tV _ _
theorem QL(hr:eV (below 6) r.T=r.T):∀(i:Nat) (x:ai),[qk 5,wC 148 1 3 out,tu s,wF 5 out,.loop r .busy none][i]? =some x->II 6 x:=fun i x h=>by
 match i,h with
 | 0,h=>cases h;rfl
 | 1,h=>cases h;exact UI (by decide) (by decide)
 | 2,h=>cases h;rfl
 | 3,h=>cases h;exact SM
 | 4,h=>cases h;exact hr
theorem Lw{w:Bs}{H2:List ai}{q:P5}{im:Nat}{qs:List P5}{z2:Bool}(hr:eV (below 6) r.T=r.T)(hfl:gX 5 (aP F w).1 z2 H2 q im qs)(hlow:∀ i,i<5->H2[i]? =([qk 5,wC 148 1 3 out,tu s,wF 5 out,.loop r .busy none]++cZ 5 F z)[i]?)(hT:Sub T2 T)(hl:eV (below 6) T2=T2):To P 3 N T H2 T2 ([qk 5,wC 148 1 3 out,tu s,wF 5 out,.loop r .busy none]++cZ 5 (aP F w).1 z2):=by
 refine C6 hfl rfl (fun i x hx=>⟨?_,QL hr i x hx⟩) (by decide) hT hl
 have hi:=(Za.1 hx).1
 rw[hlow i hi,Zc hi]
 exact hx
theorem Rb(w:Bs)(hw:w.length<=1000000):Pure Tryz.prog 77 [.str (sB (w++[10])),.str (sB [10])] (.str (sB w)):=by
 have h:=xL (w++[10]) [10] (by simp;omega)
 have e:Lib.trimSuffix (w++[10]) [10]=w:=by
  unfold Lib.trimSuffix
  rw[if_pos (by unfold Lib.hasSuffix;simp)]
  simp
 rwa [e] at h
theorem SS{s:Bs}(h:s.getLast?=some 10):([10]:Bs).isSuffixOf s=true:=by
 rw[List.isSuffixOf_iff_suffix]
 obtain⟨t,ht⟩:=List.getLast?_eq_some_iff.1 h
 exact⟨t,ht.symm⟩
theorem Wj{s:Bs}(h:s.getLast?≠some 10):([10]:Bs).isSuffixOf s=false:=by
 cases e:([10]:Bs).isSuffixOf s with
 | false=>rfl
 | true=>
  rw[List.isSuffixOf_iff_suffix] at e
  obtain⟨t,ht⟩:=e
  exact absurd (by rw[<- ht];simp) h
theorem zf{r:Bs}{e:Int}(he:e≠0):cA 32 (jk [.str Fb,.num e])++[10]=zm r e:=by
 unfold zm
 rw[if_neg he,eD]
 rfl
theorem D3{r:Bs}{e:Int}(he:e=0):r++[10]=zm r e:=by
 unfold zm
 rw[if_pos he]
theorem WK{ws:List Bs}{k:Nat}(hk:k<ws.length){f:Bs->List V}:(ws.map f)[k]? =some (f (Di.gt [] ws k)):=by
 rw[RJ hk,Di.aL [] k hk]
theorem OZ{x:ai}{n:Nat}(hm:F.marks.length<=8)(hn:n=51):(lC s out F z++[x])[n]? =some x:=(Cy (y:= .dead) hm hn).1
theorem Lb{x y:ai}{n:Nat}(hm:F.marks.length<=8)(hn:n=51):(lC s out F z++[x]).set n y=lC s out F z++[y]:=(Cy hm hn).2
theorem aI.Ax{R:Option Nat}{Q:Post}{H:List ai}{l:List Oper}{id:Nat}(m:Nat)(F:cT)(w:Bs)(EX:P.follows .mixedOrders=true)(hk:jh m l=true)(hm:m<=l.length)(h:bU P N l.toArray H (YZ F w H) (fun T'=>∀ H2,YZ F w H H2->aj P R N κ l.toArray (l.drop m) Q T' H2) false (l.take m) T):aI P R N κ (.region id l.toArray true) Q T H:=
 aI.Cc m (YZ F w H) EX hk hm h
theorem aaU{r:Bs}(h1:r.length<=3000):r.length+([10]:Bs).length<9223372036854775808:=by simp;omega
theorem aar{e:Int}(h:0<=e∧e<=15)(he:e≠0):(cA 32 (jk [.str Fb,.num e])).length+([10]:Bs).length<9223372036854775808:=by
 have h2:=tG (r:=[]) (e:=e) ⟨Zv _,h⟩
 rw[<- zf (r:=[]) he,Zd] at h2
 omega
end
theorem JI(l:List Di.eB)(hl:l.length<=1000000):ax Tryz.prog 58 [.p (Di.GM l)] [] fun v H2=>v=aY 0 l.length∧H2=[dL ((l.flatMap Di.eB.cells).map .p) 122 l.length]:=by
 refine ax.start (N:=8) Tryz.func58 rfl rfl Kn ?_
 iterate 8 refine af ?_
 refine aj.zq 4 rfl rfl rfl an rfl rfl rfl (fun b hb0=> ?_)
 refine af ?_
 refine Ki (fun hc0=> ?_) fun hc0=> ?_
 ·have h0:l.length=0:=hb0 hc0
  iterate 3 refine af ?_
  refine aj.to (To.z0 2 rfl) ?_
  refine aj.to To.pad ?_
  iterate 2 refine af ?_
  have hq:V.z0=aY 0 l.length∧([.dead]:List ai)=[dL ((l.flatMap Di.eB.cells).map .p) 122 l.length]:=⟨(oc h0).symm,by rw[nX h0]⟩
  exact qw
 ·iterate 3 refine af ?_
  refine Kc (aa.tO rfl an) ?_
  refine af ?_
  refine Kc (aa.qN rfl rfl rfl an an (pT (xs:=(l.flatMap Di.eB.cells)) (n:=l.length) (sz:=3) (AF.cx (c:=3) (fun _=>rfl) l)) (MS Di.eB.cells l (fun _=>rfl)) an (by decide) ?_) ?_
  ·show(2*l.length+192)*24<=281474976710656;omega
  exact mD
theorem IG(l:List Di.eB)(hl:l.length<=1000000)(h1:1<=l.length):ax Tryz.prog 58 ([Di.GM l].map .p) [] fun v H2=>v= .row 0 l.length∧H2=[.row ((l.flatMap Di.eB.cells).map .p) 122]:=
 fun w I ρ us hi hu=>(JI l hl w I ρ us hi hu).mono fun e w' ⟨u,v,J,σ,H2,a1,⟨a2,a3⟩,a4,a5,a6⟩=>⟨u,v,J,σ,H2,a1,⟨by rw[a2,MR h1],by rw[a3,N5 h1]⟩,a4,a5,a6⟩
theorem Rf:∀ l:List Di.eB,O0 (l.flatMap Di.eB.cells)=true
 | []=>rfl
 | x::l=>by
  show O0 (x.cells++l.flatMap Di.eB.cells)=true
  show(true&&(true&&(true&&O0 (l.flatMap Di.eB.cells))))=true
  rw[Rf l];rfl
theorem Iu(p:Di.bO)(hp:p.dies.length<=100)(h:Di.fQ p=false):Pure Tryz.prog 29 [Di.ic p,.nilSlice,.nilSlice] (.tuple [.nilSlice,.int .i64 0,.int .i64 1]):=by
 have h2:=Pure.RE (Di.sr p [] [] (ZT hp (by decide)) (by decide) (by decide))
 rw[Di.FG h] at h2
 exact h2
theorem Gk(p:Di.bO)(h:Di.fQ p=true):Di.fO p [] []=(some (List.replicate p.dies.length 0),0,0):=by
 rw[Di.gw h rfl]
 rfl
theorem Fj(p:Di.bO)(hp:p.dies.length<=100)(h:Di.fQ p=true):Pure Tryz.prog 29 [Di.ic p,.nilSlice,.nilSlice] (.tuple [Di.cg (List.replicate p.dies.length 0),.int .i64 0,.int .i64 0]):=by
 have h2:=Pure.RE (Di.sr p [] [] (ZT hp (by decide)) (by decide) (by decide))
 rw[Gk p h] at h2
 exact h2
theorem Tp(p:Di.bO)(hp:p.dies.length<=100)(h:Di.fQ p=false):Pure Tryz.prog 20 [Di.ic p] (.tuple [.nilPtr,.int .i64 1]):=by
 refine Kf (N:=22) Tryz.func20 ?_
 iterate 2 refine af ?_
 refine Kc (aa.j7 rfl rfl rfl) ?_
 iterate 6 refine af ?_
 refine Kc (Kl (.p (Di.ic p))) ?_
 refine Kc (Kp (Iu p hp h)) ?_
 iterate 13 refine af ?_
 refine aI.GQ rfl ?_
 iterate 6 refine af ?_
 refine Fin.dD (xs:=[.nilPtr,.int .i64 1]) rfl ⟨_,_,rfl,rfl,⟨_,_,rfl,rfl,rfl⟩⟩ rfl rfl
theorem Ho(p:Di.bO)(hp:p.dies.length<=100)(h:Di.fQ p=true):ax Tryz.prog 20 ([Di.ic p].map .p) [] fun v H2=>v= .tuple [.ptr 0 0,.p (.int .i64 0)]∧H2=cZ 0 (newF p) true:=by
 obtain⟨⟨n1,n4⟩,_⟩:=Di.hO h
 refine ax.start (N:=22) Tryz.func20 rfl rfl Kn ?_
 iterate 2 refine af ?_
 refine Kc (aa.j7 rfl rfl rfl) ?_
 iterate 6 refine af ?_
 refine Kc (Kl (.p (Di.ic p))) ?_
 refine Kc (Kp (Fj p hp h)) ?_
 iterate 13 refine af ?_
 refine aI.yl rfl ?_
 iterate 4 refine af ?_
 refine Kc (Kl (.p (Di.GM p.dies))) ?_
 refine Kc (aa.Pj 3 (IG p.dies (by omega) n1) (Rf _) rfl rfl rfl rfl rfl an) ?_
 refine aj.to (To.freeze 1 rfl (ko _)) ?_
 iterate 5 refine af ?_
 refine Kc (Kl (.p (Di.ic p))) ?_
 refine af ?_
 refine Kc (aa.j7 rfl rfl rfl) ?_
 iterate 2 refine af ?_
 refine aj.to (To.z0B 2 rfl) ?_
 refine aj.to (To.Qk 45) ?_
 refine aj.to (To.done (2::1::List.range' 3 45) (S:=[(2,.ptr 0 0),(3,.p (.int .i64 0))]) rfl KS (H2:=cZ 0 (newF p) true) rfl) ?_
 iterate 2 refine af ?_
 exact⟨.inr rfl,_,eT.many (vs:=[.ptr 0 0,.p (.int .i64 0)]) rfl ⟨_,_,rfl,rfl,⟨_,_,rfl,rfl,rfl⟩⟩,rfl,rfl⟩
theorem Iz(p:Di.bO)(s:Bs)(h1:131072<s.length):Pure Tryz.prog 33 [Di.ic p,.str (sB s)] (.tuple [.str (sB []),.int .i64 3]):=by
 refine Kf (N:=52) Tryz.func33 ?_
 iterate 11 refine af ?_
 refine Kc (aa.lY rfl rfl Qh) ?_
 iterate 3 refine af ?_
 refine Ki (fun hc0=> ?_) fun hc0=> ?_
 ·iterate 6 refine af ?_
  exact Fin.dD (xs:=[.str (sB []),.int .i64 3]) rfl ⟨_,_,rfl,rfl,⟨_,_,rfl,rfl,rfl⟩⟩ rfl rfl
 ·exfalso
  have h2:=Zs hc0
  rw[eX] at h2
  omega
theorem JX(p:Di.bO)(s:Bs)(h1:¬ 131072<s.length)(h2:s≠[])(h3:s.getLast?≠some 10):Pure Tryz.prog 33 [Di.ic p,.str (sB s)] (.tuple [.str (sB []),.int .i64 8]):=by
 refine Kf (N:=52) Tryz.func33 ?_
 iterate 11 refine af ?_
 refine Kc (aa.lY rfl rfl Qh) ?_
 iterate 3 refine af ?_
 refine Ki (fun hc0=> ?_) fun hc0=> ?_
 ·exact uw
 ·iterate 3 refine af ?_
  refine Kc (aa.DR s [] rfl rfl rfl) ?_
  refine af ?_
  refine Kg 19 18 1 rfl (fun h=>(aa.move rfl rfl)) ?_
  refine Kh 20 18 19 rfl rfl rfl rfl (fun h=>(Kp (lS s [10] (by omega)))) ?_
  refine Kh 21 18 20 rfl rfl rfl rfl (fun h=>(aa.gH rfl rfl)) ?_
  refine Kc (aa.gG rfl rfl rfl ?_) ?_
  ·exact aC
  iterate 2 refine af ?_
  refine Ki (fun c8=> ?_) fun c8=> ?_
  ·iterate 6 refine af ?_
   exact Fin.dD (xs:=[.str (sB []),.int .i64 8]) rfl ⟨_,_,rfl,rfl,⟨_,_,rfl,rfl,rfl⟩⟩ rfl rfl
  ·exfalso
   rw[Wj h3] at c8
   simp[h2] at c8
theorem Lc(p:Di.bO)(s:Bs)(hp:p.dies.length<=100)(h1:¬ 131072<s.length)(h2:s=[]∨s.getLast?=some 10)(h3:Di.fQ p=false):Pure Tryz.prog 33 [Di.ic p,.str (sB s)] (.tuple [.str (sB []),.int .i64 1]):=by
 refine Kf (N:=52) Tryz.func33 ?_
 iterate 11 refine af ?_
 refine Kc (aa.lY rfl rfl Qh) ?_
 iterate 3 refine af ?_
 refine Ki (fun hc0=> ?_) fun hc0=> ?_
 ·exact uw
 ·iterate 3 refine af ?_
  refine Kc (aa.DR s [] rfl rfl rfl) ?_
  refine af ?_
  refine Kg 19 18 1 rfl (fun h=>(aa.move rfl rfl)) ?_
  refine Kh 20 18 19 rfl rfl rfl rfl (fun h=>(Kp (lS s [10] (by omega)))) ?_
  refine Kh 21 18 20 rfl rfl rfl rfl (fun h=>(aa.gH rfl rfl)) ?_
  refine Kc (aa.gG rfl rfl rfl ?_) ?_
  ·exact aC
  iterate 2 refine af ?_
  refine Ki (fun c8=> ?_) fun c8=> ?_
  ·exact C8
  ·iterate 3 refine af ?_
   refine Kc (Kl (.p (Di.ic p))) ?_
   refine Kc (Kp (Tp p hp h3)) ?_
   iterate 13 refine af ?_
   refine aI.GQ rfl ?_
   iterate 7 refine af ?_
   exact Fin.dD (xs:=[.str (sB []),.int .i64 1]) rfl ⟨_,_,rfl,rfl,⟨_,_,rfl,rfl,rfl⟩⟩ rfl rfl
theorem Pt(p:Di.bO)(s:Bs)(hp:p.dies.length<=100)(h1:¬ 131072<s.length)(h2:s=[]∨s.getLast?=some 10)(h3:Di.fQ p=true):Pure Tryz.prog 33 [Di.ic p,.str (sB s)] (.tuple [.str (sB (xJ (newF p) (dQ 10 [] s).dropLast)),.int .i64 0]):=by
 obtain⟨ws,ews⟩:∃ ws,ws=(dQ 10 [] s).dropLast:=⟨_,rfl⟩
 obtain⟨eS,hno⟩:=Nh h2
 rw[<- ews] at eS hno ⊢
 have hW:=KX h3
 have hjs:(jL ws).length<=131072:=by rw[eS];omega
 have X0:ws.length<=131072:=by have h4:=(iU 10 s []).2;have h5:=congrArg List.length ews;rw[List.length_dropLast] at h5;omega
 refine Kf (N:=52) Tryz.func33 ?_
 iterate 11 refine af ?_
 refine Kc (aa.lY rfl rfl Qh) ?_
 iterate 3 refine af ?_
 refine Ki (fun hc0=> ?_) fun hc0=> ?_
 ·exact uw
 ·iterate 3 refine af ?_
  refine Kc (aa.DR s [] rfl rfl rfl) ?_
  refine af ?_
  refine Kg 19 18 1 rfl (fun h=>(aa.move rfl rfl)) ?_
  refine Kh 20 18 19 rfl rfl rfl rfl (fun h=>(Kp (lS s [10] (by omega)))) ?_
  refine Kh 21 18 20 rfl rfl rfl rfl (fun h=>(aa.gH rfl rfl)) ?_
  refine Kc (aa.gG rfl rfl rfl ?_) ?_
  ·exact aC
  iterate 2 refine af ?_
  refine Ki (fun c8=> ?_) fun c8=> ?_
  ·exact C8
  ·iterate 3 refine af ?_
   refine Kc (Kl (.p (Di.ic p))) ?_
   refine aj.BQ 25 (Ho p hp h3) rfl rfl rfl rfl rfl rfl rfl an (fun v H2 iH=> ?_)
   obtain⟨rfl,rfl⟩:=iH
   iterate 13 refine af ?_
   refine aI.yl rfl ?_
   iterate 9 refine af ?_
   refine aj.HA (Qp:=fun _ _=>False) 32 [] (MT s).OD rfl rfl rfl (fun _ _ _=>⟨Zv _,fun j i y h=>by simp at h⟩) (fun _ _ h=>h.elim) rfl rfl rfl rfl rfl rfl rfl an (fun _ _ h=>h.elim) (fun v H2 iH=> ?_)
   obtain⟨rfl,rfl⟩:=iH
   iterate 2 refine af ?_
   refine aI.xj (show cZ 0 (newF p) true++[qk 0,.cells [.p .nilPtr,.p .nilSlice] 148,tu s]=_ from rfl) ?_
   refine aI.to (To.sub (T2:=[(7,.ptr 48 0),(32,.func (.func 131) [] [.ptr 49 0]),(6,.ptr 47 0)]) KS) ?_
   refine aI.to (Tz (T2:=[(7,.ptr 1 0),(32,.func (.func 131) [] [.ptr 2 0]),(6,.ptr 0 0)]) (Zv _) (fun σ e0 e1 e2=>by simp only[eV,aW,bq,e0,e1,e2];exact KS)) ?_
   refine aI.F4 3 3 2 (fun k=> .cells [.p (.str (sB (jL (ws.drop k))))] 9) rfl (fun _=>rfl) an (Kb ws 2 (by omega) hno) (Ze 3) (Zv _) (by rw[nK (F:=newF p) (Zv _)];decide) (fun _ h=>by cases h) (fun x hx=>by obtain⟨w,_,rfl⟩:=yu.1 hx;rfl) rfl (fun k h=>∃ z,(z=true->(j8 (newF p) ws k).marks=[])∧h=lC (jL (ws.drop k)) (oI (newF p) ws k) (j8 (newF p) ws k) z) (fun c h=>False) (fun k h ⟨z,_,e⟩=>by rw[e,nK (iT (L:=ws) hW k).mm,nK (F:=newF p) (Zv _)];exact⟨rfl,rfl⟩) (fun _ _ h=>h.elim) ⟨true,fun _=>rfl,by rw[<- eS];rfl⟩ ?_ ?_ ?_
   ·intro l tmps k h x hJ hx
    obtain⟨z,hz,rfl⟩:=hJ
    have hk:k<ws.length:=by have h5:=(Za.1 hx).1;rwa [Zo] at h5
    rw[WK hk] at hx
    cases hx
    have hwk:(Di.gt [] ws k).length<=1000000:=by have h5:=Rt ws k;rw[lW hk,Zd,Di.aL [] k hk] at h5;omega
    have hlen:((oI (newF p) ws k)++zm (aP (j8 (newF p) ws k) (Di.gt [] ws k)).2.1 (aP (j8 (newF p) ws k) (Di.gt [] ws k)).2.2).length<=1099511627776:=by have h5:=sE (L:=ws) hW (k+1);exact ZT h5 (by omega)
    have hlk:=Gq (s:=(Di.gt [] ws k)) (iT (L:=ws) hW k)
    obtain⟨hl1,ur,Ot⟩:=hlk
    show Round _ _ _ _ _ _ _ _ _ (lC (jL (ws.drop (k+1))) (oI (newF p) ws k) (j8 (newF p) ws k) z++[.loop _ .ready none])
    iterate 3 refine af ?_
    refine⟨rfl,OZ (iT (L:=ws) hW k).mm (nK (F:=newF p) (Zv _)),?_⟩
    rw[Lb (iT (L:=ws) hW k).mm (nK (F:=newF p) (Zv _))]
    have Ym:∀ σ:Nat->Option Nat,σ 0=some 0->σ 1=some 1->σ 2=some 2->eV σ [(7,.ptr 1 0),(32,.func (.func 131) [] [.ptr 2 0]),(6,.ptr 0 0)]=[(7,.ptr 1 0),(32,.func (.func 131) [] [.ptr 2 0]),(6,.ptr 0 0)]:=fun σ e0 e1 e2=>by simp only[eV,aW,bq,e0,e1,e2]
    refine aI.to (Ua (T2:=[(8,.p (.str (sB ((Di.gt [] ws k)++[10])))),(7,.ptr 1 0),(6,.ptr 0 0)]) (iT (L:=ws) hW k).mm Ym (fun σ e0 e1 e2=>by show AF.Sub _ (eV σ ((8,_)::(33,_)::[(7,.ptr 1 0),(32,.func (.func 131) [] [.ptr 2 0]),(6,.ptr 0 0)]));simp only[eV,aW,bq,e0,e1,e2];exact KS)) ?_
    iterate 2 refine af ?_
    refine aI.Ax 8 (j8 (newF p) ws k) (Di.gt [] ws k) mixed (by kernel_rfl) (by decide) ?_
    refine bU.cons 35 rfl rfl rfl (fun H0 h0=>aa.load (v:= .ptr 5 0) rfl rfl an (aax rfl H0 h0)) ?_
    refine bU.cons 36 rfl rfl rfl (fun _ _=>aa.move rfl rfl) ?_
    refine bU.cons 37 rfl rfl rfl (fun _ _=>aa.e8 (Rb (Di.gt [] ws k) hwk) rfl rfl rfl rfl an) ?_
    refine bU.lay 38 rfl rfl rfl (U0.e8 (xU (GC _ (j8 (newF p) ws k) z hz) (iT (L:=ws) hW k) (Di.gt [] ws k)) (fun x H2 h=>⟨h.1,h.2⟩) rfl rfl rfl rfl an) ?_
    refine bU.cons 34 rfl rfl rfl (fun _ _=>aa.move rfl rfl) ?_
    refine bU.cons 39 rfl rfl rfl (fun _ _=>aa.extract rfl rfl rfl) ?_
    refine bU.cons 40 rfl rfl rfl (fun _ _=>aa.extract rfl rfl rfl) ?_
    refine bU.cons 9 rfl rfl rfl (fun _ _=>aa.assign rfl rfl) ?_
    refine bU.nil ?_
    rintro H2 ⟨⟨z2,q,im,qs,hfl⟩,hlow⟩
    iterate 2 refine af ?_
    refine aI.to (Lw (T2:=[(9,.p (.str (sB (aP (j8 (newF p) ws k) (Di.gt [] ws k)).2.1))),(10,.p (.int .i64 (aP (j8 (newF p) ws k) (Di.gt [] ws k)).2.2)),(7,.ptr 1 0)]) rfl hfl hlow KS rfl) ?_
    iterate 6 refine af ?_
    refine Ki (fun rP=> ?_) fun rP=> ?_
    ·have hne:(aP (j8 (newF p) ws k) (Di.gt [] ws k)).2.2≠0:=by simpa using rP
     refine af ?_
     refine Kc (aa.aA rfl rfl lI) ?_
     refine af ?_
     refine Kc (aa.aA rfl rfl j3) ?_
     refine Kc (aa.aQ rfl an (by decide) rfl rfl rfl) ?_
     refine Kc (Kp (c9 [.str Fb,.num (aP (j8 (newF p) ws k) (Di.gt [] ws k)).2.2] Kn Kn (fk (by decide) (eC (by omega) fR)))) ?_
     iterate 4 refine af ?_
     exact DU
    ·have uL:(aP (j8 (newF p) ws k) (Di.gt [] ws k)).2.2=0:=by simpa using rP
     iterate 3 refine af ?_
     exact DU
   ·rintro h ⟨z,hz,e⟩
    rw[Zo] at e
    subst e
    refine aI.xj (show[qk 4,wC 148 1 3 (oI (newF p) ws ws.length),tu (jL (ws.drop ws.length)),wF 5 (oI (newF p) ws ws.length)]++(cZ 4 (j8 (newF p) ws ws.length) z++[.dead])=_ from by unfold lC;rw[ZH]) ?_
    refine aI.to (Up (T2:=[(7,.ptr 0 0)]) (fun σ e=>by simp only[eV,aW,bq,e];exact KS)) ?_
    iterate 2 refine af ?_
    refine aj.BQ 51 (O8 _ (by have:=sE (L:=ws) hW ws.length;omega)) rfl rfl rfl rfl rfl rfl rfl an (fun v H2 iH=> ?_)
    obtain⟨rfl,rfl⟩:=iH
    iterate 4 refine af ?_
    have eO:=yC (newF p) ws ws.length (Ze _)
    rw[ZS] at eO
    exact Fin.dD (xs:=[.str (sB (xJ (newF p) ws)),.int .i64 0]) rfl ⟨_,_,rfl,rfl,⟨_,_,rfl,rfl,rfl⟩⟩ (by show[V.p (.str (sB (oI (newF p) ws ws.length))),_]=_;rw[eO];rfl) rfl
   ·exact gR
end Go.Proofs.YtibffijhebobmaaGreatDoor
end
