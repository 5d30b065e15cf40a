/-
 Builders.
 Chapter 15, the program: the lines of a script.
 strings.Lines.
 Chapter 15, the program: the own blocks of a script's run.
 The program of chapter 15: a new floor.
 The program of chapter 15: a script.
-/
import Derived.Test.YtchiinjiflgepaaGreatDoorMzQF
import Derived.Test.YtchiinjiflgepaaGreatDoorMzQG
import Derived.Test.YtchiinjiflgepaaGreatDoorFaQF
import Derived.Test.YtchiinjiflgepaaGreatDoorMzQZ
theorem Qs{A:Prop}(h:A:=by
 refine Kc (aa.ia _ _ rfl rfl rfl (by first | exact Xg hl1 | exact aa1 ⟨rG,KO⟩ hne)) ?_
 refine aj.Vd 50 1 3 (Oo _ _ (by simp) (by first | rw[y7 (r:=(aG (cu (newF p) ws k) (Di.gt [] ws k)).2.1) hne];exact hlen | rw[vc sR];exact hlen)) (by decide) rfl rfl rfl rfl rfl rfl rfl rfl rfl an ?_
 refine af ?_
 refine⟨_,⟨z2,hfl.mz,rfl⟩,?_⟩
 first | rw[y7 (r:=(aG (cu (newF p) ws k) (Di.gt [] ws k)).2.1) hne] | rw[vc sR]
 exact MA (F:=cu (newF p) ws (k+1)) (cY (L:=ws) hW (k+1)).mm Vo):A:=h
theorem OX{A:Prop}(h:A:=by
 exfalso
 have h4:=Zf hc0
 rw[dO] at h4
 omega):A:=h
theorem VE{A:Prop}(h:A:=by
 exfalso
 rcases h2 with rfl | h2
 ·cases cF
 ·rw[TF h2] at cF
  simp at cF):A:=h
theorem Qg{A:Prop}(h:A:=by
 refine af ?_
 refine ay.nil ?_
 iterate 2 refine af ?_
 exact kC.one rfl rfl ⟨rfl,rfl⟩):A:=h
set_option linter.unusedSimpArgs false
set_option linter.unusedVariables false
section
set_option maxRecDepth 100000
set_option maxHeartbeats 4000000
namespace Go.Proofs.YtchiinjiflgepaaGreatDoor
open Go.AF
theorem TA:Wc Tryz.prog 149:=⟨_, Tryz.func149,by kernel_rfl,by kernel_rfl,by kernel_rfl,by kernel_rfl⟩
theorem Mg:liesAt Tryz.prog Tryz.prog.depth 89 (2 / Tryz.prog.cellsOf 89) 0 89 1=true:=by kernel_rfl
theorem K4(v:V)(B:ai):ax Tryz.prog 86 [.ptr 0 0] [.cells [.p .nilPtr,v] 89,B] fun r H'=>r= .p (.tuple [])∧H'=[.cells [.ptr 0 0,v] 89,B]:=by
 refine ax.start (N:=20) Tryz.func86 rfl rfl Kn ?_
 iterate 6 refine af ?_
 refine Kc (aa.uy rfl rfl rfl an) ?_
 refine af ?_
 refine aB.pQ rfl ?_
 iterate 3 refine af ?_
 refine Kc (aa.WV rfl rfl an an (by decide) rfl (Si _)) ?_
 refine Kc (aa.Xn rfl rfl TA) ?_
 refine Kc (aa.VP rfl rfl an an rfl Mg) ?_
 iterate 4 refine af ?_
 exact I6
theorem Nz(v:V)(B:ai):ax Tryz.prog 86 [.ptr 0 0] [.cells [.ptr 0 0,v] 89,B] fun r H'=>r= .p (.tuple [])∧H'=[.cells [.ptr 0 0,v] 89,B]:=by
 refine ax.start (N:=20) Tryz.func86 rfl rfl Kn ?_
 iterate 6 refine af ?_
 refine Kc (aa.y5 rfl rfl rfl an) ?_
 refine af ?_
 refine aB.jT rfl ?_
 iterate 7 refine af ?_
 refine Kc (aa.M7 rfl rfl rfl an) ?_
 refine af ?_
 refine aB.jT rfl ?_
 refine af ?_
 exact I6
theorem XY(l:Bs):ax Tryz.prog 86 [.ptr 0 0] [wC 89 0 1 l,wF 5 l] fun r H'=>r= .p (.tuple [])∧H'=[.cells [.ptr 0 0,kJ 1 l.length] 89,wF 5 l]:=by
 cases l with
 | nil=>exact K4 _ _
 | cons c t=>exact Nz _ _
theorem X0(l s:Bs)(hs:0<s.length):[ai.cells [.ptr 0 0,.row 2 (l.length+s.length)] 89,.dead,.gV (bV l++bV s) 5]=[wC 89 0 2 (l++s),.dead,wF 5 (l++s)]:=by
 have h:0<(l++s).length:=by rw[Zb];omega
 rw[Tt h,RR h,FD,Zb]
theorem Oo(l:Bs)(s:Bs)(hs:0<s.length)(hb:(l++s).length<=1099511627776):Eb Tryz.prog 89 5 44 [.str (sB s)] l (s) (.tuple [.int .i64 (s.length:Int),.nilIface]):=by
 have hlen:l.length<=1099511627776:=by rw[Zb] at hb;omega
 have jz:=hb
 rw[Zb] at jz
 refine ax.start (N:=19) Tryz.func44 rfl rfl Kn ?_
 iterate 8 refine af ?_
 refine aj.qA 7 (XY l) rfl rfl rfl rfl rfl rfl rfl an (fun v H2 gJ=> ?_)
 obtain⟨rfl,rfl⟩:=gJ
 iterate 9 refine af ?_
 refine Kc (aa.C1 rfl rfl an rfl (by simp[kX]) (Fs.str rfl an) hs (Rz _) an (by decide) (by omega)) ?_
 iterate 7 refine af ?_
 refine Kc (aa.iJ rfl rfl Gz) ?_
 iterate 4 refine af ?_
 exact kC.many (xs:=[.int .i64 (s.length:Int),.nilIface]) rfl ⟨_,_,rfl,rfl,⟨_,_,rfl,rfl,rfl⟩⟩ rfl ⟨rfl,X0 l s hs⟩
theorem Lh(a:V):ax Tryz.prog 45 [.ptr 0 0] [.cells [a,.p .nilSlice] 89,.dead] fun r H'=>r= .p (.str (sB []))∧H'=[.cells [a,.p .nilSlice] 89,.dead]:=by
 refine ax.start (N:=14) Tryz.func45 rfl rfl Kn ?_
 iterate 5 refine af ?_
 refine aB.az 12 mixed (by kernel_rfl) (by decide) ?_
 refine af ?_
 refine Kq (aa.nilCheck rfl rfl) ?_
 iterate 2 refine af ?_
 refine Kq (aa.yf rfl rfl) ?_
 refine af ?_
 refine Kq (aa.nilCheck rfl rfl) ?_
 iterate 2 refine af ?_
 refine Kq (aa.aQ rfl rfl an rfl) ?_
 refine Kq (aa.MO rfl rfl rfl) ?_
 exact Qg
theorem EV(a:V)(l:Bs)(hl:0<l.length)(hb:l.length<=1099511627776):ax Tryz.prog 45 [.ptr 0 0] [.cells [a,.row 1 l.length] 89,.gV (bV l) 5] fun r H'=>r= .p (.str (sB l))∧H'=[.cells [a,.row 1 l.length] 89,.gV (bV l) 5]:=by
 refine ax.start (N:=14) Tryz.func45 rfl rfl Kn ?_
 iterate 5 refine af ?_
 refine aB.az 12 mixed (by kernel_rfl) (by decide) ?_
 refine af ?_
 refine Kq (aa.nilCheck rfl rfl) ?_
 iterate 2 refine af ?_
 refine Kq (aa.zz rfl rfl hl) ?_
 refine af ?_
 refine Kq (aa.nilCheck rfl rfl) ?_
 iterate 2 refine af ?_
 refine Kq (aa.aQ rfl rfl an rfl) ?_
 refine Kq (aa.ND l rfl rfl rfl an rfl hl (by omega)) ?_
 exact Qg
theorem Ol(l:Bs)(hb:l.length<=1099511627776):ax Tryz.prog 45 [.ptr 0 0] [wC 89 0 1 l,wF 5 l] fun r H'=>r= .p (.str (sB l))∧H'=[wC 89 0 1 l,wF 5 l]:=by
 cases l with
 | nil=>exact Lh _
 | cons c t=>exact EV _ (c::t) (Si _) hb
def jL(ws:List Bs):Bs:=ws.flatMap (· ++[10])
theorem qe(w:Bs)(ws:List Bs):jL (w::ws)=w++10::jL ws:=by
 unfold jL
 rw[ZJ,ZL]
 rfl
theorem Hy(a b:List Bs):jL (a++b)=jL a++jL b:=by unfold jL;rw[FQ]
theorem lz{ws:List Bs}{k:Nat}(hk:k<ws.length):jL (ws.drop k)=ws[k]++10::jL (ws.drop (k+1)):=by
 rw[XQ hk,qe]
theorem Pd:∀(w r:Bs),10∉w->Lib.indexByte (w++10::r) 10=(w.length:Int)
 | [],r,_=>rfl
 | b::w,r,h=>by
  have hb:(b==10)=false:=by
   have:b≠10:=fun e=>h (by rw[e];exact Zr)
   simpa using this
  have ih:=Pd w r (fun hm=>h (Zj _ hm))
  show(if (b==10)=true then(0:Int) else if (Lib.indexByte (w++10::r) 10== -1)=true then -1 else Lib.indexByte (w++10::r) 10+1)=_
  rw[hb,ih,if_neg (by decide),if_neg (by
   intro hc
   have:=eq_of_beq hc
   omega),Zn]
  rfl
theorem CN:∀(s cur:Bs),10∉cur->∃ ws last,dG 10 cur s=ws++[last]∧jL ws++last=cur++s∧10∉last∧∀ w∈ws,10∉w
 | [],cur,h=>⟨[],cur,by rw[dG];rfl,by simp[jL],h,fun _ h=>by cases h⟩
 | b::s,cur,h=>by
  rw[dG]
  by_cases hb:b=10
  ·rw[if_pos hb]
   obtain⟨ws,last,h1,h2,h3,h4⟩:=CN s [] (by simp)
   refine⟨cur::ws,last,by rw[h1];rfl,?_,h3,fun w hw=> ?_⟩
   ·rw[qe,ZL,Nf,h2,hb];rfl
   ·rcases Zt.1 hw with rfl | hw
    ·exact h
    ·exact h4 w hw
  ·rw[if_neg hb]
   obtain⟨ws,last,h1,h2,h3,h4⟩:=CN s (cur++[b]) (fun hm=>by
    rcases Zp.1 hm with hm | hm
    ·exact h hm
    ·exact hb (ZK.1 hm).symm)
   exact⟨ws,last,h1,by rw[h2,ZL];rfl,h3,h4⟩
theorem KW{s:Bs}(h:s=[]∨s.getLast?=some 10):jL (dG 10 [] s).dropLast=s∧∀ w∈(dG 10 [] s).dropLast,10∉w:=by
 obtain⟨ws,last,h1,h2,h3,h4⟩:=CN s [] (by simp)
 rw[h1,List.dropLast_concat]
 refine⟨?_,h4⟩
 have hl:last=[]:=by
  rcases h with rfl | h
  ·have:=List.append_eq_nil_iff.1 h2;exact this.2
  ·cases hla:last.getLast? with
   | none=>exact List.getLast?_eq_none_iff.1 hla
   | some x=>
    rw[MQ] at h2
    rw[<- h2,List.getLast?_append,hla] at h
    have hx:x=10:=by simpa using h
    exact absurd (by rw[<- hx];exact List.mem_of_getLast? hla) h3
 rw[hl,ZR] at h2
 exact h2
theorem SO{ws:List Bs}{k:Nat}(hk:k<ws.length):0<(jL (ws.drop k)).length:=by
 rw[lz hk,Zb,Zn];omega
theorem RV{ws:List Bs}:jL (ws.drop ws.length)=[]:=by rw[List.drop_length];rfl
theorem PY(ws:List Bs)(k:Nat):(jL (ws.drop k)).length<=(jL ws).length:=by
 have h:jL ws=jL (ws.take k)++jL (ws.drop k):=by rw[<- Hy,UB]
 have:=congrArg List.length h
 rw[Zb] at this
 omega
theorem O9{ws:List Bs}{k:Nat}(hk:k<ws.length){f:Bs->List V}:(ws.map f)[k]? =some (f ws[k]):=by
 rw[Zu,Zd hk];rfl
theorem o7{H:List ai}{i:Nat}{v:V}{vs:List V}{e:TypeId}(h:H[i]? =some (.cells (v::vs) e)):cW H false 1 (.ptr i 0)=some v:=by
 unfold cW
 simp only[h]
 rfl
theorem L8{H:List ai}{i:Nat}{v u:V}{e:TypeId}(h:H[i]? =some (.cells [v] e)):gy H i 0 [u]=some (H.set i (.cells [u] e)):=by
 unfold gy
 simp only[h]
 rfl
theorem MK(i:Nat):some (Lr (i+1) (.ptr i 0))=some (V.ptr i 0):=by
 have h:Nat.blt i (i+1)=true:=by unfold Nat.blt;exact Nat.ble_eq_true_of_le (Zg _)
 show some (bif Nat.blt i (i+1) then V.ptr i 0 else .top)=_
 rw[h]
 rfl
theorem aa.D7{P:Program}{N:Nat}{o:Oper}{T:Tm}{H:List ai}{x:Operand}{t:TypeId}{lo hi:Option Operand}(l:Bs)(i j:Nat)(r:Bs)(ho:o.op= .slice t x lo hi none)(hx:ev T x=some (.p (.str (sB l))))(ht:An P t=true)(hl:gu T lo 0 i)(hh:gu T hi l.length j)(h1:i<=j)(h2:j<=l.length)(e:(l.drop i).take (j - i)=r):aa P N o T H (.p (.str (sB r))) H:=
 e▸aa.SC l i j ho hx ht hl hh h1 h2
theorem aa0{ws:List Bs}{k:Nat}(hk:k<ws.length):((jL (ws.drop k)).drop 0).take (ws[k].length+1 - 0)=ws[k]++[10]:=by
 rw[UL,Nat.sub_zero,lz hk,show ws[k]++10::jL (ws.drop (k+1))=(ws[k]++[10])++jL (ws.drop (k+1)) by simp,List.take_left' (by simp)]
theorem Z8{ws:List Bs}{k:Nat}(hk:k<ws.length):((jL (ws.drop k)).drop (ws[k].length+1)).take ((jL (ws.drop k)).length - (ws[k].length+1))=jL (ws.drop (k+1)):=by
 rw[L2 (by rw[Rl];exact Zg _),lz hk,List.drop_append]
 simp
theorem H6(s:Bs):ax Tryz.prog 41 ([.str (sB s)].map .p) [] fun v H2=>v= .func (.func 82) [] [.ptr 0 0]∧H2=[.cells [.p (.str (sB s))] 9]:=by
 refine ax.start (N:=4) Tryz.func41 rfl rfl Kn ?_
 iterate 2 refine af ?_
 refine Kc (aa.iK rfl rfl rfl) ?_
 iterate 4 refine af ?_
 refine Kc (aa.makeFunc rfl rfl rfl) ?_
 exact D9
theorem TY{ws:List Bs}{k:Nat}(hk:k<ws.length)(hw:∀ w∈ws,10∉w):Pure Tryz.prog 83 [.str (sB (jL (ws.drop k))),.int .u8 10] (.int .i64 (ws[k].length:Int)):=by
 have h:=y3 (jL (ws.drop k)) 10
 rw[lz hk] at h
 rw[Pd _ _ (hw _ (A4 hk)),<- lz hk] at h
 exact h
theorem FL(ws:List Bs)(i:Nat)(hl:(jL ws).length<=1000000)(hw:∀ w∈ws,10∉w):OP Tryz.prog (i+1) i (fun k=> .cells [.p (.str (sB (jL (ws.drop k))))] 9) 82 (fun y=>[y,.ptr i 0]) (ws.map fun w=>[.p (.str (sB (w++[10])))]):=by
 intro l κ nn inv fin hk0 hκ Sl KX hb h0 ov
 refine iX.gR (N:=25) Tryz.func82 rfl rfl Kn ?_
 refine af ?_
 refine aB.cR [0,1] (fun g=>[]) (fun g=>g.2) (fun g=>g.1<=ws.length∧inv g.1 g.2) (fun g=>ws.length - g.1) (0,h0) (show(0:Nat)<=ws.length∧inv 0 h0 from⟨Zl _,ov⟩) (To.sub (Sub.xx (Sub.nil))) (fun g hg=> ?_)
 obtain⟨k,Lf⟩:=g
 obtain⟨hle,hinv⟩:=hg
 dsimp only at hle hinv ⊢
 have hR:=(Sl _ _ hinv).2
 have XH:=(Sl _ _ hinv).1
 have hjl:=PY ws k
 iterate 3 refine af ?_
 refine Kc (aa.load (v:= .p (.str (sB (jL (ws.drop k))))) rfl rfl an (o7 hR)) ?_
 refine Kc (aa.iJ rfl rfl Gz) ?_
 iterate 2 refine af ?_
 refine Ki (fun hc0=> ?_) fun hc0=> ?_
 ·have qm:k<ws.length:=by
   rcases ZT k ws.length with h | h
   ·exact h
   ·obtain rfl:k=ws.length:=by omega
    rw[RV] at hc0
    cases hc0
  have eR:=lz qm
  have eL:=congrArg List.length eR
  rw[Zb,Zn] at eL
  have hbk:=hb k Lf _ hinv (O9 qm)
  iterate 9 refine af ?_
  refine Kc (aa.load (v:= .p (.str (sB (jL (ws.drop k))))) rfl rfl an (o7 hR)) ?_
  refine Kc (Kp (TY qm hw)) ?_
  iterate 7 refine af ?_
  refine Ki (fun cF=> ?_) fun cF=> ?_
  ·refine aB.az 9 mixed (by kernel_rfl) (by decide) ?_
   refine Kq (aa.load (v:= .p (.str (sB (jL (ws.drop k))))) rfl rfl an (o7 hR)) ?_
   refine af ?_
   refine Kq (aa.add rfl rfl rfl (aH ?_)) ?_
   ·omega
   refine Kq (aa.D7 (jL (ws.drop k)) 0 (ws[k].length+1) (ws[k]++[10]) rfl rfl an rfl ⟨_,rfl⟩ (Zl _) (by rw[eL];omega) (aa0 qm)) ?_
   refine Kq (aa.load (v:= .p (.str (sB (jL (ws.drop k))))) rfl rfl an (o7 hR)) ?_
   refine af ?_
   refine Kq (aa.add rfl rfl rfl (aH ?_)) ?_
   ·omega
   refine Kq (aa.D7 (jL (ws.drop k)) (ws[k].length+1) (jL (ws.drop k)).length (jL (ws.drop (k+1))) rfl rfl an ⟨_,rfl⟩ rfl (by rw[eL];omega) (Zg _) (Z8 qm)) ?_
   refine af ?_
   refine ay.nil ?_
   refine Kz (aa.store (H':=(Lf.set i (.cells [.p (.str (sB (jL (ws.drop (k+1)))))] 9))) rfl rfl rfl rfl rfl an rfl (L8 hR)) ?_
   iterate 5 refine af ?_
   refine aj.T4 (i+1) 23 hk0 (by rw[wS];omega) rfl rfl rfl rfl rfl rfl (by exact hbk) ?_
   intro b2 h2 hq
   iterate 2 refine af ?_
   refine Ki (fun gW=> ?_) fun gW=> ?_
   ·have iq:b2=false:=by simpa using gW
    rw[if_neg (by rw[iq];decide)] at hq
    refine af ?_
    exact⟨.inr rfl,_,eK.none_ rfl,.inr hq⟩
   ·have iq:b2=true:=by simpa using gW
    rw[if_pos iq] at hq
    have hN:inv (k+1) h2:=hq
    refine af ?_
    refine⟨(k+1,h2),?_,?_,?_⟩
    ·exact⟨qm,hN⟩
    ·exact Pj
    exact To.sub (Sub.cons rfl (Sub.cons (MK i) Sub.nil))
  ·exfalso
   simp at cF
 ·have Jq:k=ws.length:=by
   rcases ZT k ws.length with h | h
   ·have h2:=SO h;have h3:=Zh hc0;rw[dO] at h3;omega
   ·omega
  subst Jq
  refine aB.exit ?_
  exact⟨.inl rfl,_,eK.none_ rfl,.inl (by rw[Zq];exact hinv)⟩
section
variable {P:Program} {N κ:Nat} {T T2:Tm} {F:cK} {z:Bool} {out s:Bs} {r:sL}
def o6(i:Nat):ai:= .cells [.ptr i 0] 33
def sJ(s:Bs):ai:= .cells [.p (.str (sB s))] 9
def lB(s out:Bs)(F:cK)(z:Bool):List ai:=[o6 4,wC 89 1 3 out,sJ s,wF 5 out]++bS 4 F z
theorem yy{σ:Nat->Option Nat}{i j:Nat}(h:σ i=some j):aE σ (o6 i)=o6 j:=by
 show ai.cells [aX σ (.ptr i 0)] 33=_
 simp only[aX,h]
 rfl
theorem zR{σ:Nat->Option Nat}{st:LoopState}{pe:Option Code}(h:eX σ r.T=r.T):aE σ (.loop r st pe)= .loop r st pe:=by
 show ai.loop {r with T:=eX σ r.T} st pe=_
 rw[h]
theorem SV(hm:F.marks.length<=8)(hT:∀ σ,σ 47=some 0->σ 48=some 1->σ 49=some 2->Sub T2 (eX σ T)):To P 0 N T (bS 0 F z++[o6 0,.cells [.p .nilPtr,.p .nilSlice] 89,sJ s]) T2 (lB s [] F z):=by
 have hl:=e8 (c:=0) (z:=z) hm
 obtain⟨σ,_,h2,h3,hto⟩:=To.rot (P:=P) (κ:=0) (N:=N) (T:=T) [] (bS 0 F z) [o6 0,.cells [.p .nilPtr,.p .nilSlice] 89,sJ s,.dead] (Zg _)
 have g0:σ 0=some 4:=by have:=h2 0 (by rw[hl];decide);simpa using this
 have gk:∀ k,k<47->σ (0+k)=some (4+k):=fun k hk=>by have:=h2 k (by rw[hl];exact hk);simpa using this
 have e0:=h3 0 (by simp)
 have e1:=h3 1 (by simp)
 have e2:=h3 2 (by simp)
 rw[hl] at e0 e1 e2
 refine To.trans (To.wg To.pad (H3:=[]++(bS 0 F z++[o6 0,.cells [.p .nilPtr,.p .nilSlice] 89,sJ s,.dead])) (by simp)) (To.trans hto (To.wg (To.sub (hT σ e0 e1 e2)) ?_))
 rw[mI hm gk]
 show[aE σ (o6 0),_,_,_]++bS 4 F z=_
 rw[yy g0]
 rfl
theorem Uj(hm:F.marks.length<=8)(hr:∀ σ,σ 0=some 0->σ 1=some 1->σ 2=some 2->eX σ r.T=r.T)(hT:∀ σ,σ 0=some 0->σ 1=some 1->σ 2=some 2->Sub T2 (eX σ T)):To P 3 N T (lB s out F z++[.loop r .busy none]) T2 ([o6 5,wC 89 1 3 out,sJ s,wF 5 out,.loop r .busy none]++bS 5 F z):=by
 have hl:=e8 (c:=4) (z:=z) hm
 obtain⟨σ,h1,h2,h3,hto⟩:=To.rot (P:=P) (κ:=3) (N:=N) (T:=T) [o6 4,wC 89 1 3 out,sJ s,wF 5 out] (bS 4 F z) [.loop r .busy none] (by simp)
 have e0:=h1 0 (by simp)
 have e1:=h1 1 (by simp)
 have e2:=h1 2 (by simp)
 have e3:=h1 3 (by simp)
 have g4:σ 4=some 5:=by have:=h2 0 (by rw[hl];decide);simpa using this
 have gk:∀ k,k<47->σ (4+k)=some (5+k):=fun k hk=>by have:=h2 k (by rw[hl];exact hk);simpa using this
 refine To.trans (To.wg hto (H3:=[o6 5,wC 89 1 3 out,sJ s,wF 5 out,.loop r .busy none]++bS 5 F z) ?_) (To.sub (hT σ e0 e1 e2))|>fun h=>To.wg (H2:=_) h rfl|>fun h=>by
  have e:lB s out F z++[.loop r .busy none]=[o6 4,wC 89 1 3 out,sJ s,wF 5 out]++(bS 4 F z++[.loop r .busy none]):=by unfold lB;rw[ZL]
  rw[e]
  exact h
 rw[mI hm gk]
 show[aE σ (o6 4),aE σ (wC 89 1 3 out),aE σ (sJ s),aE σ (wF 5 out)]++([aE σ (.loop r .busy none)]++bS 5 F z)=_
 rw[yy g4,Cn e1 e3,CW,zR (hr σ e0 e1 e2)]
 rfl
theorem Sq(hm:F.marks.length<=8)(hr:∀ σ,σ 0=some 0->σ 1=some 1->σ 2=some 2->eX σ r.T=r.T):To P 3 N T ([o6 5,wC 89 1 52 out,sJ s,.dead,.loop r .busy none]++(bS 5 F z++[wF 5 out])) [] (lB s out F z++[.loop r .busy none]):=by
 have hl:=e8 (c:=5) (z:=z) hm
 obtain⟨H,eH⟩:∃ H,H=[o6 5,wC 89 1 52 out,sJ s,.dead,.loop r .busy none]++(bS 5 F z++[wF 5 out]):=⟨_,rfl⟩
 have Uk:H.length=53:=by rw[eH];simp[hl]
 obtain⟨ks,xh⟩:∃ ks:List Nat,ks=[0,1,2,52]++(List.range' 5 47++[4]):=⟨_,rfl⟩
 have hkeep:jn 3 H.length ks=true:=by rw[Uk,xh];rfl
 have hk:=To.keep (P:=P) (κ:=3) (N:=N) (T:=T) (H:=H) ks hkeep
 have e0:pl ks 0=some 0:=by rw[xh];rfl
 have e1:pl ks 1=some 1:=by rw[xh];rfl
 have e2:pl ks 2=some 2:=by rw[xh];rfl
 have e52:pl ks 52=some 3:=by rw[xh];rfl
 have gk:∀ k,k<47->pl ks (5+k)=some (4+k):=by rw[xh];decide
 have g5:pl ks 5=some 4:=gk 0 (by decide)
 have tj:∀ k,k<47->H[5+k]? =(bS 5 F z)[k]? :=fun k hk=>by
  rw[eH,Zk (by simp),Zc (by rw[hl];simpa using hk)]
  congr 1
  simp
 have aan:H[52]? =some (wF 5 out):=by
  rw[eH,Zk (by simp),Zk (by rw[hl];simp),hl]
  rfl
 rw[<- eH]
 refine To.trans (To.wg hk (H3:=lB s out F z++[.loop r .busy none]) ?_) (To.sub Sub.nil)
 have seg:(List.range' 5 47).map (fun i=>aE (pl ks) (H.getD i .dead))=(bS 5 F z).map (aE (pl ks)):=by
  apply CX
  intro i
  rw[Zu,Zu]
  rcases ZT i 47 with hi | hi
  ·have hx:=Zd (show i<(bS 5 F z).length by rw[hl];exact hi)
   rw[UY hi,ZN]
   show some (aE (pl ks) (H.getD (5+i) .dead))=_
   rw[Ze,tj i hi,hx]
   rfl
  ·rw[ZF (by rw[TV];exact hi),ZF (by rw[hl];exact hi)]
   rfl
 have g:∀{i:Nat} {x:ai},H[i]? =some x->H.getD i .dead=x:=fun hx=>by rw[Ze,hx];rfl
 have m1:ks.map (fun i=>aE (pl ks) (H.getD i .dead))=[0,1,2,52].map (fun i=>aE (pl ks) (H.getD i .dead))++((List.range' 5 47).map (fun i=>aE (pl ks) (H.getD i .dead))++[4].map (fun i=>aE (pl ks) (H.getD i .dead))):=by
  conv=>lhs;arg 2;rw[xh]
  rw[ZH,ZH]
 rw[m1,seg,mI hm gk]
 show[aE (pl ks) (H.getD 0 .dead),aE (pl ks) (H.getD 1 .dead),aE (pl ks) (H.getD 2 .dead),aE (pl ks) (H.getD 52 .dead)]++(bS 4 F z++[aE (pl ks) (H.getD 4 .dead)])=_
 rw[g aan,g (show H[0]? =some (o6 5) by rw[eH];rfl),g (show H[1]? =some (wC 89 1 52 out) by rw[eH];rfl),g (show H[2]? =some (sJ s) by rw[eH];rfl),g (show H[4]? =some (.loop r .busy none) by rw[eH];rfl),
  yy g5,Cn e1 e52,CW,zR (hr _ e0 e1 e2)]
 unfold lB
 rw[ZL]
 rfl
theorem RN{rest:List ai}(hT:∀ σ,σ 1=some 0->Sub T2 (eX σ T)):To P 0 N T ([o6 4,wC 89 1 3 out,sJ s,wF 5 out]++rest) T2 [wC 89 0 1 out,wF 5 out]:=by
 have hkeep:jn 0 ([o6 4,wC 89 1 3 out,sJ s,wF 5 out]++rest).length [1,3]=true:=by
  unfold jn
  simp only[Zo,beq_iff_eq,ZA,Zs]
  refine⟨⟨rfl,fun i hi=> ?_⟩,by decide⟩
  have:i<([o6 4,wC 89 1 3 out,sJ s,wF 5 out]++rest).length:=by
   rw[Zb]
   simp only[Zt,KZ,or_false] at hi
   show i<4+_
   omega
  simpa[Nat.blt,Zx] using this
 have hk:=To.keep (P:=P) (κ:=0) (N:=N) (T:=T) [1,3] hkeep
 refine To.trans (To.wg hk (H3:=[wC 89 0 1 out,wF 5 out]) ?_) (To.sub (hT _ rfl))
 show[aE (pl [1,3]) (wC 89 1 3 out),aE (pl [1,3]) (wF 5 out)]=_
 rw[Cn (σ:=pl [1,3]) (i':=0) (j':=1) rfl rfl,CW]
theorem nS(hm:F.marks.length<=8):(lB s out F z).length=51:=by
 unfold lB
 rw[Zb,e8 hm]
 rfl
theorem Az{x y:ai}{n:Nat}(hm:F.marks.length<=8)(hn:n=51):(lB s out F z++[x])[n]? =some x∧(lB s out F z++[x]).set n y=lB s out F z++[y]:=by
 have h:=nS (s:=s) (out:=out) (z:=z) hm
 subst hn
 rw[<- h]
 exact⟨by simp,by simp⟩
theorem MA{Ao:Bs}(hm:F.marks.length<=8)(hr:∀ σ,σ 0=some 0->σ 1=some 1->σ 2=some 2->eX σ r.T=r.T):To P 3 N T (((([o6 5,wC 89 1 3 Ao,sJ s,wF 5 Ao,.loop r .busy none]++bS 5 F z).set 1 (wC 89 1 ([o6 5,wC 89 1 3 Ao,sJ s,wF 5 Ao,.loop r .busy none]++bS 5 F z).length out)).set 3 .dead)++[wF 5 out]) [] (lB s out F z++[.loop r .busy none]):=by
 have hl:=e8 (c:=5) (z:=z) hm
 have e:((([o6 5,wC 89 1 3 Ao,sJ s,wF 5 Ao,.loop r .busy none]++bS 5 F z).set 1 (wC 89 1 ([o6 5,wC 89 1 3 Ao,sJ s,wF 5 Ao,.loop r .busy none]++bS 5 F z).length out)).set 3 .dead)++[wF 5 out]=[o6 5,wC 89 1 52 out,sJ s,.dead,.loop r .busy none]++(bS 5 F z++[wF 5 out]):=by
  rw[Zb,hl]
  rfl
 rw[e]
 exact Sq hm hr
def Y0(F:cK)(w:Bs)(H:List ai):List ai->Prop:=fun H2=>(∃ z q im qs,fz 5 (aG F w).1 z H2 q im qs)∧∀ i,i<5->H2[i]? =H[i]?
theorem aad{w:Bs}{H:List ai}(h0:H[0]? =some (o6 5)):∀ H0,(H0=H∨Y0 F w H H0)->cW H0 false 1 (.ptr 0 0)=some (.ptr 5 0):=fun H0 h=>by
 have:H0[0]? =some (.cells [.ptr 5 0] 33):=by
  rcases h with rfl | ⟨_,h⟩
  ·exact h0
  ·rw[h 0 (by decide)];exact h0
 exact o7 this
theorem Tn{e:TypeId}{i j n:Nat}{l:Bs}(hi:i<n)(hj:j<n):EO n (wC e i j l):=by
 have h:∀ k,k<n->below n k=some k:=fun k hk=>by unfold below;rw[if_pos (by simpa[Nat.blt,Zx] using hk)]
 cases l with
 | nil=>rfl
 | cons c t=>
  show bn _ [.ptr i 0,.row j _]=_
  simp only[bn,aX,h i hi,h j hj]
  rfl
theorem TQ{eb:TypeId}{n:Nat}{l:Bs}:EO n (wF eb l):=by
 cases l with
 | nil=>trivial
 | cons c t=>exact tc _ _
theorem Ov(hr:eX (below 6) r.T=r.T):∀(i:Nat) (x:ai),[o6 5,wC 89 1 3 out,sJ s,wF 5 out,.loop r .busy none][i]? =some x->EO 6 x:=fun i x h=>by
 match i,h with
 | 0,h=>cases h;rfl
 | 1,h=>cases h;exact Tn (by decide) (by decide)
 | 2,h=>cases h;rfl
 | 3,h=>cases h;exact TQ
 | 4,h=>cases h;exact hr
theorem JB{w:Bs}{H2:List ai}{q:P5}{im:Nat}{qs:List P5}{z2:Bool}(hr:eX (below 6) r.T=r.T)(hfl:fz 5 (aG F w).1 z2 H2 q im qs)(hlow:∀ i,i<5->H2[i]? =([o6 5,wC 89 1 3 out,sJ s,wF 5 out,.loop r .busy none]++bS 5 F z)[i]?)(hT:Sub T2 T)(hl:eX (below 6) T2=T2):To P 3 N T H2 T2 ([o6 5,wC 89 1 3 out,sJ s,wF 5 out,.loop r .busy none]++bS 5 (aG F w).1 z2):=by
 refine AT hfl rfl (fun i x hx=>⟨?_,Ov hr i x hx⟩) (by decide) hT hl
 have hi:=(Za.1 hx).1
 rw[hlow i hi,Zc hi]
 exact hx
theorem No(w:Bs)(hw:w.length<=1000000):Pure Tryz.prog 42 [.str (sB (w++[10])),.str (sB [10])] (.str (sB w)):=by
 have h:=wu (w++[10]) [10] (by simp;omega)
 have e:Lib.trimSuffix (w++[10]) [10]=w:=by
  unfold Lib.trimSuffix
  rw[if_pos (by unfold Lib.hasSuffix;simp)]
  simp
 rwa [e] at h
theorem TF{s:Bs}(h:s.getLast?=some 10):([10]:Bs).isSuffixOf s=true:=by
 rw[List.isSuffixOf_iff_suffix]
 obtain⟨t,ht⟩:=List.getLast?_eq_some_iff.1 h
 exact⟨t,ht.symm⟩
theorem WJ{s:Bs}(h:s.getLast?≠some 10):([10]:Bs).isSuffixOf s=false:=by
 cases e:([10]:Bs).isSuffixOf s with
 | false=>rfl
 | true=>
  rw[List.isSuffixOf_iff_suffix] at e
  obtain⟨t,ht⟩:=e
  exact absurd (by rw[<- ht];simp) h
theorem y7{r:Bs}{e:Int}(he:e≠0):c4 32 (jq [.str Br,.num e])++[10]=vr r e:=by
 unfold vr
 rw[if_neg he,fm]
 rfl
theorem vc{r:Bs}{e:Int}(he:e=0):r++[10]=vr r e:=by
 unfold vr
 rw[if_pos he]
theorem Yq{ws:List Bs}{k:Nat}(hk:k<ws.length){f:Bs->List V}:(ws.map f)[k]? =some (f (Di.gt [] ws k)):=by
 rw[O9 hk,Di.aC [] k hk]
theorem N9{x:ai}{n:Nat}(hm:F.marks.length<=8)(hn:n=51):(lB s out F z++[x])[n]? =some x:=(Az (y:= .dead) hm hn).1
theorem K6{x y:ai}{n:Nat}(hm:F.marks.length<=8)(hn:n=51):(lB s out F z++[x]).set n y=lB s out F z++[y]:=(Az hm hn).2
theorem aB.Bb{R:Option Nat}{Q:Post}{H:List ai}{l:List Oper}{id:Nat}(m:Nat)(F:cK)(w:Bs)(Cv:P.follows .mixedOrders=true)(hk:jW m l=true)(hm:m<=l.length)(h:bY P N l.toArray H (Y0 F w H) (fun T'=>∀ H2,Y0 F w H H2->aj P R N κ l.toArray (l.drop m) Q T' H2) false (l.take m) T):aB P R N κ (.region id l.toArray true) Q T H:=
 aB.A6 m (Y0 F w H) Cv hk hm h
theorem Xg{r:Bs}(h1:r.length<=3000):r.length+([10]:Bs).length<9223372036854775808:=by simp;omega
theorem aa1{e:Int}(h:0<=e∧e<=15)(he:e≠0):(c4 32 (jq [.str Br,.num e])).length+([10]:Bs).length<9223372036854775808:=by
 have h2:=o8 (r:=[]) (e:=e) ⟨Zl _,h⟩
 rw[<- y7 (r:=[]) he,Zb] at h2
 omega
end
theorem Gr(l:List Di.dY)(hl:l.length<=1000000):ax Tryz.prog 48 [.p (Di.oB l)] [] fun v H2=>v=aV 0 l.length∧H2=[dN ((l.flatMap Di.dY.cells).map .p) 103 l.length]:=by
 refine ax.start (N:=8) Tryz.func48 rfl rfl Kn ?_
 iterate 8 refine af ?_
 refine aj.yu 4 rfl rfl rfl an rfl rfl rfl (fun b hb0=> ?_)
 refine af ?_
 refine Ki (fun hc0=> ?_) fun hc0=> ?_
 ·have h0:l.length=0:=hb0 hc0
  iterate 3 refine af ?_
  refine aj.to (To.z0 2 rfl) ?_
  refine aj.to To.pad ?_
  iterate 2 refine af ?_
  have hq:V.z0=aV 0 l.length∧([.dead]:List ai)=[dN ((l.flatMap Di.dY.cells).map .p) 103 l.length]:=⟨(nK h0).symm,by rw[nI h0]⟩
  exact Gd
 ·iterate 3 refine af ?_
  refine Kc (aa.th rfl an) ?_
  refine af ?_
  refine Kc (aa.pO rfl rfl rfl an an (pz (xs:=(l.flatMap Di.dY.cells)) (n:=l.length) (sz:=3) (AF.ct (c:=3) (fun _=>rfl) l)) (Jb Di.dY.cells l (fun _=>rfl)) an (by decide) ?_) ?_
  ·show(2*l.length+192)*24<=281474976710656;omega
  exact D9
theorem EX(l:List Di.dY)(hl:l.length<=1000000)(h1:1<=l.length):ax Tryz.prog 48 ([Di.oB l].map .p) [] fun v H2=>v= .row 0 l.length∧H2=[.row ((l.flatMap Di.dY.cells).map .p) 103]:=
 fun w I ρ us hi hu=>(Gr l hl w I ρ us hi hu).mono fun e w' ⟨u,v,J,σ,H2,a1,⟨a2,a3⟩,a4,a5,a6⟩=>⟨u,v,J,σ,H2,a1,⟨by rw[a2,I9 h1],by rw[a3,Jw h1]⟩,a4,a5,a6⟩
theorem Rk:∀ l:List Di.dY,Oh (l.flatMap Di.dY.cells)=true
 | []=>rfl
 | x::l=>by
  show Oh (x.cells++l.flatMap Di.dY.cells)=true
  show(true&&(true&&(true&&Oh (l.flatMap Di.dY.cells))))=true
  rw[Rk l];rfl
theorem EN(p:Di.bB)(hp:p.dies.length<=100)(h:Di.dH p=false):Pure Tryz.prog 21 [Di.bO p,.nilSlice,.nilSlice] (.tuple [.nilSlice,.int .i64 0,.int .i64 1]):=by
 have h2:=Pure.OW (Di.kT p [] [] (Zz hp (by decide)) (by decide) (by decide))
 rw[Di.CF h] at h2
 exact h2
theorem Ch(p:Di.bB)(h:Di.dH p=true):Di.fR p [] []=(some (List.replicate p.dies.length 0),0,0):=by
 rw[Di.gB h rfl]
 rfl
theorem Cb(p:Di.bB)(hp:p.dies.length<=100)(h:Di.dH p=true):Pure Tryz.prog 21 [Di.bO p,.nilSlice,.nilSlice] (.tuple [Di.bI (List.replicate p.dies.length 0),.int .i64 0,.int .i64 0]):=by
 have h2:=Pure.OW (Di.kT p [] [] (Zz hp (by decide)) (by decide) (by decide))
 rw[Ch p h] at h2
 exact h2
theorem yU(p:Di.bB)(hp:p.dies.length<=100)(h:Di.dH p=false):Pure Tryz.prog 13 [Di.bO p] (.tuple [.nilPtr,.int .i64 1]):=by
 refine Kf (N:=22) Tryz.func13 ?_
 iterate 2 refine af ?_
 refine Kc (aa.iK rfl rfl rfl) ?_
 iterate 6 refine af ?_
 refine Kc (Kl (.p (Di.bO p))) ?_
 refine Kc (Kp (EN p hp h)) ?_
 iterate 13 refine af ?_
 refine aB.pQ rfl ?_
 iterate 6 refine af ?_
 refine Fin.dW (xs:=[.nilPtr,.int .i64 1]) rfl ⟨_,_,rfl,rfl,⟨_,_,rfl,rfl,rfl⟩⟩ rfl rfl
theorem qf(p:Di.bB)(hp:p.dies.length<=100)(h:Di.dH p=true):ax Tryz.prog 13 ([Di.bO p].map .p) [] fun v H2=>v= .tuple [.ptr 0 0,.p (.int .i64 0)]∧H2=bS 0 (newF p) true:=by
 obtain⟨⟨n1,n4⟩,_⟩:=Di.gY h
 refine ax.start (N:=22) Tryz.func13 rfl rfl Kn ?_
 iterate 2 refine af ?_
 refine Kc (aa.iK rfl rfl rfl) ?_
 iterate 6 refine af ?_
 refine Kc (Kl (.p (Di.bO p))) ?_
 refine Kc (Kp (Cb p hp h)) ?_
 iterate 13 refine af ?_
 refine aB.jT rfl ?_
 iterate 4 refine af ?_
 refine Kc (Kl (.p (Di.oB p.dies))) ?_
 refine Kc (aa.Nj 3 (EX p.dies (by omega) n1) (Rk _) rfl rfl rfl rfl rfl an) ?_
 refine aj.to (To.freeze 1 rfl (ke _)) ?_
 iterate 5 refine af ?_
 refine Kc (Kl (.p (Di.bO p))) ?_
 refine af ?_
 refine Kc (aa.iK rfl rfl rfl) ?_
 iterate 2 refine af ?_
 refine aj.to (To.z0B 2 rfl) ?_
 refine aj.to (To.M9 45) ?_
 refine aj.to (To.done (2::1::List.range' 3 45) (S:=[(2,.ptr 0 0),(3,.p (.int .i64 0))]) rfl KS (H2:=bS 0 (newF p) true) rfl) ?_
 iterate 2 refine af ?_
 exact⟨.inr rfl,_,eK.many (vs:=[.ptr 0 0,.p (.int .i64 0)]) rfl ⟨_,_,rfl,rfl,⟨_,_,rfl,rfl,rfl⟩⟩,rfl,rfl⟩
theorem FF(p:Di.bB)(s:Bs)(h1:131072<s.length):Pure Tryz.prog 11 [Di.bO p,.str (sB s)] (.tuple [.str (sB []),.int .i64 3]):=by
 refine Kf (N:=52) Tryz.func11 ?_
 iterate 11 refine af ?_
 refine Kc (aa.iJ rfl rfl Gz) ?_
 iterate 3 refine af ?_
 refine Ki (fun hc0=> ?_) fun hc0=> ?_
 ·iterate 6 refine af ?_
  exact Fin.dW (xs:=[.str (sB []),.int .i64 3]) rfl ⟨_,_,rfl,rfl,⟨_,_,rfl,rfl,rfl⟩⟩ rfl rfl
 ·exfalso
  have h2:=Zh hc0
  rw[dO] at h2
  omega
theorem Gj(p:Di.bB)(s:Bs)(h1:¬ 131072<s.length)(h2:s≠[])(h3:s.getLast?≠some 10):Pure Tryz.prog 11 [Di.bO p,.str (sB s)] (.tuple [.str (sB []),.int .i64 8]):=by
 refine Kf (N:=52) Tryz.func11 ?_
 iterate 11 refine af ?_
 refine Kc (aa.iJ rfl rfl Gz) ?_
 iterate 3 refine af ?_
 refine Ki (fun hc0=> ?_) fun hc0=> ?_
 ·exact OX
 ·iterate 3 refine af ?_
  refine Kc (aa.qq s [] rfl rfl rfl) ?_
  refine af ?_
  refine Kg 19 18 1 rfl (fun h=>(aa.move rfl rfl)) ?_
  refine Kh 20 18 19 rfl rfl rfl rfl (fun h=>(Kp (lq s [10] (by omega)))) ?_
  refine Kh 21 18 20 rfl rfl rfl rfl (fun h=>(aa.iZ rfl rfl)) ?_
  refine Kc (aa.dM rfl rfl rfl ?_) ?_
  ·exact eM
  iterate 2 refine af ?_
  refine Ki (fun cF=> ?_) fun cF=> ?_
  ·iterate 6 refine af ?_
   exact Fin.dW (xs:=[.str (sB []),.int .i64 8]) rfl ⟨_,_,rfl,rfl,⟨_,_,rfl,rfl,rfl⟩⟩ rfl rfl
  ·exfalso
   rw[WJ h3] at cF
   simp[h2] at cF
theorem KK(p:Di.bB)(s:Bs)(hp:p.dies.length<=100)(h1:¬ 131072<s.length)(h2:s=[]∨s.getLast?=some 10)(h3:Di.dH p=false):Pure Tryz.prog 11 [Di.bO p,.str (sB s)] (.tuple [.str (sB []),.int .i64 1]):=by
 refine Kf (N:=52) Tryz.func11 ?_
 iterate 11 refine af ?_
 refine Kc (aa.iJ rfl rfl Gz) ?_
 iterate 3 refine af ?_
 refine Ki (fun hc0=> ?_) fun hc0=> ?_
 ·exact OX
 ·iterate 3 refine af ?_
  refine Kc (aa.qq s [] rfl rfl rfl) ?_
  refine af ?_
  refine Kg 19 18 1 rfl (fun h=>(aa.move rfl rfl)) ?_
  refine Kh 20 18 19 rfl rfl rfl rfl (fun h=>(Kp (lq s [10] (by omega)))) ?_
  refine Kh 21 18 20 rfl rfl rfl rfl (fun h=>(aa.iZ rfl rfl)) ?_
  refine Kc (aa.dM rfl rfl rfl ?_) ?_
  ·exact eM
  iterate 2 refine af ?_
  refine Ki (fun cF=> ?_) fun cF=> ?_
  ·exact VE
  ·iterate 3 refine af ?_
   refine Kc (Kl (.p (Di.bO p))) ?_
   refine Kc (Kp (yU p hp h3)) ?_
   iterate 13 refine af ?_
   refine aB.pQ rfl ?_
   iterate 7 refine af ?_
   exact Fin.dW (xs:=[.str (sB []),.int .i64 1]) rfl ⟨_,_,rfl,rfl,⟨_,_,rfl,rfl,rfl⟩⟩ rfl rfl
theorem Of(p:Di.bB)(s:Bs)(hp:p.dies.length<=100)(h1:¬ 131072<s.length)(h2:s=[]∨s.getLast?=some 10)(h3:Di.dH p=true):Pure Tryz.prog 11 [Di.bO p,.str (sB s)] (.tuple [.str (sB (kV (newF p) (dG 10 [] s).dropLast)),.int .i64 0]):=by
 obtain⟨ws,ews⟩:∃ ws,ws=(dG 10 [] s).dropLast:=⟨_,rfl⟩
 obtain⟨eS,hno⟩:=KW h2
 rw[<- ews] at eS hno ⊢
 have hW:=oN h3
 have hjs:(jL ws).length<=131072:=by rw[eS];omega
 have ku:ws.length<=131072:=by have h4:=(ja 10 s []).2;have h5:=congrArg List.length ews;rw[List.length_dropLast] at h5;omega
 refine Kf (N:=52) Tryz.func11 ?_
 iterate 11 refine af ?_
 refine Kc (aa.iJ rfl rfl Gz) ?_
 iterate 3 refine af ?_
 refine Ki (fun hc0=> ?_) fun hc0=> ?_
 ·exact OX
 ·iterate 3 refine af ?_
  refine Kc (aa.qq s [] rfl rfl rfl) ?_
  refine af ?_
  refine Kg 19 18 1 rfl (fun h=>(aa.move rfl rfl)) ?_
  refine Kh 20 18 19 rfl rfl rfl rfl (fun h=>(Kp (lq s [10] (by omega)))) ?_
  refine Kh 21 18 20 rfl rfl rfl rfl (fun h=>(aa.iZ rfl rfl)) ?_
  refine Kc (aa.dM rfl rfl rfl ?_) ?_
  ·exact eM
  iterate 2 refine af ?_
  refine Ki (fun cF=> ?_) fun cF=> ?_
  ·exact VE
  ·iterate 3 refine af ?_
   refine Kc (Kl (.p (Di.bO p))) ?_
   refine aj.qA 25 (qf p hp h3) rfl rfl rfl rfl rfl rfl rfl an (fun v H2 gJ=> ?_)
   obtain⟨rfl,rfl⟩:=gJ
   iterate 13 refine af ?_
   refine aB.jT rfl ?_
   iterate 9 refine af ?_
   refine aj.yA (Qp:=fun _ _=>False) 32 [] (H6 s).LI rfl rfl rfl (fun _ _ _=>⟨Zl _,fun j i y h=>by simp at h⟩) (fun _ _ h=>h.elim) rfl rfl rfl rfl rfl rfl rfl an (fun _ _ h=>h.elim) (fun v H2 gJ=> ?_)
   obtain⟨rfl,rfl⟩:=gJ
   iterate 2 refine af ?_
   refine aB.wg (show bS 0 (newF p) true++[o6 0,.cells [.p .nilPtr,.p .nilSlice] 89,sJ s]=_ from rfl) ?_
   refine aB.to (To.sub (T2:=[(7,.ptr 48 0),(32,.func (.func 82) [] [.ptr 49 0]),(6,.ptr 47 0)]) KS) ?_
   refine aB.to (SV (T2:=[(7,.ptr 1 0),(32,.func (.func 82) [] [.ptr 2 0]),(6,.ptr 0 0)]) (Zl _) (fun σ e0 e1 e2=>by simp only[eX,aX,bn,e0,e1,e2];exact KS)) ?_
   refine aB.C2 3 3 2 (fun k=> .cells [.p (.str (sB (jL (ws.drop k))))] 9) rfl (fun _=>rfl) an (FL ws 2 (by omega) hno) (Zg 3) (Zl _) (by rw[nS (F:=newF p) (Zl _)];decide) (fun _ h=>by cases h) (fun x hx=>by obtain⟨w,_,rfl⟩:=zn.1 hx;rfl) rfl (fun k h=>∃ z,(z=true->(cu (newF p) ws k).marks=[])∧h=lB (jL (ws.drop k)) (jE (newF p) ws k) (cu (newF p) ws k) z) (fun c h=>False) (fun k h ⟨z,_,e⟩=>by rw[e,nS (cY (L:=ws) hW k).mm,nS (F:=newF p) (Zl _)];exact⟨rfl,rfl⟩) (fun _ _ h=>h.elim) ⟨true,fun _=>rfl,by rw[<- eS];rfl⟩ ?_ ?_ ?_
   ·intro l tmps k h x hJ hx
    obtain⟨z,hz,rfl⟩:=hJ
    have hk:k<ws.length:=by have h5:=(Za.1 hx).1;rwa [Zq] at h5
    rw[Yq hk] at hx
    cases hx
    have hwk:(Di.gt [] ws k).length<=1000000:=by have h5:=PY ws k;rw[lz hk,Zb,Di.aC [] k hk] at h5;omega
    have hlen:((jE (newF p) ws k)++vr (aG (cu (newF p) ws k) (Di.gt [] ws k)).2.1 (aG (cu (newF p) ws k) (Di.gt [] ws k)).2.2).length<=1099511627776:=by have h5:=nB (L:=ws) hW (k+1);exact Zz h5 (by omega)
    have hlk:=yH (s:=(Di.gt [] ws k)) (cY (L:=ws) hW k)
    obtain⟨hl1,rG,KO⟩:=hlk
    show Round _ _ _ _ _ _ _ _ _ (lB (jL (ws.drop (k+1))) (jE (newF p) ws k) (cu (newF p) ws k) z++[.loop _ .ready none])
    iterate 3 refine af ?_
    refine⟨rfl,N9 (cY (L:=ws) hW k).mm (nS (F:=newF p) (Zl _)),?_⟩
    rw[K6 (cY (L:=ws) hW k).mm (nS (F:=newF p) (Zl _))]
    have Vo:∀ σ:Nat->Option Nat,σ 0=some 0->σ 1=some 1->σ 2=some 2->eX σ [(7,.ptr 1 0),(32,.func (.func 82) [] [.ptr 2 0]),(6,.ptr 0 0)]=[(7,.ptr 1 0),(32,.func (.func 82) [] [.ptr 2 0]),(6,.ptr 0 0)]:=fun σ e0 e1 e2=>by simp only[eX,aX,bn,e0,e1,e2]
    refine aB.to (Uj (T2:=[(8,.p (.str (sB ((Di.gt [] ws k)++[10])))),(7,.ptr 1 0),(6,.ptr 0 0)]) (cY (L:=ws) hW k).mm Vo (fun σ e0 e1 e2=>by show AF.Sub _ (eX σ ((8,_)::(33,_)::[(7,.ptr 1 0),(32,.func (.func 82) [] [.ptr 2 0]),(6,.ptr 0 0)]));simp only[eX,aX,bn,e0,e1,e2];exact KS)) ?_
    iterate 2 refine af ?_
    refine aB.Bb 8 (cu (newF p) ws k) (Di.gt [] ws k) mixed (by kernel_rfl) (by decide) ?_
    refine bY.cons 35 rfl rfl rfl (fun H0 h0=>aa.load (v:= .ptr 5 0) rfl rfl an (aad rfl H0 h0)) ?_
    refine bY.cons 36 rfl rfl rfl (fun _ _=>aa.move rfl rfl) ?_
    refine bY.cons 37 rfl rfl rfl (fun _ _=>aa.fe (No (Di.gt [] ws k) hwk) rfl rfl rfl rfl an) ?_
    refine bY.lay 38 rfl rfl rfl (RG.fe (xz (lQ _ (cu (newF p) ws k) z hz) (cY (L:=ws) hW k) (Di.gt [] ws k)) (fun x H2 h=>⟨h.1,h.2⟩) rfl rfl rfl rfl an) ?_
    refine bY.cons 34 rfl rfl rfl (fun _ _=>aa.move rfl rfl) ?_
    refine bY.cons 39 rfl rfl rfl (fun _ _=>aa.extract rfl rfl rfl) ?_
    refine bY.cons 40 rfl rfl rfl (fun _ _=>aa.extract rfl rfl rfl) ?_
    refine bY.cons 9 rfl rfl rfl (fun _ _=>aa.assign rfl rfl) ?_
    refine bY.nil ?_
    rintro H2 ⟨⟨z2,q,im,qs,hfl⟩,hlow⟩
    iterate 2 refine af ?_
    refine aB.to (JB (T2:=[(9,.p (.str (sB (aG (cu (newF p) ws k) (Di.gt [] ws k)).2.1))),(10,.p (.int .i64 (aG (cu (newF p) ws k) (Di.gt [] ws k)).2.2)),(7,.ptr 1 0)]) rfl hfl hlow KS rfl) ?_
    iterate 6 refine af ?_
    refine Ki (fun mc=> ?_) fun mc=> ?_
    ·have hne:(aG (cu (newF p) ws k) (Di.gt [] ws k)).2.2≠0:=by simpa using mc
     refine af ?_
     refine Kc (aa.aD rfl rfl lA) ?_
     refine af ?_
     refine Kc (aa.aD rfl rfl jV) ?_
     refine Kc (aa.aU rfl an (by decide) rfl rfl rfl) ?_
     refine Kc (Kp (c8 [.str Br,.num (aG (cu (newF p) ws k) (Di.gt [] ws k)).2.2] Kn Kn (fu (by decide) (eD (by omega) fS)))) ?_
     iterate 4 refine af ?_
     exact Qs
    ·have sR:(aG (cu (newF p) ws k) (Di.gt [] ws k)).2.2=0:=by simpa using mc
     iterate 3 refine af ?_
     exact Qs
   ·rintro h ⟨z,hz,e⟩
    rw[Zq] at e
    subst e
    refine aB.wg (show[o6 4,wC 89 1 3 (jE (newF p) ws ws.length),sJ (jL (ws.drop ws.length)),wF 5 (jE (newF p) ws ws.length)]++(bS 4 (cu (newF p) ws ws.length) z++[.dead])=_ from by unfold lB;rw[ZL]) ?_
    refine aB.to (RN (T2:=[(7,.ptr 0 0)]) (fun σ e=>by simp only[eX,aX,bn,e];exact KS)) ?_
    iterate 2 refine af ?_
    refine aj.qA 51 (Ol _ (by have:=nB (L:=ws) hW ws.length;omega)) rfl rfl rfl rfl rfl rfl rfl an (fun v H2 gJ=> ?_)
    obtain⟨rfl,rfl⟩:=gJ
    iterate 4 refine af ?_
    have eO:=nX (newF p) ws ws.length (Zg _)
    rw[ZQ] at eO
    exact Fin.dW (xs:=[.str (sB (kV (newF p) ws)),.int .i64 0]) rfl ⟨_,_,rfl,rfl,⟨_,_,rfl,rfl,rfl⟩⟩ (by show[V.p (.str (sB (jE (newF p) ws ws.length))),_]=_;rw[eO];rfl) rfl
   ·exact o4
end Go.Proofs.YtchiinjiflgepaaGreatDoor
end
