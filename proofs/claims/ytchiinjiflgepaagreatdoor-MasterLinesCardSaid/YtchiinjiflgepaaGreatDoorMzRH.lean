/-
 Builders.
 Chapter 15, the program: the lines of a script.
 strings.Lines.
 Chapter 15, the program: the own blocks of a script's run.
 The program of chapter 15: a new floor.
 The program of chapter 15: a script.
-/
import Derived.Test.YtchiinjiflgepaaGreatDoorMzRF
import Derived.Test.YtchiinjiflgepaaGreatDoorMzRG
import Derived.Test.YtchiinjiflgepaaGreatDoorFaRF
import Derived.Test.YtchiinjiflgepaaGreatDoorMzRZ
theorem Yk{A:Prop}(h:A:=by
 refine Kc (aa.jE _ _ rfl rfl rfl (by first | exact ab0 hl1 | exact ab9 ⟨ug,Wn⟩ hne)) ?_
 refine aq.aaL 50 1 3 (PM _ _ (by simp) (by first | rw[zD (r:=(aO (cE (newF p) ws k) (Di.gt [] ws k)).2.1) hne];exact hlen | rw[AS wW];exact hlen)) (by decide) rfl rfl rfl rfl rfl rfl rfl rfl rfl ai ?_
 refine af ?_
 refine⟨_,⟨z2,hfl.mz,rfl⟩,?_⟩
 first | rw[zD (r:=(aO (cE (newF p) ws k) (Di.gt [] ws k)).2.1) hne] | rw[AS wW]
 exact PU (F:=cE (newF p) ws (k+1)) (gu (L:=ws) hW (k+1)).mm YW):A:=h
theorem Rb{A:Prop}(h:A:=by
 exfalso
 have h4:=Ze hc0
 rw[cF] at h4
 omega):A:=h
theorem TD{A:Prop}(h:A:=by
 exfalso
 rcases h2 with rfl | h2
 ·cases bw
 ·rw[WK h2] at bw
  simp at bw):A:=h
theorem RV{A:Prop}(h:A:=by
 refine af ?_
 refine ay.nil ?_
 iterate 2 refine af ?_
 exact nk.one rfl rfl ⟨rfl,rfl⟩):A:=h
set_option linter.unusedSimpArgs false
set_option linter.unusedVariables false
section
set_option maxRecDepth 100000
set_option maxHeartbeats 4000000
namespace Go.Proofs.YtchiinjiflgepaaGreatDoor
open Go.AF
theorem WY:Yl Tryz.prog 149:=⟨_, Tryz.func149,by kernel_rfl,by kernel_rfl,by kernel_rfl,by kernel_rfl⟩
theorem O2:liesAt Tryz.prog Tryz.prog.depth 89 (2 / Tryz.prog.cellsOf 89) 0 89 1=true:=by kernel_rfl
theorem JH(v:V)(B:ak):aE Tryz.prog 86 [.ptr 0 0] [.cells [.p .nilPtr,v] 89,B] fun r H'=>r= .p (.tuple [])∧H'=[.cells [.ptr 0 0,v] 89,B]:=by
 refine aE.start (N:=20) Tryz.func86 rfl rfl Kn ?_
 iterate 6 refine af ?_
 refine Kc (aa.Nv rfl rfl rfl ai) ?_
 refine af ?_
 refine aC.iC rfl ?_
 iterate 3 refine af ?_
 refine Kc (aa.YF rfl rfl ai ai (by decide) rfl (Wo _)) ?_
 refine Kc (aa.abE rfl rfl WY) ?_
 refine Kc (aa.aau rfl rfl ai ai rfl O2) ?_
 iterate 4 refine af ?_
 exact FQ
theorem N2(v:V)(B:ak):aE Tryz.prog 86 [.ptr 0 0] [.cells [.ptr 0 0,v] 89,B] fun r H'=>r= .p (.tuple [])∧H'=[.cells [.ptr 0 0,v] 89,B]:=by
 refine aE.start (N:=20) Tryz.func86 rfl rfl Kn ?_
 iterate 6 refine af ?_
 refine Kc (aa.zb rfl rfl rfl ai) ?_
 refine af ?_
 refine aC.aU rfl ?_
 iterate 7 refine af ?_
 refine Kc (aa.Ox rfl rfl rfl ai) ?_
 refine af ?_
 refine aC.aU rfl ?_
 refine af ?_
 exact FQ
theorem aaq(l:Bs):aE Tryz.prog 86 [.ptr 0 0] [wC 89 0 1 l,wF 5 l] fun r H'=>r= .p (.tuple [])∧H'=[.cells [.ptr 0 0,gP 1 l.length] 89,wF 5 l]:=by
 cases l with
 | nil=>exact JH _ _
 | cons c t=>exact N2 _ _
theorem YZ(l s:Bs)(hs:0<s.length):[ak.cells [.ptr 0 0,.row 2 (l.length+s.length)] 89,.dead,.iU (bV l++bV s) 5]=[wC 89 0 2 (l++s),.dead,wF 5 (l++s)]:=by
 have h:0<(l++s).length:=by rw[Zc];omega
 rw[Wg h,WN h,GP,Zc]
theorem PM(l:Bs)(s:Bs)(hs:0<s.length)(hb:(l++s).length<=1099511627776):FB Tryz.prog 89 5 44 [.str (sB s)] l (s) (.tuple [.int .i64 (s.length:Int),.nilIface]):=by
 have hlen:l.length<=1099511627776:=by rw[Zc] at hb;omega
 have j6:=hb
 rw[Zc] at j6
 refine aE.start (N:=19) Tryz.func44 rfl rfl Kn ?_
 iterate 8 refine af ?_
 refine aq.BG 7 (aaq l) rfl rfl rfl rfl rfl rfl rfl ai (fun v H2 jJ=> ?_)
 obtain⟨rfl,rfl⟩:=jJ
 iterate 9 refine af ?_
 refine Kc (aa.DJ rfl rfl ai rfl (by simp[lU]) (G5.str rfl ai) hs (Um _) ai (by decide) (by omega)) ?_
 iterate 7 refine af ?_
 refine Kc (aa.eF rfl rfl w9) ?_
 iterate 4 refine af ?_
 exact nk.many (xs:=[.int .i64 (s.length:Int),.nilIface]) rfl ⟨_,_,rfl,rfl,⟨_,_,rfl,rfl,rfl⟩⟩ rfl ⟨rfl,YZ l s hs⟩
theorem Li(a:V):aE Tryz.prog 45 [.ptr 0 0] [.cells [a,.p .nilSlice] 89,.dead] fun r H'=>r= .p (.str (sB []))∧H'=[.cells [a,.p .nilSlice] 89,.dead]:=by
 refine aE.start (N:=14) Tryz.func45 rfl rfl Kn ?_
 iterate 5 refine af ?_
 refine aC.az 12 mixed (by kernel_rfl) (by decide) ?_
 refine af ?_
 refine Kq (aa.nilCheck rfl rfl) ?_
 iterate 2 refine af ?_
 refine Kq (aa.zA rfl rfl) ?_
 refine af ?_
 refine Kq (aa.nilCheck rfl rfl) ?_
 iterate 2 refine af ?_
 refine Kq (aa.bJ rfl rfl ai rfl) ?_
 refine Kq (aa.QK rfl rfl rfl) ?_
 exact RV
theorem GD(a:V)(l:Bs)(hl:0<l.length)(hb:l.length<=1099511627776):aE Tryz.prog 45 [.ptr 0 0] [.cells [a,.row 1 l.length] 89,.iU (bV l) 5] fun r H'=>r= .p (.str (sB l))∧H'=[.cells [a,.row 1 l.length] 89,.iU (bV l) 5]:=by
 refine aE.start (N:=14) Tryz.func45 rfl rfl Kn ?_
 iterate 5 refine af ?_
 refine aC.az 12 mixed (by kernel_rfl) (by decide) ?_
 refine af ?_
 refine Kq (aa.nilCheck rfl rfl) ?_
 iterate 2 refine af ?_
 refine Kq (aa.z8 rfl rfl hl) ?_
 refine af ?_
 refine Kq (aa.nilCheck rfl rfl) ?_
 iterate 2 refine af ?_
 refine Kq (aa.bJ rfl rfl ai rfl) ?_
 refine Kq (aa.N7 l rfl rfl rfl ai rfl hl (by omega)) ?_
 exact RV
theorem N5(l:Bs)(hb:l.length<=1099511627776):aE Tryz.prog 45 [.ptr 0 0] [wC 89 0 1 l,wF 5 l] fun r H'=>r= .p (.str (sB l))∧H'=[wC 89 0 1 l,wF 5 l]:=by
 cases l with
 | nil=>exact Li _
 | cons c t=>exact GD _ (c::t) (Wo _) hb
def jL(ws:List Bs):Bs:=ws.flatMap (· ++[10])
theorem D7(w:Bs)(ws:List Bs):jL (w::ws)=w++10::jL ws:=by
 unfold jL
 rw[ZJ,ZM]
 rfl
theorem Uz(a b:List Bs):jL (a++b)=jL a++jL b:=by unfold jL;rw[ZX]
theorem ni{ws:List Bs}{k:Nat}(hk:k<ws.length):jL (ws.drop k)=ws[k]++10::jL (ws.drop (k+1)):=by
 rw[VI hk,D7]
theorem SG:∀(w r:Bs),10∉w->Lib.indexByte (w++10::r) 10=(w.length:Int)
 | [],r,_=>rfl
 | b::w,r,h=>by
  have hb:(b==10)=false:=by
   have:b≠10:=fun e=>h (by rw[e];exact Zx)
   simpa using this
  have ih:=SG w r (fun hm=>h (Zk _ hm))
  show(if (b==10)=true then(0:Int) else if (Lib.indexByte (w++10::r) 10== -1)=true then -1 else Lib.indexByte (w++10::r) 10+1)=_
  rw[hb,ih,if_neg (by decide),if_neg (by
   intro hc
   have:=eq_of_beq hc
   omega),Zp]
  rfl
theorem C7:∀(s cur:Bs),10∉cur->∃ ws last,cU 10 cur s=ws++[last]∧jL ws++last=cur++s∧10∉last∧∀ w∈ws,10∉w
 | [],cur,h=>⟨[],cur,by rw[cU];rfl,by simp[jL],h,fun _ h=>by cases h⟩
 | b::s,cur,h=>by
  rw[cU]
  by_cases hb:b=10
  ·rw[if_pos hb]
   obtain⟨ws,last,h1,h2,h3,h4⟩:=C7 s [] (by simp)
   refine⟨cur::ws,last,by rw[h1];rfl,?_,h3,fun w hw=> ?_⟩
   ·rw[D7,ZM,NS,h2,hb];rfl
   ·rcases Zv.1 hw with rfl | hw
    ·exact h
    ·exact h4 w hw
  ·rw[if_neg hb]
   obtain⟨ws,last,h1,h2,h3,h4⟩:=C7 s (cur++[b]) (fun hm=>by
    rcases Zs.1 hm with hm | hm
    ·exact h hm
    ·exact hb (Zw.1 hm).symm)
   exact⟨ws,last,h1,by rw[h2,ZM];rfl,h3,h4⟩
theorem Ju{s:Bs}(h:s=[]∨s.getLast?=some 10):jL (cU 10 [] s).dropLast=s∧∀ w∈(cU 10 [] s).dropLast,10∉w:=by
 obtain⟨ws,last,h1,h2,h3,h4⟩:=C7 s [] (by simp)
 rw[h1,List.dropLast_concat]
 refine⟨?_,h4⟩
 have hl:last=[]:=by
  rcases h with rfl | h
  ·have:=List.append_eq_nil_iff.1 h2;exact this.2
  ·cases hla:last.getLast? with
   | none=>exact List.getLast?_eq_none_iff.1 hla
   | some x=>
    rw[FF] at h2
    rw[<- h2,List.getLast?_append,hla] at h
    have hx:x=10:=by simpa using h
    exact absurd (by rw[<- hx];exact List.mem_of_getLast? hla) h3
 rw[hl,ZY] at h2
 exact h2
theorem U8{ws:List Bs}{k:Nat}(hk:k<ws.length):0<(jL (ws.drop k)).length:=by
 rw[ni hk,Zc,Zp];omega
theorem Vv{ws:List Bs}:jL (ws.drop ws.length)=[]:=by rw[List.drop_length];rfl
theorem RN(ws:List Bs)(k:Nat):(jL (ws.drop k)).length<=(jL ws).length:=by
 have h:jL ws=jL (ws.take k)++jL (ws.drop k):=by rw[<- Uz,Zbz]
 have:=congrArg List.length h
 rw[Zc] at this
 omega
theorem S2{ws:List Bs}{k:Nat}(hk:k<ws.length){f:Bs->List V}:(ws.map f)[k]? =some (f ws[k]):=by
 rw[Zt,Zb hk];rfl
theorem rR{H:List ak}{i:Nat}{v:V}{vs:List V}{e:TypeId}(h:H[i]? =some (.cells (v::vs) e)):di H false 1 (.ptr i 0)=some v:=by
 unfold di
 simp only[h]
 rfl
theorem Ow{H:List ak}{i:Nat}{v u:V}{e:TypeId}(h:H[i]? =some (.cells [v] e)):gU H i 0 [u]=some (H.set i (.cells [u] e)):=by
 unfold gU
 simp only[h]
 rfl
theorem Om(i:Nat):some (MR (i+1) (.ptr i 0))=some (V.ptr i 0):=by
 have h:Nat.blt i (i+1)=true:=by unfold Nat.blt;exact Nat.ble_eq_true_of_le (Zg _)
 show some (bif Nat.blt i (i+1) then V.ptr i 0 else .top)=_
 rw[h]
 rfl
theorem aa.Em{P:Program}{N:Nat}{o:Oper}{T:Tm}{H:List ak}{x:Operand}{t:TypeId}{lo hi:Option Operand}(l:Bs)(i j:Nat)(r:Bs)(ho:o.op= .slice t x lo hi none)(hx:ev T x=some (.p (.str (sB l))))(ht:Ap P t=true)(hl:iq T lo 0 i)(hh:iq T hi l.length j)(h1:i<=j)(h2:j<=l.length)(e:(l.drop i).take (j - i)=r):aa P N o T H (.p (.str (sB r))) H:=
 e▸aa.L3 l i j ho hx ht hl hh h1 h2
theorem acn{ws:List Bs}{k:Nat}(hk:k<ws.length):((jL (ws.drop k)).drop 0).take (ws[k].length+1 - 0)=ws[k]++[10]:=by
 rw[Xj,Nat.sub_zero,ni hk,show ws[k]++10::jL (ws.drop (k+1))=(ws[k]++[10])++jL (ws.drop (k+1)) by simp,List.take_left' (by simp)]
theorem abS{ws:List Bs}{k:Nat}(hk:k<ws.length):((jL (ws.drop k)).drop (ws[k].length+1)).take ((jL (ws.drop k)).length - (ws[k].length+1))=jL (ws.drop (k+1)):=by
 rw[NP (by rw[OS];exact Zg _),ni hk,List.drop_append]
 simp
theorem Lh(s:Bs):aE Tryz.prog 41 ([.str (sB s)].map .p) [] fun v H2=>v= .func (.func 82) [] [.ptr 0 0]∧H2=[.cells [.p (.str (sB s))] 9]:=by
 refine aE.start (N:=4) Tryz.func41 rfl rfl Kn ?_
 iterate 2 refine af ?_
 refine Kc (aa.cP rfl rfl rfl) ?_
 iterate 4 refine af ?_
 refine Kc (aa.makeFunc rfl rfl rfl) ?_
 exact ER
theorem Vh{ws:List Bs}{k:Nat}(hk:k<ws.length)(hw:∀ w∈ws,10∉w):Pure Tryz.prog 83 [.str (sB (jL (ws.drop k))),.int .u8 10] (.int .i64 (ws[k].length:Int)):=by
 have h:=zv (jL (ws.drop k)) 10
 rw[ni hk] at h
 rw[SG _ _ (hw _ (ZZ hk)),<- ni hk] at h
 exact h
theorem Gi(ws:List Bs)(i:Nat)(hl:(jL ws).length<=1000000)(hw:∀ w∈ws,10∉w):Ss Tryz.prog (i+1) i (fun k=> .cells [.p (.str (sB (jL (ws.drop k))))] 9) 82 (fun y=>[y,.ptr i 0]) (ws.map fun w=>[.p (.str (sB (w++[10])))]):=by
 intro l κ nn inv fin hk0 hκ UR M7 hb h0 rU
 refine jR.iS (N:=25) Tryz.func82 rfl rfl Kn ?_
 refine af ?_
 refine aC.dw [0,1] (fun g=>[]) (fun g=>g.2) (fun g=>g.1<=ws.length∧inv g.1 g.2) (fun g=>ws.length - g.1) (0,h0) (show(0:Nat)<=ws.length∧inv 0 h0 from⟨Zn _,rU⟩) (To.sub (Sub.tO (Sub.nil))) (fun g hg=> ?_)
 obtain⟨k,Kv⟩:=g
 obtain⟨hle,hinv⟩:=hg
 dsimp only at hle hinv ⊢
 have hR:=(UR _ _ hinv).2
 have hln:=(UR _ _ hinv).1
 have hjl:=RN ws k
 iterate 3 refine af ?_
 refine Kc (aa.load (v:= .p (.str (sB (jL (ws.drop k))))) rfl rfl ai (rR hR)) ?_
 refine Kc (aa.eF rfl rfl w9) ?_
 iterate 2 refine af ?_
 refine Ki (fun hc0=> ?_) fun hc0=> ?_
 ·have vS:k<ws.length:=by
   rcases ZS k ws.length with h | h
   ·exact h
   ·obtain rfl:k=ws.length:=by omega
    rw[Vv] at hc0
    cases hc0
  have eR:=ni vS
  have eL:=congrArg List.length eR
  rw[Zc,Zp] at eL
  have hbk:=hb k Kv _ hinv (S2 vS)
  iterate 9 refine af ?_
  refine Kc (aa.load (v:= .p (.str (sB (jL (ws.drop k))))) rfl rfl ai (rR hR)) ?_
  refine Kc (Kp (Vh vS hw)) ?_
  iterate 7 refine af ?_
  refine Ki (fun bw=> ?_) fun bw=> ?_
  ·refine aC.az 9 mixed (by kernel_rfl) (by decide) ?_
   refine Kq (aa.load (v:= .p (.str (sB (jL (ws.drop k))))) rfl rfl ai (rR hR)) ?_
   refine af ?_
   refine Kq (aa.add rfl rfl rfl (aA ?_)) ?_
   ·omega
   refine Kq (aa.Em (jL (ws.drop k)) 0 (ws[k].length+1) (ws[k]++[10]) rfl rfl ai rfl ⟨_,rfl⟩ (Zn _) (by rw[eL];omega) (acn vS)) ?_
   refine Kq (aa.load (v:= .p (.str (sB (jL (ws.drop k))))) rfl rfl ai (rR hR)) ?_
   refine af ?_
   refine Kq (aa.add rfl rfl rfl (aA ?_)) ?_
   ·omega
   refine Kq (aa.Em (jL (ws.drop k)) (ws[k].length+1) (jL (ws.drop k)).length (jL (ws.drop (k+1))) rfl rfl ai ⟨_,rfl⟩ rfl (by rw[eL];omega) (Zg _) (abS vS)) ?_
   refine af ?_
   refine ay.nil ?_
   refine Kz (aa.store (H':=(Kv.set i (.cells [.p (.str (sB (jL (ws.drop (k+1)))))] 9))) rfl rfl rfl rfl rfl ai rfl (Ow hR)) ?_
   iterate 5 refine af ?_
   refine aq.VK (i+1) 23 hk0 (by rw[yl];omega) rfl rfl rfl rfl rfl rfl (by exact hbk) ?_
   intro b2 h2 hq
   iterate 2 refine af ?_
   refine Ki (fun eG=> ?_) fun eG=> ?_
   ·have iY:b2=false:=by simpa using eG
    rw[if_neg (by rw[iY];decide)] at hq
    refine af ?_
    exact⟨.inr rfl,_,fE.none_ rfl,.inr hq⟩
   ·have iY:b2=true:=by simpa using eG
    rw[if_pos iY] at hq
    have hN:inv (k+1) h2:=hq
    refine af ?_
    refine⟨(k+1,h2),?_,?_,?_⟩
    ·exact⟨vS,hN⟩
    ·show ws.length - (k+1)<ws.length - k
     omega
    exact To.sub (Sub.cons rfl (Sub.cons (Om i) Sub.nil))
  ·exfalso
   simp at bw
 ·have hke:k=ws.length:=by
   rcases ZS k ws.length with h | h
   ·have h2:=U8 h;have h3:=Zf hc0;rw[cF] at h3;omega
   ·omega
  subst hke
  refine aC.exit ?_
  exact⟨.inl rfl,_,fE.none_ rfl,.inl (by rw[Zr];exact hinv)⟩
section
variable {P:Program} {N κ:Nat} {T T2:Tm} {F:c7} {z:Bool} {out s:Bs} {r:uf}
def qE(i:Nat):ak:= .cells [.ptr i 0] 33
def ue(s:Bs):ak:= .cells [.p (.str (sB s))] 9
def nh(s out:Bs)(F:c7)(z:Bool):List ak:=[qE 4,wC 89 1 3 out,ue s,wF 5 out]++cX 4 F z
theorem y7{σ:Nat->Option Nat}{i j:Nat}(h:σ i=some j):aM σ (qE i)=qE j:=by
 show ak.cells [aZ σ (.ptr i 0)] 33=_
 simp only[aZ,h]
 rfl
theorem By{σ:Nat->Option Nat}{st:LoopState}{pe:Option Code}(h:fG σ r.T=r.T):aM σ (.loop r st pe)= .loop r st pe:=by
 show ak.loop {r with T:=fG σ r.T} st pe=_
 rw[h]
theorem VP(hm:F.marks.length<=8)(hT:∀ σ,σ 47=some 0->σ 48=some 1->σ 49=some 2->Sub T2 (fG σ T)):To P 0 N T (cX 0 F z++[qE 0,.cells [.p .nilPtr,.p .nilSlice] 89,ue s]) T2 (nh s [] F z):=by
 have hl:=j8 (c:=0) (z:=z) hm
 obtain⟨σ,_,h2,h3,hto⟩:=To.rot (P:=P) (κ:=0) (N:=N) (T:=T) [] (cX 0 F z) [qE 0,.cells [.p .nilPtr,.p .nilSlice] 89,ue s,.dead] (Zg _)
 have g0:σ 0=some 4:=by have:=h2 0 (by rw[hl];decide);simpa using this
 have gk:∀ k,k<47->σ (0+k)=some (4+k):=fun k hk=>by have:=h2 k (by rw[hl];exact hk);simpa using this
 have e0:=h3 0 (by simp)
 have e1:=h3 1 (by simp)
 have e2:=h3 2 (by simp)
 rw[hl] at e0 e1 e2
 refine To.trans (To.uG To.pad (H3:=[]++(cX 0 F z++[qE 0,.cells [.p .nilPtr,.p .nilSlice] 89,ue s,.dead])) (by simp)) (To.trans hto (To.uG (To.sub (hT σ e0 e1 e2)) ?_))
 rw[nP hm gk]
 show[aM σ (qE 0),_,_,_]++cX 4 F z=_
 rw[y7 g0]
 rfl
theorem W6(hm:F.marks.length<=8)(hr:∀ σ,σ 0=some 0->σ 1=some 1->σ 2=some 2->fG σ r.T=r.T)(hT:∀ σ,σ 0=some 0->σ 1=some 1->σ 2=some 2->Sub T2 (fG σ T)):To P 3 N T (nh s out F z++[.loop r .busy none]) T2 ([qE 5,wC 89 1 3 out,ue s,wF 5 out,.loop r .busy none]++cX 5 F z):=by
 have hl:=j8 (c:=4) (z:=z) hm
 obtain⟨σ,h1,h2,h3,hto⟩:=To.rot (P:=P) (κ:=3) (N:=N) (T:=T) [qE 4,wC 89 1 3 out,ue s,wF 5 out] (cX 4 F z) [.loop r .busy none] (by simp)
 have e0:=h1 0 (by simp)
 have e1:=h1 1 (by simp)
 have e2:=h1 2 (by simp)
 have e3:=h1 3 (by simp)
 have g4:σ 4=some 5:=by have:=h2 0 (by rw[hl];decide);simpa using this
 have gk:∀ k,k<47->σ (4+k)=some (5+k):=fun k hk=>by have:=h2 k (by rw[hl];exact hk);simpa using this
 refine To.trans (To.uG hto (H3:=[qE 5,wC 89 1 3 out,ue s,wF 5 out,.loop r .busy none]++cX 5 F z) ?_) (To.sub (hT σ e0 e1 e2))|>fun h=>To.uG (H2:=_) h rfl|>fun h=>by
  have e:nh s out F z++[.loop r .busy none]=[qE 4,wC 89 1 3 out,ue s,wF 5 out]++(cX 4 F z++[.loop r .busy none]):=by unfold nh;rw[ZM]
  rw[e]
  exact h
 rw[nP hm gk]
 show[aM σ (qE 4),aM σ (wC 89 1 3 out),aM σ (ue s),aM σ (wF 5 out)]++([aM σ (.loop r .busy none)]++cX 5 F z)=_
 rw[y7 g4,Dj e1 e3,DK,By (hr σ e0 e1 e2)]
 rfl
theorem Vm(hm:F.marks.length<=8)(hr:∀ σ,σ 0=some 0->σ 1=some 1->σ 2=some 2->fG σ r.T=r.T):To P 3 N T ([qE 5,wC 89 1 52 out,ue s,.dead,.loop r .busy none]++(cX 5 F z++[wF 5 out])) [] (nh s out F z++[.loop r .busy none]):=by
 have hl:=j8 (c:=5) (z:=z) hm
 obtain⟨H,eH⟩:∃ H,H=[qE 5,wC 89 1 52 out,ue s,.dead,.loop r .busy none]++(cX 5 F z++[wF 5 out]):=⟨_,rfl⟩
 have VR:H.length=53:=by rw[eH];simp[hl]
 obtain⟨ks,x8⟩:∃ ks:List Nat,ks=[0,1,2,52]++(List.range' 5 47++[4]):=⟨_,rfl⟩
 have hkeep:kz 3 H.length ks=true:=by rw[VR,x8];rfl
 have hk:=To.keep (P:=P) (κ:=3) (N:=N) (T:=T) (H:=H) ks hkeep
 have e0:pl ks 0=some 0:=by rw[x8];rfl
 have e1:pl ks 1=some 1:=by rw[x8];rfl
 have e2:pl ks 2=some 2:=by rw[x8];rfl
 have e52:pl ks 52=some 3:=by rw[x8];rfl
 have gk:∀ k,k<47->pl ks (5+k)=some (4+k):=by rw[x8];decide
 have g5:pl ks 5=some 4:=gk 0 (by decide)
 have uv:∀ k,k<47->H[5+k]? =(cX 5 F z)[k]? :=fun k hk=>by
  rw[eH,Zj (by simp),Zd (by rw[hl];simpa using hk)]
  congr 1
  simp
 have acq:H[52]? =some (wF 5 out):=by
  rw[eH,Zj (by simp),Zj (by rw[hl];simp),hl]
  rfl
 rw[<- eH]
 refine To.trans (To.uG hk (H3:=nh s out F z++[.loop r .busy none]) ?_) (To.sub Sub.nil)
 have seg:(List.range' 5 47).map (fun i=>aM (pl ks) (H.getD i .dead))=(cX 5 F z).map (aM (pl ks)):=by
  apply Dt
  intro i
  rw[Zt,Zt]
  rcases ZS i 47 with hi | hi
  ·have hx:=Zb (show i<(cX 5 F z).length by rw[hl];exact hi)
   rw[Xy hi,ZN]
   show some (aM (pl ks) (H.getD (5+i) .dead))=_
   rw[Zh,uv i hi,hx]
   rfl
  ·rw[ZH (by rw[WG];exact hi),ZH (by rw[hl];exact hi)]
   rfl
 have g:∀{i:Nat} {x:ak},H[i]? =some x->H.getD i .dead=x:=fun hx=>by rw[Zh,hx];rfl
 have m1:ks.map (fun i=>aM (pl ks) (H.getD i .dead))=[0,1,2,52].map (fun i=>aM (pl ks) (H.getD i .dead))++((List.range' 5 47).map (fun i=>aM (pl ks) (H.getD i .dead))++[4].map (fun i=>aM (pl ks) (H.getD i .dead))):=by
  conv=>lhs;arg 2;rw[x8]
  rw[Zy,Zy]
 rw[m1,seg,nP hm gk]
 show[aM (pl ks) (H.getD 0 .dead),aM (pl ks) (H.getD 1 .dead),aM (pl ks) (H.getD 2 .dead),aM (pl ks) (H.getD 52 .dead)]++(cX 4 F z++[aM (pl ks) (H.getD 4 .dead)])=_
 rw[g acq,g (show H[0]? =some (qE 5) by rw[eH];rfl),g (show H[1]? =some (wC 89 1 52 out) by rw[eH];rfl),g (show H[2]? =some (ue s) by rw[eH];rfl),g (show H[4]? =some (.loop r .busy none) by rw[eH];rfl),
  y7 g5,Dj e1 e52,DK,By (hr _ e0 e1 e2)]
 unfold nh
 rw[ZM]
 rfl
theorem Up{rest:List ak}(hT:∀ σ,σ 1=some 0->Sub T2 (fG σ T)):To P 0 N T ([qE 4,wC 89 1 3 out,ue s,wF 5 out]++rest) T2 [wC 89 0 1 out,wF 5 out]:=by
 have hkeep:kz 0 ([qE 4,wC 89 1 3 out,ue s,wF 5 out]++rest).length [1,3]=true:=by
  unfold kz
  simp only[Zo,beq_iff_eq,ZC,Zl]
  refine⟨⟨rfl,fun i hi=> ?_⟩,by decide⟩
  have:i<([qE 4,wC 89 1 3 out,ue s,wF 5 out]++rest).length:=by
   rw[Zc]
   simp only[Zv,Oc,or_false] at hi
   show i<4+_
   omega
  simpa[Nat.blt,ZA] using this
 have hk:=To.keep (P:=P) (κ:=0) (N:=N) (T:=T) [1,3] hkeep
 refine To.trans (To.uG hk (H3:=[wC 89 0 1 out,wF 5 out]) ?_) (To.sub (hT _ rfl))
 show[aM (pl [1,3]) (wC 89 1 3 out),aM (pl [1,3]) (wF 5 out)]=_
 rw[Dj (σ:=pl [1,3]) (i':=0) (j':=1) rfl rfl,DK]
theorem oV(hm:F.marks.length<=8):(nh s out F z).length=51:=by
 unfold nh
 rw[Zc,j8 hm]
 rfl
theorem Cv{x y:ak}{n:Nat}(hm:F.marks.length<=8)(hn:n=51):(nh s out F z++[x])[n]? =some x∧(nh s out F z++[x]).set n y=nh s out F z++[y]:=by
 have h:=oV (s:=s) (out:=out) (z:=z) hm
 subst hn
 rw[<- h]
 exact⟨by simp,by simp⟩
theorem PU{Bk:Bs}(hm:F.marks.length<=8)(hr:∀ σ,σ 0=some 0->σ 1=some 1->σ 2=some 2->fG σ r.T=r.T):To P 3 N T (((([qE 5,wC 89 1 3 Bk,ue s,wF 5 Bk,.loop r .busy none]++cX 5 F z).set 1 (wC 89 1 ([qE 5,wC 89 1 3 Bk,ue s,wF 5 Bk,.loop r .busy none]++cX 5 F z).length out)).set 3 .dead)++[wF 5 out]) [] (nh s out F z++[.loop r .busy none]):=by
 have hl:=j8 (c:=5) (z:=z) hm
 have e:((([qE 5,wC 89 1 3 Bk,ue s,wF 5 Bk,.loop r .busy none]++cX 5 F z).set 1 (wC 89 1 ([qE 5,wC 89 1 3 Bk,ue s,wF 5 Bk,.loop r .busy none]++cX 5 F z).length out)).set 3 .dead)++[wF 5 out]=[qE 5,wC 89 1 52 out,ue s,.dead,.loop r .busy none]++(cX 5 F z++[wF 5 out]):=by
  rw[Zc,hl]
  rfl
 rw[e]
 exact Vm hm hr
def GLn(F:c7)(w:Bs)(H:List ak):List ak->Prop:=fun H2=>(∃ z q im qs,iJ 5 (aO F w).1 z H2 q im qs)∧∀ i,i<5->H2[i]? =H[i]?
theorem abP{w:Bs}{H:List ak}(h0:H[0]? =some (qE 5)):∀ H0,(H0=H∨GLn F w H H0)->di H0 false 1 (.ptr 0 0)=some (.ptr 5 0):=fun H0 h=>by
 have:H0[0]? =some (.cells [.ptr 5 0] 33):=by
  rcases h with rfl | ⟨_,h⟩
  ·exact h0
  ·rw[h 0 (by decide)];exact h0
 exact rR this
theorem Vt{e:TypeId}{i j n:Nat}{l:Bs}(hi:i<n)(hj:j<n):Da n (wC e i j l):=by
 have h:∀ k,k<n->below n k=some k:=fun k hk=>by unfold below;rw[if_pos (by simpa[Nat.blt,ZA] using hk)]
 cases l with
 | nil=>rfl
 | cons c t=>
  show bE _ [.ptr i 0,.row j _]=_
  simp only[bE,aZ,h i hi,h j hj]
  rfl
theorem U4{eb:TypeId}{n:Nat}{l:Bs}:Da n (wF eb l):=by
 cases l with
 | nil=>trivial
 | cons c t=>exact uF _ _
theorem Ot(hr:fG (below 6) r.T=r.T):∀(i:Nat) (x:ak),[qE 5,wC 89 1 3 out,ue s,wF 5 out,.loop r .busy none][i]? =some x->Da 6 x:=fun i x h=>by
 match i,h with
 | 0,h=>cases h;rfl
 | 1,h=>cases h;exact Vt (by decide) (by decide)
 | 2,h=>cases h;rfl
 | 3,h=>cases h;exact U4
 | 4,h=>cases h;exact hr
theorem IP{w:Bs}{H2:List ak}{q:P5}{im:Nat}{qs:List P5}{z2:Bool}(hr:fG (below 6) r.T=r.T)(hfl:iJ 5 (aO F w).1 z2 H2 q im qs)(hlow:∀ i,i<5->H2[i]? =([qE 5,wC 89 1 3 out,ue s,wF 5 out,.loop r .busy none]++cX 5 F z)[i]?)(hT:Sub T2 T)(hl:fG (below 6) T2=T2):To P 3 N T H2 T2 ([qE 5,wC 89 1 3 out,ue s,wF 5 out,.loop r .busy none]++cX 5 (aO F w).1 z2):=by
 refine Bi hfl rfl (fun i x hx=>⟨?_,Ot hr i x hx⟩) (by decide) hT hl
 have hi:=(Za.1 hx).1
 rw[hlow i hi,Zd hi]
 exact hx
theorem PR(w:Bs)(hw:w.length<=1000000):Pure Tryz.prog 42 [.str (sB (w++[10])),.str (sB [10])] (.str (sB w)):=by
 have h:=xp (w++[10]) [10] (by simp;omega)
 have e:Lib.trimSuffix (w++[10]) [10]=w:=by
  unfold Lib.trimSuffix
  rw[if_pos (by unfold Lib.hasSuffix;simp)]
  simp
 rwa [e] at h
theorem WK{s:Bs}(h:s.getLast?=some 10):([10]:Bs).isSuffixOf s=true:=by
 rw[List.isSuffixOf_iff_suffix]
 obtain⟨t,ht⟩:=List.getLast?_eq_some_iff.1 h
 exact⟨t,ht.symm⟩
theorem aa2{s:Bs}(h:s.getLast?≠some 10):([10]:Bs).isSuffixOf s=false:=by
 cases e:([10]:Bs).isSuffixOf s with
 | false=>rfl
 | true=>
  rw[List.isSuffixOf_iff_suffix] at e
  obtain⟨t,ht⟩:=e
  exact absurd (by rw[<- ht];simp) h
theorem zD{r:Bs}{e:Int}(he:e≠0):dA 32 (j7 [.str Bl,.num e])++[10]=tY r e:=by
 unfold tY
 rw[if_neg he,fW]
 rfl
theorem AS{r:Bs}{e:Int}(he:e=0):r++[10]=tY r e:=by
 unfold tY
 rw[if_pos he]
theorem aan{ws:List Bs}{k:Nat}(hk:k<ws.length){f:Bs->List V}:(ws.map f)[k]? =some (f (Di.gt [] ws k)):=by
 rw[S2 hk,Di.av [] k hk]
theorem P0{x:ak}{n:Nat}(hm:F.marks.length<=8)(hn:n=51):(nh s out F z++[x])[n]? =some x:=(Cv (y:= .dead) hm hn).1
theorem J5{x y:ak}{n:Nat}(hm:F.marks.length<=8)(hn:n=51):(nh s out F z++[x]).set n y=nh s out F z++[y]:=(Cv hm hn).2
theorem aC.Bu{R:Option Nat}{Q:Post}{H:List ak}{l:List Oper}{id:Nat}(m:Nat)(F:c7)(w:Bs)(DR:P.follows .mixedOrders=true)(hk:ld m l=true)(hm:m<=l.length)(h:cA P N l.toArray H (GLn F w H) (fun T'=>∀ H2,GLn F w H H2->aq P R N κ l.toArray (l.drop m) Q T' H2) false (l.take m) T):aC P R N κ (.region id l.toArray true) Q T H:=
 aC.BY m (GLn F w H) DR hk hm h
theorem ab0{r:Bs}(h1:r.length<=3000):r.length+([10]:Bs).length<9223372036854775808:=by simp;omega
theorem ab9{e:Int}(h:0<=e∧e<=15)(he:e≠0):(dA 32 (j7 [.str Bl,.num e])).length+([10]:Bs).length<9223372036854775808:=by
 have h2:=uC (r:=[]) (e:=e) ⟨Zn _,h⟩
 rw[<- zD (r:=[]) he,Zc] at h2
 omega
end
theorem GF(l:List Di.cJ)(hl:l.length<=1000000):aE Tryz.prog 48 [.p (Di.lN l)] [] fun v H2=>v=bg 0 l.length∧H2=[dG ((l.flatMap Di.cJ.cells).map .p) 103 l.length]:=by
 refine aE.start (N:=8) Tryz.func48 rfl rfl Kn ?_
 iterate 8 refine af ?_
 refine aq.Ao 4 rfl rfl rfl ai rfl rfl rfl (fun b hb0=> ?_)
 refine af ?_
 refine Ki (fun hc0=> ?_) fun hc0=> ?_
 ·have h0:l.length=0:=hb0 hc0
  iterate 3 refine af ?_
  refine aq.to (To.z0 2 rfl) ?_
  refine aq.to To.pad ?_
  iterate 2 refine af ?_
  have hq:V.z0=bg 0 l.length∧([.dead]:List ak)=[dG ((l.flatMap Di.cJ.cells).map .p) 103 l.length]:=⟨(oQ h0).symm,by rw[oW h0]⟩
  exact KV
 ·iterate 3 refine af ?_
  refine Kc (aa.uj rfl ai) ?_
  refine af ?_
  refine Kc (aa.ru rfl rfl rfl ai ai (iW (xs:=(l.flatMap Di.cJ.cells)) (n:=l.length) (sz:=3) (AF.bD (c:=3) (fun _=>rfl) l)) (vu Di.cJ.cells l (fun _=>rfl)) ai (by decide) ?_) ?_
  ·show(2*l.length+192)*24<=281474976710656;omega
  exact ER
theorem GY(l:List Di.cJ)(hl:l.length<=1000000)(h1:1<=l.length):aE Tryz.prog 48 ([Di.lN l].map .p) [] fun v H2=>v= .row 0 l.length∧H2=[.row ((l.flatMap Di.cJ.cells).map .p) 103]:=
 fun w I ρ us hi hu=>(GF l hl w I ρ us hi hu).mono fun e w' ⟨u,v,J,σ,H2,a1,⟨a2,a3⟩,a4,a5,a6⟩=>⟨u,v,J,σ,H2,a1,⟨by rw[a2,IA h1],by rw[a3,AW h1]⟩,a4,a5,a6⟩
theorem SW:∀ l:List Di.cJ,Ou (l.flatMap Di.cJ.cells)=true
 | []=>rfl
 | x::l=>by
  show Ou (x.cells++l.flatMap Di.cJ.cells)=true
  show(true&&(true&&(true&&Ou (l.flatMap Di.cJ.cells))))=true
  rw[SW l];rfl
theorem Gc(p:Di.bX)(hp:p.dies.length<=100)(h:Di.dY p=false):Pure Tryz.prog 21 [Di.ew p,.nilSlice,.nilSlice] (.tuple [.nilSlice,.int .i64 0,.int .i64 1]):=by
 have h2:=Pure.So (Di.tv p [] [] (Zz hp (by decide)) (by decide) (by decide))
 rw[Di.De h] at h2
 exact h2
theorem DW(p:Di.bX)(h:Di.dY p=true):Di.gf p [] []=(some (List.replicate p.dies.length 0),0,0):=by
 rw[Di.iy h rfl]
 rfl
theorem DG(p:Di.bX)(hp:p.dies.length<=100)(h:Di.dY p=true):Pure Tryz.prog 21 [Di.ew p,.nilSlice,.nilSlice] (.tuple [Di.aQ (List.replicate p.dies.length 0),.int .i64 0,.int .i64 0]):=by
 have h2:=Pure.So (Di.tv p [] [] (Zz hp (by decide)) (by decide) (by decide))
 rw[DW p h] at h2
 exact h2
theorem Lu(p:Di.bX)(hp:p.dies.length<=100)(h:Di.dY p=false):Pure Tryz.prog 13 [Di.ew p] (.tuple [.nilPtr,.int .i64 1]):=by
 refine Kf (N:=22) Tryz.func13 ?_
 iterate 2 refine af ?_
 refine Kc (aa.cP rfl rfl rfl) ?_
 iterate 6 refine af ?_
 refine Kc (Kl (.p (Di.ew p))) ?_
 refine Kc (Kp (Gc p hp h)) ?_
 iterate 13 refine af ?_
 refine aC.iC rfl ?_
 iterate 6 refine af ?_
 refine Fin.bq (xs:=[.nilPtr,.int .i64 1]) rfl ⟨_,_,rfl,rfl,⟨_,_,rfl,rfl,rfl⟩⟩ rfl rfl
theorem E2(p:Di.bX)(hp:p.dies.length<=100)(h:Di.dY p=true):aE Tryz.prog 13 ([Di.ew p].map .p) [] fun v H2=>v= .tuple [.ptr 0 0,.p (.int .i64 0)]∧H2=cX 0 (newF p) true:=by
 obtain⟨⟨n1,n4⟩,_⟩:=Di.fy h
 refine aE.start (N:=22) Tryz.func13 rfl rfl Kn ?_
 iterate 2 refine af ?_
 refine Kc (aa.cP rfl rfl rfl) ?_
 iterate 6 refine af ?_
 refine Kc (Kl (.p (Di.ew p))) ?_
 refine Kc (Kp (DG p hp h)) ?_
 iterate 13 refine af ?_
 refine aC.aU rfl ?_
 iterate 4 refine af ?_
 refine Kc (Kl (.p (Di.lN p.dies))) ?_
 refine Kc (aa.OV 3 (GY p.dies (by omega) n1) (SW _) rfl rfl rfl rfl rfl ai) ?_
 refine aq.to (To.freeze 1 rfl (jy _)) ?_
 iterate 5 refine af ?_
 refine Kc (Kl (.p (Di.ew p))) ?_
 refine af ?_
 refine Kc (aa.cP rfl rfl rfl) ?_
 iterate 2 refine af ?_
 refine aq.to (To.z0B 2 rfl) ?_
 refine aq.to (To.PY 45) ?_
 refine aq.to (To.done (2::1::List.range' 3 45) (S:=[(2,.ptr 0 0),(3,.p (.int .i64 0))]) rfl KS (H2:=cX 0 (newF p) true) rfl) ?_
 iterate 2 refine af ?_
 exact⟨.inr rfl,_,fE.many (vs:=[.ptr 0 0,.p (.int .i64 0)]) rfl ⟨_,_,rfl,rfl,⟨_,_,rfl,rfl,rfl⟩⟩,rfl,rfl⟩
theorem HQ(p:Di.bX)(s:Bs)(h1:131072<s.length):Pure Tryz.prog 11 [Di.ew p,.str (sB s)] (.tuple [.str (sB []),.int .i64 3]):=by
 refine Kf (N:=52) Tryz.func11 ?_
 iterate 11 refine af ?_
 refine Kc (aa.eF rfl rfl w9) ?_
 iterate 3 refine af ?_
 refine Ki (fun hc0=> ?_) fun hc0=> ?_
 ·iterate 6 refine af ?_
  exact Fin.bq (xs:=[.str (sB []),.int .i64 3]) rfl ⟨_,_,rfl,rfl,⟨_,_,rfl,rfl,rfl⟩⟩ rfl rfl
 ·exfalso
  have h2:=Zf hc0
  rw[cF] at h2
  omega
theorem GQ(p:Di.bX)(s:Bs)(h1:¬ 131072<s.length)(h2:s≠[])(h3:s.getLast?≠some 10):Pure Tryz.prog 11 [Di.ew p,.str (sB s)] (.tuple [.str (sB []),.int .i64 8]):=by
 refine Kf (N:=52) Tryz.func11 ?_
 iterate 11 refine af ?_
 refine Kc (aa.eF rfl rfl w9) ?_
 iterate 3 refine af ?_
 refine Ki (fun hc0=> ?_) fun hc0=> ?_
 ·exact Rb
 ·iterate 3 refine af ?_
  refine Kc (aa.BV s [] rfl rfl rfl) ?_
  refine af ?_
  refine Kg 19 18 1 rfl (fun h=>(aa.move rfl rfl)) ?_
  refine Kh 20 18 19 rfl rfl rfl rfl (fun h=>(Kp (mR s [10] (by omega)))) ?_
  refine Kh 21 18 20 rfl rfl rfl rfl (fun h=>(aa.fI rfl rfl)) ?_
  refine Kc (aa.gy rfl rfl rfl ?_) ?_
  ·exact fO
  iterate 2 refine af ?_
  refine Ki (fun bw=> ?_) fun bw=> ?_
  ·iterate 6 refine af ?_
   exact Fin.bq (xs:=[.str (sB []),.int .i64 8]) rfl ⟨_,_,rfl,rfl,⟨_,_,rfl,rfl,rfl⟩⟩ rfl rfl
  ·exfalso
   rw[aa2 h3] at bw
   simp[h2] at bw
theorem IK(p:Di.bX)(s:Bs)(hp:p.dies.length<=100)(h1:¬ 131072<s.length)(h2:s=[]∨s.getLast?=some 10)(h3:Di.dY p=false):Pure Tryz.prog 11 [Di.ew p,.str (sB s)] (.tuple [.str (sB []),.int .i64 1]):=by
 refine Kf (N:=52) Tryz.func11 ?_
 iterate 11 refine af ?_
 refine Kc (aa.eF rfl rfl w9) ?_
 iterate 3 refine af ?_
 refine Ki (fun hc0=> ?_) fun hc0=> ?_
 ·exact Rb
 ·iterate 3 refine af ?_
  refine Kc (aa.BV s [] rfl rfl rfl) ?_
  refine af ?_
  refine Kg 19 18 1 rfl (fun h=>(aa.move rfl rfl)) ?_
  refine Kh 20 18 19 rfl rfl rfl rfl (fun h=>(Kp (mR s [10] (by omega)))) ?_
  refine Kh 21 18 20 rfl rfl rfl rfl (fun h=>(aa.fI rfl rfl)) ?_
  refine Kc (aa.gy rfl rfl rfl ?_) ?_
  ·exact fO
  iterate 2 refine af ?_
  refine Ki (fun bw=> ?_) fun bw=> ?_
  ·exact TD
  ·iterate 3 refine af ?_
   refine Kc (Kl (.p (Di.ew p))) ?_
   refine Kc (Kp (Lu p hp h3)) ?_
   iterate 13 refine af ?_
   refine aC.iC rfl ?_
   iterate 7 refine af ?_
   exact Fin.bq (xs:=[.str (sB []),.int .i64 1]) rfl ⟨_,_,rfl,rfl,⟨_,_,rfl,rfl,rfl⟩⟩ rfl rfl
theorem QB(p:Di.bX)(s:Bs)(hp:p.dies.length<=100)(h1:¬ 131072<s.length)(h2:s=[]∨s.getLast?=some 10)(h3:Di.dY p=true):Pure Tryz.prog 11 [Di.ew p,.str (sB s)] (.tuple [.str (sB (xF (newF p) (cU 10 [] s).dropLast)),.int .i64 0]):=by
 obtain⟨ws,ews⟩:∃ ws,ws=(cU 10 [] s).dropLast:=⟨_,rfl⟩
 obtain⟨eS,hno⟩:=Ju h2
 rw[<- ews] at eS hno ⊢
 have hW:=zM h3
 have hjs:(jL ws).length<=131072:=by rw[eS];omega
 have C4:ws.length<=131072:=by have h4:=(ig 10 s []).2;have h5:=congrArg List.length ews;rw[List.length_dropLast] at h5;omega
 refine Kf (N:=52) Tryz.func11 ?_
 iterate 11 refine af ?_
 refine Kc (aa.eF rfl rfl w9) ?_
 iterate 3 refine af ?_
 refine Ki (fun hc0=> ?_) fun hc0=> ?_
 ·exact Rb
 ·iterate 3 refine af ?_
  refine Kc (aa.BV s [] rfl rfl rfl) ?_
  refine af ?_
  refine Kg 19 18 1 rfl (fun h=>(aa.move rfl rfl)) ?_
  refine Kh 20 18 19 rfl rfl rfl rfl (fun h=>(Kp (mR s [10] (by omega)))) ?_
  refine Kh 21 18 20 rfl rfl rfl rfl (fun h=>(aa.fI rfl rfl)) ?_
  refine Kc (aa.gy rfl rfl rfl ?_) ?_
  ·exact fO
  iterate 2 refine af ?_
  refine Ki (fun bw=> ?_) fun bw=> ?_
  ·exact TD
  ·iterate 3 refine af ?_
   refine Kc (Kl (.p (Di.ew p))) ?_
   refine aq.BG 25 (E2 p hp h3) rfl rfl rfl rfl rfl rfl rfl ai (fun v H2 jJ=> ?_)
   obtain⟨rfl,rfl⟩:=jJ
   iterate 13 refine af ?_
   refine aC.aU rfl ?_
   iterate 9 refine af ?_
   refine aq.ES (Qp:=fun _ _=>False) 32 [] (Lh s).NG rfl rfl rfl (fun _ _ _=>⟨Zn _,fun j i y h=>by simp at h⟩) (fun _ _ h=>h.elim) rfl rfl rfl rfl rfl rfl rfl ai (fun _ _ h=>h.elim) (fun v H2 jJ=> ?_)
   obtain⟨rfl,rfl⟩:=jJ
   iterate 2 refine af ?_
   refine aC.uG (show cX 0 (newF p) true++[qE 0,.cells [.p .nilPtr,.p .nilSlice] 89,ue s]=_ from rfl) ?_
   refine aC.to (To.sub (T2:=[(7,.ptr 48 0),(32,.func (.func 82) [] [.ptr 49 0]),(6,.ptr 47 0)]) KS) ?_
   refine aC.to (VP (T2:=[(7,.ptr 1 0),(32,.func (.func 82) [] [.ptr 2 0]),(6,.ptr 0 0)]) (Zn _) (fun σ e0 e1 e2=>by simp only[fG,aZ,bE,e0,e1,e2];exact KS)) ?_
   refine aC.DY 3 3 2 (fun k=> .cells [.p (.str (sB (jL (ws.drop k))))] 9) rfl (fun _=>rfl) ai (Gi ws 2 (by omega) hno) (Zg 3) (Zn _) (by rw[oV (F:=newF p) (Zn _)];decide) (fun _ h=>by cases h) (fun x hx=>by obtain⟨w,_,rfl⟩:=xS.1 hx;rfl) rfl (fun k h=>∃ z,(z=true->(cE (newF p) ws k).marks=[])∧h=nh (jL (ws.drop k)) (iV (newF p) ws k) (cE (newF p) ws k) z) (fun c h=>False) (fun k h ⟨z,_,e⟩=>by rw[e,oV (gu (L:=ws) hW k).mm,oV (F:=newF p) (Zn _)];exact⟨rfl,rfl⟩) (fun _ _ h=>h.elim) ⟨true,fun _=>rfl,by rw[<- eS];rfl⟩ ?_ ?_ ?_
   ·intro l tmps k h x hJ hx
    obtain⟨z,hz,rfl⟩:=hJ
    have hk:k<ws.length:=by have h5:=(Za.1 hx).1;rwa [Zr] at h5
    rw[aan hk] at hx
    cases hx
    have hwk:(Di.gt [] ws k).length<=1000000:=by have h5:=RN ws k;rw[ni hk,Zc,Di.av [] k hk] at h5;omega
    have hlen:((iV (newF p) ws k)++tY (aO (cE (newF p) ws k) (Di.gt [] ws k)).2.1 (aO (cE (newF p) ws k) (Di.gt [] ws k)).2.2).length<=1099511627776:=by have h5:=oJ (L:=ws) hW (k+1);exact Zz h5 (by omega)
    have hlk:=zS (s:=(Di.gt [] ws k)) (gu (L:=ws) hW k)
    obtain⟨hl1,ug,Wn⟩:=hlk
    show Round _ _ _ _ _ _ _ _ _ (nh (jL (ws.drop (k+1))) (iV (newF p) ws k) (cE (newF p) ws k) z++[.loop _ .ready none])
    iterate 3 refine af ?_
    refine⟨rfl,P0 (gu (L:=ws) hW k).mm (oV (F:=newF p) (Zn _)),?_⟩
    rw[J5 (gu (L:=ws) hW k).mm (oV (F:=newF p) (Zn _))]
    have YW:∀ σ:Nat->Option Nat,σ 0=some 0->σ 1=some 1->σ 2=some 2->fG σ [(7,.ptr 1 0),(32,.func (.func 82) [] [.ptr 2 0]),(6,.ptr 0 0)]=[(7,.ptr 1 0),(32,.func (.func 82) [] [.ptr 2 0]),(6,.ptr 0 0)]:=fun σ e0 e1 e2=>by simp only[fG,aZ,bE,e0,e1,e2]
    refine aC.to (W6 (T2:=[(8,.p (.str (sB ((Di.gt [] ws k)++[10])))),(7,.ptr 1 0),(6,.ptr 0 0)]) (gu (L:=ws) hW k).mm YW (fun σ e0 e1 e2=>by show AF.Sub _ (fG σ ((8,_)::(33,_)::[(7,.ptr 1 0),(32,.func (.func 82) [] [.ptr 2 0]),(6,.ptr 0 0)]));simp only[fG,aZ,bE,e0,e1,e2];exact KS)) ?_
    iterate 2 refine af ?_
    refine aC.Bu 8 (cE (newF p) ws k) (Di.gt [] ws k) mixed (by kernel_rfl) (by decide) ?_
    refine cA.cons 35 rfl rfl rfl (fun H0 h0=>aa.load (v:= .ptr 5 0) rfl rfl ai (abP rfl H0 h0)) ?_
    refine cA.cons 36 rfl rfl rfl (fun _ _=>aa.move rfl rfl) ?_
    refine cA.cons 37 rfl rfl rfl (fun _ _=>aa.fT (PR (Di.gt [] ws k) hwk) rfl rfl rfl rfl ai) ?_
    refine cA.lay 38 rfl rfl rfl (Wv.fT (yp (yY _ (cE (newF p) ws k) z hz) (gu (L:=ws) hW k) (Di.gt [] ws k)) (fun x H2 h=>⟨h.1,h.2⟩) rfl rfl rfl rfl ai) ?_
    refine cA.cons 34 rfl rfl rfl (fun _ _=>aa.move rfl rfl) ?_
    refine cA.cons 39 rfl rfl rfl (fun _ _=>aa.extract rfl rfl rfl) ?_
    refine cA.cons 40 rfl rfl rfl (fun _ _=>aa.extract rfl rfl rfl) ?_
    refine cA.cons 9 rfl rfl rfl (fun _ _=>aa.assign rfl rfl) ?_
    refine cA.nil ?_
    rintro H2 ⟨⟨z2,q,im,qs,hfl⟩,hlow⟩
    iterate 2 refine af ?_
    refine aC.to (IP (T2:=[(9,.p (.str (sB (aO (cE (newF p) ws k) (Di.gt [] ws k)).2.1))),(10,.p (.int .i64 (aO (cE (newF p) ws k) (Di.gt [] ws k)).2.2)),(7,.ptr 1 0)]) rfl hfl hlow KS rfl) ?_
    iterate 6 refine af ?_
    refine Ki (fun gQ=> ?_) fun gQ=> ?_
    ·have hne:(aO (cE (newF p) ws k) (Di.gt [] ws k)).2.2≠0:=by simpa using gQ
     refine af ?_
     refine Kc (aa.aJ rfl rfl mO) ?_
     refine af ?_
     refine Kc (aa.aJ rfl rfl lD) ?_
     refine Kc (aa.aF rfl ai (by decide) rfl rfl rfl) ?_
     refine Kc (Kp (dJ [.str Bl,.num (aO (cE (newF p) ws k) (Di.gt [] ws k)).2.2] Kn Kn (gq (by decide) (fA (by omega) gM)))) ?_
     iterate 4 refine af ?_
     exact Yk
    ·have wW:(aO (cE (newF p) ws k) (Di.gt [] ws k)).2.2=0:=by simpa using gQ
     iterate 3 refine af ?_
     exact Yk
   ·rintro h ⟨z,hz,e⟩
    rw[Zr] at e
    subst e
    refine aC.uG (show[qE 4,wC 89 1 3 (iV (newF p) ws ws.length),ue (jL (ws.drop ws.length)),wF 5 (iV (newF p) ws ws.length)]++(cX 4 (cE (newF p) ws ws.length) z++[.dead])=_ from by unfold nh;rw[ZM]) ?_
    refine aC.to (Up (T2:=[(7,.ptr 0 0)]) (fun σ e=>by simp only[fG,aZ,bE,e];exact KS)) ?_
    iterate 2 refine af ?_
    refine aq.BG 51 (N5 _ (by have:=oJ (L:=ws) hW ws.length;omega)) rfl rfl rfl rfl rfl rfl rfl ai (fun v H2 jJ=> ?_)
    obtain⟨rfl,rfl⟩:=jJ
    iterate 4 refine af ?_
    have eO:=sX (newF p) ws ws.length (Zg _)
    rw[ZT] at eO
    exact Fin.bq (xs:=[.str (sB (xF (newF p) ws)),.int .i64 0]) rfl ⟨_,_,rfl,rfl,⟨_,_,rfl,rfl,rfl⟩⟩ (by show[V.p (.str (sB (iV (newF p) ws ws.length))),_]=_;rw[eO];rfl) rfl
   ·exact qU
end Go.Proofs.YtchiinjiflgepaaGreatDoor
end
