/-
 Chapter 4, the program: Plan: what a step of the search is handed, and hands back.
 Chapter 4, the program: Plan: the search where no draw is left, and where the answer is known.
 Chapter 4, the program: Plan: the search where draws are left.
 Across chapters 4 and 15: leads that are drawn by a plan. No program in sight.
 Chapter 4, the program: Plan.
 The law TopPlan.
-/
import Derived.Test.YtibffijhebobmaaGreatDoorMzTF
import Derived.Test.YtibffijhebobmaaGreatDoorMzTK
import Derived.Test.YtibffijhebobmaaGreatDoorFaTF
import Derived.Test.YtibffijhebobmaaGreatDoorMzTJ
import Derived.Test.YtibffijhebobmaaGreatDoorMzTM
import Derived.Test.YtibffijhebobmaaGreatDoorPmT
import Derived.Test.YtibffijhebobmaaGreatDoorMzTI
import Derived.Test.YtibffijhebobmaaGreatDoorMzTZ
theorem qS{A:Prop}(h:A:=by
 show p.dies.length - (i+1)<p.dies.length - i
 omega):A:=h
theorem D9{A:Prop}(h:A:=by
 iterate 3 refine af ?_
 refine aF.tW (H':=mw p l ms2++[.cells ((cS (oU p l s k i)).map .p) 134,.cells ((cS ⟨[],0,false⟩).map .p) 134,.cells ((s.next i (gt aH.d l k).len).cells.map .p) 132,.cells ((cS (c7 p (l.drop (k+1)) (s.next i (gt aH.d l k).len))).map .p) 134,.dead,.dead,.cells ((cS (dj p s (c7 p (l.drop (k+1)) (s.next i (gt aH.d l k).len)) i)).map .p) 134]) (by rw[eo]) ?_
 iterate 2 refine af ?_
 refine Kc (Kl (.p (.bool (oU p l s k i).is))) ?_
 iterate 2 refine af ?_
 refine Ki (fun zp=> ?_) fun zp=> ?_
 ·have hb6:(oU p l s k i).is=false:=by simpa using zp
  refine af ?_
  refine Kc (Kl (.p (fF (dj p s (c7 p (l.drop (k+1)) (s.next i (gt aH.d l k).len)) i)))) ?_
  refine Kz (aa.store (H':=mw p l ms2++[.cells ((cS (dj p s (c7 p (l.drop (k+1)) (s.next i (gt aH.d l k).len)) i)).map .p) 134,.cells ((cS ⟨[],0,false⟩).map .p) 134,.cells ((s.next i (gt aH.d l k).len).cells.map .p) 132,.cells ((cS (c7 p (l.drop (k+1)) (s.next i (gt aH.d l k).len))).map .p) 134,.dead,.dead,.cells ((cS (dj p s (c7 p (l.drop (k+1)) (s.next i (gt aH.d l k).len)) i)).map .p) 134]) rfl rfl rfl rfl (hY (dj p s (c7 p (l.drop (k+1)) (s.next i (gt aH.d l k).len)) i)) an rfl rfl) ?_
  iterate 2 refine af ?_
  refine Kc (Kl (.p (fF (dj p s (c7 p (l.drop (k+1)) (s.next i (gt aH.d l k).len)) i)))) ?_
  refine Kc (Kl (.p (fF (dj p s (c7 p (l.drop (k+1)) (s.next i (gt aH.d l k).len)) i)))) ?_
  refine Kc (Kp (GQ (dj p s (c7 p (l.drop (k+1)) (s.next i (gt aH.d l k).len)) i) (dj p s (c7 p (l.drop (k+1)) (s.next i (gt aH.d l k).len)) i))) ?_
  refine Kz (aa.store (H':=mw p l ms2++[.cells ((cS (if (dj p s (c7 p (l.drop (k+1)) (s.next i (gt aH.d l k).len)) i).cost<(dj p s (c7 p (l.drop (k+1)) (s.next i (gt aH.d l k).len)) i).cost then(dj p s (c7 p (l.drop (k+1)) (s.next i (gt aH.d l k).len)) i) else(dj p s (c7 p (l.drop (k+1)) (s.next i (gt aH.d l k).len)) i))).map .p) 134,.cells ((cS ⟨[],0,false⟩).map .p) 134,.cells ((s.next i (gt aH.d l k).len).cells.map .p) 132,.cells ((cS (c7 p (l.drop (k+1)) (s.next i (gt aH.d l k).len))).map .p) 134,.dead,.dead,.cells ((cS (dj p s (c7 p (l.drop (k+1)) (s.next i (gt aH.d l k).len)) i)).map .p) 134]) rfl rfl rfl rfl (hY (if (dj p s (c7 p (l.drop (k+1)) (s.next i (gt aH.d l k).len)) i).cost<(dj p s (c7 p (l.drop (k+1)) (s.next i (gt aH.d l k).len)) i).cost then(dj p s (c7 p (l.drop (k+1)) (s.next i (gt aH.d l k).len)) i) else(dj p s (c7 p (l.drop (k+1)) (s.next i (gt aH.d l k).len)) i))) an rfl rfl) ?_
  iterate 2 refine af ?_
  refine Kc (aa.add (m:=((i+1:Nat):Int)) rfl rfl rfl ((aK ?_).trans ?_)) ?_
  ·omega
  ·omega
  iterate 2 refine af ?_
  refine⟨(i+1,ms2),?_,?_,?_⟩
  ·exact⟨nA,hm2⟩
  ·exact qS
  have eb:(if (dj p s (c7 p (l.drop (k+1)) (s.next i (gt aH.d l k).len)) i).cost<(dj p s (c7 p (l.drop (k+1)) (s.next i (gt aH.d l k).len)) i).cost then(dj p s (c7 p (l.drop (k+1)) (s.next i (gt aH.d l k).len)) i) else(dj p s (c7 p (l.drop (k+1)) (s.next i (gt aH.d l k).len)) i))=nP (oU p l s k i) (dj p s (c7 p (l.drop (k+1)) (s.next i (gt aH.d l k).len)) i):=by
   unfold nP
   rw[hb6]
   exact ite_self _
  rw[qW,BH hyes BN,<- eb]
  refine To.trans (To.tW (H3:=(mw p l ms2++[.cells ((cS (if (dj p s (c7 p (l.drop (k+1)) (s.next i (gt aH.d l k).len)) i).cost<(dj p s (c7 p (l.drop (k+1)) (s.next i (gt aH.d l k).len)) i).cost then(dj p s (c7 p (l.drop (k+1)) (s.next i (gt aH.d l k).len)) i) else(dj p s (c7 p (l.drop (k+1)) (s.next i (gt aH.d l k).len)) i))).map .p) 134,.cells ((cS ⟨[],0,false⟩).map .p) 134])++[.cells ((s.next i (gt aH.d l k).len).cells.map .p) 132,.cells ((cS (c7 p (l.drop (k+1)) (s.next i (gt aH.d l k).len))).map .p) 134,.dead,.dead,.cells ((cS (dj p s (c7 p (l.drop (k+1)) (s.next i (gt aH.d l k).len)) i)).map .p) 134]) To.refl rfl) (To.cut (zY p l ms2 (sE _ _)) Kn ?_ ?_)
  ·exact KS
  ·rfl
 ·have hb6:(oU p l s k i).is=true:=by simpa using zp
  iterate 2 refine af ?_
  refine Kc (Kl (.p (fF (oU p l s k i)))) ?_
  refine Kc (Kl (.p (fF (dj p s (c7 p (l.drop (k+1)) (s.next i (gt aH.d l k).len)) i)))) ?_
  refine Kc (Kp (GQ (oU p l s k i) (dj p s (c7 p (l.drop (k+1)) (s.next i (gt aH.d l k).len)) i))) ?_
  refine Kz (aa.store (H':=mw p l ms2++[.cells ((cS (if (dj p s (c7 p (l.drop (k+1)) (s.next i (gt aH.d l k).len)) i).cost<(oU p l s k i).cost then(dj p s (c7 p (l.drop (k+1)) (s.next i (gt aH.d l k).len)) i) else(oU p l s k i))).map .p) 134,.cells ((cS ⟨[],0,false⟩).map .p) 134,.cells ((s.next i (gt aH.d l k).len).cells.map .p) 132,.cells ((cS (c7 p (l.drop (k+1)) (s.next i (gt aH.d l k).len))).map .p) 134,.dead,.dead,.cells ((cS (dj p s (c7 p (l.drop (k+1)) (s.next i (gt aH.d l k).len)) i)).map .p) 134]) rfl rfl rfl rfl (hY (if (dj p s (c7 p (l.drop (k+1)) (s.next i (gt aH.d l k).len)) i).cost<(oU p l s k i).cost then(dj p s (c7 p (l.drop (k+1)) (s.next i (gt aH.d l k).len)) i) else(oU p l s k i))) an rfl rfl) ?_
  iterate 2 refine af ?_
  refine Kc (aa.add (m:=((i+1:Nat):Int)) rfl rfl rfl ((aK ?_).trans ?_)) ?_
  ·omega
  ·omega
  iterate 2 refine af ?_
  refine⟨(i+1,ms2),?_,?_,?_⟩
  ·exact⟨nA,hm2⟩
  ·exact qS
  have eb:(if (dj p s (c7 p (l.drop (k+1)) (s.next i (gt aH.d l k).len)) i).cost<(oU p l s k i).cost then(dj p s (c7 p (l.drop (k+1)) (s.next i (gt aH.d l k).len)) i) else(oU p l s k i))=nP (oU p l s k i) (dj p s (c7 p (l.drop (k+1)) (s.next i (gt aH.d l k).len)) i):=by
   unfold nP
   rw[hb6]
   rfl
  rw[qW,BH hyes BN,<- eb]
  refine To.trans (To.tW (H3:=(mw p l ms2++[.cells ((cS (if (dj p s (c7 p (l.drop (k+1)) (s.next i (gt aH.d l k).len)) i).cost<(oU p l s k i).cost then(dj p s (c7 p (l.drop (k+1)) (s.next i (gt aH.d l k).len)) i) else(oU p l s k i))).map .p) 134,.cells ((cS ⟨[],0,false⟩).map .p) 134])++[.cells ((s.next i (gt aH.d l k).len).cells.map .p) 132,.cells ((cS (c7 p (l.drop (k+1)) (s.next i (gt aH.d l k).len))).map .p) 134,.dead,.dead,.cells ((cS (dj p s (c7 p (l.drop (k+1)) (s.next i (gt aH.d l k).len)) i)).map .p) 134]) To.refl rfl) (To.cut (zY p l ms2 (sE _ _)) Kn ?_ ?_)
  ·exact KS
  ·rfl):A:=h
theorem Ei{A:Prop}(h:A:=by
 have he:=Zl Wj
 iterate 5 refine af ?_
 refine Ki (fun hc8=> ?_) fun hc8=> ?_
 ·exfalso
  rw[(Vd hp hd hlen xg hk0).resolve_left he] at hc8
  simp at hc8
 ·iterate 3 refine af ?_
  refine Kc (aa.add (m:=((k+1:Nat):Int)) rfl rfl rfl ((aK ?_).trans ?_)) ?_
  ·omega
  ·omega
  iterate 2 refine af ?_
  refine⟨(k+1,z2),?_,?_,?_⟩
  ·exact⟨hk0,Av⟩
  ·show l.length - (k+1)<l.length - k
   omega
  dsimp only
  rw[V0 he]
  exact To.sub KS):A:=h
theorem Bi{A:Prop}(h:A:=by
 iterate 4 refine af ?_
 refine Kc (aa.add (m:=((k+1:Nat):Int)) rfl rfl rfl ((aK ?_).trans ?_)) ?_
 ·omega
 ·omega
 iterate 2 refine af ?_
 refine⟨(k+1,z2),?_,?_,?_⟩
 ·exact⟨hk0,Av⟩
 ·show l.length - (k+1)<l.length - k
  omega
 exact To.sub KS):A:=h
theorem D7{A:Prop}(h:A:=by
 unfold bH
 dsimp only
 rw[if_neg (by omega),e1]
 dsimp only
 rw[if_neg (by decide),if_neg (by omega),e2,e3,h.aV,if_neg (by rw[hf];decide)]):A:=h
theorem Cz{A:Prop}(h:A:=by
 have h:=aa.PT (N:=N) (g:=fun r=> .p (fF r)) XJ ho hx hH hy mpS
 rw[hg] at h
 exact h):A:=h
theorem vh{A:Prop}(h:A:=by
 rw[Zb,Sy];omega):A:=h
set_option linter.unusedSimpArgs false
set_option linter.unusedVariables false
section
set_option maxRecDepth 100000
set_option maxHeartbeats 4000000
namespace Go.Proofs.YtibffijhebobmaaGreatDoor.Di
open Go.AF
def JR(p:bn)(l:List aH):List V:=[.p (.ip [cv l] 0),.ptr 0 0,.p (.ip p.cells 0),.ptr 2 0]
def mw(p:bn)(l:List aH)(ms:List (dK×kj)):List ah:=[.cells [.map 1] 127,gO ja (fun r=> .p (fF r)) ms,.cells [.func (.func 67) [] (JR p l)] 128]
def Good(p:bn)(l:List aH)(ms:List (dK×kj)):Prop:=∀ n a,bM n ms=some a->a=c7 p (l.drop n.draw.toNat) n
def Uz(p:bn)(l:List aH)(s:dK):V->List ah->Prop:=fun v H2=>v= .p (fF (c7 p (l.drop s.draw.toNat) s))∧∃ ms x,Good p l ms∧H2=mw p l ms++x
theorem gH(n m:dK)(a:kj):∀ ms:List (dK×kj),bM m (aU n a ms)=if m=n then some a else bM m ms
 | []=>by simp[aU,bM]
 | x::r=>by
  simp only[aU]
  by_cases h:n=x.1
  ·rw[if_pos h]
   simp only[bM]
   by_cases h2:m=n
   ·rw[if_pos h2,if_pos h2]
   ·rw[if_neg h2,if_neg h2,if_neg (fun e=>h2 (e.trans h.symm))]
  ·rw[if_neg h]
   simp only[bM]
   rw[gH n m a r]
   by_cases h2:m=x.1
   ·rw[if_pos h2,if_pos h2,if_neg (fun e=>h (e.symm.trans h2))]
   ·rw[if_neg h2,if_neg h2]
theorem Ot{p:bn}{l:List aH}{ms:List (dK×kj)}{s:dK}(h:Good p l ms):Good p l (aU s (c7 p (l.drop s.draw.toNat) s) ms):=fun n a hg=>by
 rw[gH] at hg
 split at hg
 ·rename_i e;subst e;cases hg;rfl
 ·exact h n a hg
theorem zY{P:Program}(p:bn)(l:List aH)(ms:List (dK×kj)){rest:List ah}(hr:∀ b∈rest,∀ σ,aE σ b=b):VK P (mw p l ms++rest):=pL (by
 intro b hb
 have hl:(mw p l ms++rest).length=rest.length+3:=by rw[Zb,S2];rfl
 have g:∀ i,i<3->below (mw p l ms++rest).length i=some i:=fun i hi=>by rw[hl];unfold below;rw[if_pos (by simp[Nat.blt];omega)]
 rcases Zo.1 hb with hb | hb
 ·have h0:=g 0 (by decide)
  have h1:=g 1 (by decide)
  have h2:=g 2 (by decide)
  unfold mw at hb
  simp only[Zr,KF,or_false] at hb
  rcases hb with rfl | rfl | rfl
  ·simp only[aE,bA,bf,h1]
  ·exact jf _ _ _ _
  ·simp only[JR,aE,bA,bf,h0,h2]
 ·exact hr b hb _)
theorem MW{R:Option Nat}{N κ:Nat}{Q:Post}{T T2:Tm}{o:Oper}{ops:Array Oper}{os:List Oper}{f:Operand}{xs:Array Operand}{ts:Array TypeId}{fv:V}{vs:List V}(d:Nat)(p:bn)(l:List aH)(s:dK)(ms:List (dK×kj))(rest:List ah)(hr:∀ b∈rest,∀ σ,aE σ b=b)(hκ:κ<=3)
    (hp:ax Tryz.prog 67 (.p (ja s)::JR p l) (mw p l ms) (Uz p l s))
    (ho:o.op= .call {callee:= .value f,args:=xs,argTypes:=ts})(hd:o.dst=some d)(hN:bg N (some d)=true)(hg:o.guard=none)(hf:ev T f=some fv)(hxs:jT T xs.toList=some vs)(hc:callee vs fv=some (67,.p (ja s)::JR p l))(Vw:ak Tryz.prog 67=true)(hT:Sub T2 ((d,.p (fF (c7 p (l.drop s.draw.toNat) s)))::T))(hl:eV (below (rest.length+3)) T2=T2)
    (next:∀ ms2,Good p l ms2->aj Tryz.prog R N κ ops os Q T2 (mw p l ms2++rest)):aj Tryz.prog R N κ ops (o::os) Q T (mw p l ms++rest):=by
 have hlen:∀ ms,(mw p l ms++rest).length=rest.length+3:=fun ms=>by rw[Zb,S2];rfl
 refine aj.Au (Qp:=fun _ _=>False) d [0,1,2] hp.LQ rfl ?_ ?_ ?_ (fun _ _ h=>h.elim) ho hd hN hg hf hxs hc Vw (fun _ _ h=>h.elim) (fun v H2 iw=> ?_)
 ·show[aE _ _,aE _ (gO ja (fun r=> .p (fF r)) ms),aE _ _]=[_,gO ja (fun r=> .p (fF r)) ms,_]
  rw[jf]
  rfl
 ·rw[hlen]
  simp[Nat.blt]
 ·rintro v H' ⟨_,ms2,x,_,rfl⟩
  refine⟨by rw[Zb];exact RX 3 _,fun j i y h1 h2 h3=> ?_⟩
  match j,h1 with
  | 0,h1=>cases h1;cases h2
  | 1,h1=>cases h1;cases h2
  | 2,h1=>cases h1;cases h2
 ·obtain⟨rfl,ms2,x,hm,rfl⟩:=iw
  have e:bp (mw p l ms++rest) [0,1,2] (mw p l ms2++x)=(mw p l ms2++rest)++x.map (aE (dS (mw p l ms++rest) [0,1,2])):=by
   show[aE _ _,aE _ (gO ja (fun r=> .p (fF r)) ms2),aE _ _]++rest++_=([_,gO ja (fun r=> .p (fF r)) ms2,_]++rest)++_
   rw[jf]
   rfl
  rw[e]
  refine aj.to (To.cut (zY p l ms2 hr) (by rw[hlen];omega) hT (by rw[hlen];exact hl)) (next ms2 hm)
theorem Fm{p:bn}{l:List aH}{s:dK}{ms:List (dK×kj)}{r:kj}{x:List ah}(hr:r=c7 p (l.drop s.draw.toNat) s)(hm:Good p l ms):Uz p l s (.p (fF r)) (mw p l ms++x):=⟨by rw[hr],ms,x,hm,rfl⟩
theorem mpS:Fj Tryz.prog 127=some (132,fF ⟨[],0,false⟩):=by kernel_rfl
theorem VE{N:Nat}{T:Tm}{H:List ah}{o:Oper}{x y:Operand}{s:dK}{a:kj}{ms:List (dK×kj)}(hg:bM s ms=some a)(ho:o.op= .lookup 127 x y true)(hx:ev T x=some (.map 1))(hy:ev T y=some (.p (ja s)))(hH:H[1]? =some (gO ja (fun r=> .p (fF r)) ms)):aa Tryz.prog N o T H (.p (.tuple [fF a,.bool true])) H:=by
 exact Cz
theorem UX{N:Nat}{T:Tm}{H:List ah}{o:Oper}{x y:Operand}{s:dK}{ms:List (dK×kj)}(hg:bM s ms=none)(ho:o.op= .lookup 127 x y true)(hx:ev T x=some (.map 1))(hy:ev T y=some (.p (ja s)))(hH:H[1]? =some (gO ja (fun r=> .p (fF r)) ms)):aa Tryz.prog N o T H (.p (.tuple [fF ⟨[],0,false⟩,.bool false])) H:=by
 exact Cz
theorem Tv(p:bn)(l:List aH)(s:dK)(ms:List (dK×kj))(hm:Good p l ms)(hk:0<=s.draw∧s.draw<=l.length)(he:s.draw=l.length):ax Tryz.prog 67 [.p (ja s),.p (.ip [cv l] 0),.ptr 0 0,.p (.ip p.cells 0),.ptr 2 0] (mw p l ms) (Uz p l s):=by
 obtain⟨hk0,pQ⟩:=hk
 refine ax.start (N:=121) Tryz.func67 rfl rfl Kn ?_
 iterate 10 refine af ?_
 refine Kc (Kl (.p (.int .i64 s.draw))) ?_
 refine Kc (Kl (.p (cv l))) ?_
 iterate 3 refine af ?_
 refine Ki (fun hc0=> ?_) fun hc0=> ?_
 ·iterate 6 refine af ?_
  have hr:(⟨[],0,true⟩:kj)=c7 p (l.drop s.draw.toNat) s:=by rw[he,AD,List.drop_length];rfl
  exact⟨.inr rfl,_,en.one rfl ⟨_,_,_,rfl,an,rfl⟩,Fm hr hm⟩
 ·exfalso
  simp[he] at hc0
theorem Lc(p:bn)(l:List aH)(s:dK)(ms:List (dK×kj))(a:kj)(hm:Good p l ms)(hk:0<=s.draw∧s.draw<=l.length)(he:s.draw≠l.length)(hg:bM s ms=some a):ax Tryz.prog 67 [.p (ja s),.p (.ip [cv l] 0),.ptr 0 0,.p (.ip p.cells 0),.ptr 2 0] (mw p l ms) (Uz p l s):=by
 obtain⟨hk0,pQ⟩:=hk
 refine ax.start (N:=121) Tryz.func67 rfl rfl Kn ?_
 iterate 10 refine af ?_
 refine Kc (Kl (.p (.int .i64 s.draw))) ?_
 refine Kc (Kl (.p (cv l))) ?_
 iterate 3 refine af ?_
 refine Ki (fun hc0=> ?_) fun hc0=> ?_
 ·exfalso
  exact he (Zk hc0)
 ·iterate 4 refine af ?_
  refine Kc (Kl (.map 1)) ?_
  refine Kc (Kl (.p (ja s))) ?_
  refine Kc (VE hg rfl rfl rfl rfl) ?_
  iterate 4 refine af ?_
  refine Kz (aa.store (H':=mw p l ms++[.cells ((cS ⟨[],0,false⟩).map .p) 134,.cells ((cS a).map .p) 134]) rfl rfl rfl rfl (hY a) an rfl rfl) ?_
  iterate 6 refine af ?_
  refine aF.BW rfl ?_
  iterate 2 refine af ?_
  refine Kc (Kl (.p (fF a))) ?_
  refine Kz (aa.store (H':=mw p l ms++[.cells ((cS a).map .p) 134,.cells ((cS a).map .p) 134]) rfl rfl rfl rfl (hY a) an rfl rfl) ?_
  iterate 2 refine af ?_
  exact⟨.inr rfl,_,en.one rfl ⟨_,_,_,rfl,an,rfl⟩,Fm (hm s a hg) hm⟩
theorem WR{s:dK}{i:Nat}:shift ((((i:Nat):Int)).toNat*1) (.p (.ip s.cells (0+2)))=some (.p (.ip s.cells (2+i))):=by
 show some _=some _
 rw[AD,JW,uf]
theorem UZ{H:List ah}{s:dK}{i j:Nat}{e:TypeId}(hi:i<4)(h:H[j]? =some (.cells (s.cells.map .p) e)):cN H false 1 (.ptr j (0+2+i*1))=some (.p (.int .i64 (s.used i))):=by
 simp only[cN,h]
 match i,hi with
 | 0,_=>rfl
 | 1,_=>rfl
 | 2,_=>rfl
 | 3,_=>rfl
theorem IB{p:bn}{s:dK}{w:aH}{go:dK->kj}{b:kj}{i:Nat}(h:nX p (gt dw.d p.dies i) (s.used i) w=false∨(go (s.next i w.len)).is=false):jE p s w go b i=b:=by
 unfold jE
 rw[if_neg]
 rintro⟨h1,h2⟩
 rcases h with h | h
 ·rw[h] at h1;cases h1
 ·rw[h] at h2;cases h2
theorem BH{p:bn}{s:dK}{w:aH}{go:dK->kj}{b:kj}{i:Nat}(h1:nX p (gt dw.d p.dies i) (s.used i) w=true)(h2:(go (s.next i w.len)).is=true):jE p s w go b i=nP b (dj p s (go (s.next i w.len)) i):=by
 unfold jE
 rw[if_pos ⟨h1,h2⟩]
theorem NO{H:List ah}(pl:List Int):mY H 1 (.p (ng pl))=some ((pl.map (PV.int .i64)).map .p,pl.length):=by
 cases pl with
 | nil=>rfl
 | cons x r=>
  have e:(x::r).flatMap bY=(x::r).map (PV.int .i64):=by
   generalize x::r=l
   induction l with
   | nil=>rfl
   | cons y l ih=>rw[ZH,ih];rfl
  show mY H 1 (.p (.is ((x::r).flatMap bY) (x::r).length))=_
  rw[e]
  have:=lM (H:=H) (sz:=1) (xs:=(x::r).map (PV.int .i64)) (n:=(x::r).length) (by simp)
  exact this
theorem N8(pl:List Int):((pl.map (PV.int .i64)).map V.p).all ig=true:=by
 rw[Zx]
 intro v hv
 obtain⟨x,hx,rfl⟩:=uE.1 hv
 obtain⟨y,_,rfl⟩:=uE.1 hx
 rfl
theorem sE(a b:List PV){e1 e2:TypeId}:∀ x∈[ah.cells (a.map .p) e1,.cells (b.map .p) e2],∀ σ,aE σ x=x:=fun x hx σ=>by
 simp only[Zr,KF,or_false] at hx
 rcases hx with rfl | rfl
 ·exact congrArg (ah.cells · _) (aP σ a)
 ·exact congrArg (ah.cells · _) (aP σ b)
theorem MI(a b c:List PV){e1 e2 e3:TypeId}:∀ x∈[ah.cells (a.map .p) e1,.cells (b.map .p) e2,.cells (c.map .p) e3],∀ σ,aE σ x=x:=fun x hx σ=>by
 simp only[Zr,KF,or_false] at hx
 rcases hx with rfl | rfl | rfl
 ·exact congrArg (ah.cells · _) (aP σ a)
 ·exact congrArg (ah.cells · _) (aP σ b)
 ·exact congrArg (ah.cells · _) (aP σ c)
def dK.pre(s:dK)(k i:Nat):dK:=⟨((k+1:Nat):Int),(i:Int),s.u0,s.u1,s.u2,s.u3⟩
theorem Up{H:List ah}{s:dK}{k i j:Nat}{n:Int}{e:TypeId}(hi:i<4)(ek:s.draw=((k:Nat):Int))(h:H[j]? =some (.cells ((s.pre k i).cells.map .p) e)):fK H j (0+2+i*1) [.p (.int .i64 (s.used i+n))]=some (H.set j (.cells ((s.next i n).cells.map .p) e)):=by
 simp only[fK,h]
 have e1:((k+1:Nat):Int)=s.draw+1:=by rw[ek];push_cast;rfl
 match i,hi with
 | 0,_=>simp[dK.pre,dK.cells,dK.next,dK.used,setAt,e1]
 | 1,_=>simp[dK.pre,dK.cells,dK.next,dK.used,setAt,e1]
 | 2,_=>simp[dK.pre,dK.cells,dK.next,dK.used,setAt,e1]
 | 3,_=>simp[dK.pre,dK.cells,dK.next,dK.used,setAt,e1]
theorem TD(σ:Nat->Option Nat)(a:PV)(xs:List PV){e:TypeId}:aE σ (.row ([.p a]++xs.map .p) e)= .row ([.p a]++xs.map .p) e:=congrArg (ah.row · e) (by rw[bF,aP];rfl)
theorem opv{P:Program}{N:Nat}{o:Oper}{T:Tm}{H H':List ah}{v v':V}(e:v=v')(h:aa P N o T H v H'):aa P N o T H v' H':=e▸h
theorem Pr(i:Nat)(pl:List Int)(c:Int):V.p (.agg [.is ([.int .i64 ((i:Nat):Int)]++pl.map (PV.int .i64)) (1+pl.length),.int .i64 c,.bool true])= .p (fF ⟨((i:Nat):Int)::pl,c,true⟩):=by
 have e:∀ l:List Int,l.map (PV.int .i64)=l.flatMap bY:=fun l=>by
  induction l with
  | nil=>rfl
  | cons y l ih=>rw[ZH,<- ih];rfl
 rw[e,S2]
 rfl
theorem PW(p:bn)(l:List aH)(ms:List (dK×kj))(a b c d:List PV){e1 e2 e3 e4:TypeId}:(mw p l ms++[ah.cells (a.map .p) e1,.cells (b.map .p) e2,.cells (c.map .p) e3,.cells (d.map .p) e4]).map (aE (sg 7 []))=mw p l ms++[ah.cells (a.map .p) e1,.cells (b.map .p) e2,.cells (c.map .p) e3,.cells (d.map .p) e4]:=by
 have h:∀(x:List PV) e,aE (sg 7 []) (.cells (x.map .p) e)= .cells (x.map .p) e:=fun x e=>congrArg (ah.cells · e) (aP _ x)
 show[aE _ _,aE _ (gO ja (fun r=> .p (fF r)) ms),aE _ _,aE _ _,aE _ _,aE _ _,aE _ _]=_
 rw[jf,h,h,h,h]
 rfl
theorem S4(p:bn)(l:List aH)(s:dK)(ms:List (dK×kj))(hp:cL p=true)(hd:cG l=true)(hs:J1 l s)(he:s.draw≠l.length)(hm:Good p l ms)(hg:bM s ms=none)(FU:∀(s2:dK) (ms2:List (dK×kj)),s2.draw=s.draw+1->J1 l s2->Good p l ms2->ax Tryz.prog 67 (.p (ja s2)::JR p l) (mw p l ms2) (Uz p l s2)):ax Tryz.prog 67 [.p (ja s),.p (.ip [cv l] 0),.ptr 0 0,.p (.ip p.cells 0),.ptr 2 0] (mw p l ms) (Uz p l s):=by
 obtain⟨⟨hn1,hn4⟩,Vn,o4,hdn⟩:=c9 hp
 obtain⟨hl8,O4⟩:=dh hd
 obtain⟨hk0,pQ⟩:=hs.dr
 obtain⟨k,ek⟩:∃ k:Nat,s.draw=((k:Nat):Int):=⟨s.draw.toNat,by omega⟩
 have hk:k<l.length:=by omega
 have hwn:=O4 _ (bC aH.d hk)
 obtain⟨Uv,hw2⟩:=jh hwn
 have hub:=hs.us
 refine ax.start (N:=121) Tryz.func67 rfl rfl Kn ?_
 iterate 10 refine af ?_
 refine Kc (Kl (.p (.int .i64 s.draw))) ?_
 refine Kc (Kl (.p (cv l))) ?_
 iterate 3 refine af ?_
 refine Ki (fun hc0=> ?_) fun hc0=> ?_
 ·exfalso
  exact he (Zk hc0)
 ·iterate 4 refine af ?_
  refine Kc (Kl (.map 1)) ?_
  refine Kc (Kl (.p (ja s))) ?_
  refine Kc (UX hg rfl rfl rfl rfl) ?_
  iterate 11 refine af ?_
  refine aF.tP rfl ?_
  iterate 7 refine af ?_
  refine Kc (Kl (.p (oZ p.dies))) ?_
  iterate 4 refine af ?_
  refine aF.fE [1,2,3,4,5,6,30,117,118,119,120] (fun g=>[(31,.p (.int .i64 ((g.1:Nat):Int)))]) (fun g=>(mw p l g.2++[.cells ((cS (oU p l s k g.1)).map .p) 134,.cells ((cS ⟨[],0,false⟩).map .p) 134])) (fun g=>g.1<=p.dies.length∧Good p l g.2) (fun g=>p.dies.length - g.1) (0,ms) ⟨Zs _,hm⟩ (To.sub KS) (fun g hg=> ?_)
  obtain⟨i,ms⟩:=g
  obtain⟨hil,hm⟩:=hg
  dsimp only at hil hm ⊢
  iterate 5 refine af ?_
  refine Ki (fun jR=> ?_) fun jR=> ?_
  ·have nA:i<p.dies.length:=by have h:=Zk jR;omega
   have hi4:i<4:=by omega
   have hui:=hub i hi4
   iterate 12 refine af ?_
   refine Kc (aa.kR (v:= .p (.ip s.cells (2+i))) rfl rfl rfl LO MT (by omega) (by omega) WR) ?_
   refine Kc (aa.load (v:= .p (.int .i64 (s.used i))) rfl rfl an (Yw hi4)) ?_
   iterate 4 refine af ?_
   refine aF.aD 20 mixed (by kernel_rfl) (by decide) ?_
   refine Kq (Kl (.p (dO p))) ?_
   refine af ?_
   refine Kq (Kp (DZ p i nA)) ?_
   iterate 2 refine af ?_
   refine Kq (Kl (.p (cv l))) ?_
   refine af ?_
   refine Kq (aa.load (v:= .p (.int .i64 ((k:Nat):Int))) rfl rfl an (by show some (V.p (PV.int .i64 s.draw))=_;rw[ek])) ?_
   refine Kq (aa.aN (g:=gt aH.d l) (k:=k) (aC aH.d) rfl rfl rfl an oQ rfl (fun _=>rfl) (by decide) hk) ?_
   refine af ?_
   refine Kq (Kl (.p (.int .i64 (gt aH.d l k).len))) ?_
   refine Kq (aa.add (m:=(s.used i+(gt aH.d l k).len)) rfl rfl rfl ((aK ?_).trans ?_)) ?_
   ·omega
   ·omega
   refine Kq (Kl (.p (cv l))) ?_
   refine af ?_
   refine Kq (aa.load (v:= .p (.int .i64 ((k:Nat):Int))) rfl rfl an (by show some (V.p (PV.int .i64 s.draw))=_;rw[ek])) ?_
   refine Kq (aa.aN (g:=gt aH.d l) (k:=k) (aC aH.d) rfl rfl rfl an oQ rfl (fun _=>rfl) (by decide) hk) ?_
   refine af ?_
   refine Kq (Kl (.p (.agg [.int .i64 (gt aH.d l k).lo,.int .i64 (gt aH.d l k).hi]))) ?_
   refine Kq (Kp (AT p (gt dw.d p.dies i) (s.used i) (s.used i+(gt aH.d l k).len) (gt aH.d l k) o4 (hdn _ (bC dw.d nA)) (by omega) (by omega) hwn)) ?_
   refine Kq (aa.gr rfl rfl) ?_
   refine aA.nil ?_
   refine af ?_
   refine Ki (fun pG=> ?_) fun pG=> ?_
   ·have hno:nX p (gt dw.d p.dies i) (s.used i) (gt aH.d l k)=false:=by have h:=pG;rw[F5] at h;exact h
    refine aF.exit ?_
    refine af ?_
    refine Kc (aa.add (m:=((i+1:Nat):Int)) rfl rfl rfl ((aK ?_).trans ?_)) ?_
    ·omega
    ·omega
    iterate 2 refine af ?_
    refine⟨(i+1,ms),?_,?_,?_⟩
    ·exact⟨nA,hm⟩
    ·exact qS
    rw[qW,IB (.inl hno)]
    exact To.sub KS
   ·have hyes:nX p (gt dw.d p.dies i) (s.used i) (gt aH.d l k)=true:=by have h:=pG;rw[Wl] at h;exact h
    iterate 4 refine af ?_
    refine Kc (aa.load (v:= .p (.int .i64 ((k:Nat):Int))) rfl rfl an (by show some (V.p (PV.int .i64 s.draw))=_;rw[ek])) ?_
    refine Kc (aa.add (m:=((k+1:Nat):Int)) rfl rfl rfl ((aK ?_).trans ?_)) ?_
    ·omega
    ·omega
    iterate 2 refine af ?_
    refine Kc (Kl (.p (.agg [.int .i64 s.u0,.int .i64 s.u1,.int .i64 s.u2,.int .i64 s.u3]))) ?_
    refine Kc (aa.sF (v:= .p (ja (s.pre k i))) rfl an rfl rfl rfl) ?_
    iterate 4 refine af ?_
    refine aF.aD 13 mixed (by kernel_rfl) (by decide) ?_
    iterate 2 refine af ?_
    refine Kq (aa.ow rfl rfl rfl LO MT hi4) ?_
    refine Kq (aa.load (v:= .p (.int .i64 (s.used i))) rfl rfl an (UZ (s:=s.pre k i) hi4 rfl)) ?_
    refine Kq (Kl (.p (cv l))) ?_
    refine af ?_
    refine Kq (aa.load (v:= .p (.int .i64 ((k:Nat):Int))) rfl rfl an (by show some (V.p (PV.int .i64 s.draw))=_;rw[ek])) ?_
    refine Kq (aa.aN (g:=gt aH.d l) (k:=k) (aC aH.d) rfl rfl rfl an oQ rfl (fun _=>rfl) (by decide) hk) ?_
    refine af ?_
    refine Kq (Kl (.p (.int .i64 (gt aH.d l k).len))) ?_
    refine Kq (aa.add (m:=(s.used i+(gt aH.d l k).len)) rfl rfl rfl ((aK ?_).trans ?_)) ?_
    ·omega
    ·omega
    refine af ?_
    refine Kq (aa.ow rfl rfl rfl LO MT hi4) ?_
    refine aA.nil ?_
    refine Kz (aa.store (H':=(mw p l ms++[.cells ((cS (oU p l s k i)).map .p) 134,.cells ((cS ⟨[],0,false⟩).map .p) 134,.cells ((s.next i (gt aH.d l k).len).cells.map .p) 132])) rfl rfl rfl rfl rfl an rfl (Up hi4 ek rfl)) ?_
    iterate 5 refine af ?_
    refine MW 80 p l (s.next i (gt aH.d l k).len) ms [.cells ((cS (oU p l s k i)).map .p) 134,.cells ((cS ⟨[],0,false⟩).map .p) 134,.cells ((s.next i (gt aH.d l k).len).cells.map .p) 132] (MI _ _ _) (Zf 3) (FU (s.next i (gt aH.d l k).len) ms (ou hi4) (Qy hs (by omega) Uv hi4) hm) rfl rfl rfl rfl rfl rfl rfl an (T2:=[(80,.p (fF (c7 p (l.drop (s.next i (gt aH.d l k).len).draw.toNat) (s.next i (gt aH.d l k).len)))),(1,.p (.ip [cv l] 0)),(2,.ptr 0 0),(3,.p (.ip p.cells 0)),(4,.ptr 2 0),(5,.p (.ip s.cells 0)),(6,.ptr 3 0),(9,.p (.int .i64 ((i:Nat):Int))),(30,.p (.int .i64 (p.dies.length:Int))),(31,.p (.int .i64 ((i:Nat):Int)))]) KS rfl (fun ms2 hm2=> ?_)
    have eN:l.drop (s.next i (gt aH.d l k).len).draw.toNat=l.drop (k+1):=by rw[ou hi4,ek];rfl
    rw[eN]
    refine af ?_
    refine Kz (aa.store (H':=mw p l ms2++[.cells ((cS (oU p l s k i)).map .p) 134,.cells ((cS ⟨[],0,false⟩).map .p) 134,.cells ((s.next i (gt aH.d l k).len).cells.map .p) 132,.cells ((cS (c7 p (l.drop (k+1)) (s.next i (gt aH.d l k).len))).map .p) 134]) rfl rfl rfl rfl (hY (c7 p (l.drop (k+1)) (s.next i (gt aH.d l k).len))) an rfl rfl) ?_
    iterate 5 refine af ?_
    refine Kc (Kl (.p (.bool (c7 p (l.drop (k+1)) (s.next i (gt aH.d l k).len)).is))) ?_
    iterate 2 refine af ?_
    refine Ki (fun xM=> ?_) fun xM=> ?_
    ·have aaI:(c7 p (l.drop (k+1)) (s.next i (gt aH.d l k).len)).is=false:=by simpa using xM
     refine aF.exit ?_
     refine af ?_
     refine Kc (aa.add (m:=((i+1:Nat):Int)) rfl rfl rfl ((aK ?_).trans ?_)) ?_
     ·omega
     ·omega
     iterate 2 refine af ?_
     refine⟨(i+1,ms2),?_,?_,?_⟩
     ·exact⟨nA,hm2⟩
     ·exact qS
     rw[qW,IB (.inr aaI)]
     refine To.trans (To.tW (H3:=(mw p l ms2++[.cells ((cS (oU p l s k i)).map .p) 134,.cells ((cS ⟨[],0,false⟩).map .p) 134])++[.cells ((s.next i (gt aH.d l k).len).cells.map .p) 132,.cells ((cS (c7 p (l.drop (k+1)) (s.next i (gt aH.d l k).len))).map .p) 134]) To.refl rfl) (To.cut (zY p l ms2 (sE _ _)) Kn ?_ ?_)
     ·exact KS
     ·rfl
    ·have BN:(c7 p (l.drop (k+1)) (s.next i (gt aH.d l k).len)).is=true:=by simpa using xM
     have hpl:(c7 p (l.drop (k+1)) (s.next i (gt aH.d l k).len)).plan.length<=8:=by rw[qk BN,KP];omega
     have hcb:=Ik hp (l.drop (k+1)) (s.next i (gt aH.d l k).len)
     have hld:(l.drop (k+1)).length<=8:=by rw[KP];omega
     iterate 2 refine af ?_
     refine aF.bQ 11 3 [7,8,9] [([],false),([7],true),([],false),([],false),([8,7],true),([],false),([],false),([],false),([],false),([8],true),([9],true)] mixed (by kernel_rfl) (by decide) (by kernel_rfl) rfl (PW _ _ _ _ _ _ _) ?_
     refine af ?_
     refine br.lay (v0:= .row 10 _) 85 7 rfl rfl rfl rfl rfl rfl rfl rfl (fun _=>(aa.qB rfl an (by decide) rfl rfl)) rfl rfl rfl ?_
     refine af ?_
     refine br.cons 87 rfl rfl rfl (fun _=>(Kl (.p (ng (c7 p (l.drop (k+1)) (s.next i (gt aH.d l k).len)).plan)))) rfl ?_
     refine br.JX (v0:= .row 10 _) 88 8 7 rfl rfl rfl rfl rfl rfl rfl rfl rfl rfl (fun _=>(aa.kN (i:=7) (len:=1) (cs:=[.p (.int .i64 ((i:Nat):Int))]) (ys:=((c7 p (l.drop (k+1)) (s.next i (gt aH.d l k).len)).plan.map (PV.int .i64)).map .p) (n:=(c7 p (l.drop (k+1)) (s.next i (gt aH.d l k).len)).plan.length) rfl rfl rfl an an rfl rfl (NO _) (N8 _) an (by decide) (by omega))) rfl rfl (TD _ _ _) ?_
     refine af ?_
     refine br.cons 90 rfl rfl rfl (fun _=>(Kl (.p (.int .i64 (c7 p (l.drop (k+1)) (s.next i (gt aH.d l k).len)).cost)))) rfl ?_
     refine af ?_
     refine br.cons 92 rfl rfl rfl (fun _=>(aa.add (m:=((c7 p (l.drop (k+1)) (s.next i (gt aH.d l k).len)).cost+((i:Nat):Int))) rfl rfl rfl ((aK ?_).trans ?_))) rfl ?_
     ·omega
     ·omega
     refine br.abi (blk:= .dead) 93 8 rfl rfl rfl rfl rfl (fun _=>(opv (Pr i (c7 p (l.drop (k+1)) (s.next i (gt aH.d l k).len)).plan ((c7 p (l.drop (k+1)) (s.next i (gt aH.d l k).len)).cost+((i:Nat):Int))) (aa.frz 8 rfl (L4 [.int .i64 ((i:Nat):Int)] ((c7 p (l.drop (k+1)) (s.next i (gt aH.d l k).len)).plan.map (PV.int .i64))) (aa.sF rfl an rfl rfl rfl)))) rfl rfl ?_
     refine br.lay (v0:= .ptr 10 0) 13 9 rfl rfl rfl rfl rfl rfl rfl rfl (fun _=>(aa.aQ rfl an rfl)) rfl rfl rfl ?_
     refine br.nil ?_
     refine Kz (aa.store (H':=mw p l ms2++[.cells ((cS (oU p l s k i)).map .p) 134,.cells ((cS ⟨[],0,false⟩).map .p) 134,.cells ((s.next i (gt aH.d l k).len).cells.map .p) 132,.cells ((cS (c7 p (l.drop (k+1)) (s.next i (gt aH.d l k).len))).map .p) 134,.dead,.dead,.cells ((cS ⟨((i:Nat):Int)::(c7 p (l.drop (k+1)) (s.next i (gt aH.d l k).len)).plan,(c7 p (l.drop (k+1)) (s.next i (gt aH.d l k).len)).cost+((i:Nat):Int),true⟩).map .p) 134]) rfl rfl rfl rfl (hY ⟨((i:Nat):Int)::(c7 p (l.drop (k+1)) (s.next i (gt aH.d l k).len)).plan,(c7 p (l.drop (k+1)) (s.next i (gt aH.d l k).len)).cost+((i:Nat):Int),true⟩) an rfl rfl) ?_
     iterate 5 refine af ?_
     refine Kc (Kl (.p (.int .i64 s.last))) ?_
     iterate 2 refine af ?_
     refine Kg 98 97 5 rfl (fun h=>(aa.fieldAddr rfl rfl an rfl)) ?_
     refine Kh 99 97 98 rfl rfl rfl rfl (fun h=>(Kl (.p (.int .i64 s.last)))) ?_
     refine Kg 100 97 9 rfl (fun h=>(aa.move rfl rfl)) ?_
     refine aj.g 101 97 rfl rfl rfl rfl rfl rfl rfl [(99,_),(100,_)] (fun h=>And.intro (.inr ⟨_,rfl,h⟩) (And.intro (.inr ⟨_,rfl,h⟩) (trivial))) (fun h=>(aa.neq rfl rfl rfl)) ?_
     refine Kc (aa.fH rfl rfl rfl ?_) ?_
     ·exact az
     refine af ?_
     refine Ki (fun Aq=> ?_) fun Aq=> ?_
     ·have eo:dj p s (c7 p (l.drop (k+1)) (s.next i (gt aH.d l k).len)) i=⟨((i:Nat):Int)::(c7 p (l.drop (k+1)) (s.next i (gt aH.d l k).len)).plan,(c7 p (l.drop (k+1)) (s.next i (gt aH.d l k).len)).cost+((i:Nat):Int)+p.change,true⟩:=by
       unfold dj
       rw[if_pos (show s.last≠ -1∧s.last≠(i:Int) by simpa using Aq)]
      iterate 2 refine af ?_
      refine Kc (Kl (.p (.int .i64 ((c7 p (l.drop (k+1)) (s.next i (gt aH.d l k).len)).cost+((i:Nat):Int))))) ?_
      refine af ?_
      refine Kc (Kl (.p (.int .i64 p.change))) ?_
      refine Kc (aa.add (m:=((c7 p (l.drop (k+1)) (s.next i (gt aH.d l k).len)).cost+((i:Nat):Int)+p.change)) rfl rfl rfl ((aK ?_).trans ?_)) ?_
      ·omega
      ·omega
      refine af ?_
      refine Kz (aa.store (H':=mw p l ms2++[.cells ((cS (oU p l s k i)).map .p) 134,.cells ((cS ⟨[],0,false⟩).map .p) 134,.cells ((s.next i (gt aH.d l k).len).cells.map .p) 132,.cells ((cS (c7 p (l.drop (k+1)) (s.next i (gt aH.d l k).len))).map .p) 134,.dead,.dead,.cells ((cS ⟨((i:Nat):Int)::(c7 p (l.drop (k+1)) (s.next i (gt aH.d l k).len)).plan,(c7 p (l.drop (k+1)) (s.next i (gt aH.d l k).len)).cost+((i:Nat):Int)+p.change,true⟩).map .p) 134]) rfl rfl rfl rfl rfl an rfl rfl) ?_
      exact D9
     ·have eo:dj p s (c7 p (l.drop (k+1)) (s.next i (gt aH.d l k).len)) i=⟨((i:Nat):Int)::(c7 p (l.drop (k+1)) (s.next i (gt aH.d l k).len)).plan,(c7 p (l.drop (k+1)) (s.next i (gt aH.d l k).len)).cost+((i:Nat):Int),true⟩:=by
       unfold dj
       rw[if_neg (show ¬ (s.last≠ -1∧s.last≠(i:Int)) by simpa using Aq),Int.add_zero]
      exact D9
  ·have hie:i=p.dies.length:=by have h:=Zl jR;omega
   subst hie
   refine aF.exit ?_
   iterate 3 refine af ?_
   refine Kc (Kl (.p (ja s))) ?_
   refine Kc (Kl (.p (fF (oU p l s k p.dies.length)))) ?_
   refine Kz (aa.Gr (g:=fun r=> .p (fF r)) XJ (.inl rfl) rfl rfl rfl rfl mpS) ?_
   iterate 3 refine af ?_
   refine Kc (Kl (.p (fF (oU p l s k p.dies.length)))) ?_
   refine Kz (aa.store (H':=mw p l (aU s (oU p l s k p.dies.length) ms)++[.cells ((cS (oU p l s k p.dies.length)).map .p) 134,.cells ((cS ⟨[],0,false⟩).map .p) 134]) rfl rfl rfl rfl (hY (oU p l s k p.dies.length)) an rfl rfl) ?_
   iterate 2 refine af ?_
   have eb:oU p l s k p.dies.length=c7 p (l.drop s.draw.toNat) s:=by rw[ek,AD];exact O8 hk
   exact⟨.inr rfl,_,en.one rfl ⟨_,_,_,rfl,an,rfl⟩,Fm eb (by rw[eb];exact Ot hm)⟩
end Go.Proofs.YtibffijhebobmaaGreatDoor.Di
end
section
set_option maxRecDepth 100000
namespace Go.Proofs.YtibffijhebobmaaGreatDoor
open Go.AF
namespace Di
def zn:dK:=⟨0,-1,0,0,0,0⟩
theorem X9(l:List aH):J1 l zn:=⟨⟨tr 0,Int.natCast_nonneg _⟩,fun i hi=>by
 match i,hi with
 | 0,_=>exact⟨tr 0,tr 0⟩
 | 1,_=>exact⟨tr 0,tr 0⟩
 | 2,_=>exact⟨tr 0,tr 0⟩
 | 3,_=>exact⟨tr 0,tr 0⟩⟩
theorem Pj:∀ j,zn.used j=0
 | 0=>rfl
 | 1=>rfl
 | 2=>rfl
 | 3=>rfl
 | _+4=>rfl
abbrev bR(p:bn)(l:List aH):kj:=c7 p l zn
theorem AO{p:bn}:∀(l:List aH) (s:dK) (pl:List Int),Qj p l s pl->∀ x∈pl,0<=x∧x<(p.dies.length:Int)
 | [],s,pl,h,x,hx=>by rw[show pl=[] from h] at hx;cases hx
 | w::l,s,pl,⟨i,r,e,hi,_,h⟩,x,hx=>by
  rw[e] at hx
  rcases Zr.1 hx with rfl | hx
  ·omega
  ·exact AO l _ r h x hx
theorem Mb{p:bn}:∀(l:List aH) (s:dK) (pl:List Int) (k:Nat),Qj p l s pl->Qj p (l.take k) s (pl.take k)
 | l,s,pl,0,_=>rfl
 | [],s,pl,k+1,h=>by rw[show pl=[] from h];rfl
 | w::l,s,pl,k+1,⟨i,r,e,hi,hd,h⟩=>by
  rw[e]
  exact⟨i,r.take k,rfl,hi,hd,Mb l _ r k h⟩
theorem Ug(n j:Nat):gt (0:Int) (List.replicate n 0) j=0:=by
 unfold gt
 rw[Ze,List.getElem?_replicate]
 split <;> rfl
theorem II{p:bn}(hp:cL p=true){l:List aH}(hd:cG l=true){pl:List Int}(hl:pl.length=l.length):(∃ v,eC p l pl=(some v,(l.length:Int),0))↔Qj p l zn pl:=by
 have h4:=(c9 hp).1.2
 have h:=Gx (p:=p) (plan:=pl) h4 l 0 (List.replicate p.dies.length 0) zn Z0 (fun j _=>by rw[Ug,Pj]) (by omega)
 rw[Wm,uf] at h
 unfold eC
 rw[if_neg (by rw[hp];decide),if_neg (by rw[hd];decide)]
 exact h
theorem Jz{p:bn}(hp:cL p=true){l:List aH}(hd:cG l=true)(hn:(bR p l).is=false){pl:List Int}(hl:pl.length=l.length):(eC p l pl).2.2≠0:=fun h=>by
 obtain⟨⟨u,hu⟩,_⟩:=Iz h
 have h2:=It p l zn pl ((II hp hd hl).1 ⟨u,hu⟩)
 unfold bR at hn
 rw[hn] at h2
 cases h2
theorem Il{p:bn}{plan:List Int}(hr:∀ x∈plan,0<=x∧x<(p.dies.length:Int)):∀(l:List aH) (i:Nat) (u:List Int),plan.length=i+l.length->(eX p plan i u l).2.2=0∨(eX p plan i u l).2.2=11
 | [],i,u,hl=>by
  have hl':plan.length=i:=hl
  unfold eX
  rw[if_neg (by omega)]
  exact .inl rfl
 | w::l,i,u,hl=>by
  rw[Zm] at hl
  have hi:i<plan.length:=by omega
  have h:=hr _ (bC 0 hi)
  unfold eX
  rw[if_neg (by omega),if_neg (by unfold iq;simp;omega)]
  split
  ·exact .inr rfl
  ·exact Il hr l _ _ (by omega)
theorem Ru{p:bn}(hp:cL p=true){l:List aH}(hd:cG l=true){plan:List Int}(hr:∀ x∈plan,0<=x∧x<(p.dies.length:Int))(hl:plan.length=l.length):(eC p l plan).2.2=0∨(eC p l plan).2.2=11:=by
 unfold eC
 rw[if_neg (by rw[hp];decide),if_neg (by rw[hd];decide)]
 exact Il hr l 0 _ (by omega)
theorem B9{l m:List aH}(hd:cG l=true)(hl:m.length<=l.length)(hs:∀ w∈m,w∈l):cG m=true:=by
 obtain⟨h1,h2⟩:=dh hd
 unfold cG
 rw[Zn,Zq,F5,OM]
 exact⟨by omega,fun w hw=>by rw[h2 w (hs w hw)];decide⟩
end Di
def s5:Ck.Sk:=⟨⟨0,0⟩,⟨500,500⟩,⟨0,0⟩⟩
def A3(x:Int)(d:Di.aH):List Int:=[0,1,0,1,x,d.len,d.lo,d.hi]
def pl0(p:Di.bn):cW:=⟨p,⟨[s5],[⟨0,0⟩],[],[],0,0,[0]⟩,[]⟩
def GL(l:List Di.aH)(pl:List Int)(k:Nat):Bs:=aY [108,101,97,100] (A3 (Di.gt 0 pl k) (Di.gt Di.aH.d l k))
def uY(p:Di.bn)(l:List Di.aH)(pl:List Int):Nat->cW
 | 0=>pl0 p
 | k+1=>(aI (uY p l pl k) (GL l pl k)).1
def Fe(p:Di.bn)(l:List Di.aH)(pl:List Int):Nat->Nat
 | 0=>0
 | k+1=>if (aI (uY p l pl k) (GL l pl k)).2.2=0 then Fe p l pl k+1 else Fe p l pl k
theorem AJ(p:Di.bn):aI (newF p) [115,97,99,107,32,48,32,48,32,53,48,48,32,53,48,48,32,48,32,48]=(pl0 p,[115,97,99,107,32,48,32,99,97,114,100,32,48],0):=by
 have e:aY Vb.nN.t [0,0,500,500,0,0]=[115,97,99,107,32,48,32,48,32,53,48,48,32,53,48,48,32,48,32,48]:=by decide+kernel
 rw[<- e,yE (by rfl) (by decide)]
 have e1:(shr [iz [0,0,500,500,0,0]] [bT 0 1]).2=0:=by decide+kernel
 have e2:aY Vb.nN.t [((newF p).b.au.length:Int)]++32::aY jQ [((newF p).b.ai.length:Int)]=[115,97,99,107,32,48,32,99,97,114,100,32,48]:=by
  show aY Vb.nN.t [0]++32::aY jQ [0]=_
  decide+kernel
 unfold bH
 dsimp only
 rw[if_neg (by show ¬ (8<=0∨24<=0);decide),if_neg (by rw[e1];decide),e2]
 rfl
structure Wn (p:Di.bn) (l:List Di.aH) (pl:List Int) (k:Nat) (F:cW) (t:Nat):Prop where
 aV:F.aV=p
 mrk:F.marks=[]
 sk:F.b.au=[s5]
 bZ:F.b.bZ=[0]
 cd:F.b.ai.length=1+t
 dr:F.b.aq.length=t
 pn:F.b.plan.length=t
 tk:t<=k
 sub:∀ w∈F.b.aq,w∈l
 rng:∀ x∈F.b.plan,0<=x∧x<(p.dies.length:Int)
 all:t=k->F.b.aq=l.take k∧F.b.plan=pl.take k
theorem Gy{p:Di.bn}(hp:Di.cL p=true){l:List Di.aH}(hd:Di.cG l=true){pl:List Int}(hl:pl.length=l.length)(hr:∀ x∈pl,0<=x∧x<(p.dies.length:Int)){k:Nat}(hk:k<l.length):∀ x∈A3 (Di.gt 0 pl k) (Di.gt Di.aH.d l k),0<=x∧x<10000000000000:=fun x hx=>by
 have h4:=(Di.c9 hp).1.2
 have h1:=hr _ (Di.bC 0 (show k<pl.length by omega))
 have h2:=Di.jh ((Di.dh hd).2 _ (Di.bC Di.aH.d hk))
 unfold A3 at hx
 simp only[Zr,KF,or_false] at hx
 rcases hx with rfl | rfl | rfl | rfl | rfl | rfl | rfl | rfl <;> omega
theorem zo{p:Di.bn}(hp:Di.cL p=true){l:List Di.aH}(hd:Di.cG l=true){pl:List Int}(hl:pl.length=l.length)(hr:∀ x∈pl,0<=x∧x<(p.dies.length:Int)){k t:Nat}(hk:k<l.length){F:cW}(h:Wn p l pl k F t):
    ((Di.eC p (F.b.aq++[Di.gt Di.aH.d l k]) (F.b.plan++[Di.gt 0 pl k])).2.2=0∧(aI F (GL l pl k)).2.2=0∧Wn p l pl (k+1) (aI F (GL l pl k)).1 (t+1))∨
    ((Di.eC p (F.b.aq++[Di.gt Di.aH.d l k]) (F.b.plan++[Di.gt 0 pl k])).2.2≠0∧(aI F (GL l pl k)).2.2=11∧Wn p l pl (k+1) (aI F (GL l pl k)).1 t):=by
 have h8:=(Di.dh hd).1
 have hB:=Gy hp hd hl hr hk
 have hpk:k<pl.length:=by omega
 have ht:=h.tk
 have hc:=h.cd
 have hdl:=h.dr
 have hpn:=h.pn
 have e0:aI F (GL l pl k)=bH F .lead (A3 (Di.gt 0 pl k) (Di.gt Di.aH.d l k)):=yE (v:= .lead) (by rfl) hB
 rw[e0]
 generalize hx:Di.gt 0 pl k=x at*
 generalize hw:Di.gt Di.aH.d l k=w at*
 have hxm:x∈pl:=by rw[<- hx];exact Di.bC 0 hpk
 have hwm:w∈l:=by rw[<- hw];exact Di.bC Di.aH.d hk
 have e1:shr F.b.au [bT (nn (A3 x w) 0) (nn (A3 x w) 1),bT (nn (A3 x w) 2) (nn (A3 x w) 3)]=((500,500),0):=by
  rw[h.sk]
  show shr [s5] [bT 0 1,bT 0 1]=_
  decide+kernel
 have e2:([⟨nn (A3 x w) 5,nn (A3 x w) 6,nn (A3 x w) 7⟩]:List Di.aH)=[w]:=rfl
 have e3:nn (A3 x w) 4=x:=rfl
 have hsub:∀ v∈F.b.aq++[w],v∈l:=fun v hv=>by
  rcases Zo.1 hv with hv | hv
  ·exact h.sub v hv
  ·rw[ZI.1 hv];exact hwm
 have xg:∀ y∈F.b.plan++[x],0<=y∧y<(p.dies.length:Int):=fun y hy=>by
  rcases Zo.1 hy with hy | hy
  ·exact h.rng y hy
  ·rw[ZI.1 hy];exact hr x hxm
 have abm:Di.cG (F.b.aq++[w])=true:=Di.B9 hd (by rw[Zb,Sy];omega) hsub
 have h11:=Di.Ru hp abm xg (by rw[Zb,Zb,Sy,Sy];omega)
 by_cases hf:(Di.eC p (F.b.aq++[w]) (F.b.plan++[x])).2.2=0
 ·left
  refine⟨hf,?_,?_⟩
  ·exact D7
  ·have e4:(bH F .lead (A3 x w)).1={F with b:={F.b.fU ⟨both (nn F.b.bZ (nn (A3 x w) 0).toNat) (nn F.b.bZ (nn (A3 x w) 2).toNat),0⟩ with aq:=F.b.aq++[w],plan:=F.b.plan++[x]}}:=by
     exact D7
   rw[e4]
   refine⟨h.aV,h.mrk,h.sk,h.bZ,?_,?_,?_,by omega,hsub,xg,fun e=> ?_⟩
   ·show(F.b.ai++[_]).length=_
    exact vh
   ·show(F.b.aq++[w]).length=_
    exact vh
   ·show(F.b.plan++[x]).length=_
    exact vh
   ·obtain⟨a1,a2⟩:=h.all (by omega)
    refine⟨?_,?_⟩
    ·show F.b.aq++[w]=_
     rw[a1,ZN hk,Di.aC Di.aH.d k hk,hw]
    ·show F.b.plan++[x]=_
     rw[a2,ZN hpk,Di.aC 0 k hpk,hx]
 ·right
  have e5:bH F .lead (A3 x w)=(F,[],11):=by
   unfold bH
   dsimp only
   rw[if_neg (by omega),e1]
   dsimp only
   rw[if_neg (by decide),if_neg (by omega),e2,e3,h.aV,if_pos hf,h11.resolve_left hf]
  rw[e5]
  exact⟨hf,rfl,h.aV,h.mrk,h.sk,h.bZ,h.cd,h.dr,h.pn,by omega,h.sub,h.rng,fun e=>by omega⟩
theorem mO{p:Di.bn}(hp:Di.cL p=true){l:List Di.aH}(hd:Di.cG l=true){pl:List Int}(hl:pl.length=l.length)(hr:∀ x∈pl,0<=x∧x<(p.dies.length:Int)):∀ k,k<=l.length->Wn p l pl k (uY p l pl k) (Fe p l pl k)
 | 0,_=>⟨rfl,rfl,rfl,rfl,rfl,rfl,rfl,Zf 0,fun w h=>(by cases h),fun x h=>(by cases h),fun _=>⟨rfl,rfl⟩⟩
 | k+1,hk=>by
  have ih:=mO hp hd hl hr k (by omega)
  rcases zo hp hd hl hr (show k<l.length by omega) ih with⟨_,h1,h2⟩ | ⟨_,h1,h2⟩
  ·show Wn p l pl (k+1) _ (if _=0 then _ else _)
   rw[if_pos h1];exact h2
  ·show Wn p l pl (k+1) _ (if _=0 then _ else _)
   rw[if_neg (by rw[h1];decide)];exact h2
theorem Vd{p:Di.bn}(hp:Di.cL p=true){l:List Di.aH}(hd:Di.cG l=true){pl:List Int}(hl:pl.length=l.length)(hr:∀ x∈pl,0<=x∧x<(p.dies.length:Int)){k:Nat}(hk:k<l.length):(aI (uY p l pl k) (GL l pl k)).2.2=0∨(aI (uY p l pl k) (GL l pl k)).2.2=11:=by
 rcases zo hp hd hl hr hk (mO hp hd hl hr k (by omega)) with⟨_,h1,_⟩ | ⟨_,h1,_⟩
 ·exact .inl h1
 ·exact .inr h1
theorem S8{p:Di.bn}(hp:Di.cL p=true):mJ (pl0 p):=by
 have h:=z7 (s:=[115,97,99,107,32,48,32,48,32,53,48,48,32,53,48,48,32,48,32,48]) (zv hp)
 rw[AJ] at h
 exact h
theorem vb{p:Di.bn}(hp:Di.cL p=true){l:List Di.aH}{pl:List Int}:∀ k,mJ (uY p l pl k)
 | 0=>S8 hp
 | k+1=>z7 (vb hp k)
theorem Ay{p:Di.bn}{l:List Di.aH}{pl:List Int}{k:Nat}(h:(aI (uY p l pl k) (GL l pl k)).2.2=0):Fe p l pl (k+1)=Fe p l pl k+1:=if_pos h
theorem V0{p:Di.bn}{l:List Di.aH}{pl:List Int}{k:Nat}(h:(aI (uY p l pl k) (GL l pl k)).2.2≠0):Fe p l pl (k+1)=Fe p l pl k:=if_neg h
theorem AQ{p:Di.bn}(hp:Di.cL p=true){l:List Di.aH}(hd:Di.cG l=true)(hb:(Di.bR p l).is=true):∀ k,k<=l.length->Fe p l (Di.bR p l).plan k=k
 | 0,_=>rfl
 | k+1,hk=>by
  have ho:=Di.ny p l Di.zn hb
  have hl:=Di.qk (l:=l) (s:=Di.zn) hb
  have hr:=Di.AO l _ _ ho
  have ih:=AQ hp hd hb k (by omega)
  have hI:=mO hp hd hl hr k (by omega)
  have hk':k<l.length:=by omega
  have hpk:k<(Di.c7 p l Di.zn).plan.length:=by rw[hl];exact hk'
  obtain⟨a1,a2⟩:=hI.all ih
  rcases zo hp hd hl hr hk' hI with⟨_,h1,_⟩ | ⟨h0,_,_⟩
  ·rw[Ay h1,ih]
  ·exfalso
   refine h0 ?_
   rw[a1,a2]
   have e1:l.take k++[Di.gt Di.aH.d l k]=l.take (k+1):=by rw[ZN hk',Di.aC Di.aH.d k hk']
   have e2:(Di.c7 p l Di.zn).plan.take k++[Di.gt 0 (Di.c7 p l Di.zn).plan k]=(Di.c7 p l Di.zn).plan.take (k+1):=by rw[ZN hpk,Di.aC 0 k hpk]
   rw[e1,e2]
   have oV:Di.cG (l.take (k+1))=true:=Di.B9 hd (by rw[ZU];omega) fun w hw=>SG hw
   obtain⟨v,hv⟩:=(Di.II hp oV (pl:=(Di.c7 p l Di.zn).plan.take (k+1)) (by rw[ZU,ZU,hl])).2 (Di.Mb l _ _ (k+1) ho)
   rw[hv]
theorem RD{p:Di.bn}(hp:Di.cL p=true){l:List Di.aH}(hd:Di.cG l=true)(hb:(Di.bR p l).is=true):(uY p l (Di.bR p l).plan l.length).b.aq=l∧(uY p l (Di.bR p l).plan l.length).b.plan=(Di.bR p l).plan:=by
 have ho:=Di.ny p l Di.zn hb
 have hl:=Di.qk (l:=l) (s:=Di.zn) hb
 obtain⟨a1,a2⟩:=(mO hp hd hl (Di.AO l _ _ ho) l.length (Zf _)).all (AQ hp hd hb l.length (Zf _))
 refine⟨by rw[a1,ZP],a2.trans ?_⟩
 rw[<- hl]
 exact ZP
theorem U0{p:Di.bn}(hp:Di.cL p=true){l:List Di.aH}(hd:Di.cG l=true)(hn:(Di.bR p l).is=false){pl:List Int}(hl:pl.length=l.length)(hr:∀ x∈pl,0<=x∧x<(p.dies.length:Int)):Fe p l pl l.length<l.length:=by
 have hI:=mO hp hd hl hr l.length (Zf _)
 rcases ZS (Fe p l pl l.length) l.length with h | h
 ·exact h
 ·exfalso
  obtain⟨a1,a2⟩:=hI.all (Nat.le_antisymm hI.tk h)
  rw[ZP] at a1
  rw[<- hl,ZP] at a2
  have hF:=vb (l:=l) (pl:=pl) hp l.length
  obtain⟨u,hu⟩:=hF.b.Kv
  rw[hl] at a2
  rw[hI.aV,a1,a2] at hu
  exact Di.Jz hp hd hn hl (by rw[hu])
def oS(p:Di.bn)(b9:List Nat)(k:Nat):List Int:=(List.range k).map fun i=>((Di.gt 0 b9 (i%b9.length)%p.dies.length:Nat):Int)
theorem uo(p:Di.bn)(b:List Nat)(k:Nat):(oS p b k).length=k:=by unfold oS;rw[Zp,KO]
theorem N4(p:Di.bn)(b:List Nat)(k:Nat):oS p b (k+1)=oS p b k++[((Di.gt 0 b (k%b.length)%p.dies.length:Nat):Int)]:=by
 unfold oS
 rw[YS,ZA]
 rfl
theorem PN{p:Di.bn}(hp:Di.cL p=true)(b:List Nat)(k:Nat):∀ x∈oS p b k,0<=x∧x<(p.dies.length:Int):=fun x hx=>by
 obtain⟨i,_,rfl⟩:=uE.1 hx
 have h1:=(Di.c9 hp).1.1
 have:=Nat.mod_lt (Di.gt 0 b (i%b.length)) (show 0<p.dies.length by omega)
 omega
end Go.Proofs.YtibffijhebobmaaGreatDoor
end
section
set_option maxRecDepth 100000
set_option maxHeartbeats 4000000
namespace Go.Proofs.YtibffijhebobmaaGreatDoor.Di
open Go.AF
theorem S1{p:bn}{l:List aH}(hp:cL p=true)(hd:cG l=true):∀(r:Nat) (s:dK) (ms:List (dK×kj)),(l.length:Int) - s.draw=(r:Int)->J1 l s->Good p l ms->ax Tryz.prog 67 (.p (ja s)::JR p l) (mw p l ms) (Uz p l s)
 | 0,s,ms,hr,hs,hm=>Tv p l s ms hm hs.dr (by omega)
 | r+1,s,ms,hr,hs,hm=>by
  cases hg:bM s ms with
  | some a=>exact Lc p l s ms a hm hs.dr (by omega) hg
  | none=>exact S4 p l s ms hp hd hs (by omega) hm hg fun s2 ms2 h1 h2 h3=>S1 hp hd r s2 ms2 (by omega) h2 h3
def yx(p:bn)(l:List aH):List PV:=if (bR p l).is=true then[ng (bR p l).plan,.int .i64 (bR p l).cost,.int .i64 0] else[.nilSlice,.int .i64 0,.int .i64 4]
theorem Vi(p:bn)(l:List aH):Good p l []:=fun n a h=>by cases h
theorem IM:Pure Tryz.prog 72 [.nilSlice] .nilSlice:=by
 refine Kf (N:=8) Tryz.func72 ?_
 iterate 8 refine af ?_
 refine Kc (aa.Tj rfl rfl rfl an rfl) ?_
 refine af ?_
 refine Ki (fun hc0=> ?_) fun hc0=> ?_
 ·iterate 5 refine af ?_
  exact iQ
 ·cases hc0
theorem MF(l:List Int)(h0:0<l.length)(h9:l.length<=100):Pure Tryz.prog 72 [bw l] (bw l):=by
 refine Kf (N:=8) Tryz.func72 ?_
 iterate 8 refine af ?_
 refine Kc (aa.aac rfl rfl rfl an h0) ?_
 refine af ?_
 refine Ki (fun hc0=> ?_) fun hc0=> ?_
 ·cases hc0
 ·iterate 3 refine af ?_
  refine Kc (aa.qB rfl an (by decide) rfl rfl) ?_
  refine af ?_
  refine Kc (aa.kN rfl rfl rfl an an rfl ?_ (lM (by rw[AF.cu (c:=1) (fun _=>rfl)];rfl)) (Jv bY l (fun _=>rfl)) an (by decide) ?_) ?_
  ·rfl
  ·show(2*(0+l.length)+192)*8<=281474976710656;omega
  iterate 2 refine af ?_
  refine aF.freeze 1 rfl (show iH (_++_)=some (l.flatMap bY) from iE (l.flatMap bY)) ?_
  refine af ?_
  exact Fin.fQ rfl rfl (by unfold bw;rw[uf])
theorem Ab(l:List Int)(h:l.length<=100):Pure Tryz.prog 72 [ng l] (ng l):=by
 cases l with
 | nil=>exact IM
 | cons x r=>exact MF (x::r) (RW _) h
theorem AH(p:bn)(l:List aH)(hpl:p.dies.length<=b6)(zQ:l.length<=b6)(hp:cL p=true)(hd:cG l=true):Pure Tryz.prog 28 [dO p,cv l] (.tuple (yx p l)):=by
 have h8:=(dh hd).1
 refine Kf (N:=31) Tryz.func28 ?_
 iterate 12 refine af ?_
 refine Kc (Kl (.p (dO p))) ?_
 refine Kc (Kp (mj p hpl)) ?_
 iterate 3 refine af ?_
 refine Ki (fun hc0=> ?_) fun hc0=> ?_
 ·exfalso
  rw[hp] at hc0
  cases hc0
 ·iterate 2 refine af ?_
  refine Kc (Kl (.p (cv l))) ?_
  refine Kc (Kp (nQ l zQ)) ?_
  iterate 3 refine af ?_
  refine Ki (fun cR=> ?_) fun cR=> ?_
  ·exfalso
   rw[hd] at cR
   cases cR
  ·iterate 3 refine af ?_
   refine Kc (aa.makeMap (K:=dK) (α:=kj) (enc:=ja) (g:=fun r=> .p (fF r)) rfl) ?_
   iterate 9 refine af ?_
   refine Kc (aa.makeFunc rfl rfl rfl) ?_
   iterate 3 refine af ?_
   refine aF.to (To.done (H2:=mw p l []++[]) (S:=[(8,.ptr 2 0)]) [1,0,2] rfl KS rfl) ?_
   iterate 2 refine af ?_
   refine Kc (aa.sF (v:= .p (ja zn)) rfl an rfl rfl rfl) ?_
   refine MW 22 p l zn [] [] (fun b hb=>by cases hb) (Zs 3) (S1 hp hd l.length zn [] (by show(l.length:Int) - 0=_;omega) (X9 l) (Vi p l)) rfl rfl rfl rfl rfl rfl rfl an (T2:=[(22,.p (fF (bR p l)))]) KS rfl (fun ms2 hm2=> ?_)
   rw[ZT]
   refine af ?_
   refine Kz (aa.store (H':=mw p l ms2++[.cells ((cS (bR p l)).map .p) 134]) rfl rfl rfl rfl (hY (bR p l)) an rfl rfl) ?_
   iterate 5 refine af ?_
   refine Kc (Kl (.p (.bool (bR p l).is))) ?_
   iterate 2 refine af ?_
   refine Ki (fun jR=> ?_) fun jR=> ?_
   ·have BN:(bR p l).is=false:=by simpa using jR
    iterate 7 refine af ?_
    refine Fin.ep (xs:=[.nilSlice,.int .i64 0,.int .i64 4]) rfl ⟨_,_,rfl,rfl,⟨_,_,rfl,rfl,⟨_,_,rfl,rfl,rfl⟩⟩⟩ rfl ?_
    unfold yx
    rw[if_neg (by rw[BN];decide)]
   ·have BN:(bR p l).is=true:=by simpa using jR
    iterate 2 refine af ?_
    refine aF.aD 8 mixed (by kernel_rfl) (by decide) ?_
    refine af ?_
    refine Kq (Kl (.p (ng (bR p l).plan))) ?_
    refine Kq (Kp (Ab (bR p l).plan (by rw[qk BN];omega))) ?_
    refine af ?_
    refine Kq (Kl (.p (.int .i64 (bR p l).cost))) ?_
    iterate 3 refine af ?_
    refine aA.nil ?_
    iterate 2 refine af ?_
    refine Fin.ep (xs:=[ng (bR p l).plan,.int .i64 (bR p l).cost,.int .i64 0]) rfl ⟨_,_,rfl,rfl,⟨_,_,rfl,rfl,⟨_,_,rfl,rfl,rfl⟩⟩⟩ rfl ?_
    unfold yx
    rw[if_pos BN]
end Go.Proofs.YtibffijhebobmaaGreatDoor.Di
end
section
set_option maxRecDepth 100000
set_option maxHeartbeats 4000000
namespace Go.Proofs.YtibffijhebobmaaGreatDoor
open Go.AF
def Uk(n:Nat):List PV:=[.int .u8 (n:Int)]
def d04:List Di.aH:=[⟨40,1800,1900⟩,⟨20,1980,2070⟩]
theorem Q2:Di.yx xP d04=[Di.bw [0,1],.int .i64 6,.int .i64 0]:=by kernel_rfl
theorem Jb:Pure Tryz.prog 28 [Di.dO xP,Di.cv d04] (.tuple [Di.bw [0,1],.int .i64 6,.int .i64 0]):=Q2▸Di.AH xP d04 (by decide) (by decide) (by decide+kernel) (by decide+kernel)
theorem RE:w9 xP [115,97,99,107,32,48,32,48,32,53,48,48,32,53,48,48,32,48,32,48,10,108,101,97,100,32,48,32,49,32,48,32,49,32,48,32,52,48,32,49,56,48,48,32,49,57,48,48,10,119,101,97,114,32,48,10]=([115,97,99,107,32,48,32,99,97,114,100,32,48,10,99,97,114,100,32,49,32,115,104,97,114,101,32,53,48,48,32,53,48,48,10,119,101,97,114,32,52,48,32,49,56,51,54,32,49,56,57,51,10],0):=by decide+kernel
theorem NM:Pure Tryz.prog 33 [Di.dO xP,.str (sB [115,97,99,107,32,48,32,48,32,53,48,48,32,53,48,48,32,48,32,48,10,108,101,97,100,32,48,32,49,32,48,32,49,32,48,32,52,48,32,49,56,48,48,32,49,57,48,48,10,119,101,97,114,32,48,10])] (.tuple [.str (sB [115,97,99,107,32,48,32,99,97,114,100,32,48,10,99,97,114,100,32,49,32,115,104,97,114,101,32,53,48,48,32,53,48,48,10,119,101,97,114,32,52,48,32,49,56,51,54,32,49,56,57,51,10]),.int .i64 0]):=by
 have h:=O9 xP [115,97,99,107,32,48,32,48,32,53,48,48,32,53,48,48,32,48,32,48,10,108,101,97,100,32,48,32,49,32,48,32,49,32,48,32,52,48,32,49,56,48,48,32,49,57,48,48,10,119,101,97,114,32,48,10] (by decide)
 rw[RE] at h
 exact h
theorem VX{a:Nat}{v:V}{S X:Tm}(h:Sub S X):Sub ((a,v)::S) ((a,v)::X):=fun s' v' hv=>by
 simp only[lk] at hv ⊢
 cases hb:Nat.beq a s' with
 | true=>rw[hb] at hv;exact hv
 | false=>rw[hb] at hv;exact h s' v' hv
theorem VT{l:List Int}{P:Program}{κ N:Nat}{T S:Tm}{H:List ah}(s:Nat)(h:lk T s=some (.p (Di.ng l)))(h1:Sub S (ij [s] T))(h2:Sub S T):To P κ N T H ((s,.p (Di.bw l))::S) H:=by
 cases l with
 | nil=>exact(To.BF s h).trans (To.sub (VX h1))
 | cons x r=>exact To.sub (Sub.cons h h2)
theorem pN:Pure Tryz.prog 27 [] (.bool true):=by
 refine Kf (N:=49) Tryz.func27 ?_
 iterate 10 refine af ?_
 refine Kc (aa.aS rfl an (by decide) rfl rfl rfl) ?_
 refine af ?_
 refine Kc (aa.sF (v:= .p (Di.dO xP)) rfl an rfl rfl rfl) ?_
 refine af ?_
 refine Kz (aa.store (H':=[.cells (xP.cells.map .p) 26]) rfl rfl rfl rfl rfl an rfl rfl) ?_
 iterate 3 refine af ?_
 refine Kc (Kl (.p (Di.dO xP))) ?_
 iterate 4 refine af ?_
 refine Kc (aa.aS rfl an (by decide) rfl rfl rfl) ?_
 refine Kc (Kp (Jb)) ?_
 iterate 10 refine af ?_
 refine Kc (Kl (.p (Di.dO xP))) ?_
 refine Kc (Kp (NM)) ?_
 iterate 9 refine af ?_
 refine Kc (aa.aS rfl an (by decide) rfl rfl rfl) ?_
 refine Kc (Kp (EU [0,1] (by decide))) ?_
 refine af ?_
 refine Kg 34 33 3 rfl (fun h=>(aa.move rfl rfl)) ?_
 refine Kh 35 33 34 rfl rfl rfl rfl (fun h=>(aa.eql rfl rfl rfl)) ?_
 refine Kc (aa.fH rfl rfl rfl ?_) ?_
 ·exact az
 refine af ?_
 refine Kg 38 37 4 rfl (fun h=>(aa.move rfl rfl)) ?_
 refine Kh 39 37 38 rfl rfl rfl rfl (fun h=>(aa.eql rfl rfl rfl)) ?_
 refine Kc (aa.fH rfl rfl rfl ?_) ?_
 ·exact az
 refine af ?_
 refine Kg 42 41 5 rfl (fun h=>(aa.move rfl rfl)) ?_
 refine Kh 43 41 42 rfl rfl rfl rfl (fun h=>(aa.SX [115,97,99,107,32,48,32,99,97,114,100,32,48,10,99,97,114,100,32,49,32,115,104,97,114,101,32,53,48,48,32,53,48,48,10,119,101,97,114,32,52,48,32,49,56,51,54,32,49,56,57,51,10] [115,97,99,107,32,48,32,99,97,114,100,32,48,10,99,97,114,100,32,49,32,115,104,97,114,101,32,53,48,48,32,53,48,48,10,119,101,97,114,32,52,48,32,49,56,51,54,32,49,56,57,51,10] rfl rfl rfl)) ?_
 refine Kc (aa.fH rfl rfl rfl ?_) ?_
 ·exact az
 refine af ?_
 refine Kg 46 45 6 rfl (fun h=>(aa.move rfl rfl)) ?_
 refine Kh 47 45 46 rfl rfl rfl rfl (fun h=>(aa.eql rfl rfl rfl)) ?_
 refine Kc (aa.fH rfl rfl rfl ?_) ?_
 ·exact az
 iterate 3 refine af ?_
 refine Fin.fQ rfl rfl ?_
 simp
theorem PE{p:Di.bn}{j u:Int}(h:0<=u∧u<=8000):∀ x∈[u,(Di.bW p j u).1.1,(Di.bW p j u).1.2],0<=x∧x<10000000000000:=by
 have h2:=Fi (p:=p) (j:=j) (u:=u)
 exact GW (by omega) (by omega) (by omega)
theorem T7(p:Di.bn)(l:List Di.aH)(b9:List Nat)(hpl:p.dies.length<=9223372036854775807)(zQ:l.length<=9223372036854775807)(Rv:b9.length<=9223372036854775807)(OJ:∀ x∈b9,x<=255)(h1:((((decide (8<(p.dies.length:Int))||decide (12<(l.length:Int)))||decide ((b9.length:Int)=0))|| !Di.cL p)|| !Di.cG l)=true):Pure Tryz.prog 6 [Di.dO p,Di.cv l,.is (b9.flatMap Uk) b9.length] (.bool true):=by
 refine Kf (N:=276) Tryz.func6 ?_
 iterate 9 refine af ?_
 refine Kc (Kl (.p (Di.oZ p.dies))) ?_
 iterate 3 refine af ?_
 refine Kg 34 33 1 rfl (fun h=>(aa.move rfl rfl)) ?_
 refine Kh 35 33 34 rfl rfl rfl rfl (fun h=>(aa.bq rfl rfl an rfl)) ?_
 refine Kh 36 33 35 rfl rfl rfl rfl (fun h=>(aa.gtr rfl rfl rfl)) ?_
 refine Kc (aa.mG rfl rfl rfl ?_) ?_
 ·exact az
 refine af ?_
 refine Kg 39 38 2 rfl (fun h=>(aa.move rfl rfl)) ?_
 refine Kh 40 38 39 rfl rfl rfl rfl (fun h=>(aa.bq rfl rfl an rfl)) ?_
 refine Kh 41 38 40 rfl rfl rfl rfl (fun h=>(aa.eql rfl rfl rfl)) ?_
 refine Kc (aa.mG rfl rfl rfl ?_) ?_
 ·exact az
 refine af ?_
 refine Kg 44 43 3 rfl (fun h=>(Kl (.p (Di.dO p)))) ?_
 refine Kh 45 43 44 rfl rfl rfl rfl (fun h=>(Kp (Di.sS p hpl))) ?_
 refine Kh 46 43 45 rfl rfl rfl rfl (fun h=>(aa.gr rfl rfl)) ?_
 refine Kc (aa.mG rfl rfl rfl ?_) ?_
 ·exact az
 refine af ?_
 refine Kg 49 48 1 rfl (fun h=>(aa.move rfl rfl)) ?_
 refine Kh 50 48 49 rfl rfl rfl rfl (fun h=>(Kp (Di.tu l zQ))) ?_
 refine Kh 51 48 50 rfl rfl rfl rfl (fun h=>(aa.gr rfl rfl)) ?_
 refine Kc (aa.mG rfl rfl rfl ?_) ?_
 ·exact az
 refine af ?_
 refine Ki (fun hc0=> ?_) fun hc0=> ?_
 ·iterate 2 refine af ?_
  refine Kc (Kp (pN)) ?_
  exact gS
 ·exfalso
  rw[h1] at hc0
  cases hc0
theorem W0(p:Di.bn)(l:List Di.aH)(b9:List Nat)(hpl:p.dies.length<=9223372036854775807)(zQ:l.length<=9223372036854775807)(Rv:b9.length<=9223372036854775807)(OJ:∀ x∈b9,x<=255)(h1:((((decide (8<(p.dies.length:Int))||decide (12<(l.length:Int)))||decide ((b9.length:Int)=0))|| !Di.cL p)|| !Di.cG l)=false)(hb0:b9.length≠0)(hp:Di.cL p=true)(hd:Di.cG l=true)(BN:(Di.bR p l).is=false):Pure Tryz.prog 6 [Di.dO p,Di.cv l,.is (b9.flatMap Uk) b9.length] (.bool true):=by
 have h8:=(Di.dh hd).1
 have h4:=(Di.c9 hp).1
 have vz:=Di.AH p l hpl zQ hp hd
 unfold Di.yx at vz
 rw[if_neg (by rw[BN];decide)] at vz
 have hlen:=uo p b9 l.length
 have xg:=PN hp b9 l.length
 have abq:=U0 hp hd BN hlen xg
 refine Kf (N:=276) Tryz.func6 ?_
 iterate 9 refine af ?_
 refine Kc (Kl (.p (Di.oZ p.dies))) ?_
 iterate 3 refine af ?_
 refine Kg 34 33 1 rfl (fun h=>(aa.move rfl rfl)) ?_
 refine Kh 35 33 34 rfl rfl rfl rfl (fun h=>(aa.bq rfl rfl an rfl)) ?_
 refine Kh 36 33 35 rfl rfl rfl rfl (fun h=>(aa.gtr rfl rfl rfl)) ?_
 refine Kc (aa.mG rfl rfl rfl ?_) ?_
 ·exact az
 refine af ?_
 refine Kg 39 38 2 rfl (fun h=>(aa.move rfl rfl)) ?_
 refine Kh 40 38 39 rfl rfl rfl rfl (fun h=>(aa.bq rfl rfl an rfl)) ?_
 refine Kh 41 38 40 rfl rfl rfl rfl (fun h=>(aa.eql rfl rfl rfl)) ?_
 refine Kc (aa.mG rfl rfl rfl ?_) ?_
 ·exact az
 refine af ?_
 refine Kg 44 43 3 rfl (fun h=>(Kl (.p (Di.dO p)))) ?_
 refine Kh 45 43 44 rfl rfl rfl rfl (fun h=>(Kp (Di.sS p hpl))) ?_
 refine Kh 46 43 45 rfl rfl rfl rfl (fun h=>(aa.gr rfl rfl)) ?_
 refine Kc (aa.mG rfl rfl rfl ?_) ?_
 ·exact az
 refine af ?_
 refine Kg 49 48 1 rfl (fun h=>(aa.move rfl rfl)) ?_
 refine Kh 50 48 49 rfl rfl rfl rfl (fun h=>(Kp (Di.tu l zQ))) ?_
 refine Kh 51 48 50 rfl rfl rfl rfl (fun h=>(aa.gr rfl rfl)) ?_
 refine Kc (aa.mG rfl rfl rfl ?_) ?_
 ·exact az
 refine af ?_
 refine Ki (fun hc0=> ?_) fun hc0=> ?_
 ·exfalso
  rw[h1] at hc0
  cases hc0
 ·iterate 3 refine af ?_
  refine Kc (Kl (.p (Di.dO p))) ?_
  refine af ?_
  refine Kc (Kp (vz)) ?_
  iterate 14 refine af ?_
  refine Kg 64 63 9 rfl (fun h=>(aa.move rfl rfl)) ?_
  refine Kh 65 63 64 rfl rfl rfl rfl (fun h=>(aa.neq rfl rfl rfl)) ?_
  refine Kc (aa.fH rfl rfl rfl ?_) ?_
  ·exact az
  refine af ?_
  refine Kg 68 67 9 rfl (fun h=>(aa.move rfl rfl)) ?_
  refine Kh 69 67 68 rfl rfl rfl rfl (fun h=>(aa.eql rfl rfl rfl)) ?_
  refine Kh 70 67 69 rfl rfl rfl rfl (fun h=>(aa.move rfl rfl)) ?_
  refine Kg 71 70 7 rfl (fun h=>(aa.move rfl rfl)) ?_
  refine Kh 72 70 71 rfl rfl rfl rfl (fun h=>(aa.bq rfl rfl an rfl)) ?_
  refine Kg 73 70 1 rfl (fun h=>(aa.move rfl rfl)) ?_
  refine Kh 74 70 73 rfl rfl rfl rfl (fun h=>(aa.bq rfl rfl an rfl)) ?_
  refine aj.g 75 70 rfl rfl rfl rfl rfl rfl rfl [(72,_),(74,_)] (fun h=>And.intro (.inr ⟨_,rfl,h⟩) (And.intro (.inr ⟨_,rfl,h⟩) (trivial))) (fun h=>(aa.neq rfl rfl rfl)) ?_
  refine aj.g 76 67 rfl rfl rfl rfl rfl rfl rfl [(70,_),(75,_)] (fun h=>And.intro (.inr ⟨_,rfl,h⟩) (And.intro (.inl rfl) (trivial))) (fun h=>(aa.fH rfl rfl rfl (fun hq=>by first | (rw[hq];rfl) | simp_all))) ?_
  refine Kc (aa.mG rfl rfl rfl ?_) ?_
  ·exact az
  refine af ?_
  refine Ki (fun cR=> ?_) fun cR=> ?_
  ·exfalso
   simp at cR
  ·refine af ?_
   refine aF.join (fun(g:Unit)=>[(1,.p (Di.cv l)),(3,.p (.ip p.cells 0)),(7,.p (Di.bw (oS p b9 l.length))),(9,.p (.int .i64 4))]) (fun(g:Unit)=>[]) (fun(g:Unit)=>True) ?_ (fun g hg=> ?_)
   ·iterate 5 refine af ?_
    refine Ki (fun jR=> ?_) fun jR=> ?_
    ·iterate 9 refine af ?_
     refine aF.fE [1,2,3,6,9,11,12,13,14,15,16,18,19,20,21,22,23,24,25,26,27,28,101,102,103,104,105,106,107,108,109,110,111,112,113,114,115,116,117,118,119,120,121,122,123,124,125,126,127,128,129,130,131,132,133,134,135,136,137,138,139,140,141,142,143,144,145,146,147,148,149,150,151,152,153,154,155,156,157,158,159,160,161,162,163,164,165,166,167,168,169,170,171,172,173,174,175,176,177,178,179,180,181,182,183,184,185,186,187,188,189,190,191,192,193,194,195,196,197,198,199,200,201,202,203,204,205,206,207,208,209,210,211,212,213,214,215,216,217,218,219,220,221,222,223,224,225,226,227,228,229,230,231,232,233,234,235,236,237,238,239,240,241,242,243,244,245,246,247,248,249,250,251,252,253,254,255,256,257,258,259,260,261,262,263,264,265,266,267,268,269,270,271,272,273,274,275] (fun g=>[(10,.p (.int .i64 ((g:Nat):Int))),(7,ke 0 (oS p b9 g).length)]) (fun g=>[dU (((oS p b9 g).flatMap Di.bY).map .p) 3 (oS p b9 g).length]) (fun g=>g<=l.length) (fun g=>l.length - g) 0 (Zs _) (To.pad.trans (To.sub (Sub.Jw (Sub.cons rfl (Sub.cons rfl Sub.nil))))) (fun k pQ=> ?_)
     iterate 8 refine af ?_
     refine Ki (fun pG=> ?_) fun pG=> ?_
     ·have hk0:k<l.length:=by have h:=Zk pG;omega
      have Ws:=Nat.mod_lt k (show 0<b9.length by omega)
      have hbx:=OJ _ (Di.bC 0 Ws)
      iterate 3 refine af ?_
      refine aF.aD 14 mixed (by kernel_rfl) (by decide) ?_
      iterate 4 refine af ?_
      refine Kq (aa.bq rfl rfl an rfl) ?_
      refine Kq (aa.rem (m:=((k%b9.length:Nat):Int)) rfl rfl rfl ?_ ?_) ?_
      ·omega
      ·exact(Int.ofNat_tmod _ _).symm
      refine Kq (aa.aN (g:=Di.gt 0 b9) (k:=(k%b9.length)) (Di.aC _) rfl rfl rfl an Yz rfl (fun _=>rfl) (by decide) Ws) ?_
      refine Kq (Kl (.p (.int .u8 ((Di.gt 0 b9 (k%b9.length):Nat):Int)))) ?_
      refine Kq (aa.dY rfl rfl (by rw[un5];rfl) CR (aK ?_)) ?_
      ·omega
      refine af ?_
      refine Kq (Kl (.p (Di.oZ p.dies))) ?_
      refine Kq (aa.bq rfl rfl an rfl) ?_
      refine Kq (aa.rem (m:=((Di.gt 0 b9 (k%b9.length)%p.dies.length:Nat):Int)) rfl rfl rfl ?_ ?_) ?_
      ·omega
      ·exact(Int.ofNat_tmod _ _).symm
      refine Kq (aa.aS rfl an (by decide) rfl rfl rfl) ?_
      refine aA.nil ?_
      refine Kc (aa.jl rfl rfl rfl an an rfl ?_ rfl (by decide) rfl an (by decide) ?_) ?_
      ·exact nU
      ·rw[uo];show(2*(k+1)+192)*8<=281474976710656;omega
      iterate 4 refine af ?_
      refine Kc (aa.add (m:=((k+1:Nat):Int)) rfl rfl rfl ((aK ?_).trans ?_)) ?_
      ·omega
      ·omega
      iterate 2 refine af ?_
      refine⟨k+1,?_,?_,?_⟩
      ·exact hk0
      ·omega
      have Wu:(oS p b9 (k+1)).length=(oS p b9 k).length+1:=by rw[uo,uo]
      have eL:(oS p b9 (k+1)).flatMap Di.bY=(oS p b9 k).flatMap Di.bY++[.int .i64 ((Di.gt 0 b9 (k%b9.length)%p.dies.length:Nat):Int)]:=by rw[N4,IC];rfl
      exact qM
     ·have QD:k=l.length:=by have h:=Zl pG;omega
      subst QD
      refine aF.to (To.Vp 7 0 (oS p b9 l.length).length (xs:=(oS p b9 l.length).flatMap Di.bY) rfl rfl (fun h=>by rw[RV.1 h];rfl)) ?_
      refine aF.exit ?_
      exact⟨(),trivial,To.done [] rfl KS rfl⟩
    ·exfalso
     simp at jR
   ·iterate 2 refine af ?_
    refine Kc (Kl (.p (Di.dO p))) ?_
    refine aj.yM 103 (zw p (by omega) hp) rfl rfl rfl rfl rfl rfl rfl an (fun v H2 iw=> ?_)
    obtain⟨rfl,rfl⟩:=iw
    iterate 12 refine af ?_
    refine Ki (fun xM=> ?_) fun xM=> ?_
    ·exfalso
     simp at xM
    ·iterate 5 refine af ?_
     refine SQ 110 (newF p) true [115,97,99,107,32,48,32,48,32,53,48,48,32,53,48,48,32,48,32,48] (zv hp) (fun _=>rfl) (AJ p) rfl rfl rfl rfl rfl rfl an (T2:=[(1,.p (Di.cv l)),(3,.p (.ip p.cells 0)),(7,.p (Di.bw (oS p b9 l.length))),(9,.p (.int .i64 4)),(11,.ptr 0 0)]) KS rfl (fun z1 hz1=> ?_)
     iterate 9 refine af ?_
     refine Kc (aa.xb [115,97,99,107,32,48,32,99,97,114,100,32,48] [115,97,99,107,32,48,32,99,97,114,100,32,48] rfl rfl rfl) ?_
     refine af ?_
     refine Kg 116 115 14 rfl (fun h=>(aa.move rfl rfl)) ?_
     refine Kh 117 115 116 rfl rfl rfl rfl (fun h=>(aa.neq rfl rfl rfl)) ?_
     refine Kc (aa.mG rfl rfl rfl ?_) ?_
     ·exact az
     refine af ?_
     refine Ki (fun Aq=> ?_) fun Aq=> ?_
     ·exfalso
      simp at Aq
     ·iterate 11 refine af ?_
      refine aF.fE [1,3,7,9,11,19,20,21,22,23,24,25,26,27,28,159,160,161,162,163,164,165,166,167,168,169,170,171,172,173,174,175,176,177,178,179,180,181,182,183,184,185,186,187,188,189,190,191,192,193,194,195,196,197,198,199,200,201,202,203,204,205,206,207,208,209,210,211,212,213,214,215,216,217,218,219,220,221,222,223,224,225,226,227,228,229,230,231,232,233,234,235,236,237,238,239,240,241,242,243,244,245,246,247,248,249,250,251,252,253,254,255,256,257,258,259,260,261,262,263,264,265,266,267,268,269,270,271,272,273,274,275] (fun g=>[(16,.p (.int .i64 ((g.1:Nat):Int))),(15,.p (.int .i64 ((Fe p l (oS p b9 l.length) g.1:Nat):Int)))]) (fun g=>(cD 0 (uY p l (oS p b9 l.length) g.1) g.2)) (fun g=>g.1<=l.length∧(g.2=true->(uY p l (oS p b9 l.length) g.1).marks=[])) (fun g=>l.length - g.1) (0,z1) ⟨Zs _,hz1⟩ (To.sub KS) (fun g hg=> ?_)
      obtain⟨k,z⟩:=g
      obtain⟨pQ,hz⟩:=hg
      dsimp only at pQ hz ⊢
      iterate 8 refine af ?_
      refine Ki (fun zp=> ?_) fun zp=> ?_
      ·have hk0:k<l.length:=by have h:=Zk zp;omega
       have hkp:k<(oS p b9 l.length).length:=by omega
       have kW:=(mO hp hd hlen xg k pQ).tk
       iterate 4 refine af ?_
       refine aF.mR 29 (fun H2=>(∃ z2 q im qs,fV 0 (aI (uY p l (oS p b9 l.length) k) (GL l (oS p b9 l.length) k)).1 z2 H2 q im qs)∧∀ i,i<0->H2[i]? =(cD 0 (uY p l (oS p b9 l.length) k) z)[i]?) mixed (by kernel_rfl) (by decide) ?_
       refine ay.cons 126 rfl rfl rfl (fun H0 h0=>(aa.move rfl rfl)) ?_
       refine ay.cons 127 rfl rfl rfl (fun H0 h0=>(aa.move rfl rfl)) ?_
       refine ay.cons 128 rfl rfl rfl (fun H0 h0=>(aa.move rfl rfl)) ?_
       refine ay.cons 129 rfl rfl rfl (fun H0 h0=>(aa.aN (g:=Di.gt 0 (oS p b9 l.length)) (k:=k) (Di.aC _) rfl rfl rfl an dH rfl (fun _=>rfl) (by decide) hkp)) ?_
       refine ay.cons 130 rfl rfl rfl (fun H0 h0=>(Kl (.p (.int .i64 (Di.gt 0 (oS p b9 l.length) k))))) ?_
       refine ay.cons 131 rfl rfl rfl (fun H0 h0=>(aa.move rfl rfl)) ?_
       refine ay.cons 132 rfl rfl rfl (fun H0 h0=>(aa.move rfl rfl)) ?_
       refine ay.cons 133 rfl rfl rfl (fun H0 h0=>(aa.aN (g:=Di.gt Di.aH.d l) (k:=k) (Di.aC _) rfl rfl rfl an oQ rfl (fun _=>rfl) (by decide) hk0)) ?_
       refine ay.cons 134 rfl rfl rfl (fun H0 h0=>(aa.fieldAddr rfl rfl an rfl)) ?_
       refine ay.cons 135 rfl rfl rfl (fun H0 h0=>(Kl (.p (.int .i64 (Di.gt Di.aH.d l k).len)))) ?_
       refine ay.cons 136 rfl rfl rfl (fun H0 h0=>(aa.move rfl rfl)) ?_
       refine ay.cons 137 rfl rfl rfl (fun H0 h0=>(aa.move rfl rfl)) ?_
       refine ay.cons 138 rfl rfl rfl (fun H0 h0=>(aa.aN (g:=Di.gt Di.aH.d l) (k:=k) (Di.aC _) rfl rfl rfl an oQ rfl (fun _=>rfl) (by decide) hk0)) ?_
       refine ay.cons 139 rfl rfl rfl (fun H0 h0=>(aa.fieldAddr rfl rfl an rfl)) ?_
       refine ay.cons 140 rfl rfl rfl (fun H0 h0=>(aa.fieldAddr rfl rfl an rfl)) ?_
       refine ay.cons 141 rfl rfl rfl (fun H0 h0=>(Kl (.p (.int .i64 (Di.gt Di.aH.d l k).lo)))) ?_
       refine ay.cons 142 rfl rfl rfl (fun H0 h0=>(aa.move rfl rfl)) ?_
       refine ay.cons 143 rfl rfl rfl (fun H0 h0=>(aa.move rfl rfl)) ?_
       refine ay.cons 144 rfl rfl rfl (fun H0 h0=>(aa.aN (g:=Di.gt Di.aH.d l) (k:=k) (Di.aC _) rfl rfl rfl an oQ rfl (fun _=>rfl) (by decide) hk0)) ?_
       refine ay.cons 145 rfl rfl rfl (fun H0 h0=>(aa.fieldAddr rfl rfl an rfl)) ?_
       refine ay.cons 146 rfl rfl rfl (fun H0 h0=>(aa.fieldAddr rfl rfl an rfl)) ?_
       refine ay.cons 147 rfl rfl rfl (fun H0 h0=>(Kl (.p (.int .i64 (Di.gt Di.aH.d l k).hi)))) ?_
       refine ay.cons 148 rfl rfl rfl (fun H0 h0=>(aa.aS rfl an (by decide) rfl rfl rfl)) ?_
       refine ay.cons 149 rfl rfl rfl (fun H0 h0=>(Kp (oA [108,101,97,100] (A3 (Di.gt 0 (oS p b9 l.length) k) (Di.gt Di.aH.d l k)) (by decide) Kn (Gy hp hd hlen xg hk0)))) ?_
       refine ay.lay 150 rfl rfl rfl (SZ.eY (og (rj [] (uY p l (oS p b9 l.length) k) z hz) (vb hp k) (GL l (oS p b9 l.length) k)) (fun x H2 h=>h) rfl rfl rfl rfl an) ?_
       refine ay.cons 125 rfl rfl rfl (fun H0 h0=>(aa.move rfl rfl)) ?_
       refine ay.cons 151 rfl rfl rfl (fun H0 h0=>(aa.extract rfl rfl rfl)) ?_
       refine ay.cons 152 rfl rfl rfl (fun H0 h0=>(aa.extract rfl rfl rfl)) ?_
       refine ay.cons 17 rfl rfl rfl (fun H0 h0=>(aa.assign rfl rfl)) ?_
       refine ay.nil ?_
       rintro H2 ⟨⟨z2,q2,im2,qs2,h2⟩,_⟩
       refine aj.to (qE h2 (pre:=[]) rfl (fun i x h=>by simp at h) (Zs _) (T2:=[(151,_),(152,_),(1,.p (Di.cv l)),(3,.p (.ip p.cells 0)),(7,.p (Di.bw (oS p b9 l.length))),(9,.p (.int .i64 4)),(15,.p (.int .i64 ((Fe p l (oS p b9 l.length) k:Nat):Int))),(16,.p (.int .i64 ((k:Nat):Int))),(11,.ptr 0 0)]) KS rfl) ?_
       have Av:=h2.mz
       show aj _ _ _ _ _ _ _ _ (cD 0 (uY p l (oS p b9 l.length) (k+1)) z2)
       iterate 7 refine af ?_
       refine Ki (fun Wj=> ?_) fun Wj=> ?_
       ·have he:=Zk Wj
        iterate 2 refine af ?_
        refine Kc (aa.add (m:=((Fe p l (oS p b9 l.length) (k+1):Nat):Int)) rfl rfl rfl ((aK ?_).trans ?_)) ?_
        ·omega
        ·rw[Ay he];push_cast;rfl
        exact Bi
       ·exact Ei
      ·have QD:k=l.length:=by have h:=Zl zp;omega
       subst QD
       refine aF.exit ?_
       iterate 6 refine af ?_
       refine Ki (fun YF=> ?_) fun YF=> ?_
       ·iterate 7 refine af ?_
        refine aj.g 166 165 rfl rfl rfl rfl rfl rfl rfl [] (fun h=>trivial) (fun h=>(Kp (pN))) ?_
        refine Kc (aa.fH rfl rfl rfl ?_) ?_
        ·exact az
        iterate 3 refine af ?_
        refine Fin.fQ rfl rfl ?_
        simp
        try omega
       ·exfalso
        simp at YF
theorem Vh(p:Di.bn)(l:List Di.aH)(b9:List Nat)(hpl:p.dies.length<=9223372036854775807)(zQ:l.length<=9223372036854775807)(Rv:b9.length<=9223372036854775807)(OJ:∀ x∈b9,x<=255)(h1:((((decide (8<(p.dies.length:Int))||decide (12<(l.length:Int)))||decide ((b9.length:Int)=0))|| !Di.cL p)|| !Di.cG l)=false)(hp:Di.cL p=true)(hd:Di.cG l=true)(BN:(Di.bR p l).is=true):Pure Tryz.prog 6 [Di.dO p,Di.cv l,.is (b9.flatMap Uk) b9.length] (.bool true):=by
 have h8:=(Di.dh hd).1
 have h4:=(Di.c9 hp).1
 have vz:=Di.AH p l hpl zQ hp hd
 unfold Di.yx at vz
 rw[if_pos BN] at vz
 have hlen:(Di.bR p l).plan.length=l.length:=Di.qk BN
 have xg:=Di.AO l _ _ (Di.ny p l Di.zn BN)
 have Y7:=AQ hp hd BN l.length (Zf _)
 have hfull:=RD hp hd BN
 have hI:=mO hp hd hlen xg l.length (Zf _)
 refine Kf (N:=276) Tryz.func6 ?_
 iterate 9 refine af ?_
 refine Kc (Kl (.p (Di.oZ p.dies))) ?_
 iterate 3 refine af ?_
 refine Kg 34 33 1 rfl (fun h=>(aa.move rfl rfl)) ?_
 refine Kh 35 33 34 rfl rfl rfl rfl (fun h=>(aa.bq rfl rfl an rfl)) ?_
 refine Kh 36 33 35 rfl rfl rfl rfl (fun h=>(aa.gtr rfl rfl rfl)) ?_
 refine Kc (aa.mG rfl rfl rfl ?_) ?_
 ·exact az
 refine af ?_
 refine Kg 39 38 2 rfl (fun h=>(aa.move rfl rfl)) ?_
 refine Kh 40 38 39 rfl rfl rfl rfl (fun h=>(aa.bq rfl rfl an rfl)) ?_
 refine Kh 41 38 40 rfl rfl rfl rfl (fun h=>(aa.eql rfl rfl rfl)) ?_
 refine Kc (aa.mG rfl rfl rfl ?_) ?_
 ·exact az
 refine af ?_
 refine Kg 44 43 3 rfl (fun h=>(Kl (.p (Di.dO p)))) ?_
 refine Kh 45 43 44 rfl rfl rfl rfl (fun h=>(Kp (Di.sS p hpl))) ?_
 refine Kh 46 43 45 rfl rfl rfl rfl (fun h=>(aa.gr rfl rfl)) ?_
 refine Kc (aa.mG rfl rfl rfl ?_) ?_
 ·exact az
 refine af ?_
 refine Kg 49 48 1 rfl (fun h=>(aa.move rfl rfl)) ?_
 refine Kh 50 48 49 rfl rfl rfl rfl (fun h=>(Kp (Di.tu l zQ))) ?_
 refine Kh 51 48 50 rfl rfl rfl rfl (fun h=>(aa.gr rfl rfl)) ?_
 refine Kc (aa.mG rfl rfl rfl ?_) ?_
 ·exact az
 refine af ?_
 refine Ki (fun hc0=> ?_) fun hc0=> ?_
 ·exfalso
  rw[h1] at hc0
  cases hc0
 ·iterate 3 refine af ?_
  refine Kc (Kl (.p (Di.dO p))) ?_
  refine af ?_
  refine Kc (Kp (vz)) ?_
  iterate 10 refine af ?_
  refine aF.to (VT 7 (S:=[(1,.p (Di.cv l)),(2,.p (.is (b9.flatMap Uk) b9.length)),(3,.p (.ip p.cells 0)),(9,.p (.int .i64 0))]) rfl KS KS) ?_
  iterate 4 refine af ?_
  refine Kg 64 63 9 rfl (fun h=>(aa.move rfl rfl)) ?_
  refine Kh 65 63 64 rfl rfl rfl rfl (fun h=>(aa.neq rfl rfl rfl)) ?_
  refine Kc (aa.fH rfl rfl rfl ?_) ?_
  ·exact az
  refine af ?_
  refine Kg 68 67 9 rfl (fun h=>(aa.move rfl rfl)) ?_
  refine Kh 69 67 68 rfl rfl rfl rfl (fun h=>(aa.eql rfl rfl rfl)) ?_
  refine Kh 70 67 69 rfl rfl rfl rfl (fun h=>(aa.move rfl rfl)) ?_
  refine Kg 71 70 7 rfl (fun h=>(aa.move rfl rfl)) ?_
  refine Kh 72 70 71 rfl rfl rfl rfl (fun h=>(aa.bq rfl rfl an rfl)) ?_
  refine Kg 73 70 1 rfl (fun h=>(aa.move rfl rfl)) ?_
  refine Kh 74 70 73 rfl rfl rfl rfl (fun h=>(aa.bq rfl rfl an rfl)) ?_
  refine aj.g 75 70 rfl rfl rfl rfl rfl rfl rfl [(72,_),(74,_)] (fun h=>And.intro (.inr ⟨_,rfl,h⟩) (And.intro (.inr ⟨_,rfl,h⟩) (trivial))) (fun h=>(aa.neq rfl rfl rfl)) ?_
  refine aj.g 76 67 rfl rfl rfl rfl rfl rfl rfl [(70,_),(75,_)] (fun h=>And.intro (.inr ⟨_,rfl,h⟩) (And.intro (.inl rfl) (trivial))) (fun h=>(aa.fH rfl rfl rfl (fun hq=>by first | (rw[hq];rfl) | simp_all))) ?_
  refine Kc (aa.mG rfl rfl rfl ?_) ?_
  ·exact az
  refine af ?_
  refine Ki (fun cR=> ?_) fun cR=> ?_
  ·exfalso
   simp[hlen] at cR
  ·iterate 7 refine af ?_
   refine Ki (fun jR=> ?_) fun jR=> ?_
   ·exfalso
    simp at jR
   ·iterate 3 refine af ?_
    refine Kc (Kl (.p (Di.dO p))) ?_
    refine aj.yM 103 (zw p (by omega) hp) rfl rfl rfl rfl rfl rfl rfl an (fun v H2 iw=> ?_)
    obtain⟨rfl,rfl⟩:=iw
    iterate 12 refine af ?_
    refine Ki (fun xM=> ?_) fun xM=> ?_
    ·exfalso
     simp at xM
    ·iterate 5 refine af ?_
     refine SQ 110 (newF p) true [115,97,99,107,32,48,32,48,32,53,48,48,32,53,48,48,32,48,32,48] (zv hp) (fun _=>rfl) (AJ p) rfl rfl rfl rfl rfl rfl an (T2:=[(1,.p (Di.cv l)),(3,.p (.ip p.cells 0)),(7,.p (Di.bw (Di.bR p l).plan)),(9,.p (.int .i64 0)),(11,.ptr 0 0)]) KS rfl (fun z1 hz1=> ?_)
     iterate 9 refine af ?_
     refine Kc (aa.xb [115,97,99,107,32,48,32,99,97,114,100,32,48] [115,97,99,107,32,48,32,99,97,114,100,32,48] rfl rfl rfl) ?_
     refine af ?_
     refine Kg 116 115 14 rfl (fun h=>(aa.move rfl rfl)) ?_
     refine Kh 117 115 116 rfl rfl rfl rfl (fun h=>(aa.neq rfl rfl rfl)) ?_
     refine Kc (aa.mG rfl rfl rfl ?_) ?_
     ·exact az
     refine af ?_
     refine Ki (fun Aq=> ?_) fun Aq=> ?_
     ·exfalso
      simp at Aq
     ·iterate 11 refine af ?_
      refine aF.fE [1,3,7,9,11,19,20,21,22,23,24,25,26,27,28,159,160,161,162,163,164,165,166,167,168,169,170,171,172,173,174,175,176,177,178,179,180,181,182,183,184,185,186,187,188,189,190,191,192,193,194,195,196,197,198,199,200,201,202,203,204,205,206,207,208,209,210,211,212,213,214,215,216,217,218,219,220,221,222,223,224,225,226,227,228,229,230,231,232,233,234,235,236,237,238,239,240,241,242,243,244,245,246,247,248,249,250,251,252,253,254,255,256,257,258,259,260,261,262,263,264,265,266,267,268,269,270,271,272,273,274,275] (fun g=>[(16,.p (.int .i64 ((g.1:Nat):Int))),(15,.p (.int .i64 ((Fe p l (Di.bR p l).plan g.1:Nat):Int)))]) (fun g=>(cD 0 (uY p l (Di.bR p l).plan g.1) g.2)) (fun g=>g.1<=l.length∧(g.2=true->(uY p l (Di.bR p l).plan g.1).marks=[])) (fun g=>l.length - g.1) (0,z1) ⟨Zs _,hz1⟩ (To.sub KS) (fun g hg=> ?_)
      obtain⟨k,z⟩:=g
      obtain⟨pQ,hz⟩:=hg
      dsimp only at pQ hz ⊢
      iterate 8 refine af ?_
      refine Ki (fun zp=> ?_) fun zp=> ?_
      ·have hk0:k<l.length:=by have h:=Zk zp;omega
       have hkp:k<(Di.bR p l).plan.length:=by omega
       have kW:=(mO hp hd hlen xg k pQ).tk
       iterate 4 refine af ?_
       refine aF.mR 29 (fun H2=>(∃ z2 q im qs,fV 0 (aI (uY p l (Di.bR p l).plan k) (GL l (Di.bR p l).plan k)).1 z2 H2 q im qs)∧∀ i,i<0->H2[i]? =(cD 0 (uY p l (Di.bR p l).plan k) z)[i]?) mixed (by kernel_rfl) (by decide) ?_
       refine ay.cons 126 rfl rfl rfl (fun H0 h0=>(aa.move rfl rfl)) ?_
       refine ay.cons 127 rfl rfl rfl (fun H0 h0=>(aa.move rfl rfl)) ?_
       refine ay.cons 128 rfl rfl rfl (fun H0 h0=>(aa.move rfl rfl)) ?_
       refine ay.cons 129 rfl rfl rfl (fun H0 h0=>(aa.aN (g:=Di.gt 0 (Di.bR p l).plan) (k:=k) (Di.aC _) rfl rfl rfl an dH rfl (fun _=>rfl) (by decide) hkp)) ?_
       refine ay.cons 130 rfl rfl rfl (fun H0 h0=>(Kl (.p (.int .i64 (Di.gt 0 (Di.bR p l).plan k))))) ?_
       refine ay.cons 131 rfl rfl rfl (fun H0 h0=>(aa.move rfl rfl)) ?_
       refine ay.cons 132 rfl rfl rfl (fun H0 h0=>(aa.move rfl rfl)) ?_
       refine ay.cons 133 rfl rfl rfl (fun H0 h0=>(aa.aN (g:=Di.gt Di.aH.d l) (k:=k) (Di.aC _) rfl rfl rfl an oQ rfl (fun _=>rfl) (by decide) hk0)) ?_
       refine ay.cons 134 rfl rfl rfl (fun H0 h0=>(aa.fieldAddr rfl rfl an rfl)) ?_
       refine ay.cons 135 rfl rfl rfl (fun H0 h0=>(Kl (.p (.int .i64 (Di.gt Di.aH.d l k).len)))) ?_
       refine ay.cons 136 rfl rfl rfl (fun H0 h0=>(aa.move rfl rfl)) ?_
       refine ay.cons 137 rfl rfl rfl (fun H0 h0=>(aa.move rfl rfl)) ?_
       refine ay.cons 138 rfl rfl rfl (fun H0 h0=>(aa.aN (g:=Di.gt Di.aH.d l) (k:=k) (Di.aC _) rfl rfl rfl an oQ rfl (fun _=>rfl) (by decide) hk0)) ?_
       refine ay.cons 139 rfl rfl rfl (fun H0 h0=>(aa.fieldAddr rfl rfl an rfl)) ?_
       refine ay.cons 140 rfl rfl rfl (fun H0 h0=>(aa.fieldAddr rfl rfl an rfl)) ?_
       refine ay.cons 141 rfl rfl rfl (fun H0 h0=>(Kl (.p (.int .i64 (Di.gt Di.aH.d l k).lo)))) ?_
       refine ay.cons 142 rfl rfl rfl (fun H0 h0=>(aa.move rfl rfl)) ?_
       refine ay.cons 143 rfl rfl rfl (fun H0 h0=>(aa.move rfl rfl)) ?_
       refine ay.cons 144 rfl rfl rfl (fun H0 h0=>(aa.aN (g:=Di.gt Di.aH.d l) (k:=k) (Di.aC _) rfl rfl rfl an oQ rfl (fun _=>rfl) (by decide) hk0)) ?_
       refine ay.cons 145 rfl rfl rfl (fun H0 h0=>(aa.fieldAddr rfl rfl an rfl)) ?_
       refine ay.cons 146 rfl rfl rfl (fun H0 h0=>(aa.fieldAddr rfl rfl an rfl)) ?_
       refine ay.cons 147 rfl rfl rfl (fun H0 h0=>(Kl (.p (.int .i64 (Di.gt Di.aH.d l k).hi)))) ?_
       refine ay.cons 148 rfl rfl rfl (fun H0 h0=>(aa.aS rfl an (by decide) rfl rfl rfl)) ?_
       refine ay.cons 149 rfl rfl rfl (fun H0 h0=>(Kp (oA [108,101,97,100] (A3 (Di.gt 0 (Di.bR p l).plan k) (Di.gt Di.aH.d l k)) (by decide) Kn (Gy hp hd hlen xg hk0)))) ?_
       refine ay.lay 150 rfl rfl rfl (SZ.eY (og (rj [] (uY p l (Di.bR p l).plan k) z hz) (vb hp k) (GL l (Di.bR p l).plan k)) (fun x H2 h=>h) rfl rfl rfl rfl an) ?_
       refine ay.cons 125 rfl rfl rfl (fun H0 h0=>(aa.move rfl rfl)) ?_
       refine ay.cons 151 rfl rfl rfl (fun H0 h0=>(aa.extract rfl rfl rfl)) ?_
       refine ay.cons 152 rfl rfl rfl (fun H0 h0=>(aa.extract rfl rfl rfl)) ?_
       refine ay.cons 17 rfl rfl rfl (fun H0 h0=>(aa.assign rfl rfl)) ?_
       refine ay.nil ?_
       rintro H2 ⟨⟨z2,q2,im2,qs2,h2⟩,_⟩
       refine aj.to (qE h2 (pre:=[]) rfl (fun i x h=>by simp at h) (Zs _) (T2:=[(151,_),(152,_),(1,.p (Di.cv l)),(3,.p (.ip p.cells 0)),(7,.p (Di.bw (Di.bR p l).plan)),(9,.p (.int .i64 0)),(15,.p (.int .i64 ((Fe p l (Di.bR p l).plan k:Nat):Int))),(16,.p (.int .i64 ((k:Nat):Int))),(11,.ptr 0 0)]) KS rfl) ?_
       have Av:=h2.mz
       show aj _ _ _ _ _ _ _ _ (cD 0 (uY p l (Di.bR p l).plan (k+1)) z2)
       iterate 7 refine af ?_
       refine Ki (fun Wj=> ?_) fun Wj=> ?_
       ·have he:=Zk Wj
        iterate 2 refine af ?_
        refine Kc (aa.add (m:=((Fe p l (Di.bR p l).plan (k+1):Nat):Int)) rfl rfl rfl ((aK ?_).trans ?_)) ?_
        ·omega
        ·rw[Ay he];push_cast;rfl
        exact Bi
       ·exact Ei
      ·have QD:k=l.length:=by have h:=Zl zp;omega
       subst QD
       rw[Y7]
       have hF:=vb (l:=l) (pl:=(Di.bR p l).plan) hp l.length
       have SR:=hI.aV
       generalize uY p l (Di.bR p l).plan l.length=F at hz hF SR hfull ⊢
       have hm:=hF.mm
       have fb:=hF.b
       obtain⟨u,hu⟩:=fb.Kv
       rw[SR] at hu
       have Gb:=hu
       rw[hfull.1,hfull.2] at Gb
       have hfo:=Di.oq p l (Di.bR p l).plan (by unfold Di.b6;omega) (by unfold Di.b6;omega) (by unfold Di.b6;omega)
       rw[Gb] at hfo
       have Xi:=(vu hu).1
       refine aF.exit ?_
       iterate 6 refine af ?_
       refine Ki (fun YF=> ?_) fun YF=> ?_
       ·exfalso
        simp at YF
       ·iterate 4 refine af ?_
        refine Kc (U5 hF (rj [] F z hz) rfl rfl rfl rfl an) ?_
        refine af ?_
        refine Kz (aa.store (H':=(cD 0 F z++[.cells ((T6 F.b).map .p) 37])) rfl rfl rfl rfl rfl an rfl (N9 (by rfl))) ?_
        iterate 2 refine af ?_
        refine aF.to (To.Lv (s:=19) (h:=cD 0 F z) (T2:=[(1,.p (Di.cv l)),(3,.p (.ip p.cells 0)),(7,.p (Di.bw (Di.bR p l).plan)),(15,.p (.int .i64 (l.length:Int))),(11,.ptr 0 0)]) (S0 hm) (Zs _) rfl rfl (by rw[iJ hm];exact⟨rfl,trivial,rfl,trivial,rfl,trivial,rfl,trivial,rfl,(by show 0<47;decide),trivial⟩)) ?_
        refine af ?_
        refine Kc (Kl (.p (Di.dO p))) ?_
        iterate 2 refine af ?_
        refine Kc (Kp (hfo)) ?_
        iterate 16 refine af ?_
        refine Kg 183 182 22 rfl (fun h=>(aa.move rfl rfl)) ?_
        refine Kh 184 182 183 rfl rfl rfl rfl (fun h=>(aa.neq rfl rfl rfl)) ?_
        refine Kc (aa.mG rfl rfl rfl ?_) ?_
        ·exact az
        refine af ?_
        refine Kg 187 186 21 rfl (fun h=>(aa.move rfl rfl)) ?_
        refine Kg 188 186 1 rfl (fun h=>(aa.move rfl rfl)) ?_
        refine Kh 189 186 188 rfl rfl rfl rfl (fun h=>(aa.bq rfl rfl an rfl)) ?_
        refine aj.g 190 186 rfl rfl rfl rfl rfl rfl rfl [(187,_),(189,_)] (fun h=>And.intro (.inr ⟨_,rfl,h⟩) (And.intro (.inr ⟨_,rfl,h⟩) (trivial))) (fun h=>(aa.neq rfl rfl rfl)) ?_
        refine Kc (aa.mG rfl rfl rfl ?_) ?_
        ·exact az
        refine af ?_
        refine Kg 193 192 20 rfl (fun h=>(aa.move rfl rfl)) ?_
        refine Kh 194 192 193 rfl rfl rfl rfl (fun h=>(aa.bq rfl rfl an rfl)) ?_
        refine Kg 195 192 3 rfl (fun h=>(aa.fieldAddr rfl rfl an rfl)) ?_
        refine Kh 196 192 195 rfl rfl rfl rfl (fun h=>(Kl (.p (Di.oZ p.dies)))) ?_
        refine Kh 197 192 196 rfl rfl rfl rfl (fun h=>(aa.bq rfl rfl an rfl)) ?_
        refine aj.g 198 192 rfl rfl rfl rfl rfl rfl rfl [(194,_),(197,_)] (fun h=>And.intro (.inr ⟨_,rfl,h⟩) (And.intro (.inr ⟨_,rfl,h⟩) (trivial))) (fun h=>(aa.neq rfl rfl rfl)) ?_
        refine Kc (aa.mG rfl rfl rfl ?_) ?_
        ·exact az
        refine af ?_
        refine Kg 201 200 19 rfl (fun h=>(aa.fieldAddr rfl rfl an rfl)) ?_
        refine Kh 202 200 201 rfl rfl rfl rfl (fun h=>(aa.load (v:= .p (Di.cv l)) rfl rfl an (by show some (V.p (Di.cv F.b.aq))=_;rw[hfull.1]))) ?_
        refine Kh 203 200 202 rfl rfl rfl rfl (fun h=>(aa.bq rfl rfl an rfl)) ?_
        refine Kg 204 200 1 rfl (fun h=>(aa.move rfl rfl)) ?_
        refine Kh 205 200 204 rfl rfl rfl rfl (fun h=>(aa.bq rfl rfl an rfl)) ?_
        refine aj.g 206 200 rfl rfl rfl rfl rfl rfl rfl [(203,_),(205,_)] (fun h=>And.intro (.inr ⟨_,rfl,h⟩) (And.intro (.inr ⟨_,rfl,h⟩) (trivial))) (fun h=>(aa.neq rfl rfl rfl)) ?_
        refine Kc (aa.mG rfl rfl rfl ?_) ?_
        ·exact az
        refine af ?_
        refine Kg 209 208 19 rfl (fun h=>(aa.fieldAddr rfl rfl an rfl)) ?_
        refine Kh 210 208 209 rfl rfl rfl rfl (fun h=>(aa.load (v:= .p (Di.bw (Di.bR p l).plan)) rfl rfl an (by show some (V.p (Di.bw F.b.plan))=_;rw[hfull.2]))) ?_
        refine Kg 211 208 7 rfl (fun h=>(aa.move rfl rfl)) ?_
        refine aj.g 212 208 rfl rfl rfl rfl rfl rfl rfl [(210,_),(211,_)] (fun h=>And.intro (.inr ⟨_,rfl,h⟩) (And.intro (.inr ⟨_,rfl,h⟩) (trivial))) (fun h=>(Kp (EU (Di.bR p l).plan (by omega)))) ?_
        refine Kh 213 208 212 rfl rfl rfl rfl (fun h=>(aa.gr rfl rfl)) ?_
        refine Kc (aa.mG rfl rfl rfl ?_) ?_
        ·exact az
        refine af ?_
        refine Ki (fun W3=> ?_) fun W3=> ?_
        ·exfalso
         simp[Xi] at W3
        ·iterate 7 refine af ?_
         refine aF.fE [1,3,11,19,20,24,25,26,27,28,231,232,233,234,235,236,237,238,239,240,241,242,243,244,245,246,247,248,249,250,251,252,253,254,255,256,257,258,259,260,261,262,263,264,265,266,267,268,269,270,271,272,273,274,275] (fun g=>[(23,.p (.int .i64 ((g:Nat):Int)))]) (fun g=>(cD 0 F z)) (fun g=>g<=l.length) (fun g=>l.length - g) 0 (Zs _) (To.sub KS) (fun j hjl=> ?_)
         iterate 8 refine af ?_
         refine Ki (fun TT=> ?_) fun TT=> ?_
         ·have hj0:j<l.length:=by have h:=Zk TT;omega
          iterate 4 refine af ?_
          refine aF.aD 10 mixed (by kernel_rfl) (by decide) ?_
          refine af ?_
          refine Kq (aa.load (v:= .p (Di.cv l)) rfl rfl an (by show some (V.p (Di.cv F.b.aq))=_;rw[hfull.1])) ?_
          refine af ?_
          refine Kq (aa.aN (g:=Di.gt Di.aH.d l) (k:=j) (Di.aC _) rfl rfl rfl an oQ rfl (fun _=>rfl) (by decide) hj0) ?_
          refine Kq (Kl (.p (.agg (Di.gt Di.aH.d l j).cells))) ?_
          iterate 2 refine af ?_
          refine Kq (aa.aN (g:=Di.gt Di.aH.d l) (k:=j) (Di.aC _) rfl rfl rfl an oQ rfl (fun _=>rfl) (by decide) hj0) ?_
          refine Kq (Kl (.p (.agg (Di.gt Di.aH.d l j).cells))) ?_
          refine Kq (aa.Y6 (d:=8) rfl (.inr rfl) rfl rfl (by decide) aam an rfl aa5 rfl) ?_
          refine aA.nil ?_
          refine af ?_
          refine Ki (fun Ul=> ?_) fun Ul=> ?_
          ·rw[if_neg (by decide)] at Ul
           simp at Ul
          ·iterate 3 refine af ?_
           refine Kc (aa.add (m:=((j+1:Nat):Int)) rfl rfl rfl ((aK ?_).trans ?_)) ?_
           ·omega
           ·omega
           iterate 2 refine af ?_
           refine⟨j+1,?_,?_,?_⟩
           ·exact hj0
           ·omega
           exact To.sub KS
         ·have Ux:j=l.length:=by have h:=Zl TT;omega
          subst Ux
          refine aF.exit ?_
          iterate 6 refine af ?_
          refine aF.fE [3,11,20,275] (fun g=>[(24,.p (.int .i64 ((g.1:Nat):Int)))]) (fun g=>(cD 0 F g.2)) (fun g=>g.1<=u.length∧(g.2=true->F.marks=[])) (fun g=>u.length - g.1) (0,z) ⟨Zs _,hz⟩ (To.sub KS) (fun g hg=> ?_)
          obtain⟨i,z1⟩:=g
          obtain⟨hil,hz1⟩:=hg
          dsimp only at hil hz1 ⊢
          iterate 8 refine af ?_
          refine Ki (fun YE=> ?_) fun YE=> ?_
          ·have nA:i<u.length:=by have h:=Zk YE;omega
           have YC:=Ti hF (by rw[SR];exact hu) (i:=i) (by rw[SR];omega) (by rw[SR];omega)
           obtain⟨hw0,hug,_⟩:=GU hF (by rw[SR];exact hu) (i:=i) (by rw[SR];omega)
           rw[SR] at YC hw0
           have hqw:=(congrArg (aI F) (LK [119,101,97,114] (i:Int))).trans YC
           have hwi:=Di.uG p (i:Int) (Di.gt 0 u i) (by unfold Di.b6;omega)
           rw[hw0] at hwi
           iterate 4 refine af ?_
           refine aF.tO 13 mixed (by kernel_rfl) (by decide) ?_
           refine aT.cons 238 rfl rfl rfl (Kl (.p (Di.dO p))) (fun _=>(Kl (.p (Di.dO p)))) ?_
           refine aT.cons 239 rfl rfl rfl (aa.move rfl rfl) (fun _=>(aa.move rfl rfl)) ?_
           refine aT.cons 240 rfl rfl rfl (aa.move rfl rfl) (fun _=>(aa.move rfl rfl)) ?_
           refine aT.cons 241 rfl rfl rfl (aa.move rfl rfl) (fun _=>(aa.move rfl rfl)) ?_
           refine aT.cons 242 rfl rfl rfl (aa.aN (g:=Di.gt 0 u) (k:=i) (Di.aC _) rfl rfl rfl an dH rfl (fun _=>rfl) (by decide) nA) (fun _=>(aa.aN (g:=Di.gt 0 u) (k:=i) (Di.aC _) rfl rfl rfl an dH rfl (fun _=>rfl) (by decide) nA)) ?_
           refine aT.cons 243 rfl rfl rfl (Kl (.p (.int .i64 (Di.gt 0 u i)))) (fun _=>(Kl (.p (.int .i64 (Di.gt 0 u i))))) ?_
           refine aT.cons 244 rfl rfl rfl (Kp (hwi)) (fun _=>(Kp (hwi))) ?_
           refine aT.cons 237 rfl rfl rfl (aa.move rfl rfl) (fun _=>(aa.move rfl rfl)) ?_
           refine aT.cons 245 rfl rfl rfl (aa.extract rfl rfl rfl) (fun _=>(aa.extract rfl rfl rfl)) ?_
           refine aT.cons 246 rfl rfl rfl (aa.extract rfl rfl rfl) (fun _=>(aa.extract rfl rfl rfl)) ?_
           refine aT.lay 25 rfl rfl rfl (aa.aQ rfl an rfl) ?_
           refine aT.put rfl rfl (by decide) (aa.store (H':=(cD 0 F z1++[.cells [.p (.int .i64 (Di.bW p i (Di.gt 0 u i)).1.1),.p (.int .i64 (Di.bW p i (Di.gt 0 u i)).1.2)] 24])) rfl rfl rfl rfl rfl an rfl (N9 (by rfl))) rfl ?_
           refine aT.cons 26 rfl rfl rfl (aa.assign rfl rfl) (fun _=>(aa.assign rfl rfl)) ?_
           refine aT.nil ?_
           iterate 2 refine af ?_
           refine aF.to (To.Lv (s:=25) (h:=cD 0 F z1) (T2:=[(26,.p (.int .i64 0)),(20,.p (Di.bw u)),(24,.p (.int .i64 ((i:Nat):Int))),(3,.p (.ip p.cells 0)),(11,.ptr 0 0)]) (S0 hm) (Zs _) rfl rfl (by rw[iJ hm];exact⟨rfl,trivial,rfl,trivial,rfl,trivial,rfl,trivial,rfl,(by show 0<47;decide),trivial⟩)) ?_
           iterate 3 refine af ?_
           refine Kc (aa.aS rfl an (by decide) rfl rfl rfl) ?_
           refine Kc (Kp (oA [119,101,97,114] [(i:Int)] (by decide) Kn (o8 (by omega)))) ?_
           refine WZ 252 F z1 (aY [119,101,97,114] [(i:Int)]) hF hz1 hqw rfl rfl rfl rfl rfl rfl an (T2:=[(20,.p (Di.bw u)),(24,.p (.int .i64 ((i:Nat):Int))),(3,.p (.ip p.cells 0)),(25,.p (.ip [.int .i64 (Di.bW p i (Di.gt 0 u i)).1.1,.int .i64 (Di.bW p i (Di.gt 0 u i)).1.2] 0)),(26,.p (.int .i64 0)),(11,.ptr 0 0)]) KS rfl (fun z2 Av=> ?_)
           iterate 7 refine af ?_
           refine aF.aD 20 mixed (by kernel_rfl) (by decide) ?_
           refine af ?_
           refine Kq (aa.neq rfl rfl rfl) ?_
           refine af ?_
           refine aA.guard 258 257 rfl rfl rfl rfl rfl rfl rfl [(28,_)] (fun h=>And.intro (.inl rfl) (trivial)) (fun h=>(aa.move rfl rfl)) ?_
           refine aA.guard 259 257 rfl rfl rfl rfl rfl rfl rfl [(258,_)] (fun h=>And.intro (.inr ⟨_,rfl,h⟩) (trivial)) (fun h=>(aa.neq rfl rfl rfl)) ?_
           refine Kq (aa.mG rfl rfl rfl ?_) ?_
           ·exact az
           refine af ?_
           refine aA.guard 262 261 rfl rfl rfl rfl rfl rfl rfl [(27,_)] (fun h=>And.intro (.inl rfl) (trivial)) (fun h=>(aa.move rfl rfl)) ?_
           refine aA.guard 263 261 rfl rfl rfl rfl rfl rfl rfl [(20,_)] (fun h=>And.intro (.inl rfl) (trivial)) (fun h=>(aa.move rfl rfl)) ?_
           refine aA.guard 264 261 rfl rfl rfl rfl rfl rfl rfl [(24,_)] (fun h=>And.intro (.inl rfl) (trivial)) (fun h=>(aa.move rfl rfl)) ?_
           refine aA.guard 265 261 rfl rfl rfl rfl rfl rfl rfl [(263,_),(264,_)] (fun h=>And.intro (.inr ⟨_,rfl,h⟩) (And.intro (.inr ⟨_,rfl,h⟩) (trivial))) (fun h=>(aa.aN (g:=Di.gt 0 u) (k:=i) (Di.aC _) rfl rfl rfl an dH rfl (fun _=>rfl) (by decide) nA)) ?_
           refine aA.guard 266 261 rfl rfl rfl rfl rfl rfl rfl [(265,_)] (fun h=>And.intro (.inr ⟨_,rfl,h⟩) (trivial)) (fun h=>(Kl (.p (.int .i64 (Di.gt 0 u i))))) ?_
           refine aA.guard 267 261 rfl rfl rfl rfl rfl rfl rfl [(25,_)] (fun h=>And.intro (.inl rfl) (trivial)) (fun h=>(aa.fieldAddr rfl rfl an rfl)) ?_
           refine aA.guard 268 261 rfl rfl rfl rfl rfl rfl rfl [(267,_)] (fun h=>And.intro (.inr ⟨_,rfl,h⟩) (trivial)) (fun h=>(Kl (.p (.int .i64 (Di.bW p i (Di.gt 0 u i)).1.1)))) ?_
           refine aA.guard 269 261 rfl rfl rfl rfl rfl rfl rfl [(25,_)] (fun h=>And.intro (.inl rfl) (trivial)) (fun h=>(aa.fieldAddr rfl rfl an rfl)) ?_
           refine aA.guard 270 261 rfl rfl rfl rfl rfl rfl rfl [(269,_)] (fun h=>And.intro (.inr ⟨_,rfl,h⟩) (trivial)) (fun h=>(Kl (.p (.int .i64 (Di.bW p i (Di.gt 0 u i)).1.2)))) ?_
           refine aA.guard 271 261 rfl rfl rfl rfl rfl rfl rfl [(266,_),(268,_),(270,_)] (fun h=>And.intro (.inr ⟨_,rfl,h⟩) (And.intro (.inr ⟨_,rfl,h⟩) (And.intro (.inr ⟨_,rfl,h⟩) (trivial)))) (fun h=>(aa.aS rfl an (by decide) rfl rfl rfl)) ?_
           refine aA.guard 272 261 rfl rfl rfl rfl rfl rfl rfl [(271,_)] (fun h=>And.intro (.inr ⟨_,rfl,h⟩) (trivial)) (fun h=>(Kp (oA [119,101,97,114] [Di.gt 0 u i,(Di.bW p i (Di.gt 0 u i)).1.1,(Di.bW p i (Di.gt 0 u i)).1.2] (by decide) Kn (PE hug)))) ?_
           refine aA.guard 273 261 rfl rfl rfl rfl rfl rfl rfl [(262,_),(272,_)] (fun h=>And.intro (.inr ⟨_,rfl,h⟩) (And.intro (.inr ⟨_,rfl,h⟩) (trivial))) (fun h=>(aa.xb (aY [119,101,97,114] [Di.gt 0 u i,(Di.bW p i (Di.gt 0 u i)).1.1,(Di.bW p i (Di.gt 0 u i)).1.2]) (aY [119,101,97,114] [Di.gt 0 u i,(Di.bW p i (Di.gt 0 u i)).1.1,(Di.bW p i (Di.gt 0 u i)).1.2]) rfl rfl rfl)) ?_
           refine Kq (aa.mG rfl rfl rfl ?_) ?_
           ·exact az
           refine aA.nil ?_
           refine af ?_
           refine Ki (fun WW=> ?_) fun WW=> ?_
           ·exfalso
            simp at WW
           ·iterate 3 refine af ?_
            refine Kc (aa.add (m:=((i+1:Nat):Int)) rfl rfl rfl ((aK ?_).trans ?_)) ?_
            ·omega
            ·omega
            iterate 2 refine af ?_
            refine⟨(i+1,z2),?_,?_,?_⟩
            ·exact⟨nA,Av⟩
            ·show u.length - (i+1)<u.length - i
             omega
            exact To.sub KS
          ·refine aF.exit ?_
           iterate 2 refine af ?_
           refine Kc (Kp (pN)) ?_
           iterate 3 refine af ?_
           refine Fin.fQ rfl rfl ?_
           simp
theorem X6(p:Di.bn)(l:List Di.aH)(b9:List Nat)(hpl:p.dies.length<=9223372036854775807)(zQ:l.length<=9223372036854775807)(Rv:b9.length<=9223372036854775807)(OJ:∀ x∈b9,x<=255):Pure Tryz.prog 6 [Di.dO p,Di.cv l,.is (b9.flatMap Uk) b9.length] (.bool true):=by
 cases h1:((((decide (8<(p.dies.length:Int))||decide (12<(l.length:Int)))||decide ((b9.length:Int)=0))|| !Di.cL p)|| !Di.cG l) with
 | true=>exact T7 p l b9 hpl zQ Rv OJ h1
 | false=>
  have h2:=h1
  simp only[XC,Wk,Wl] at h2
  obtain⟨⟨⟨⟨_,_⟩,h3⟩,h4⟩,h5⟩:=h2
  cases h6:(Di.bR p l).is with
  | true=>exact Vh p l b9 hpl zQ Rv OJ h1 h4 h5 h6
  | false=>exact W0 p l b9 hpl zQ Rv OJ h1 (by omega) h4 h5 h6
theorem UN{x:List PV}(h:oM [.sl [.leaf (.int .u8)]] x):∃ l:List Nat,x=[.is (l.flatMap Uk) l.length]∧l.length<=9223372036854775807∧∀ y∈l,y<=255:=by
 have key:∀ els:List (List PV),(∀(i:Nat) (el:List PV),els[i]? =some el->oM [.leaf (.int .u8)] el)->∃ l:List Nat,els.flatten=l.flatMap Uk∧l.length=els.length∧∀ y∈l,y<=255:=by
  intro els
  induction els with
  | nil=>intro _;exact⟨[],rfl,rfl,fun y h=>by cases h⟩
  | cons e els ih=>
   intro h
   obtain⟨n,hn,hn2⟩:=RY (h 0 e rfl)
   obtain⟨l,h1,h2,h3⟩:=ih fun i el hi=>h (i+1) el (by simpa using hi)
   refine⟨n::l,?_,by simp[h2],fun y hy=> ?_⟩
   ·rw[O1,h1,hn,ZH];rfl
   ·rcases Zr.1 hy with rfl | hy
    ·exact hn2
    ·exact h3 y hy
 cases h with
 | cons _ _ y ys h1 h2=>
  cases h2
  cases h1 with
  | sl _ els hl hel=>
   obtain⟨l,e1,e2,e3⟩:=key els hel
   exact⟨l,by rw[e1,e2],by rw[e2];exact hl,e3⟩
theorem Cb{x0 x1 x2:List PV}(h0:oM SO x0)(h1:oM [.sl [.leaf (.int .i64),.leaf (.int .i64),.leaf (.int .i64)]] x1)(h2:oM [.sl [.leaf (.int .u8)]] x2):Pure Tryz.prog 6 [QN true x0,QN false x1,QN false x2] (.bool true):=by
 obtain⟨p,rfl,hp⟩:=Un h0
 obtain⟨l,rfl,hl⟩:=Pu h1
 obtain⟨b,rfl,hb,iu⟩:=UN h2
 exact X6 p l b hp hl hb iu
end Go.Proofs.YtibffijhebobmaaGreatDoor
end
