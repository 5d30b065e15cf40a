/-
 Chapter 15: marks: lines that are not mark, back or keep leave them; a mark and what goes back to it. No program in sight.
 Chapter 15: marks that are counted; what is entered behind a mark, and back to it. No program in sight.
 Chapter 15: lines that are made of a word and numbers are read as these; words between blanks. No program in sight.
 Across chapters 1 and 15: sacks that are entered, leads that are made of two of them, and what they come from. No program in sight.
 Chapter 15: a line that is refused, and a question, changes nothing. No program in sight.
 Chapter 15: what a line that is not refused adds; refused lines. No program in sight.
 Chapter 15: what more of the library's texts do at this program: a text within a text, what is behind a prefix, numbers that are read, words between blanks.
 The helper of MasterBack and MasterRefused: how many marks there are.
-/
import Derived.Test.YtibffijhebobmaaGreatDoorMzSG
import Derived.Test.YtibffijhebobmaaGreatDoorMzSP
import Derived.Test.YtibffijhebobmaaGreatDoorMzSJ
import Derived.Lib.Fields
import Derived.Test.YtibffijhebobmaaGreatDoorMzSC
import Derived.Lib.IndexMore
import Derived.Test.YtibffijhebobmaaGreatDoorMzSA
import Derived.Lib.AtoiErrMem
import Derived.Test.YtibffijhebobmaaGreatDoorMzSF
import Derived.Test.YtibffijhebobmaaGreatDoorMzSZ
theorem ic{A:Prop}(h:A:=by
 exact fun h=>absurd h (by dsimp only;decide)):A:=h
theorem BK{A:Prop}(h:A:=by
 unfold bp
 dsimp only
 rw[h,List.getLast?_concat]
 dsimp only
 rw[List.dropLast_concat,Zc,Wo]
 congr 3
 show[((m.length+1:Nat):Int) - 1]=_
 congr 1
 omega):A:=h
theorem C6{A:Prop}(h:A:=by
 exact fun _=>⟨⟨_,rfl⟩,rfl,rfl,⟨fun h=>(by cases h),fun _=>rfl⟩,⟨fun h=>(by cases h),fun _=>⟨rfl,rfl⟩⟩,_,_,e1 _⟩):A:=h
theorem Et{A:Prop}(h:A:=by
 show(bif O1 (Di.gt [] L g) then nw F L g else(aD (nw F L g) (Di.gt [] L g)).1)=_
 rw[h];rfl):A:=h
set_option linter.unusedSimpArgs false
set_option linter.unusedVariables false
section
namespace Go.Proofs.YtibffijhebobmaaGreatDoor
open Go.AF
theorem wL{s:Bs}{v:Vb}{n:List Int}(h:bO s=some (v,n))(h0:v.many=0):s=v.t∧n=[]:=by
 have hl:=(nt h).1
 rw[h0,KJ] at hl
 refine⟨?_,hl⟩
 unfold bO at h
 have hj:cQ 32 (bf s)=s:=qB 32 s []
 split at h
 ·cases h
 ·rename_i w l hw
  rw[hw] at hj
  split at h
  ·cases h
  ·rename_i v' hv
   split at h
   ·rename_i hm
    simp only[Zi] at h
    obtain⟨m,_,he⟩:=h
    cases he
    rw[h0,KJ] at hm
    subst hm
    rw[oA hv]
    exact hj.symm.trans (by unfold cQ;simp)
   ·cases h
theorem FO{F:bT}{s:Bs}(h1:s≠Vb.mark.t)(h2:s≠Vb.back.t)(h3:s≠Vb.keep.t):(aD F s).1.marks=F.marks∧(aD F s).1.aT=F.aT:=by
 refine y4 fun _ v n hp=> ?_
 cases v <;> first | rfl | exact absurd (wL hp rfl).1 h1 | exact absurd (wL hp rfl).1 h2 | exact absurd (wL hp rfl).1 h3
theorem MI:bO Vb.mark.t=some (.mark,[]):=by decide+kernel
theorem LP:bO Vb.back.t=some (.back,[]):=by decide+kernel
theorem MT:bO Vb.keep.t=some (.keep,[]):=by decide+kernel
def tB:Bs:=[109,97,114,107]
def wP:Bs:=[98,97,99,107]
def uZ:Bs:=[107,101,101,112]
theorem zc(F:bT):aD F tB=if 8<=F.marks.length then(F,[],9) else({F with marks:=F.marks++[F.b]},bn tB [(F.marks.length:Int)+1],0):=by
 unfold aD
 rw[if_neg (by decide),show bO tB=some (.mark,[]) from MI]
 rfl
theorem Jm{F:bT}{m:List bI}{x:bI}(h:F.marks=m++[x]):aD F uZ=({F with marks:=m},bn uZ [(m.length:Int)],0):=by
 unfold aD
 rw[if_neg (by decide),show bO uZ=some (.keep,[]) from MT]
 show bp F .keep []=_
 exact BK
theorem IZ{F:bT}{m:List bI}{x:bI}(h:F.marks=m++[x]):aD F wP=({F with b:=x,marks:=m},bn wP [(m.length:Int)],0):=by
 unfold aD
 rw[if_neg (by decide),show bO wP=some (.back,[]) from LP]
 show bp F .back []=_
 exact BK
set_option maxRecDepth 100000
def O1(s:Bs):Bool:=decide (s=wP)||decide (s=uZ)||decide (s=tB)
def nw(F:bT)(L:List Bs):Nat->bT
 | 0=>F
 | g+1=>bif O1 (Di.gt [] L g) then nw F L g else(aD (nw F L g) (Di.gt [] L g)).1
theorem qi{F:bT}{L:List Bs}{g:Nat}(h:O1 (Di.gt [] L g)=true):nw F L (g+1)=nw F L g:=by
 exact Et
theorem Aj{F:bT}{L:List Bs}{g:Nat}(h:O1 (Di.gt [] L g)=false):nw F L (g+1)=(aD (nw F L g) (Di.gt [] L g)).1:=by
 exact Et
theorem uv{F:bT}{L:List Bs}(hF:kO F):∀ g,kO (nw F L g)
 | 0=>hF
 | g+1=>by
  cases h:O1 (Di.gt [] L g) with
  | true=>rw[qi h];exact uv hF g
  | false=>rw[Aj h];exact zp (uv hF g)
theorem yY{F:bT}{L:List Bs}:∀ g,(nw F L g).marks=F.marks∧(nw F L g).aT=F.aT
 | 0=>⟨rfl,rfl⟩
 | g+1=>by
  obtain⟨h1,h2⟩:=yY (F:=F) (L:=L) g
  cases h:O1 (Di.gt [] L g) with
  | true=>rw[qi h];exact⟨h1,h2⟩
  | false=>
   rw[Aj h]
   unfold O1 at h
   simp only[PF,ZY] at h
   obtain⟨k1,k2⟩:=FO (F:=nw F L g) (s:=Di.gt [] L g) h.2 h.1.1 h.1.2
   exact⟨k1.trans h1,k2.trans h2⟩
def bT.CG(F:bT):bT:={F with marks:=F.marks++[F.b]}
theorem Fs{F:bT}(hF:kO F)(h:F.marks.length<8):kO F.CG:=⟨hF.p,hF.b,by
 show(F.marks++[F.b]).length<=8
 rw[Zc,Wo];omega,fun x hx=>by
 rcases Zq.1 hx with h | h
 ·exact hF.We x h
 ·rw[ZK.1 h];exact hF.b⟩
theorem th{F:bT}(h:8<=F.marks.length):aD F tB=(F,[],9):=by rw[zc,if_pos h]
theorem Is{F:bT}(h:F.marks.length<8):aD F tB=(F.CG,bn tB [(F.marks.length:Int)+1],0):=by rw[zc,if_neg (by omega)];rfl
theorem M8(F:bT):aD F.CG uZ=(F,bn uZ [(F.marks.length:Int)],0):=Jm (F:=F.CG) (m:=F.marks) (x:=F.b) rfl
theorem back_mk{F G:bT}(hm:G.marks=F.CG.marks)(hp:G.aT=F.CG.aT):aD G wP=(F,bn wP [(F.marks.length:Int)],0):=by
 rw[IZ (F:=G) (m:=F.marks) (x:=F.b) hm]
 obtain⟨p,b,m⟩:=F
 obtain⟨p2,b2,m2⟩:=G
 have e:p2=p:=hp
 rw[e]
theorem vr(w:Bs)(k:Int):bn w [k]=(w++[32])++Lib.itoa k:=by simp[bn]
theorem FU:∀ n,n<1002->Lib.atoi (Lib.itoa ((n:Nat):Int))=some ((n:Nat):Int):=by decide+kernel
theorem Qo(p t:Bs):p.isPrefixOf (p++t)=true:=by rw[Zbu];exact V6 p t
def okE(F:bT)(x:bT×Bs×Int):Prop:=x.2.2≠0->x.1=F∧x.2.1=[]
def okN(x:bT×Bs×Int):Prop:=x.2.2=0->x.2.1≠[]
theorem TW(F:bT)(v:Vb)(n:List Int):okE F (bp F v n):=by
 cases v <;> unfold bp <;> dsimp only <;> (repeat' split) <;> intro h <;> first | exact⟨rfl,rfl⟩ | exact absurd rfl h
theorem BJ{w:Bs}{l:List Int}(h:w≠[]):bn w l≠[]:=fun e=>by
 unfold bn at e
 exact h (List.append_eq_nil_iff.1 e).1
theorem vN{a b:Bs}(h:a≠[]):a++b≠[]:=fun e=>h (List.append_eq_nil_iff.1 e).1
theorem Tt(F:bT)(v:Vb)(n:List Int):okN (bp F v n):=by
 have hc:gG≠[]:=by decide
 cases v <;> unfold bp <;> dsimp only <;> (repeat' split) <;> intro h <;> first
  | exact absurd h (by decide)
  | exact absurd h (by assumption)
  | exact BJ (by decide)
  | exact vN (BJ (by decide))
  | (exfalso;simp_all;done)
def Gi(v:Vb):Bool:=match v with
 | .blame=>true
 | .call=>true
 | .from_=>true
 | .wear=>true
 | _=>false
theorem UD{F:bT}{v:Vb}{n:List Int}(h:Gi v=true):(bp F v n).1=F:=by
 cases v <;> first | cases h | skip
 all_goals
  unfold bp
  dsimp only
  try split
  all_goals rfl
theorem BG(F:bT)(s:Bs):okE F (aD F s):=by
 unfold aD
 split
 ·exact fun _=>⟨rfl,rfl⟩
 ·split
  ·exact fun _=>⟨rfl,rfl⟩
  ·exact TW F _ _
theorem L1(F:bT)(s:Bs):okN (aD F s):=by
 unfold aD
 split
 ·exact fun h=>absurd h (show ¬ (3:Int)=0 by decide)
 ·split
  ·exact fun h=>absurd h (show ¬ (8:Int)=0 by decide)
  ·exact Tt F _ _
def Wa(v:Vb):Bool:=match v with
 | .kJ=>true
 | .slat=>true
 | .lead=>true
 | .pencil=>true
 | _=>false
theorem Qj{F:bT}{v:Vb}{n:List Int}(hv:v= .bad∨v= .good)(h:(bp F v n).2.2=0):(bp F v n).1.b.ag=F.b.ag∧(bp F v n).1.b.bad||| (bp F v n).1.b.good=F.b.bad||| F.b.good||| 2^(nn n 0).toNat:=by
 revert h
 rcases hv with rfl | rfl
 ·unfold bp;dsimp only
  split
  ·rename_i h1;exact fun h=>absurd h h1
  ·rename_i h1
   split
   ·exact ic
   ·refine fun _=>⟨rfl,?_⟩
    show(F.b.bad+pow2 (nn n 0))||| F.b.good=_
    rw[show pow2 (nn n 0)=2^(nn n 0).toNat from rfl,nF (xb (Vd.1 h1)).2,Nat.or_assoc,Nat.or_assoc,Nat.or_comm (2^_)]
 ·unfold bp;dsimp only
  split
  ·rename_i h1;exact fun h=>absurd h h1
  ·rename_i h1
   split
   ·exact ic
   ·refine fun _=>⟨rfl,?_⟩
    show F.b.bad||| (F.b.good+pow2 (nn n 0))=_
    rw[show pow2 (nn n 0)=2^(nn n 0).toNat from rfl,nF (xb (Vd.1 h1)).2,Nat.or_assoc]
theorem VT{s:Bs}(h:mq (bf s) ((bf s).length - 1)=false):bO s=none:=(xC s).2 h
theorem PE{F:bT}{s:Bs}(h:bO s=none):(aD F s).2.2=8∨(aD F s).2.2=3:=by
 unfold aD
 rw[h]
 split
 ·exact .inr rfl
 ·exact .inl rfl
theorem NK{F:bT}{s:Bs}{v:Vb}{n:List Int}(h:bO s=some (v,n))(he:(aD F s).2.2=0):aD F s=bp F v n:=by
 unfold aD at he ⊢
 rw[h] at he ⊢
 split at he
 ·cases he
 ·rename_i h2;rw[if_neg h2]
theorem VS{F:bT}{s:Bs}:(aD F s).2.2=0↔(aD F s).2.1≠[]:=by
 constructor
 ·exact L1 F s
 ·intro h
  by_cases h0:(aD F s).2.2=0
  ·exact h0
  ·exact absurd (BG F s h0).2 h
structure Xn (F G:bT) (v:Vb) (r:Bs):Prop where
 ag:∃ x,G.b.ag=F.b.ag++[x]
 bad:G.b.bad=F.b.bad
 good:G.b.good=F.b.good
 sk:(v= .kJ->∃ x,G.b.aq=F.b.aq++[x])∧(v≠ .kJ->G.b.aq=F.b.aq)
 dr:(v= .lead->(∃ x,G.b.au=F.b.au++[x])∧∃ x,G.b.plan=F.b.plan++[x])∧(v≠ .lead->G.b.au=F.b.au∧G.b.plan=F.b.plan)
 rep:∃ a c,r++[32]=a++((gG++[32]++Lib.itoa (F.b.ag.length:Int)++[32])++c)
theorem V7{F:bT}{v:Vb}{n:List Int}(hv:Wa v=true)(h:(bp F v n).2.2=0):Xn F (bp F v n).1 v (bp F v n).2.1:=by
 have e1:∀ k:Int,bn gG [k]++[32]=[]++((gG++[32]++Lib.itoa k++[32])++[]):=fun k=>by simp[bn]
 have e2:∀(k:Int) (b:Bs),(bn gG [k]++32::b)++[32]=[]++((gG++[32]++Lib.itoa k++[32])++(b++[32])):=fun k b=>by simp[bn]
 have e3:∀(k:Int) (a:Bs),(a++32::bn gG [k])++[32]=(a++[32])++((gG++[32]++Lib.itoa k++[32])++[]):=fun k a=>by simp[bn]
 revert h
 cases v <;> first | cases hv | skip
 case kJ=>
  unfold bp;dsimp only
  split
  ·exact ic
  ·split
   ·rename_i h1;exact fun h=>absurd h h1
   ·exact fun _=>⟨⟨_,rfl⟩,rfl,rfl,⟨fun _=>⟨_,rfl⟩,fun h=>absurd rfl h⟩,⟨fun h=>(by cases h),fun _=>⟨rfl,rfl⟩⟩,_,_,e3 _ _⟩
 case slat=>
  unfold bp;dsimp only
  split
  ·exact ic
  ·exact C6
 case lead=>
  unfold bp;dsimp only
  split
  ·exact ic
  ·split
   ·rename_i h1;exact fun h=>absurd h h1
   ·split
    ·exact ic
    ·split
     ·rename_i h1;exact fun h=>absurd h h1
     ·exact fun _=>⟨⟨_,rfl⟩,rfl,rfl,⟨fun h=>(by cases h),fun _=>rfl⟩,⟨fun _=>⟨⟨_,rfl⟩,⟨_,rfl⟩⟩,fun h=>absurd rfl h⟩,_,_,e2 _ _⟩
 case pencil=>
  unfold bp;dsimp only
  split
  ·exact ic
  ·split
   ·exact ic
   ·split
    ·exact ic
    ·exact C6
theorem Y8{F:bT}{v:Vb}{n:List Int}(hv:v= .mark∨v= .keep):(bp F v n).1.b=F.b:=by
 rcases hv with rfl | rfl
 ·unfold bp;dsimp only;split <;> rfl
 ·unfold bp;dsimp only
  split <;> rfl
theorem UL{F:bT}{v:Vb}{n:List Int}(hv:v= .bad∨v= .good)(h:(bp F v n).2.2=0):nn n 0<(F.b.ag.length:Int):=by
 revert h
 rcases hv with rfl | rfl <;>
 ·unfold bp;dsimp only
  split
  ·rename_i h1;exact fun h=>absurd h h1
  ·rename_i h1
   exact fun _=>(xb (Vd.1 h1)).1
theorem VD(a s c:Bs):Lib.occAt (a++(s++c)) s a.length=true:=by
 unfold Lib.occAt
 simp
theorem TF{t a s c:Bs}(h:t=a++(s++c)):0<=Lib.index t s:=by
 subst h
 rcases Lib.index_spec (a++(s++c)) s with⟨_,h2⟩ | ⟨i,h1,_⟩
 ·have:=h2 a.length (by rw[Zc];omega)
  rw[VD] at this
  cases this
 ·omega
set_option maxHeartbeats 4000000
open Go.Proofs
theorem Ql{a:ByteArray}:∀(w:World) (I:Nat->Prop) (vs:List Value),aQ w I [.str a] vs->vs=[.string a]:=fun w I vs h=>by
 obtain⟨u0,UX,rfl,k0,k1⟩:=h
 have k0:u0= .string a:=k0
 have k1:UX=[]:=k1
 rw[k0,k1]
theorem zV(s t:Bs)(hs:s.length<=1000000):Pure Tryz.prog 16 [.str (sB s),.str (sB t)] (.bool (decide (0<=Lib.index s t))):=
 Pure.sQ (us:=[.string (sB s),.string (sB t)]) qQ fun w I hg=>by
  obtain⟨m,hm⟩:=I7 hg mxl
  exact(Any.strings_Contains Tryz.PI (sB s) (sB t) m w (by rw[cU];omega) hm).mono fun e w' ⟨h1,h2⟩=>⟨_,h1,fun _ _=>by
   show Value.bool (decide (0<=Lib.index (sB s).data.toList (sB t).data.toList))=Value.bool _
   rw[dQ,dQ],0,#[],by rw[h2,Go.Sort.grow_empty];rfl⟩
theorem AE(p t:Bs):Pure Tryz.prog 36 [.str (sB (p++t)),.str (sB p)] (.tuple [.str (sB t),.bool true]):=
 Pure.sQ (us:=[.string (sB (p++t)),.string (sB p)]) qQ fun w I hg=>by
  refine(Any.strings_CutPrefix Tryz.PL (sB (p++t)) (sB p) w).mono fun e w' ⟨h1,h2⟩=>⟨_,h1,fun _ _=> ?_,0,#[],by rw[h2,Go.Sort.grow_empty];rfl⟩
  rw[dQ,dQ]
  have e1:Lib.hasPrefix (p++t) p=true:=by unfold Lib.hasPrefix;exact Qo p t
  have e2:Lib.trimPrefix (p++t) p=t:=by unfold Lib.trimPrefix;rw[e1,if_pos rfl,List.drop_left]
  rw[e1,e2]
  exact⟨_,rfl,_,_,rfl,rfl,_,_,rfl,rfl,rfl⟩
theorem RG(n:Nat)(hn:n<1002):Pure Tryz.prog 24 [.str (sB (Lib.itoa (n:Int)))] (.tuple [.int .i64 (n:Int),.nilIface]):=
 Pure.Rw (us:=[.string (sB (Lib.itoa (n:Int)))]) Ql fun w I hg=>by
  refine(Any.strconv_Atoi Tryz.QY (sB (Lib.itoa (n:Int))) n (by rw[cU];have:=nq (n:=(n:Int)) (by omega) (by omega);omega) (by rw[dQ];exact FU n hn) w).mono fun e w' ⟨h1,t,h2⟩=>⟨_,h1,fun _ _=>⟨_,rfl,_,_,rfl,rfl,_,_,rfl,rfl,rfl⟩,by rw[h2];exact Lib.bytesWorld_below _ _ _⟩
end Go.Proofs.YtibffijhebobmaaGreatDoor
end
section
set_option maxRecDepth 100000
set_option maxHeartbeats 4000000
namespace Go.Proofs.YtibffijhebobmaaGreatDoor
open Go.AF
theorem AN{R:Option Nat}{N:Nat}{Q:Post}{T T2:Tm}{o:Oper}{ops:Array Oper}{rest:List Oper}{f:Operand}{xs:Array Operand}{ts:Array TypeId}(d:Nat)(F:bT)(z:Bool)(s:Bs){G:bT}{r:Bs}{e:Int}(hF:kO F)(hz:z=true->F.marks=[])(hl0:aD F s=(G,r,e))
    (ho:o.op= .call {callee:= .value f,args:=xs,argTypes:=ts})(hd:o.dst=some d)(hN:aU N (some d)=true)(hg:o.guard=none)(hf:ev T f=some (.p (.func (.func 13) [] [])))(hxs:jU T xs.toList=some [.ptr 0 0,.p (.str (sB s))])(TG:ak Tryz.prog 13=true)(hT:Sub T2 T)(hl:eV (below 1) T2=T2)
    (next:∀ z',(z'=true->G.marks=[])->aj Tryz.prog R N 0 ops rest Q ((d,.p (.tuple [.str (sB r),.int .i64 e]))::T2) (bH 0 G z')):aj Tryz.prog R N 0 ops (o::rest) Q T (bH 0 F z):=by
 have e1:(aD F s).1=G:=by rw[hl0]
 have e2:xy F s= .p (.tuple [.str (sB r),.int .i64 e]):=by unfold xy;rw[hl0]
 refine HF d [] F z s hF hz (fun i x h=>by simp at h) (Zp _) ho hd hN hg hf hxs TG hT hl (fun z' hz'=> ?_)
 rw[e1] at hz'
 show aj _ _ _ _ _ _ _ _ (bH 0 (aD F s).1 z')
 rw[e1,e2]
 exact next z' hz'
def Lr(F:bT):List ai->Prop:=fun H2=>∃ z q im qs,e8 0 F z H2 q im qs
def Fb(F:bT):V->List ai->Prop:=fun v H2=>v= .p (.int .i64 (F.marks.length:Int))∧Lr F H2
theorem LG{R:Option Nat}{N κ:Nat}{Q:Post}{T:Tm}{o:Oper}{ops:Array Oper}{rest:List Oper}{f:Operand}{xs:Array Operand}{ts:Array TypeId}{fv:V}{vs:List V}(d:Nat){F:bT}{z:Bool}{H:List ai}{q:P5}{im:Nat}{qs:List P5}(s:Bs){G:bT}{r:Bs}{e:Int}(hfl:e8 0 F z H q im qs)(hF:kO F)(hl0:aD F s=(G,r,e))
    (ho:o.op= .call {callee:= .value f,args:=xs,argTypes:=ts})(hd:o.dst=some d)(hN:aU N (some d)=true)(hg:o.guard=none)(hf:ev T f=some fv)(hxs:jU T xs.toList=some vs)(hc:callee vs fv=some (13,[.ptr 0 0,.p (.str (sB s))]))(TG:ak Tryz.prog 13=true)
    (next:∀ z' q' im' ET H2,e8 0 G z' H2 q' im' ET->aj Tryz.prog R N κ ops rest Q ((d,.p (.tuple [.str (sB r),.int .i64 e]))::T) H2):aj Tryz.prog R N κ ops (o::rest) Q T H:=by
 refine aj.dH d (tv hfl hF s) ho hd hN hg hf hxs hc TG (fun _ _ h=>h.elim) fun x H3 hx=> ?_
 obtain⟨rfl,⟨z',q',im',ET,h2⟩,_⟩:=hx
 rw[hl0] at h2 ⊢
 exact next z' q' im' ET H3 h2
theorem R2(n:Nat):bn [109,97,114,107] [(n:Int)+1]=[109,97,114,107,32]++Lib.itoa ((n+1:Nat):Int):=vr _ _
theorem Ro(n:Nat):bn [107,101,101,112] [(n:Int)]=[107,101,101,112,32]++Lib.itoa (n:Int):=vr _ _
theorem R4(n:Nat):bn [98,97,99,107] [(n:Int)]=[98,97,99,107,32]++Lib.itoa (n:Int):=vr _ _
theorem uq{F:bT}(h:F.marks.length<8):aD F [109,97,114,107]=(F.CG,[109,97,114,107,32]++Lib.itoa ((F.marks.length+1:Nat):Int),0):=by rw[<- R2];exact Is h
theorem Gp(F:bT):aD F.CG [107,101,101,112]=(F,[107,101,101,112,32]++Lib.itoa (F.marks.length:Int),0):=by rw[<- Ro];exact M8 F
theorem PA{F G:bT}(hm:G.marks=F.CG.marks)(hp:G.aT=F.CG.aT):aD G [98,97,99,107]=(F,[98,97,99,107,32]++Lib.itoa (F.marks.length:Int),0):=by rw[<- R4];exact back_mk hm hp
theorem Ib{F:bT}(h:8<=F.marks.length):aD F [109,97,114,107]=(F,[],9):=th h
theorem GS{n:Nat}(h:n<=100):(Lib.itoa (n:Int)).length<=13:=nq (by omega) (by omega)
theorem Fl(F:bT)(z:Bool)(H:List ai)(q:P5)(im:Nat)(qs:List P5)(hfl:e8 0 F z H q im qs)(hF:kO F)(h8:8<=F.marks.length):az Tryz.prog 11 [.ptr 0 0] H (Fb F):=by
 have hm:=hF.mm
 refine az.start (N:=61) Tryz.func11 rfl rfl Kn ?_
 iterate 7 refine af ?_
 refine LG 13 [109,97,114,107] hfl hF (th h8) rfl rfl rfl rfl rfl rfl rfl an (fun z1 q1 im1 qs1 H1 U8=> ?_)
 iterate 12 refine af ?_
 refine Kg 19 18 3 rfl (fun h=>(aa.move rfl rfl)) ?_
 refine Kh 20 18 19 rfl rfl rfl rfl (fun h=>(aa.dJ [] [] rfl rfl rfl)) ?_
 refine Kc (aa.ec rfl rfl rfl ?_) ?_
 ·exact ax
 refine af ?_
 refine Ki (fun hc0=> ?_) fun hc0=> ?_
 ·iterate 5 refine af ?_
  exact jV.one rfl rfl ⟨by rw[show F.marks.length=8 by omega];rfl,z1,q1,im1,qs1,U8⟩
 ·exfalso
  simp at hc0
theorem Fz(F:bT)(z:Bool)(H:List ai)(q:P5)(im:Nat)(qs:List P5)(hfl:e8 0 F z H q im qs)(hF:kO F)(h8:F.marks.length<8):az Tryz.prog 11 [.ptr 0 0] H (Fb F):=by
 have hm:=hF.mm
 refine az.start (N:=61) Tryz.func11 rfl rfl Kn ?_
 have Te:=GS (n:=F.marks.length) (by omega)
 iterate 7 refine af ?_
 refine LG 13 [109,97,114,107] hfl hF (uq h8) rfl rfl rfl rfl rfl rfl rfl an (fun z1 q1 im1 qs1 H1 U8=> ?_)
 iterate 12 refine af ?_
 refine Kg 19 18 3 rfl (fun h=>(aa.move rfl rfl)) ?_
 refine Kh 20 18 19 rfl rfl rfl rfl (fun h=>(aa.dJ ([109,97,114,107,32]++Lib.itoa ((F.marks.length+1:Nat):Int)) [] rfl rfl rfl)) ?_
 refine Kc (aa.ec rfl rfl rfl ?_) ?_
 ·exact ax
 refine af ?_
 refine Ki (fun hc0=> ?_) fun hc0=> ?_
 ·exfalso
  simp at hc0
 ·iterate 4 refine af ?_
  refine Kc (Kp (AE [109,97,114,107,32] (Lib.itoa ((F.marks.length+1:Nat):Int)))) ?_
  iterate 9 refine af ?_
  refine Kc (Kp (RG (F.marks.length+1) (by omega))) ?_
  iterate 9 refine af ?_
  refine LG 34 [107,101,101,112] U8 (Fs hF h8) (Gp F) rfl rfl rfl rfl rfl rfl rfl an (fun z2 q2 im2 qs2 H2 aal=> ?_)
  iterate 12 refine af ?_
  refine Kg 40 39 6 rfl (fun h=>(aa.move rfl rfl)) ?_
  refine Kh 41 39 40 rfl rfl rfl rfl (fun h=>(aa.gW rfl rfl)) ?_
  refine Kc (aa.kA rfl rfl rfl ?_) ?_
  ·exact ax
  refine af ?_
  refine Kg 44 43 8 rfl (fun h=>(aa.move rfl rfl)) ?_
  refine Kh 45 43 44 rfl rfl rfl rfl (fun h=>(aa.HC rfl rfl Xy)) ?_
  refine Kc (aa.kA rfl rfl rfl ?_) ?_
  ·exact ax
  refine af ?_
  refine Kg 48 47 10 rfl (fun h=>(aa.move rfl rfl)) ?_
  refine Kh 49 47 48 rfl rfl rfl rfl (fun h=>(aa.neq rfl rfl rfl)) ?_
  refine Kc (aa.kA rfl rfl rfl ?_) ?_
  ·exact ax
  refine af ?_
  refine Kg 52 51 9 rfl (fun h=>(aa.move rfl rfl)) ?_
  refine Kg 53 51 7 rfl (fun h=>(aa.move rfl rfl)) ?_
  refine Kh 54 51 53 rfl rfl rfl rfl (fun h=>(aa.fN (m:=((F.marks.length:Nat):Int)) rfl rfl rfl ((aI (by omega)).trans (by omega)))) ?_
  refine Kh 55 51 54 rfl rfl rfl rfl (fun h=>(Kp (lQ (F.marks.length:Int) (by omega) (by omega)))) ?_
  refine Kh 56 51 55 rfl rfl rfl rfl (fun h=>(aa.nB [107,101,101,112,32] (Lib.itoa (F.marks.length:Int)) rfl rfl rfl (by show 5+_<_;omega))) ?_
  refine aj.g 57 51 rfl rfl rfl rfl rfl rfl rfl [(52,_),(56,_)] (fun h=>And.intro (.inr ⟨_,rfl,h⟩) (And.intro (.inr ⟨_,rfl,h⟩) (trivial))) (fun h=>(aa.mQ ([107,101,101,112,32]++Lib.itoa (F.marks.length:Int)) ([107,101,101,112,32]++Lib.itoa (F.marks.length:Int)) rfl rfl rfl)) ?_
  refine Kc (aa.kA rfl rfl rfl ?_) ?_
  ·exact ax
  refine af ?_
  refine Ki (fun cK=> ?_) fun cK=> ?_
  ·exfalso
   simp at cK
  ·iterate 4 refine af ?_
   refine Kc (aa.fN (m:=((F.marks.length:Nat):Int)) rfl rfl rfl ((aI ?_).trans ?_)) ?_
   ·omega
   ·omega
   iterate 3 refine af ?_
   exact jV.one rfl rfl ⟨rfl,z2,q2,im2,qs2,aal⟩
theorem ru{F:bT}{z:Bool}{H:List ai}{q:P5}{im:Nat}{qs:List P5}(hfl:e8 0 F z H q im qs)(hF:kO F):ay Tryz.prog 11 [.ptr 0 0] H (Fb F) (fun _ _=>False):=by
 by_cases h:F.marks.length<8
 ·exact(Fz F z H q im qs hfl hF h).Kd
 ·exact(Fl F z H q im qs hfl hF (by omega)).Kd
theorem FM{R:Option Nat}{N:Nat}{Q:Post}{T T2:Tm}{o:Oper}{ops:Array Oper}{rest:List Oper}{f:Operand}{xs:Array Operand}{ts:Array TypeId}{fv:V}{vs:List V}(d:Nat)(F:bT)(z:Bool)(hF:kO F)(hz:z=true->F.marks=[])
    (ho:o.op= .call {callee:= .value f,args:=xs,argTypes:=ts})(hd:o.dst=some d)(hN:aU N (some d)=true)(hg:o.guard=none)(hf:ev T f=some fv)(hxs:jU T xs.toList=some vs)(hc:callee vs fv=some (11,[.ptr 0 0]))(TG:ak Tryz.prog 11=true)(hT:Sub T2 ((d,.p (.int .i64 (F.marks.length:Int)))::T))(hl:eV (below 1) T2=T2)
    (next:∀ z',(z'=true->F.marks=[])->aj Tryz.prog R N 0 ops rest Q T2 (bH 0 F z')):aj Tryz.prog R N 0 ops (o::rest) Q T (bH 0 F z):=by
 refine aj.dH d (ru (en [] F z hz) hF) ho hd hN hg hf hxs hc TG (fun _ _ h=>h.elim) fun x H3 hx=> ?_
 obtain⟨rfl,z',q,im,qs,hfl⟩:=hx
 exact aj.to (wU hfl (pre:=[]) rfl (fun i x h=>by simp at h) (Zp _) hT hl) (next z' hfl.mz)
end Go.Proofs.YtibffijhebobmaaGreatDoor
end
