/-
 The laws across chapters: lines as texts.
 The law TopMixed.
-/
import Derived.Test.YtibffijhebobmaaGreatDoorMzUF
import Derived.Test.YtibffijhebobmaaGreatDoorMzUJ
import Derived.Test.YtibffijhebobmaaGreatDoorMzUK
import Derived.Test.YtibffijhebobmaaGreatDoorMzUI
import Derived.Test.YtibffijhebobmaaGreatDoorMzUC
import Derived.Test.YtibffijhebobmaaGreatDoorFaUF
import Derived.Test.YtibffijhebobmaaGreatDoorPmU
import Derived.Test.YtibffijhebobmaaGreatDoorMzUZ
theorem D2{A:Prop}(h:A:=by
 refine Kc (aa.gG rfl rfl rfl ?_) ?_
 ·exact aC
 iterate 3 refine af ?_
 refine Fin.gW rfl rfl ?_
 simp):A:=h
set_option linter.unusedSimpArgs false
set_option linter.unusedVariables false
section
set_option maxRecDepth 100000
set_option maxHeartbeats 4000000
namespace Go.Proofs.YtibffijhebobmaaGreatDoor
open Go.AF
theorem kS(w:Bs)(l:List Int)(hw:w.length<=100)(hl:l.length<=10)(hB:∀ x∈l,0<=x∧x<10000000000000):Pure Tryz.prog 22 [.str (sB w),Di.cg l] (.str (sB (aH w l))):=by
 refine Kf (N:=20) Tryz.func22 ?_
 iterate 12 refine af ?_
 refine aI.iK [4,7,8,19] (fun g=>[(9,.p (.int .i64 ((g:Nat):Int))),(0,.p (.str (sB (aH w (l.take g)))))]) (fun g=>[]) (fun g=>g<=l.length) (fun g=>l.length - g) 0 (Zv _) (To.sub (Sub.cons rfl (Sub.cons (by rw[Ml];unfold aH;rw[List.flatMap_nil,ZU];rfl) KS))) (fun k hg=> ?_)
 iterate 5 refine af ?_
 refine Ki (fun hc0=> ?_) fun hc0=> ?_
 ·have hk0:k<l.length:=by have h:=Zm hc0;omega
  have hx:=hB _ (Di.bH 0 hk0)
  iterate 5 refine af ?_
  refine Kc (aa.bg (g:=Di.gt 0 l) (k:=k) (Di.aL _) rfl rfl rfl an dX rfl (fun _=>rfl) (by decide) hk0) ?_
  refine Kc (Kl (.p (.int .i64 (Di.gt 0 l k)))) ?_
  iterate 4 refine af ?_
  refine Kc (aa.vJ (aH w (l.take k)) [32] rfl rfl rfl (W0 hw hl hB k)) ?_
  refine af ?_
  refine Kc (Kp (tH (Di.gt 0 l k) hx.1 hx.2)) ?_
  refine Kc (aa.vJ (aH w (l.take k)++[32]) (Lib.itoa (Di.gt 0 l k)) rfl rfl rfl (aa5 hw hl hB hk0)) ?_
  iterate 3 refine af ?_
  refine Kc (aa.add (m:=((k+1:Nat):Int)) rfl rfl rfl ((aG ?_).trans ?_)) ?_
  ·omega
  ·omega
  iterate 2 refine af ?_
  refine⟨k+1,?_,?_,?_⟩
  ·exact hk0
  ·omega
  rw[FI,<- fJ hk0]
  exact kU
 ·have WD:k=l.length:=by have h:=Zs hc0;omega
  subst WD
  refine aI.exit ?_
  iterate 6 refine af ?_
  refine Fin.gW rfl rfl ?_
  rw[ZS]
theorem wf0{P:Program}:TE P []:=fun _ h=>by cases h
def KH:List Ck.Sk:=[⟨⟨10,20⟩,⟨900,950⟩,⟨0,0⟩⟩,⟨⟨100,150⟩,⟨0,0⟩,⟨100,120⟩⟩]
theorem aw4:Ck.Ej KH 0 1 1000 ⟨500,600⟩=[.agg [.int .i64 509,.int .i64 564],.int .i64 0]:=by kernel_rfl
theorem QS:Pure Tryz.prog 19 [Ck.bZ KH,.int .i64 0,.int .i64 1,.int .i64 1000,.agg [.int .i64 500,.int .i64 600]] (.tuple [.agg [.int .i64 509,.int .i64 564],.int .i64 0]):=aw4▸Ck.NI KH 0 1 1000 ⟨500,600⟩ (by decide)
theorem Ih(l:List Ck.Sk)(i j t:Int)(w:Ck.Sp)(hl:l.length<=9223372036854775807):Pure Tryz.prog 19 [Ck.bZ l,.int .i64 i,.int .i64 j,.int .i64 t,.agg [.int .i64 w.lo,.int .i64 w.hi]] (.tuple [.agg [.int .i64 (Ck.rU l i j t w),.int .i64 (Ck.sn l i j t w)],.int .i64 (Ck.iJ l i j t w)]):=Ck.Q8 l i j t w▸Ck.NI l i j t w hl
theorem QN:wS Ke [115,97,99,107,32,49,48,32,50,48,32,57,48,48,32,57,53,48,32,48,32,48,10,115,108,97,116,10]=([115,97,99,107,32,48,32,99,97,114,100,32,48,10,99,97,114,100,32,49,10],0):=by decide+kernel
theorem Lh:Pure Tryz.prog 33 [Di.ic Ke,.str (sB [115,97,99,107,32,49,48,32,50,48,32,57,48,48,32,57,53,48,32,48,32,48,10,115,108,97,116,10])] (.tuple [.str (sB [115,97,99,107,32,48,32,99,97,114,100,32,48,10,99,97,114,100,32,49,10]),.int .i64 0]):=by
 have h:=PG Ke [115,97,99,107,32,49,48,32,50,48,32,57,48,48,32,57,53,48,32,48,32,48,10,115,108,97,116,10] (by decide)
 rw[QN] at h
 exact h
theorem Pa{a b c d e:Bool}(h:(a&&b)=(c&&(d&&e))):(!((a&&b)==((c&&d)&&e)))=false:=by rw[h,Bool.and_assoc];simp
theorem WN{l:List Ck.Sk}{i j t:Int}{w:Ck.Sp}(hA:Ck.aF l=true)(hG:Ck.cG l i j t w=true):Ck.iJ l i j t w=0∨Ck.iJ l i j t w=4:=by
 rcases Ck.xP hA hG with⟨h,_⟩ | ⟨h,_⟩
 ·exact .inr h
 ·exact .inl h
theorem wI:Pure Tryz.prog 21 [] (Di.ic Ke):=by
 refine Kf (N:=4) Tryz.func21 ?_
 iterate 7 refine af ?_
 refine Kc (aa.aQ rfl an (by decide) rfl rfl rfl) ?_
 refine Kc (aa.Ft (v:= .p (Di.ic Ke)) rfl an rfl rfl rfl) ?_
 refine Kz (aa.store (H':=[.cells (Ke.cells.map .p) 26]) rfl rfl rfl rfl rfl an rfl rfl) ?_
 iterate 2 refine af ?_
 exact Fin.gW rfl ⟨_,_,_,rfl,an,rfl⟩ rfl
theorem oW:Pure Tryz.prog 18 [] (.bool true):=by
 refine Kf (N:=39) Tryz.func18 ?_
 iterate 12 refine af ?_
 refine Kc (aa.aQ rfl an (by decide) rfl rfl rfl) ?_
 iterate 6 refine af ?_
 refine Kc (Kp (QS)) ?_
 iterate 9 refine af ?_
 refine Kc (Kp (wI)) ?_
 refine Kc (Kp (Lh)) ?_
 iterate 10 refine af ?_
 refine Kc (aa.Xf (d:=8) rfl (.inl rfl) rfl rfl (by decide) aae an rfl aah rfl) ?_
 refine af ?_
 refine Kg 28 27 3 rfl (fun h=>(aa.move rfl rfl)) ?_
 refine Kh 29 27 28 rfl rfl rfl rfl (fun h=>(aa.eql rfl rfl rfl)) ?_
 refine Kc (aa.gG rfl rfl rfl ?_) ?_
 ·exact aC
 refine af ?_
 refine Kg 32 31 4 rfl (fun h=>(aa.move rfl rfl)) ?_
 refine Kh 33 31 32 rfl rfl rfl rfl (fun h=>(aa.LN [115,97,99,107,32,48,32,99,97,114,100,32,48,10,99,97,114,100,32,49,10] [115,97,99,107,32,48,32,99,97,114,100,32,48,10,99,97,114,100,32,49,10] rfl rfl rfl)) ?_
 refine Kc (aa.gG rfl rfl rfl ?_) ?_
 ·exact aC
 refine af ?_
 refine Kg 36 35 5 rfl (fun h=>(aa.move rfl rfl)) ?_
 refine Kh 37 35 36 rfl rfl rfl rfl (fun h=>(aa.eql rfl rfl rfl)) ?_
 exact D2
theorem Jj(l:List Ck.Sk)(i j t b:Int)(w:Ck.Sp)(hl:l.length<=9223372036854775807)(hb:0<=b∧b<=4294967295)(h1:(decide (8<(l.length:Int))|| !Ck.aF l)=true):Pure Tryz.prog 5 [Ck.bZ l,.int .i64 i,.int .i64 j,.int .i64 t,.agg [.int .i64 w.lo,.int .i64 w.hi],.int .u32 b] (.bool true):=by
 refine Kf (N:=243) Tryz.func5 ?_
 iterate 12 refine af ?_
 refine Kg 34 33 0 rfl (fun h=>(aa.move rfl rfl)) ?_
 refine Kh 35 33 34 rfl rfl rfl rfl (fun h=>(Kp (Ck.rW l hl))) ?_
 refine Kh 36 33 35 rfl rfl rfl rfl (fun h=>(aa.gH rfl rfl)) ?_
 refine Kc (aa.pG rfl rfl rfl ?_) ?_
 ·exact aC
 refine af ?_
 refine Ki (fun hc0=> ?_) fun hc0=> ?_
 ·iterate 2 refine af ?_
  refine Kc (Kp (oW)) ?_
  exact jx
 ·exfalso
  rw[h1] at hc0
  cases hc0
theorem JS(l:List Ck.Sk)(i j t b:Int)(w:Ck.Sp)(hl:l.length<=9223372036854775807)(hb:0<=b∧b<=4294967295)(h1:(decide (8<(l.length:Int))|| !Ck.aF l)=false)(h2:Ck.iJ l i j t w=2):Pure Tryz.prog 5 [Ck.bZ l,.int .i64 i,.int .i64 j,.int .i64 t,.agg [.int .i64 w.lo,.int .i64 w.hi],.int .u32 b] (.bool true):=by
 refine Kf (N:=243) Tryz.func5 ?_
 iterate 12 refine af ?_
 refine Kg 34 33 0 rfl (fun h=>(aa.move rfl rfl)) ?_
 refine Kh 35 33 34 rfl rfl rfl rfl (fun h=>(Kp (Ck.rW l hl))) ?_
 refine Kh 36 33 35 rfl rfl rfl rfl (fun h=>(aa.gH rfl rfl)) ?_
 refine Kc (aa.pG rfl rfl rfl ?_) ?_
 ·exact aC
 refine af ?_
 refine Ki (fun hc0=> ?_) fun hc0=> ?_
 ·exfalso
  rw[h1] at hc0
  cases hc0
 ·iterate 7 refine af ?_
  refine Kc (Kl (.p (.agg [.int .i64 w.lo,.int .i64 w.hi]))) ?_
  refine Kc (Kp (Ih l i j t w hl)) ?_
  iterate 4 refine af ?_
  refine Kz (aa.store (H':=[.cells [.p (.int .i64 (Ck.rU l i j t w)),.p (.int .i64 (Ck.sn l i j t w))] 24]) rfl rfl rfl rfl rfl an rfl rfl) ?_
  iterate 8 refine af ?_
  refine Ki (fun c8=> ?_) fun c8=> ?_
  ·iterate 2 refine af ?_
   refine Kc (Kp (oW)) ?_
   exact jx
  ·exfalso
   exact absurd h2 (Zs c8)
theorem MA(l:List Ck.Sk)(i j t b:Int)(w:Ck.Sp)(hl:l.length<=9223372036854775807)(hb:0<=b∧b<=4294967295)(hsp:JF=true)(h1:(decide (8<(l.length:Int))|| !Ck.aF l)=false)(hA:Ck.aF l=true)(hG:Ck.cG l i j t w=true):Pure Tryz.prog 5 [Ck.bZ l,.int .i64 i,.int .i64 j,.int .i64 t,.agg [.int .i64 w.lo,.int .i64 w.hi],.int .u32 b] (.bool true):=by
 obtain⟨g1,g2,g3,g4,g5⟩:=Ck.lP hG
 obtain⟨hl8,hss⟩:=G9 hA
 have hE:=WN hA hG
 have hr1:=Int.tmod_nonneg (t - 1) hb.1
 have hr2:=Int.tmod_lt_of_pos b (show 0<t - 1 by omega)
 obtain⟨n,en⟩:∃ n:Int,n=1+b.tmod (t - 1):=⟨_,rfl⟩
 have hn:1<=n∧n<t:=by omega
 obtain⟨lo,hi,ea,eb,hlo,hhi⟩:=SQ hA hG hn
 have hmi:=S7 hA hG hn
 rw[ea,eb] at hmi
 have hci:=W8 (n:=l.length) (by omega)
 refine Kf (N:=243) Tryz.func5 ?_
 iterate 12 refine af ?_
 refine Kg 34 33 0 rfl (fun h=>(aa.move rfl rfl)) ?_
 refine Kh 35 33 34 rfl rfl rfl rfl (fun h=>(Kp (Ck.rW l hl))) ?_
 refine Kh 36 33 35 rfl rfl rfl rfl (fun h=>(aa.gH rfl rfl)) ?_
 refine Kc (aa.pG rfl rfl rfl ?_) ?_
 ·exact aC
 refine af ?_
 refine Ki (fun hc0=> ?_) fun hc0=> ?_
 ·exfalso
  rw[h1] at hc0
  cases hc0
 ·iterate 7 refine af ?_
  refine Kc (Kl (.p (.agg [.int .i64 w.lo,.int .i64 w.hi]))) ?_
  refine Kc (Kp (Ih l i j t w hl)) ?_
  iterate 4 refine af ?_
  refine Kz (aa.store (H':=[.cells [.p (.int .i64 (Ck.rU l i j t w)),.p (.int .i64 (Ck.sn l i j t w))] 24]) rfl rfl rfl rfl rfl an rfl rfl) ?_
  iterate 4 refine af ?_
  refine aI.to (To.Mi (s:=13) (h:=[]) (T2:=[(0,.p (Ck.bZ l)),(1,.p (.int .i64 i)),(2,.p (.int .i64 j)),(3,.p (.int .i64 t)),(10,.p (.ip [.int .i64 w.lo,.int .i64 w.hi] 0)),(14,.p (.int .i64 (Ck.iJ l i j t w))),(5,.p (.int .u32 b))]) wf0 (Zv _) rfl rfl (by exact⟨rfl,trivial,rfl,trivial,rfl,trivial,rfl,trivial,rfl,trivial,rfl,trivial,rfl,trivial,trivial⟩)) ?_
  iterate 4 refine af ?_
  refine Ki (fun c8=> ?_) fun c8=> ?_
  ·exfalso
   have h:=Zm c8
   omega
  ·iterate 3 refine af ?_
   refine Kc (Kp (wI)) ?_
   refine aj.BQ 53 (Ho Ke (by decide) MY) rfl rfl rfl rfl rfl rfl rfl an (fun v H2 iH=> ?_)
   obtain⟨rfl,rfl⟩:=iH
   rw[<- CT l]
   iterate 12 refine af ?_
   refine Kg 59 58 14 rfl (fun h=>(aa.move rfl rfl)) ?_
   refine Kh 60 58 59 rfl rfl rfl rfl (fun h=>(aa.neq rfl rfl rfl)) ?_
   refine Kh 61 58 60 rfl rfl rfl rfl (fun h=>(aa.move rfl rfl)) ?_
   refine Kg 62 61 14 rfl (fun h=>(aa.move rfl rfl)) ?_
   refine Kh 63 61 62 rfl rfl rfl rfl (fun h=>(aa.neq rfl rfl rfl)) ?_
   refine aj.g 64 58 rfl rfl rfl rfl rfl rfl rfl [(61,_),(63,_)] (fun h=>And.intro (.inr ⟨_,rfl,h⟩) (And.intro (.inl rfl) (trivial))) (fun h=>(aa.gG rfl rfl rfl (fun hq=>by first | (rw[hq];rfl) | simp_all))) ?_
   refine Kc (aa.pG rfl rfl rfl ?_) ?_
   ·exact aC
   refine af ?_
   refine Kg 67 66 1 rfl (fun h=>(aa.move rfl rfl)) ?_
   refine Kh 68 66 67 rfl rfl rfl rfl (fun h=>(aa.lss rfl rfl rfl)) ?_
   refine Kc (aa.pG rfl rfl rfl ?_) ?_
   ·exact aC
   refine af ?_
   refine Kg 71 70 1 rfl (fun h=>(aa.move rfl rfl)) ?_
   refine Kg 72 70 0 rfl (fun h=>(aa.move rfl rfl)) ?_
   refine Kh 73 70 72 rfl rfl rfl rfl (fun h=>(aa.cD rfl rfl an rfl)) ?_
   refine aj.g 74 70 rfl rfl rfl rfl rfl rfl rfl [(71,_),(73,_)] (fun h=>And.intro (.inr ⟨_,rfl,h⟩) (And.intro (.inr ⟨_,rfl,h⟩) (trivial))) (fun h=>(aa.geq rfl rfl rfl)) ?_
   refine Kc (aa.pG rfl rfl rfl ?_) ?_
   ·exact aC
   refine af ?_
   refine Kg 77 76 2 rfl (fun h=>(aa.move rfl rfl)) ?_
   refine Kh 78 76 77 rfl rfl rfl rfl (fun h=>(aa.lss rfl rfl rfl)) ?_
   refine Kc (aa.pG rfl rfl rfl ?_) ?_
   ·exact aC
   refine af ?_
   refine Kg 81 80 2 rfl (fun h=>(aa.move rfl rfl)) ?_
   refine Kg 82 80 0 rfl (fun h=>(aa.move rfl rfl)) ?_
   refine Kh 83 80 82 rfl rfl rfl rfl (fun h=>(aa.cD rfl rfl an rfl)) ?_
   refine aj.g 84 80 rfl rfl rfl rfl rfl rfl rfl [(81,_),(83,_)] (fun h=>And.intro (.inr ⟨_,rfl,h⟩) (And.intro (.inr ⟨_,rfl,h⟩) (trivial))) (fun h=>(aa.geq rfl rfl rfl)) ?_
   refine Kc (aa.pG rfl rfl rfl ?_) ?_
   ·exact aC
   refine af ?_
   refine Kg 87 86 3 rfl (fun h=>(aa.move rfl rfl)) ?_
   refine Kh 88 86 87 rfl rfl rfl rfl (fun h=>(aa.lss rfl rfl rfl)) ?_
   refine Kc (aa.pG rfl rfl rfl ?_) ?_
   ·exact aC
   refine af ?_
   refine Kg 91 90 3 rfl (fun h=>(aa.move rfl rfl)) ?_
   refine Kh 92 90 91 rfl rfl rfl rfl (fun h=>(aa.gtr rfl rfl rfl)) ?_
   refine Kc (aa.pG rfl rfl rfl ?_) ?_
   ·exact aC
   refine af ?_
   refine Ki (fun mu=> ?_) fun mu=> ?_
   ·exfalso
    rcases hE with h | h <;> (simp[h] at mu;omega)
   ·iterate 9 refine af ?_
    refine aI.iK [0,1,2,3,5,10,13,14,15,21,22,23,24,25,26,27,28,29,94,95,128,129,130,131,132,133,134,135,136,137,138,139,140,141,142,143,144,145,146,147,148,149,150,151,152,153,154,155,156,157,158,159,160,161,162,163,164,165,166,167,168,169,170,171,172,173,174,175,176,177,178,179,180,181,182,183,184,185,186,187,188,189,190,191,192,193,194,195,196,197,198,199,200,201,202,203,204,205,206,207,208,209,210,211,212,213,214,215,216,217,218,219,220,221,222,223,224,225,226,227,228,229,230,231,232,233,234,235,236,237,238,239,240,241,242] (fun g=>[(96,.p (.int .i64 ((g.1:Nat):Int)))]) (fun g=>(cZ 0 (mB l g.1) g.2)) (fun g=>g.1<=l.length∧(g.2=true->(mB l g.1).marks=[])) (fun g=>l.length - g.1) (0,true) ⟨Zv _,fun _=>rfl⟩ (To.sub KS) (fun g hg=> ?_)
    obtain⟨k,z⟩:=g
    obtain⟨tL,hz⟩:=hg
    dsimp only at tL hz ⊢
    iterate 5 refine af ?_
    refine Ki (fun rP=> ?_) fun rP=> ?_
    ·have hk0:k<l.length:=by have h:=Zm rP;omega
     have hm:(mB l k).marks.length<=8:=Zv 8
     iterate 5 refine af ?_
     refine Kc (aa.bg (g:=Di.gt Ck.aU l) (k:=k) (Di.aL _) rfl rfl rfl an xK rfl (fun _=>rfl) (by decide) hk0) ?_
     refine Kc (Kl (.p (.agg (Di.gt Ck.aU l k).cells))) ?_
     refine af ?_
     refine Kz (aa.store (H':=(cZ 0 (mB l k) z++[.cells ((Di.gt Ck.aU l k).cells.map .p) 60])) rfl rfl rfl rfl rfl an rfl (Sj (by rfl))) ?_
     iterate 2 refine af ?_
     refine aI.to (To.Mi (s:=18) (h:=cZ 0 (mB l k) z) (T2:=[(0,.p (Ck.bZ l)),(1,.p (.int .i64 i)),(2,.p (.int .i64 j)),(3,.p (.int .i64 t)),(10,.p (.ip [.int .i64 w.lo,.int .i64 w.hi] 0)),(13,.p (.ip [.int .i64 (Ck.rU l i j t w),.int .i64 (Ck.sn l i j t w)] 0)),(14,.p (.int .i64 (Ck.iJ l i j t w))),(5,.p (.int .u32 b)),(94,.p (Ck.bZ l)),(95,.p (.int .i64 (l.length:Int))),(96,.p (.int .i64 ((k:Nat):Int))),(15,.ptr 0 0)]) (XU hm) (Zv _) rfl rfl (by rw[jj hm];exact⟨rfl,trivial,rfl,trivial,rfl,trivial,rfl,trivial,rfl,trivial,rfl,trivial,rfl,trivial,rfl,trivial,rfl,trivial,rfl,trivial,rfl,trivial,rfl,(by show 0<47;decide),trivial⟩)) ?_
     iterate 4 refine af ?_
     refine Kc (Kl (.p (.int .i64 (Di.gt Ck.aU l k).w.lo))) ?_
     iterate 2 refine af ?_
     refine Kc (Kl (.p (.int .i64 (Di.gt Ck.aU l k).w.hi))) ?_
     iterate 2 refine af ?_
     refine Kc (Kl (.p (.int .i64 (Di.gt Ck.aU l k).c.lo))) ?_
     iterate 2 refine af ?_
     refine Kc (Kl (.p (.int .i64 (Di.gt Ck.aU l k).c.hi))) ?_
     iterate 2 refine af ?_
     refine Kc (Kl (.p (.int .i64 (Di.gt Ck.aU l k).l.lo))) ?_
     iterate 2 refine af ?_
     refine Kc (Kl (.p (.int .i64 (Di.gt Ck.aU l k).l.hi))) ?_
     refine Kc (aa.aQ rfl an (by decide) rfl rfl rfl) ?_
     refine Kc (Kp (kS [115,97,99,107] (SJ (Di.gt Ck.aU l k)) (by decide) Kn (hss _ (Di.bH Ck.aU hk0)).2)) ?_
     refine K2 122 (mB l k) z (aH [115,97,99,107] (SJ (Di.gt Ck.aU l k))) (zY hA k tL) hz (ym hA hk0) rfl rfl rfl rfl rfl rfl an (T2:=[(0,.p (Ck.bZ l)),(1,.p (.int .i64 i)),(2,.p (.int .i64 j)),(3,.p (.int .i64 t)),(10,.p (.ip [.int .i64 w.lo,.int .i64 w.hi] 0)),(13,.p (.ip [.int .i64 (Ck.rU l i j t w),.int .i64 (Ck.sn l i j t w)] 0)),(14,.p (.int .i64 (Ck.iJ l i j t w))),(5,.p (.int .u32 b)),(94,.p (Ck.bZ l)),(95,.p (.int .i64 (l.length:Int))),(96,.p (.int .i64 ((k:Nat):Int))),(15,.ptr 0 0)]) KS rfl (fun z2 EU=> ?_)
     iterate 11 refine af ?_
     refine Ki (fun Hp=> ?_) fun Hp=> ?_
     ·exfalso
      simp at Hp
     ·iterate 2 refine af ?_
      refine Kc (aa.add (m:=((k+1:Nat):Int)) rfl rfl rfl ((aG ?_).trans ?_)) ?_
      ·omega
      ·omega
      iterate 2 refine af ?_
      refine⟨(k+1,z2),?_,?_,?_⟩
      ·exact⟨hk0,EU⟩
      ·show l.length - (k+1)<l.length - k
       omega
      exact To.sub KS
    ·have WD:k=l.length:=by have h:=Zs rP;omega
     subst WD
     refine aI.exit ?_
     iterate 3 refine af ?_
     refine Kc (aa.dM rfl rfl (by rw[aai];rfl) AI (aG ?_)) ?_
     ·omega
     refine af ?_
     refine Kc (aa.fE rfl rfl rfl (aG ?_)) ?_
     ·omega
     refine Kc (aa.rem rfl rfl rfl ?_ rfl) ?_
     ·omega
     refine Kc (aa.add (m:=n) rfl rfl rfl ((aG ?_).trans ?_)) ?_
     ·omega
     ·exact en.symm
     iterate 10 refine af ?_
     refine Kc (aa.fE rfl rfl rfl (aG ?_)) ?_
     ·omega
     refine Kc (aa.aQ rfl an (by decide) rfl rfl rfl) ?_
     have hB8:∀ x∈wq i j t n,0<=x∧x<10000000000000:=by
      intro x hx
      unfold wq at hx
      simp only[Zr,HL,or_false] at hx
      rcases hx with rfl | rfl | rfl | rfl | rfl | rfl | rfl | rfl <;> omega
     refine Kc (Kp (kS [108,101,97,100] (wq i j t n) (by decide) Kn hB8)) ?_
     refine K2 144 (mB l l.length) z (aH [108,101,97,100] (wq i j t n)) (zY hA l.length (Ze _)) hz (yJ hA hG hn) rfl rfl rfl rfl rfl rfl an (T2:=[(0,.p (Ck.bZ l)),(1,.p (.int .i64 i)),(2,.p (.int .i64 j)),(3,.p (.int .i64 t)),(10,.p (.ip [.int .i64 w.lo,.int .i64 w.hi] 0)),(13,.p (.ip [.int .i64 (Ck.rU l i j t w),.int .i64 (Ck.sn l i j t w)] 0)),(14,.p (.int .i64 (Ck.iJ l i j t w))),(21,.p (.int .i64 n)),(15,.ptr 0 0)]) KS rfl (fun z2 EU=> ?_)
     rw[ea,eb]
     have hW2:=UE hA hG hn
     iterate 9 refine af ?_
     refine Kc (Kp (J5 hsp (aH dA [(l.length:Int)]++32::aH eE [(lo:Int),(hi:Int)]) [dA,Lib.itoa (l.length:Int),eE,Lib.itoa (lo:Int),Lib.itoa (hi:Int)] (AE (by omega) (by omega) (by omega)) (E2 (by omega) (by omega) (by omega)) (ZT (Eo (by omega) (by omega) (by omega)) (by decide)))) ?_
     iterate 8 refine af ?_
     refine Kg 152 151 24 rfl (fun h=>(aa.move rfl rfl)) ?_
     refine Kh 153 151 152 rfl rfl rfl rfl (fun h=>(aa.cD rfl rfl an rfl)) ?_
     refine Kh 154 151 153 rfl rfl rfl rfl (fun h=>(aa.neq rfl rfl rfl)) ?_
     refine Kc (aa.pG rfl rfl rfl ?_) ?_
     ·exact aC
     refine af ?_
     refine Ki (fun Kj=> ?_) fun Kj=> ?_
     ·exfalso
      simp at Kj
     ·iterate 4 refine af ?_
      refine Kc (aa.bg (g:=Di.gt [] [dA,Lib.itoa (l.length:Int),eE,Lib.itoa (lo:Int),Lib.itoa (hi:Int)]) (k:=3) (Di.aL _) rfl rfl rfl an xy rfl (fun _=>rfl) (by decide) Kn) ?_
      refine Kc (Kl (.p (.str (sB (Lib.itoa (lo:Int)))))) ?_
      refine Kc (Kp (HW lo (by omega))) ?_
      iterate 9 refine af ?_
      refine Kc (aa.bg (g:=Di.gt [] [dA,Lib.itoa (l.length:Int),eE,Lib.itoa (lo:Int),Lib.itoa (hi:Int)]) (k:=4) (Di.aL _) rfl rfl rfl an xy rfl (fun _=>rfl) (by decide) Kn) ?_
      refine Kc (Kl (.p (.str (sB (Lib.itoa (hi:Int)))))) ?_
      refine Kc (Kp (HW hi (by omega))) ?_
      iterate 10 refine af ?_
      refine Kc (aa.Ar rfl rfl R5) ?_
      refine af ?_
      refine Kg 173 172 28 rfl (fun h=>(aa.move rfl rfl)) ?_
      refine Kh 174 172 173 rfl rfl rfl rfl (fun h=>(aa.Ar rfl rfl R5)) ?_
      refine Kc (aa.pG rfl rfl rfl ?_) ?_
      ·exact aC
      refine af ?_
      refine Kg 177 176 22 rfl (fun h=>(aa.move rfl rfl)) ?_
      refine Kg 178 176 0 rfl (fun h=>(aa.move rfl rfl)) ?_
      refine Kh 179 176 178 rfl rfl rfl rfl (fun h=>(aa.cD rfl rfl an rfl)) ?_
      refine Kh 180 176 179 rfl rfl rfl rfl (fun h=>(Kp (tH (l.length:Int) (by omega) (by omega)))) ?_
      refine Kh 181 176 180 rfl rfl rfl rfl (fun h=>(aa.vJ [99,97,114,100,32] (Lib.itoa (l.length:Int)) rfl rfl rfl (by show 5+_<_;omega))) ?_
      refine Kg 182 176 25 rfl (fun h=>(aa.move rfl rfl)) ?_
      refine Kg 183 176 27 rfl (fun h=>(aa.move rfl rfl)) ?_
      refine aj.g 184 176 rfl rfl rfl rfl rfl rfl rfl [(182,_),(183,_)] (fun h=>And.intro (.inr ⟨_,rfl,h⟩) (And.intro (.inr ⟨_,rfl,h⟩) (trivial))) (fun h=>(aa.aQ rfl an (by decide) rfl rfl rfl)) ?_
      refine Kh 185 176 184 rfl rfl rfl rfl (fun h=>(Kp (kS [32,115,104,97,114,101] [(lo:Int),(hi:Int)] (by decide) Kn (LI (by omega) (by omega))))) ?_
      refine aj.g 186 176 rfl rfl rfl rfl rfl rfl rfl [(181,_),(185,_)] (fun h=>And.intro (.inr ⟨_,rfl,h⟩) (And.intro (.inr ⟨_,rfl,h⟩) (trivial))) (fun h=>(aa.vJ ([99,97,114,100,32]++Lib.itoa (l.length:Int)) (aH [32,115,104,97,114,101] [(lo:Int),(hi:Int)]) rfl rfl rfl (by rw[<- Zd,<- DO];exact Yg (Eo (by omega) (by omega) (by omega)) (by decide)))) ?_
      refine aj.g 187 176 rfl rfl rfl rfl rfl rfl rfl [(177,_),(186,_)] (fun h=>And.intro (.inr ⟨_,rfl,h⟩) (And.intro (.inr ⟨_,rfl,h⟩) (trivial))) (fun h=>(aa.DR (aH dA [(l.length:Int)]++32::aH eE [(lo:Int),(hi:Int)]) (([99,97,114,100,32]++Lib.itoa (l.length:Int))++aH [32,115,104,97,114,101] [(lo:Int),(hi:Int)]) rfl rfl rfl)) ?_
      refine Kc (aa.pG rfl rfl rfl ?_) ?_
      ·exact aC
      refine af ?_
      refine Ki (fun M9=> ?_) fun M9=> ?_
      ·exfalso
       rw[DO] at M9
       simp at M9
      ·iterate 5 refine af ?_
       refine Kc (Kl (.p (.int .i64 w.lo))) ?_
       iterate 2 refine af ?_
       refine Kg 194 193 27 rfl (fun h=>(aa.move rfl rfl)) ?_
       refine Kg 195 193 10 rfl (fun h=>(aa.fieldAddr rfl rfl an rfl)) ?_
       refine Kh 196 193 195 rfl rfl rfl rfl (fun h=>(Kl (.p (.int .i64 w.hi)))) ?_
       refine aj.g 197 193 rfl rfl rfl rfl rfl rfl rfl [(194,_),(196,_)] (fun h=>And.intro (.inr ⟨_,rfl,h⟩) (And.intro (.inr ⟨_,rfl,h⟩) (trivial))) (fun h=>(aa.leq rfl rfl rfl)) ?_
       refine Kc (aa.gG rfl rfl rfl ?_) ?_
       ·exact aC
       iterate 9 refine af ?_
       refine Kg 203 202 21 rfl (fun h=>(aa.move rfl rfl)) ?_
       refine Kg 204 202 13 rfl (fun h=>(aa.fieldAddr rfl rfl an rfl)) ?_
       refine Kh 205 202 204 rfl rfl rfl rfl (fun h=>(Kl (.p (.int .i64 (Ck.rU l i j t w))))) ?_
       refine aj.g 206 202 rfl rfl rfl rfl rfl rfl rfl [(203,_),(205,_)] (fun h=>And.intro (.inr ⟨_,rfl,h⟩) (And.intro (.inr ⟨_,rfl,h⟩) (trivial))) (fun h=>(aa.geq rfl rfl rfl)) ?_
       refine Kc (aa.gG rfl rfl rfl ?_) ?_
       ·exact aC
       refine af ?_
       refine Kg 209 208 21 rfl (fun h=>(aa.move rfl rfl)) ?_
       refine Kg 210 208 13 rfl (fun h=>(aa.fieldAddr rfl rfl an rfl)) ?_
       refine Kh 211 208 210 rfl rfl rfl rfl (fun h=>(Kl (.p (.int .i64 (Ck.sn l i j t w))))) ?_
       refine aj.g 212 208 rfl rfl rfl rfl rfl rfl rfl [(209,_),(211,_)] (fun h=>And.intro (.inr ⟨_,rfl,h⟩) (And.intro (.inr ⟨_,rfl,h⟩) (trivial))) (fun h=>(aa.leq rfl rfl rfl)) ?_
       refine Kc (aa.gG rfl rfl rfl ?_) ?_
       ·exact aC
       refine Kc (aa.P7 rfl rfl rfl un4) ?_
       refine af ?_
       refine Ki (fun hc7=> ?_) fun hc7=> ?_
       ·exfalso
        rw[Pa hmi] at hc7
        cases hc7
       ·iterate 6 refine af ?_
        refine Kc (aa.aQ rfl an (by decide) rfl rfl rfl) ?_
        refine Kc (Kp (kS [102,114,111,109] [(l.length:Int)] (by decide) Kn (oR (by omega)))) ?_
        refine K2 221 (RQ l i j) z2 (aH [102,114,111,109] [(l.length:Int)]) hW2 EU (I9 hA hG) rfl rfl rfl rfl rfl rfl an (T2:=[(0,.p (Ck.bZ l)),(1,.p (.int .i64 i)),(2,.p (.int .i64 j)),(3,.p (.int .i64 t)),(10,.p (.ip [.int .i64 w.lo,.int .i64 w.hi] 0)),(13,.p (.ip [.int .i64 (Ck.rU l i j t w),.int .i64 (Ck.sn l i j t w)] 0)),(14,.p (.int .i64 (Ck.iJ l i j t w))),(15,.ptr 0 0)]) KS rfl (fun z3 hz3=> ?_)
        iterate 11 refine af ?_
        refine Kg 227 226 22 rfl (fun h=>(aa.move rfl rfl)) ?_
        refine Kg 228 226 1 rfl (fun h=>(aa.move rfl rfl)) ?_
        refine Kg 229 226 2 rfl (fun h=>(aa.move rfl rfl)) ?_
        refine aj.g 230 226 rfl rfl rfl rfl rfl rfl rfl [(228,_),(229,_)] (fun h=>And.intro (.inr ⟨_,rfl,h⟩) (And.intro (.inr ⟨_,rfl,h⟩) (trivial))) (fun h=>(aa.min2 rfl rfl rfl)) ?_
        refine Kg 231 226 1 rfl (fun h=>(aa.move rfl rfl)) ?_
        refine Kg 232 226 2 rfl (fun h=>(aa.move rfl rfl)) ?_
        refine aj.g 233 226 rfl rfl rfl rfl rfl rfl rfl [(231,_),(232,_)] (fun h=>And.intro (.inr ⟨_,rfl,h⟩) (And.intro (.inr ⟨_,rfl,h⟩) (trivial))) (fun h=>(aa.max2 rfl rfl rfl)) ?_
        refine Kg 234 226 0 rfl (fun h=>(aa.move rfl rfl)) ?_
        refine Kh 235 226 234 rfl rfl rfl rfl (fun h=>(aa.cD rfl rfl an rfl)) ?_
        refine aj.g 236 226 rfl rfl rfl rfl rfl rfl rfl [(230,_),(233,_),(235,_)] (fun h=>And.intro (.inr ⟨_,rfl,h⟩) (And.intro (.inr ⟨_,rfl,h⟩) (And.intro (.inr ⟨_,rfl,h⟩) (trivial)))) (fun h=>(aa.aQ rfl an (by decide) rfl rfl rfl)) ?_
        refine Kh 237 226 236 rfl rfl rfl rfl (fun h=>(Kp (kS [102,114,111,109] [min i j,max i j,(l.length:Int)] (by decide) Kn (Gu (by omega) (by omega) (by omega))))) ?_
        refine aj.g 238 226 rfl rfl rfl rfl rfl rfl rfl [(227,_),(237,_)] (fun h=>And.intro (.inr ⟨_,rfl,h⟩) (And.intro (.inr ⟨_,rfl,h⟩) (trivial))) (fun h=>(aa.LN (aH [102,114,111,109] [min i j,max i j,(l.length:Int)]) (aH [102,114,111,109] [min i j,max i j,(l.length:Int)]) rfl rfl rfl)) ?_
        refine Kc (aa.gG rfl rfl rfl ?_) ?_
        ·exact aC
        refine af ?_
        refine aj.g 241 240 rfl rfl rfl rfl rfl rfl rfl [] (fun h=>trivial) (fun h=>(Kp (oW))) ?_
        exact D2
theorem MZ(l:List Ck.Sk)(i j t b:Int)(w:Ck.Sp)(hl:l.length<=9223372036854775807)(hb:0<=b∧b<=4294967295)(hsp:JF=true):Pure Tryz.prog 5 [Ck.bZ l,.int .i64 i,.int .i64 j,.int .i64 t,.agg [.int .i64 w.lo,.int .i64 w.hi],.int .u32 b] (.bool true):=by
 cases h1:(decide (8<(l.length:Int))|| !Ck.aF l) with
 | true=>exact Jj l i j t b w hl hb h1
 | false=>
  have hA:Ck.aF l=true:=by
   rw[XY] at h1
   simpa using h1.2
  by_cases h2:Ck.iJ l i j t w=2
  ·exact JS l i j t b w hl hb h1 h2
  ·have h3:¬ Ck.iJ l i j t w=1:=by
     unfold Ck.iJ
     rw[if_pos hA]
     split
     ·split <;> decide
     ·decide
   exact MA l i j t b w hl hb hsp h1 hA (Ck.Nc h3 h2).2
theorem zG(hsp:JF=true){x0 x1 x2 x3 x4 x5:List PV}(h0:oH [.sl [.leaf (.int .i64),.leaf (.int .i64),.leaf (.int .i64),.leaf (.int .i64),.leaf (.int .i64),.leaf (.int .i64)]] x0)(h1:oH [.leaf (.int .i64)] x1)(h2:oH [.leaf (.int .i64)] x2)(h3:oH [.leaf (.int .i64)] x3)(h4:oH [.leaf (.int .i64),.leaf (.int .i64)] x4)(h5:oH [.leaf (.int .u32)] x5):
    Pure Tryz.prog 5 [Fi false x0,Fi false x1,Fi false x2,Fi false x3,Fi true x4,Fi false x5] (.bool true):=by
 obtain⟨l,rfl,hl⟩:=Ya (f:=Ck.Sk.cells) (fun el h=>by
  obtain⟨xs,e1,e2⟩:=HG (n:=6) h
  match xs,e1 with
  | [a,b,c,d,e,f],_=>exact⟨⟨⟨a,b⟩,⟨c,d⟩,⟨e,f⟩⟩,e2⟩) h0
 obtain⟨i,rfl⟩:=F6 h1
 obtain⟨j,rfl⟩:=F6 h2
 obtain⟨t,rfl⟩:=F6 h3
 obtain⟨ys,e1,e2⟩:=HG (n:=2) h4
 obtain⟨b,rfl,hb⟩:=Ck.Li h5
 match ys,e1 with
 | [a,c],_=>
  subst e2
  exact MZ l i j t b ⟨a,c⟩ hl hb hsp
end Go.Proofs.YtibffijhebobmaaGreatDoor
end
