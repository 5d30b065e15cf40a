/-
 Abstract values and what they say of a world; control, operations, calls. No condition; generic over any program.
-/
import Derived.KernelRfl
import Derived.TacticsIn
import Derived.OrdersIn
import Derived.RangeFuncLeaves
import Derived.RangeFuncRecord
import Derived.Laws.World
import Derived.Laws.Cells
import Derived.Laws.BitsLemmas
import Derived.ChangeKeysEq
theorem Za:type_of% @List.getElem?_eq_some_iff:= @List.getElem?_eq_some_iff
theorem Zb:type_of% @List.getElem?_eq_getElem:= @List.getElem?_eq_getElem
theorem Zc:type_of% @List.length_append:= @List.length_append
theorem Zd:type_of% @List.getElem?_append_left:= @List.getElem?_append_left
theorem Ze:type_of% @of_decide_eq_true:= @of_decide_eq_true
theorem Zf:type_of% @of_decide_eq_false:= @of_decide_eq_false
theorem Zg:type_of% @Nat.le_refl:= @Nat.le_refl
theorem Zh:type_of% @List.getD_eq_getElem?_getD:= @List.getD_eq_getElem?_getD
theorem Zi:type_of% @List.mem_of_getElem?:= @List.mem_of_getElem?
theorem Zj:type_of% @List.getElem?_append_right:= @List.getElem?_append_right
theorem Zk:type_of% @List.mem_cons_of_mem:= @List.mem_cons_of_mem
theorem Zl:type_of% @decide_eq_true_eq:= @decide_eq_true_eq
theorem Zm:type_of% @Option.map_eq_some_iff:= @Option.map_eq_some_iff
theorem Zn:type_of% @Nat.zero_le:= @Nat.zero_le
theorem Zo:type_of% @Bool.and_eq_true:= @Bool.and_eq_true
theorem Zp:type_of% @List.length_cons:= @List.length_cons
theorem Zq:type_of% @Nat.pow_le_pow_right:= @Nat.pow_le_pow_right
theorem Zr:type_of% @List.length_map:= @List.length_map
theorem Zs:type_of% @List.mem_append:= @List.mem_append
theorem Zt:type_of% @List.getElem?_map:= @List.getElem?_map
theorem Zu:type_of% @List.getElem?_set:= @List.getElem?_set
theorem Zv:type_of% @List.mem_cons:= @List.mem_cons
theorem Zw:type_of% @List.mem_singleton:= @List.mem_singleton
theorem Zx:type_of% @List.mem_cons_self:= @List.mem_cons_self
theorem Zy:type_of% @List.map_append:= @List.map_append
theorem Zz:type_of% @Nat.le_trans:= @Nat.le_trans
theorem ZA:type_of% @Nat.lt_iff_add_one_le:= @Nat.lt_iff_add_one_le
theorem ZB:type_of% @Option.some.inj:= @Option.some.inj
theorem ZC:type_of% @List.all_eq_true:= @List.all_eq_true
theorem ZD:type_of% @List.eq_nil_of_length_eq_zero:= @List.eq_nil_of_length_eq_zero
theorem ZE:type_of% @List.map_cons:= @List.map_cons
theorem ZF:type_of% @List.nodup_cons:= @List.nodup_cons
theorem ZG:type_of% @List.prefix_refl:= @List.prefix_refl
theorem ZH:type_of% @List.getElem?_eq_none:= @List.getElem?_eq_none
theorem ZI:type_of% @List.mem_append_right:= @List.mem_append_right
theorem ZJ:type_of% @List.flatMap_cons:= @List.flatMap_cons
theorem ZK:type_of% @Nat.add_sub_cancel_left:= @Nat.add_sub_cancel_left
theorem ZL:type_of% @Nat.eq_of_beq_eq_true:= @Nat.eq_of_beq_eq_true
theorem ZM:type_of% @List.append_assoc:= @List.append_assoc
theorem ZN:type_of% @Nat.one_mul:= @Nat.one_mul
theorem ZO:type_of% @Array.getElem?_eq_some_iff:= @Array.getElem?_eq_some_iff
theorem ZP:type_of% @decide_eq_false_iff_not:= @decide_eq_false_iff_not
theorem ZQ:type_of% @Nat.lt_of_lt_of_le:= @Nat.lt_of_lt_of_le
theorem ZR:type_of% @Nat.le_of_ble_eq_true:= @Nat.le_of_ble_eq_true
theorem ZS:type_of% @Nat.lt_or_ge:= @Nat.lt_or_ge
theorem ZT:type_of% @List.take_length:= @List.take_length
theorem ZU:type_of% @List.getElem?_take:= @List.getElem?_take
theorem ZV:type_of% @List.take_succ_eq_append_getElem:= @List.take_succ_eq_append_getElem
theorem ZW:type_of% @List.mem_append_left:= @List.mem_append_left
theorem ZX:type_of% @List.flatMap_append:= @List.flatMap_append
theorem ZY:type_of% @List.append_nil:= @List.append_nil
theorem ZZ:type_of% @List.getElem_mem:= @List.getElem_mem
theorem xM:type_of% @List.nodup_append:= @List.nodup_append
theorem zC:type_of% @List.length_take:= @List.length_take
theorem wX:type_of% @List.mem_range:= @List.mem_range
theorem yl:type_of% @List.length_set:= @List.length_set
theorem CZ:type_of% @Array.length_toList:= @Array.length_toList
theorem FP:type_of% @Nat.mul_le_mul_right:= @Nat.mul_le_mul_right
theorem D9:type_of% @List.getElem?_set_ne:= @List.getElem?_set_ne
theorem tZ:type_of% @Nat.zero_add:= @Nat.zero_add
theorem CR:type_of% @Int.toNat_natCast:= @Int.toNat_natCast
theorem Kd:type_of% @List.length_eq_zero_iff:= @List.length_eq_zero_iff
theorem Dt:type_of% @List.ext_getElem?:= @List.ext_getElem?
theorem NX:type_of% @Nat.lt_succ_iff_lt_or_eq:= @Nat.lt_succ_iff_lt_or_eq
theorem Ie:type_of% @Nat.eq_of_testBit_eq:= @Nat.eq_of_testBit_eq
theorem CP:type_of% @List.length_nil:= @List.length_nil
theorem CK:type_of% @Bool.or_eq_true:= @Bool.or_eq_true
theorem H8:type_of% @Nat.testBit_two_pow:= @Nat.testBit_two_pow
theorem NP:type_of% @List.take_of_length_le:= @List.take_of_length_le
theorem xS:type_of% @List.mem_map:= @List.mem_map
theorem HX:type_of% @Bool.not_eq_true':= @Bool.not_eq_true'
theorem Ib:type_of% @Bool.false_eq_true:= @Bool.false_eq_true
theorem SB:type_of% @Int.tdiv_eq_ediv_of_nonneg:= @Int.tdiv_eq_ediv_of_nonneg
theorem zF:type_of% @List.map_nil:= @List.map_nil
theorem VA:type_of% @Int.mul_le_mul_of_nonneg_left:= @Int.mul_le_mul_of_nonneg_left
theorem FF:type_of% @List.nil_append:= @List.nil_append
theorem Rv:type_of% @List.getElem?_take_of_lt:= @List.getElem?_take_of_lt
theorem Vy:type_of% @Nat.testBit_two_pow_mul_add:= @Nat.testBit_two_pow_mul_add
theorem Hl:type_of% @Nat.min_eq_left:= @Nat.min_eq_left
theorem L0:type_of% @List.length_range:= @List.length_range
theorem LO:type_of% @Nat.or_lt_two_pow:= @Nat.or_lt_two_pow
theorem Qe:type_of% @Nat.pow_lt_pow_right:= @Nat.pow_lt_pow_right
theorem OG:type_of% @Bool.or_eq_false_iff:= @Bool.or_eq_false_iff
theorem VI:type_of% @List.drop_eq_getElem_cons:= @List.drop_eq_getElem_cons
theorem OX:type_of% @List.getElem_of_mem:= @List.getElem_of_mem
theorem NK:type_of% @List.mem_range'_1:= @List.mem_range'_1
theorem Vo:type_of% @Int.eq_ofNat_of_zero_le:= @Int.eq_ofNat_of_zero_le
theorem CM:type_of% @Nat.add_mul:= @Nat.add_mul
theorem Ij:type_of% @Nat.testBit_or:= @Nat.testBit_or
theorem J0:type_of% @Nat.testBit_and:= @Nat.testBit_and
theorem NS:type_of% @List.cons_append:= @List.cons_append
theorem NW:type_of% @Option.getD_some:= @Option.getD_some
theorem WL:type_of% @Nat.testBit_lt_two_pow:= @Nat.testBit_lt_two_pow
theorem ZaP:type_of% @List.take_append_of_le_length:= @List.take_append_of_le_length
theorem Dy:type_of% @Int.le_refl:= @Int.le_refl
theorem JP:type_of% @List.take_zero:= @List.take_zero
theorem Rd:type_of% @List.getElem?_drop:= @List.getElem?_drop
theorem OS:type_of% @List.length_drop:= @List.length_drop
theorem Oc:type_of% @List.not_mem_nil:= @List.not_mem_nil
theorem ZaV:type_of% @List.findIdx?_eq_some_iff_getElem:= @List.findIdx?_eq_some_iff_getElem
theorem Jr:type_of% @Nat.add_assoc:= @Nat.add_assoc
theorem Il:type_of% @Nat.add_zero:= @Nat.add_zero
theorem Q8:type_of% @List.flatten_cons:= @List.flatten_cons
theorem RR:type_of% @List.drop_drop:= @List.drop_drop
theorem NM:type_of% @List.any_eq_false:= @List.any_eq_false
theorem Su:type_of% @List.foldl_append:= @List.foldl_append
theorem V0:type_of% @Int.toNat_of_nonneg:= @Int.toNat_of_nonneg
theorem QA:type_of% @Option.map_some:= @Option.map_some
theorem Oi:type_of% @Nat.two_pow_pos:= @Nat.two_pow_pos
theorem WT:type_of% @Nat.eq_zero_or_pos:= @Nat.eq_zero_or_pos
theorem Vn:type_of% @Bool.not_eq_false':= @Bool.not_eq_false'
theorem WG:type_of% @List.length_range':= @List.length_range'
theorem Xw:type_of% @List.mem_of_mem_take:= @List.mem_of_mem_take
theorem Qw:type_of% @List.nodup_nil:= @List.nodup_nil
theorem Ig:type_of% @Nat.mul_one:= @Nat.mul_one
theorem Xy:type_of% @List.getElem?_range':= @List.getElem?_range'
theorem Zbm:type_of% @List.prefix_iff_eq_take:= @List.prefix_iff_eq_take
theorem V7:type_of% @Classical.not_not:= @Classical.not_not
theorem Xu:type_of% @List.replicate_succ:= @List.replicate_succ
theorem Xx:type_of% @List.map_congr_left:= @List.map_congr_left
theorem XE:type_of% @List.length_pos_iff:= @List.length_pos_iff
theorem NY:type_of% @Nat.le_of_eq:= @Nat.le_of_eq
theorem NQ:type_of% @Nat.sub_self:= @Nat.sub_self
theorem P1:type_of% @List.all_cons:= @List.all_cons
theorem Un:type_of% @Nat.mod_eq_of_lt:= @Nat.mod_eq_of_lt
theorem W7:type_of% @Nat.le_add_right:= @Nat.le_add_right
theorem Zbw:type_of% @Array.toList_setIfInBounds:= @Array.toList_setIfInBounds
theorem Xi:type_of% @List.prefix_append:= @List.prefix_append
theorem Ya:type_of% @Array.getElem?_modify:= @Array.getElem?_modify
theorem Zbz:type_of% @List.take_append_drop:= @List.take_append_drop
theorem YQ:type_of% @Bool.and_eq_false_iff:= @Bool.and_eq_false_iff
theorem UL:type_of% @List.foldl_cons:= @List.foldl_cons
theorem QI:type_of% @List.map_map:= @List.map_map
theorem P8:type_of% @Nat.pow_succ:= @Nat.pow_succ
theorem ZbE:type_of% @List.take_append_getElem:= @List.take_append_getElem
theorem Ys:type_of% @List.getElem?_range:= @List.getElem?_range
theorem YG:type_of% @List.flatten_append:= @List.flatten_append
theorem ZbH:type_of% @Nat.testBit_two_pow_mul:= @Nat.testBit_two_pow_mul
theorem ZbI:type_of% @List.drop_of_length_le:= @List.drop_of_length_le
theorem ZbJ:type_of% @List.filter_append:= @List.filter_append
theorem Xt:type_of% @List.range_succ:= @List.range_succ
theorem ZbL:type_of% @List.length_replicate:= @List.length_replicate
theorem ZbM:type_of% @Array.contains_eq_mem:= @Array.contains_eq_mem
theorem ZbN:type_of% @List.length_singleton:= @List.length_singleton
theorem ZbO:type_of% @List.getElem?_inj:= @List.getElem?_inj
theorem ZbP:type_of% @Array.size_append:= @Array.size_append
theorem Yr:type_of% @Option.some.injEq:= @Option.some.injEq
theorem Xj:type_of% @List.drop_zero:= @List.drop_zero
theorem ZbS:type_of% @List.filter_cons:= @List.filter_cons
theorem Wo:type_of% @Nat.succ_pos:= @Nat.succ_pos
theorem X0:type_of% @Nat.testBit_zero:= @Nat.testBit_zero
theorem Xf:type_of% @List.any_cons:= @List.any_cons
theorem Xq:type_of% @Bool.or_false:= @Bool.or_false
theorem XK:type_of% @Nat.add_comm:= @Nat.add_comm
theorem XH:type_of% @List.all_nil:= @List.all_nil
theorem Xd:type_of% @Nat.le_of_lt:= @Nat.le_of_lt
theorem SQ{A:Prop}(h:A:=by
 obtain⟨k1,k2⟩:=hk.look (fun j=>decide (j=i)||fl listed j) BK i j o oj s ho hj hs' hd (Ne.symm hji)
 rcases Nat.lt_trichotomy j i with h | h | h
 ·have:=k1 h (by simp)
  simp[hji] at this
  simp[this,h]
 ·exact absurd h hji
 ·have Vp:=hk.look (fl listed) hcl i j o oj s ho hj hs' hd (Ne.symm hji)
  cases wZ:fl listed j with
  | false=>simp;omega
  | true=>have:=Vp.2 h wZ;rw[w7] at this;cases this):A:=h
theorem Sg{A:Prop}(h:A:=by
 exact⟨k2.trans h3.os,k3.trans h3.tape,k4.trans h3.output,by rw[k5];exact h3.size,fun b hb hn=>(hlow b hb).trans (h3.keep b hb hn),
  fun b s hs=>ks b s (h3.shape b s hs),h3.mB,fun b hb=>(kI b (h3.mB b hb)).trans (h3.bu b hb),h3.fk,fun b hb=>(hlow b (ZO.1 hb).1).trans (h3.cL b hb),h3.kX,h3.new⟩):A:=h
theorem RZ{A:Prop}(h:A:=by
 subst W0
 have e1:tl l T vs (fl (listed.setIfInBounds i true)) d=some (vs i):=qZ hk ho (by rw[jF (by omega)];simp) hd
 rw[e1] at hv
 cases hv
 have h6:d<a.tmps.size:=by rw[hs];exact hlt
 simpa[Act.put,h6] using hu):A:=h
theorem RY{A:Prop}(h:A:=by
 have hlt:i<listed.size:=by omega
 have h5:listed.toList[i]? =some false:=by
  unfold fl at w7
  simp[hlt] at w7 ⊢
  exact w7
 have:=count_set listed.toList i h5
 rw[Zbw]
 omega):A:=h
theorem TQ{A:Prop}(h:A:=by
 rw[jF (by omega)]
 have:j≠i:=fun e=>by
  subst e
  rw[ho] at hj;cases hj
  rw[hd] at OR;cases OR
  exact W0 rfl
 simp[this]):A:=h
theorem YD{A:Prop}(h:A:=by
 refine⟨fun i=>match i with | 0=>v | i+1=>vs i,fun i=>match i with | 0=>T | i+1=>Tx i,0,rfl,fun _=>by simp,(fun hb'=>by rw[hb] at hb';cases hb'),fun i x hx=> ?_,h2⟩
 exact XZ):A:=h
theorem aa4{A:Prop}(h:A:=by
 intro w hn hr h
 simp only[ZE,LeavesInM]
 refine⟨by simp,.inl ⟨r,w.putObj r (.deferred none),rfl,run_takeDeferred (hr r (by simp)),?_⟩⟩
 exact Z8):A:=h
theorem RJ{A:Prop}(h:A:=by
 rw[jF (by omega)]
 have:j≠i:=fun e=>by
  subst e
  rw[ho] at hj;cases hj
  rw[hd] at OR;cases OR
 simp[this]):A:=h
theorem S0{A:Prop}(h:A:=by
 intro hJ
 rcases h3.w.fk b hJ with h | h | h
 ·exact hi.live i b blk g1 k2 g3 h
 ·exact HL i b blk g1 k2 g3 k1 h
 ·have:=hi.iq i b blk g1 k2 g3;omega):A:=h
theorem R9{A:Prop}(h:A:=by
 have hfl:∀ i,fl listed i=decide (i<m):=fun i=>by
  exact aaJ
 have Dp:fuel+m=l.length:=by
  exact Te
 exact ac3):A:=h
theorem abG{A:Prop}(h:A:=by
 refine Inv.aI hi1 _ ⟨fK,heap_alloc_new _ _,?_,aj.ext pL (aj.ext xq ?_)⟩
 ·exact R3
 ·exact T8):A:=h
theorem Np{A:Prop}(h:A:=by
 have h1:=Nat.le_mul_of_pos_right (2*n+192) hb0
 exact Rp):A:=h
theorem Ql{A:Prop}(h:A:=by
 rcases ZS i m with h | h
 ·exact h
 ·exact abn):A:=h
theorem Lj{A:Prop}(h:A:=by
 simp only[World.cell?,hw]
 simpa using hj):A:=h
theorem Sd{A:Prop}(h:A:=by
 simp only[zC,CZ];rw[hsz];exact Hl (FP _ hle)):A:=h
theorem QW{A:Prop}(h:A:=by
 exact ZQ (hi.iq i b blk g1 k2 g3) h3.w.size):A:=h
theorem S5{A:Prop}(h:A:=by
 have h2:=aj.pure.1 (aj.ext hE hr)
 refine aY.mK xs _ 0 h2 fun j u hj=> ?_
 exact PK):A:=h
theorem T5{A:Prop}(h:A:=by
 intro j oj hj wZ e hee hb
 rw[jF (by omega)] at wZ ⊢
 exact BK j oj hj wZ e hee hb):A:=h
theorem Yw{A:Prop}(h:A:=by
 intro j hj
 rw[jF (by omega),CL j hj]
 have:¬ j=i:=by omega
 simp[this]):A:=h
theorem Qk{A:Prop}(h:A:=by
 intro u w' I' ρ' he' hinv' hu
 refine ih (listed.setIfInBounds i true) (a.put o.dst u) w' ?_ (by simp[hsz]) ?_ ?_ ?_
 ·exact RY
 ·exact T5
 ·exact Yw
 ·refine⟨I',ρ',he.trans he'.w,hinv',by cases o.dst <;> simp[Act.put,hs],fun s v hv=> ?_,(hmk.ext he').put⟩
  cases hd:o.dst with
  | none=>
   have e1:tl l T vs (fl (listed.setIfInBounds i true)) s=tl l T vs (fl listed) s:=iR hk fun j oj hj OR=>by
    exact RJ
   rw[e1] at hv
   exact(cT s v hv).ext he'
  | some d=>
   have hlt:d<N:=by
    rw[hd] at v7
    simpa[bC,Nat.blt,ZA] using v7
   by_cases W0:d=s
   ·exact RZ
   ·have e1:tl l T vs (fl (listed.setIfInBounds i true)) s=tl l T vs (fl listed) s:=iR hk fun j oj hj OR=>by
      exact TQ
    rw[e1] at hv
    have:=(cT s v hv).ext he'
    simpa[Act.put,W0] using this):A:=h
theorem Ue{A:Prop}(h:A:=by
 refine⟨?_,fun i b blk g1 g2 g3=> ?_,h4.ib,fun i b blk g1 g2 g3=> ?_,fun i i' b x y g1 g2 g3 g4 g5 g6=> ?_,fun i b blk g1 g2=> ?_,h4.gl⟩
 ·unfold bA
  rw[Zc,Zc,VR,Zr,OS,hi.len]
  omega
 ·rcases Gb i blk g2 g3 with⟨j,x,k1,rfl,k3,k4⟩ | ⟨k0,k1,k2⟩
  ·exact h4.iq j b x (by rw[k3];exact g1) k1 (by rwa [cC] at g3)
  ·rw[Zd (by rw[hi.len];exact k0)] at g1
   exact QW
 ·rcases Gb i blk g2 g3 with⟨j,x,k1,rfl,k3,k4⟩ | ⟨k0,k1,k2⟩
  ·exact h4.live j b x (by rw[k3];exact g1) k1 (by rwa [cC] at g3)
  ·rw[Zd (by rw[hi.len];exact k0)] at g1
   exact S0
 ·rcases Gb i x g3 g5 with⟨j,x',k1,rfl,k3,k4⟩ | ⟨k0,k1,k2⟩ <;> rcases Gb i' y g4 g6 with⟨j',y',m1,rfl,m3,m4⟩ | ⟨m0,m1,m2⟩
  ·rw[cC] at g5 g6
   have:=h4.gJ j j' b x' y' (by rw[k3];exact g1) (by rw[m3];exact g2) k1 m1 g5 g6
   subst this
   rcases k4 with k4 | ⟨k4,k5⟩ <;> rcases m4 with m4 | ⟨m4,m5⟩
   ·rw[k4] at m4;exact ZB m4
   ·have:=(Za.1 k4).1;omega
   ·have:=(Za.1 m4).1;omega
   ·omega
  ·rw[Zd (by rw[hi.len];exact m0)] at g2
   exact absurd (Zi (by rw[k3];exact g1)) (hout i' b y g2 m2 g6 m1)
  ·rw[Zd (by rw[hi.len];exact k0)] at g1
   exact absurd (Zi (by rw[m3];exact g2)) (hout i b x g1 k2 g5 k1)
  ·rw[Zd (by rw[hi.len];exact k0)] at g1
   rw[Zd (by rw[hi.len];exact m0)] at g2
   exact hi.gJ i i' b x y g1 g2 k2 m2 g5 g6
 ·cases hlv:blk.live with
  | false=>exact dz.ie hlv
  | true=>
   rcases Gb i blk g2 hlv with⟨j,x,k1,rfl,k3,k4⟩ | ⟨k0,k1,k2⟩
   ·exact kr hτ (h4.rel j b x (by rw[k3];exact g1) k1)
   ·rw[Zd (by rw[hi.len];exact k0)] at g1
    exact dz.mono h3.w.mB h3.w.bu ⟨ext,rfl⟩ (fun b _ s hs=>h3.w.shape b s hs) (h3.w.keep b (hi.iq i b blk g1 k2 hlv) (HL i b blk g1 k2 hlv k1)) (hi.rel i b blk g1 k2)):A:=h
theorem Te{A:Prop}(h:A:=by
 have gen:∀(bs:List Bool) (k:Nat),k<=bs.length->(∀ i b,bs[i]? =some b->b=decide (i<k))->bs.count false+k=bs.length:=by
  intro bs
  induction bs with
  | nil=>intro k hk _;simp at hk;simp[hk]
  | cons b bs ih=>
   intro k hk hb
   have hb0:=hb 0 b rfl
   cases k with
   | zero=>
    have:=ih 0 (by omega) (fun i c hc=>by have:=hb (i+1) c (by simpa using hc);simpa using this)
    simp at hb0
    subst hb0
    simp at this ⊢
    omega
   | succ k=>
    have:=ih k (by simpa using hk) (fun i c hc=>by have:=hb (i+1) c (by simpa using hc);simpa using this)
    simp at hb0
    subst hb0
    simp at this ⊢
    omega
 have:=gen listed.toList m (by simpa[hsz] using hm) (fun i b hb=>by
  have:=hfl i
  unfold fl at this
  simp at hb
  rw[<- this]
  simp[hb])
 rw[sF] at this
 simpa[hsz] using this):A:=h
theorem L2{A:Prop}(h:A:=by
 intro s v hv
 unfold cu at hv
 rw[mX] at hv
 split at hv
 ·rename_i hs'
  rw[hlk i (by omega)] at hv
  refine cT s v ?_
  rw[<- hv]
  refine iR hk fun j oj hj hd=> ?_
  by_cases hji:j=i
  ·subst hji;rw[w7];simp
  ·exact SQ
 ·cases hv):A:=h
theorem Tu{A:Prop}(h:A:=by
 have h0:aj P w I ρ (cs++List.replicate ys.length .top) (arr.toList.take (cs++List.replicate ys.length V.top).length):=by
  have e1:arr.toList.take (cs++List.replicate ys.length V.top).length=arr.toList.take cs.length++(arr.toList.drop cs.length).take ys.length:=by
   rw[Zc,ZbL,List.take_add]
  rw[e1]
  refine aj.append har ?_
  have e2:((arr.toList.drop cs.length).take ys.length).length=ys.length:=by
   simp only[zC,OS,CZ]
   rw[hcs,<- xm,hlen,hsz,<- Nat.sub_mul]
   exact Hl (FP _ (by omega))
  have:=aj.Yv (P:=P) (w:=w) (I:=I) (ρ:=ρ) ((arr.toList.drop cs.length).take ys.length)
  rw[e2] at this
  exact this
 have:=kU (P:=P) (w:=w') (I:=I) (ρ:=ρ) ys us (cs++List.replicate ys.length .top) arr.toList (len*z.length+0) (aj.ext hE cT) (by simp[hcs]) (aj.ext hE h0)
 have e3:=rA cs ys (List.replicate ys.length .top) [] (by simp)
 simp only[ZY,CP] at e3
 rw[Il,<- hcs] at this
 rw[Il] at e3
 rw[e3] at this
 rw[r4,Il,<- hcs]
 have e4:(cs++List.replicate ys.length V.top).length=(cs++ys).length:=by simp
 rw[e4] at this
 exact this):A:=h
theorem YU{A:Prop}(h:A:=by
 unfold bA at h
 rcases ZS i H.length with hil | hil
 ·rw[Zd (by rw[VR];exact hil)] at h
  rcases lH ks _ H i blk hks.2 (by rw[Zr,zC];omega) h with⟨j,g1,g2⟩ | ⟨g1,g2⟩
  ·left
   rw[Zt,Zm] at g2
   obtain⟨x,g3,rfl⟩:=g2
   have Eg:=(Za.1 g1).1
   rw[Rv Eg] at g3
   rw[cC] at hlv
   have e9:(H.getD i .dead).live=true:=by
    cases hl:(H.getD i .dead).live with
    | true=>rfl
    | false=>rw[Q2 j i x g1 hl g3] at hlv;cases hlv
   refine⟨j,x,g3,rfl,?_,.inl g1⟩
   rw[hleft j Eg,rT j i g1 e9,Zd (by rw[hi.len];exact hil)]
  ·exact .inr ⟨hil,g1,g2⟩
 ·left
  rw[Zj (by rw[VR];exact hil),VR,Zt,Zm] at h
  obtain⟨x,g3,rfl⟩:=h
  rw[Rd] at g3
  obtain⟨m,rfl⟩:∃ m,i=H.length+m:=⟨i - H.length,by omega⟩
  rw[ZK] at g3
  exact⟨ks.length+m,x,g3,rfl,by rw[hright,yV],.inr ⟨by omega,by omega⟩⟩):A:=h
theorem Fz{A:Prop}(h:A:=by
 refine⟨by simp;omega,fun s v hv=> ?_⟩
 have:=nM args us 0 [] (List.replicate (fn.ntmps - us.length) undef) rfl ij s v hv
 have e:us.toArray++Array.replicate (fn.ntmps - us.toArray.size) undef=([]++us++List.replicate (fn.ntmps - us.length) undef).toArray:=by simp
 rw[e];exact this):A:=h
theorem Rj{A:Prop}(h:A:=by
 have xm:=pS pE Bb GS hb hc
 simp only[Region.wanted,hg,xm]
 cases c with
 | true=>
  simp only[if_true]
  obtain⟨T2,hsub,hop⟩:=hop rfl
  exact hop R w I ρ a hinv (Bb.vY hsub) _ _ fun u w' I' ρ' he' hi' hu=>next u w' I' ρ' he' hi' (by rw[hv];exact⟨fun _=>hu,(fun h=>by cases h)⟩)
 | false=>
  simp only[Ib,if_false]
  exact⟨bQ,next undef w I ρ (Ext.refl _ _ _) hinv (by rw[hv];exact⟨(fun h=>by cases h),fun _=>rfl⟩)⟩):A:=h
theorem TV{A:Prop}(h:A:=by
 rcases bO h1 with⟨h7,h8⟩ | ⟨h7,h8⟩ <;> rcases bO h2 with⟨h9,h10⟩ | ⟨h9,h10⟩
 ·rw[Zd (by simp[<- hi.len];exact h7)] at h3
  rw[Zd (by simp[<- hi.len];exact h9)] at h4
  exact hi1.gJ j j' k bx by2 h8 h10 h3 h4 h5 h6
 ·subst h10
  rw[Zd (by simp[<- hi.len];exact h7)] at h3
  exfalso
  by_cases hji:i=j
  ·subst hji
   simp[hilt] at h3
   subst h3
   cases h5
  ·rw[D9 hji] at h3
   exact hji (hi.gJ i j k _ bx hρ h8 hH h3 e9 h5)
 ·subst h8
  rw[Zd (by simp[<- hi.len];exact h9)] at h4
  exfalso
  by_cases hji:i=j'
  ·subst hji
   simp[hilt] at h4
   subst h4
   cases h6
  ·rw[D9 hji] at h4
   exact hji (hi.gJ i j' k _ by2 hρ h10 hH h4 e9 h6)
 ·omega):A:=h
theorem RH{A:Prop}(h:A:=by
 refine⟨by rw[j6,<- h0,Zr],fun j b blk h1 h2 h3=> ?_,hi.ib,fun j b blk h1 h2 h3=> ?_,fun j j' b x y h1 h2 h3 h4 h5 h6=> ?_,fun j b blk h1 h2=> ?_,hi.gl⟩
 ·obtain⟨i,x,h4,h5,rfl,h6⟩:=fD j b blk h1 h2
  rw[cC] at h3
  exact hi.iq i b x (h6 h3) h5 h3
 ·obtain⟨i,x,h4,h5,rfl,h6⟩:=fD j b blk h1 h2
  rw[cC] at h3
  exact hi.live i b x (h6 h3) h5 h3
 ·obtain⟨i,x',h7,h8,rfl,h9⟩:=fD j b x h1 h3
  obtain⟨i',y',k7,k8,rfl,k9⟩:=fD j' b y h2 h4
  rw[cC] at h5 h6
  have:=hi.gJ i i' b x' y' (h9 h5) (k9 h6) h8 k8 h5 h6
  subst this
  exact(ZbO (Za.1 h7).1 hks.2).1 (h7.trans k7.symm)
 ·obtain⟨i,x,h4,h5,rfl,h6⟩:=fD j b blk h1 h2
  cases hl:x.live with
  | true=>exact kr hσ (hi.rel i b x (h6 hl) h5)
  | false=>exact dz.ie (by rw[cC];exact hl)):A:=h
theorem Q3{A:Prop}(h:A:=by
 have hex:∃ i,i<m∧fl listed i=false:=by
  refine Classical.byContradiction fun hno=>hall fun i hi=> ?_
  cases h:fl listed i with
  | true=>rfl
  | false=>exact absurd ⟨i,hi,h⟩ hno
 obtain⟨k,⟨h3,h4⟩,h5⟩:=exists_least _ hex
 refine⟨k,⟨h3,h4⟩,fun j hj=> ?_⟩
 cases h:fl listed j with
 | true=>rfl
 | false=>have:=h5 j ⟨by omega,h⟩;omega):A:=h
theorem Z8{A:Prop}(h:A:=by
 have hnd:=ZF.1 hn
 have hput:∀ b,b≠r->(w.putObj r (.deferred none)).heap[b]? =w.heap[b]? :=fun b hb=>World.putObj_heap_other (fun e=>hb e)
 refine ih _ hnd.2 (fun r' h'=>(hput r' (fun e=>hnd.1 (e▸h'))).trans (hr r' (by simp[h']))) ?_
 intro w' h1 h2 h3 h4 h5
 refine h w' (fun b hb=> ?_) h2 h3 h4 (by rw[h5];simp)
 rw[h1 b (fun e=>hb (by simp[e])),hput b (fun e=>hb (by simp[e]))]):A:=h
theorem aaw{A:Prop}(h:A:=by
 have e1:fK.toList.take (cs++ys).length=arr.toList.take cs.length++us:=by
   simp only[fK,Array.toList_append]
   rw[ZM,List.take_append]
   have ug:(arr.toList.take (len*z.length)).length=len*z.length:=by
    exact Sd
   have e3:(cs++ys).length=len*z.length+us.length:=by rw[Zc,hcs,xm]
   simp only[ug,e3,hcs]
   rw[NP (by rw[ug];omega),ZK,ZaP (Zg _),ZT]
 rw[e1]
 exact aj.append har cT):A:=h
theorem XZ{A:Prop}(h:A:=by
 cases i with
 | zero=>simp at hx;subst hx;exact⟨hd,.inr ⟨rfl,hg,hop⟩,h0⟩
 | succ i=>
  simp at hx
  obtain⟨k1,k2,k3⟩:=h1 i x hx
  refine⟨k1,?_,k3⟩
  rcases k2 with⟨k4,k5⟩ | ⟨k4,k5⟩
  ·exact .inl ⟨by omega,k5⟩
  ·have:=NN rfl
   have:=(Za.1 hx).1
   omega):A:=h
theorem Uo{A:Prop}(h:A:=by
 obtain⟨h1,h2,h3,rs,h4,h5,h6⟩:=hm.ext hE
 refine⟨h1,h2,h3,w.heap.size::rs,by simp[h4],ZF.2 ⟨fun hmem=> ?_,h5⟩,fun r hr=> ?_⟩
 ·obtain⟨rs',g4,g5,g6⟩:=hm.2.2.2
  have e:rs'=rs:=by
   have:=List.append_cancel_right (g4.symm.trans h4)
   exact(List.map_inj_right (fun x y hxy=>by simpa using hxy)).1 this
  subst e
  have:=(ZO.1 (g6 _ hmem).1).1
  omega
 ·rcases Zv.1 hr with rfl | hr
  ·refine⟨?_,fun hI=>by have:=hi.ib _ hI;omega,hm.1⟩
   rw[heap_alloc_old _ _ (by simp)]
   exact heap_alloc_new w _
  ·exact h6 r hr):A:=h
theorem Fp{A:Prop}(h:A:=by
 rw[ng (fun j o hj hf=>by
  unfold fl at hf
  by_cases hlt:j<l.length <;> simp[hlt] at hf)] at hv
 exact(ht.at_ s v hv).ext (Ext.drew (w:=w) (I:=I) (ρ:=ρ))):A:=h
theorem QY{A:Prop}(h:A:=by
 intro listed a w sF hsz hcl CL hsi
 refine done 0 listed a w sF hsz CL (fun i hi=> ?_) hsi
 have hlt:i<listed.size:=by omega
 have h2:=List.count_eq_zero.1 sF
 unfold fl
 cases h3:listed[i] with
 | true=>simp[hlt,h3]
 | false=>exact absurd (by rw[<- h3];exact Array.mem_toList_iff.2 (Array.getElem_mem hlt)) h2):A:=h
theorem Q4{A:Prop}(h:A:=by
 simp only[World.shape?]
 show(match (w.drew.alloc (.cells fK e)).heap[w.drew.heap.size]? with | some (.cells c elem _)=>some (elem,c.size) | _=>none)=_
 rw[heap_alloc_new]
 simp only[fK,ZbP,hce,Builtin.zeroCells]
 simp
 rw[hlen,Hw,<- CM]
 congr 1
 omega):A:=h
theorem TS{A:Prop}(h:A:=by
 obtain⟨j,hj,e⟩:=OX hb
 have Eg:j<ks.length:=by rw[<- j6];exact hj
 have e2:ρ2[j]? =some b:=by rw[Zb hj,e]
 have hkj:=Zb Eg
 have FZ:=hi.iq i b x g1 g2 g3
 cases hl:(H.getD ks[j] .dead).live with
 | true=>
  rw[rT j ks[j] hkj hl] at e2
  have h5:=hlt ks[j] (Zi hkj)
  have:=hi.gJ i ks[j] b x _ g1 e2 g2 (o9 _ h5) g3 hl
  rw[this] at g4
  exact g4 (ZZ _)
 | false=>
  rw[hρd j ks[j] hkj hl] at e2
  have:=ZB e2
  omega):A:=h
theorem Ye{A:Prop}(h:A:=by
 have:=run_loadCells_list (P:=P) w.drew ⟨b,0,none⟩ (arr.toList.take (len*z.length)) (fun j v hj=>by
  rw[cN,tZ]
  rw[ZU] at hj
  split at hj
  ·show w.cell? _=_
   exact Lj
  ·cases hj)
 have ug:(arr.toList.take (len*z.length)).length=len*z.length:=by
  exact Sd
 rw[ug] at this
 simpa[Builtin.firstCells] using this):A:=h
theorem IM{A:Prop}(h:A:=by
 simp only[CK,Zl] at wZ ⊢
 rcases wZ with rfl | wZ
 ·rw[ho] at hj;cases hj
  exact .inr (hev e he hb)
 ·exact .inr (hcl j oj hj wZ e he hb)):A:=h
theorem Ml{A:Prop}(h:A:=by
 refine mem_ready.2 ⟨?_,(l[i0]'(by omega)),by rw[List.getElem?_toArray];exact NL,fun e he hb=>hmin e.on (hk.back i0 _ NL e he hb)⟩
 have:=rU.2
 unfold fl at this
 have hlt:i0<listed.size:=by omega
 simp[hlt] at this ⊢
 exact this):A:=h
theorem aax{A:Prop}(h:A:=by
 unfold eV at h
 split at h
 ·rename_i i' hk
  split at h
  ·rename_i hl
   cases h
   have Eg:=(Za.1 hk).1
   rw[hleft j Eg,rT j i hk hl] at hb
   exact qP ⟨ext,rfl⟩ hb
  ·cases h
 ·rename_i hk
  cases h
  have Eg:ks.length<=j:=by simpa using hk
  obtain⟨m,rfl⟩:∃ m,j=ks.length+m:=⟨j - ks.length,by omega⟩
  rw[hright] at hb
  rw[ZK,yV]
  exact hb):A:=h
theorem abn{A:Prop}(h:A:=by
 have:=hk.tail (fun j=>decide (j=i)||fl listed j) BK i h hilt (by simp) i0 (by omega)
 have hne:¬ i0=i:=by omega
 simp[hne,rU.2] at this):A:=h
theorem T8{A:Prop}(h:A:=by
 have e1:fK.toList.take ys.length=us:=by
   simp only[fK,Array.toList_append]
   rw[FF,<- xm,ZaP (Zg _)]
   exact ZT
 rw[e1]
 exact cT):A:=h
theorem Yc{A:Prop}(h:A:=by
 obtain⟨j,hj,e⟩:=OX hb
 have Eg:j<ks.length:=by rw[<- j6];exact hj
 have e2:ρ2[j]? =some b:=by rw[Zb hj,e]
 cases hl:(H.getD ks[j] .dead).live with
 | true=>
  rw[rT j ks[j] (Zb Eg) hl] at e2
  exact .inl (Zi e2)
 | false=>
  rw[hρd j ks[j] (Zb Eg) hl] at e2
  exact .inr (ZB e2).symm):A:=h
theorem S4{A:Prop}(h:A:=by
 refine⟨by rw[zC];omega,fun i b blk h1 h2 h3=>hi.iq i b blk (t1 i b h1).2 (t2 i blk h2) h3,hi.ib,fun i b blk h1 h2 h3=>hi.live i b blk (t1 i b h1).2 (t2 i blk h2) h3,fun i j b x y h1 h2 h3 h4 h5 h6=>hi.gJ i j b x y (t1 i b h1).2 (t1 j b h2).2 (t2 i x h3) (t2 j y h4) h5 h6,fun i b blk h1 h2=> ?_,hi.gl⟩
 exact hw blk (Zi h2) w I ρ b (hi.rel i b blk (t1 i b h1).2 (t2 i blk h2))):A:=h
theorem S7{A:Prop}(h:A:=by
 simp only[World.shape?]
 show(match (w.drew.alloc (.cells fK e')).heap[w.drew.heap.size]? with | some (.cells c elem _)=>some (elem,c.size) | _=>none)=_
 rw[heap_alloc_new]
 simp only[fK,ZbP,hce,Builtin.zeroCells]
 simp
 rw[hlen,Hw,hsz,Hl (FP _ hle),<- CM,<- CM]
 congr 1
 omega):A:=h
theorem Rm{A:Prop}(h:A:=by
 simp at hx
 obtain⟨k1,k2,k3⟩:=h1 i x hx
 refine⟨k1,?_,k3⟩
 rcases k2 with⟨k4,k5⟩ | ⟨k4,k5⟩
 ·exact .inl ⟨by omega,k5⟩
 ·exact .inr ⟨by omega,k5⟩):A:=h
theorem Nr{A:Prop}(h:A:=by
 apply Dt
 intro j
 rw[Zu]
 split
 ·rename_i hij
  subst hij
  split
  ·exact hH.symm
  ·rename_i h;rw[ZH (by omega)]
 ·rfl):A:=h
theorem R0{A:Prop}(h:A:=by
 cases hd:P.underlying t with
 | none=>simp[zz,hd] at ht
 | some d=>
  cases d <;> simp[zz,hd] at ht
  rename_i m e
  subst ht
  simp only[nq,hd,Zm] at he
  obtain⟨⟨b,m'⟩,htm,rfl⟩:=he
  refine⟨_,?_,hr⟩
  simp[execOp,ho,Instr.indexAt,hn,eT,hu,Instr.sureAddr,run_underlying hd,h0,hl,aS htm]):A:=h
theorem Hr{A:Prop}(h:A:=by
 cases h:P.underlying t2 with
 | none=>simp[eB,h] at nF
 | some d=>cases d <;> simp[eB,h] at nF;exact⟨_,rfl⟩):A:=h
theorem Q5{A:Prop}(h:A:=by
 have h1:=FP iM hnext
 have h2:(2:Nat)^48=281474976710656:=by decide
 have h3:2*(0+n)+192=2*n+192:=by omega
 rw[h3] at h1
 omega):A:=h
theorem Ul{A:Prop}(h:A:=by
 obtain⟨i',x',h7,h8,h9,rfl⟩:=fD i b x h1 h3
 obtain⟨j',y',k7,k8,k9,rfl⟩:=fD j b y h2 h4
 rw[cC] at h5 h6
 have:=hi.gJ i' j' b x' y' h8 k8 h9 k9 h5 h6
 subst this
 have hil:i<ks.length:=(Za.1 h7).1
 exact(ZbO hil hk3).1 (h7.trans k7.symm)):A:=h
theorem Ua{A:Prop}(h:A:=by
 intro h
 simp only[NS,lk] at h ⊢
 cases hb:Nat.beq a s with
 | true=>rw[hb] at h;exact .inl h
 | false=>rw[hb] at h;exact ih h):A:=h
theorem Gk{A:Prop}(h:A:=by
 refine(dy (k1 b (fun hm=> ?_))).trans hs
 have:=(h8 b hm).1
 simp[World.shape?,this] at hs):A:=h
theorem PK{A:Prop}(h:A:=by
 rw[ZU] at hj
 split at hj
 ·exact Lj
 ·cases hj):A:=h
theorem Rp{A:Prop}(h:A:=by
 have h2:IntKind.i64.max=9223372036854775807:=by decide
 rw[h2]
 omega):A:=h
theorem Eb{A:Prop}(h:A:=by
 obtain⟨d,inf,_,h5,_,h6⟩:=jz nj
 simp[Program.cellsOf,h5,h6]):A:=h
theorem PX{A:Prop}(h:A:=by
 unfold tU at hby
 cases h:P.info? e with
 | none=>rw[h] at hby;cases hby
 | some inf=>rw[h] at hby;simp at hby;exact⟨inf,rfl,hby⟩):A:=h
theorem Eh{A:Prop}(h:A:=by
 simp only[Region.wanted,hg,if_true]
 exact hop R w I ρ a hinv Bb _ _ next):A:=h
theorem BI{A:Prop}(h:A:=by
 intro i _
 unfold fl
 by_cases hlt:i<l.length <;> simp[hlt]):A:=h
theorem DS{A:Prop}(h:A:=by
 intro i o ho hf
 have hlt:=cZ ho
 simp[fl,hlt] at hf):A:=h
theorem KK{A:Prop}(h:A:=by
 have hlt:i<listed.size:=by omega
 unfold fl
 simp[hlt] at h3 ⊢
 exact h3):A:=h
theorem acZ{A:Prop}(h:A:=by
 rcases bO h1 with⟨h5,h6⟩ | ⟨h5,h6⟩
 ·rw[Zd (by simp[<- hi.len];exact h5)] at h2
  exact hi1.iq j k blk h6 h2 h3
 ·subst h6
  rw[r8];exact hi.iq i k _ hρ hH e9):A:=h
theorem abe{A:Prop}(h:A:=by
 intro j b blk h1 h2
 rw[<- h0,Zt,Zm] at h2
 obtain⟨i,h3,rfl⟩:=h2
 have h4:=hlt i (Zi h3)
 exact⟨i,_,h3,o9 i h4,rfl,fun hl=>by rw[<- rT j i h3 hl];exact h1⟩):A:=h
theorem S8{A:Prop}(h:A:=by
 rcases bO h1 with⟨h5,h6⟩ | ⟨h5,h6⟩
 ·rw[Zd (by simp[<- hi.len];exact h5)] at h2
  exact hi1.live j k blk h6 h2 h3 h4
 ·subst h6
  exact hi.live i k _ hρ hH e9 h4):A:=h
theorem Ri{A:Prop}(h:A:=by
 simp only[Sem.run_pure,Result.andThen,List.map_toArray,ZE,zF,C6,Au,Sem.run_bind,this]
 rfl):A:=h
theorem Sl{A:Prop}(h:A:=by
 intro j b blk h1 h2
 rw[Zt,Zm] at h2
 obtain⟨i,h3,rfl⟩:=h2
 have h4:=hlt i (Zi h3)
 rw[rT j i h3] at h1
 exact⟨i,H[i],h3,h1,by simp[h4],by simp[h4]⟩):A:=h
theorem Yd{A:Prop}(h:A:=by
 rcases Zs.1 hb with h | h
 ·exact HL i b x g1 g2 g3 g4 h
 ·have FZ:=hi.iq i b x g1 g2 g3
  rcases h3.w.new b (ZI _ h) with h | h
  ·exact HL i b x g1 g2 g3 g4 h
  ·omega):A:=h
theorem XX{A:Prop}(h:A:=by
 have h1:i<ρ.length:=by rw[hi.len];exact hlt i (Zi h)
 rw[eρ2,Zt,h]
 show some (if (H.getD i .dead).live=true then ρ.getD i 0 else w.heap.size)=_
 rw[if_pos hl]
 simp[h1]):A:=h
theorem ac3{A:Prop}(h:A:=by
 refine sC hk fuel m listed a w Dp (Zg _) hsz (fun i _=>hfl i) (hK a w I ρ he hi ⟨hs,fun s v hv=>cT s v ?_⟩ hmk)
 rw[<- hv,hlk m (Zg _)]
 exact iR hk fun j o hj hd=>hfl j):A:=h
theorem TG{A:Prop}(h:A:=by
 refine⟨rfl,⟨fn,w.heap.size,?_⟩,fun s v hv=>(ht.at_ s v hv).ext hE⟩
 have:=heap_alloc_new (w.alloc (.deferred (some []))) ob
 rw[hsz] at this
 exact this):A:=h
theorem Tc{A:Prop}(h:A:=by
 have h0:=cR.refl w I ρ
 exact⟨h0.os,h0.tape,h0.output,h0.size,h0.keep,h0.shape,h0.mB,h0.bu,h0.fk,h0.cL,h0.kX,fun b hb=> .inl (Xw hb)⟩):A:=h
theorem Tq{A:Prop}(h:A:=by
 have hlt:i<H.length:=by
  have:=(Za.1 e).1
  rw[zC] at this
  omega
 rw[Rv hlt] at e
 exact⟨hlt,e⟩):A:=h
theorem W3{A:Prop}(h:A:=by
 simp only[fK,ZbP,Zc]
 rw[hcs,<- xm]
 simp
 rw[hsz]
 have:=FP z.length hle
 omega):A:=h
theorem Lg{A:Prop}(h:A:=by
 exact h2 _ B w' I' ρ' a' hi2 nF hm2 fun e a2 w2 q=>QC.ext he q):A:=h
theorem LW{A:Prop}(h:A:=by
 have h2:(2:Nat)^48=281474976710656:=by decide
 omega):A:=h
theorem TZ{A:Prop}(h:A:=by
 rcases bO h2 with⟨h4,h5⟩ | ⟨h4,h5⟩
 ·rw[Zd (by rw[hi.len];exact h4)] at h1
  exact⟨h1,h5⟩
 ·subst h5;cases h3):A:=h
theorem Rl{A:Prop}(h:A:=by
 rcases xU b h with h | h
 ·exact .inr (.inl h)
 ·exact .inr (.inr (by omega))):A:=h
theorem XV{A:Prop}(h:A:=by
 unfold tU at hby
 cases hP:P.info? e with
 | none=>rw[hP] at hby;cases hby
 | some inf=>rw[hP] at hby;exact⟨inf,rfl,by simpa using hby⟩):A:=h
theorem Y1{A:Prop}(h:A:=by
 rcases h3.w.new b (ZI _ hb) with h | h
 ·rcases xU b h with h | h
  ·exact .inl h
  ·exact .inr (by omega)
 ·exact .inr h):A:=h
theorem aaJ{A:Prop}(h:A:=by
 by_cases h:i<m
 ·rw[hall i h];simp[h]
 ·rw[CL i (by omega)];simp[h]):A:=h
theorem Ry{A:Prop}(h:A:=by
 unfold tU at hby
 cases h:P.info? e' with
 | none=>rw[h] at hby;cases hby
 | some inf=>rw[h] at hby;simp at hby;exact⟨inf,rfl,hby⟩):A:=h
theorem Rs{A:Prop}(h:A:=by
 generalize 9999=d
 simp[Op.equalIn,run_underlying hu,sizeOf,typeInfo,hj]):A:=h
theorem aaD{A:Prop}(h:A:=by
 cases hl:blk.live with
 | false=>exact dz.ie hl
 | true=>
  obtain⟨h4,h5⟩:=old j k blk h1 h2 hl
  exact dz.ext hE hi h4 h5 rfl):A:=h
theorem aaz{A:Prop}(h:A:=by
 obtain⟨t,rfl⟩:=hB
 have:B.length<=H.length:=by omega
 rw[List.take_append,NP this]
 exact Xi _ _):A:=h
theorem S3{A:Prop}(h:A:=by
 simp only[World.shape?,hw,Yr,Prod.mk.injEq] at hsh
 obtain⟨h1,h2⟩:=hsh
 subst h1
 exact⟨rfl,by rw[h2,hce]⟩):A:=h
theorem Tv{A:Prop}(h:A:=by
 rw[eρ2,Zt,h]
 show some (if (H.getD i .dead).live=true then ρ.getD i 0 else w.heap.size)=_
 rw[if_neg (by rw[hl];decide)]):A:=h
theorem aaU{A:Prop}(h:A:=by
 rw[hb] at hv
 have:=ZL hb
 subst this
 simp at hv
 subst hv
 exact .inl ⟨⟨_,_,ht.at_ s _ hs⟩,rfl⟩):A:=h
theorem UO{A:Prop}(h:A:=by
 obtain⟨h7,h8⟩:=old j k x h1 h3 h5
 obtain⟨h9,h10⟩:=old j' k y h2 h4 h6
 exact hi.gJ j j' k x y h7 h9 h8 h10 h5 h6):A:=h
theorem SK{A:Prop}(h:A:=by
 cases hp:jS vs with
 | none=>exact⟨us,rfl,h⟩
 | some xs=>rw[eK hp] at h;exact⟨us,rfl,aj.pure.1 h⟩):A:=h
theorem abd{A:Prop}(h:A:=by
 unfold b6 at hc
 split at hc
 ·rename_i h;exact⟨_,h,rfl⟩
 ·rename_i h;exact⟨_,h,rfl⟩
 ·cases hc):A:=h
theorem FG{A:Prop}(h:A:=by
 unfold askRoom
 split <;> simp[mark,Sem.run]):A:=h
theorem TK{A:Prop}(h:A:=by
 rw[D9 e] at h3
 rw[D9 e'] at h4
 exact hi.gJ j j' k x y h1 h2 h3 h4 h5 h6):A:=h
theorem aa5{A:Prop}(h:A:=by
 rw[h10 j hj]
 simp only[World.setCell,Ya]
 rw[if_neg (by simpa using fun e=>hj e.symm)]):A:=h
theorem R3{A:Prop}(h:A:=by
 simp only[fK,ZbP]
 rw[<- xm]
 simp):A:=h
theorem abH{A:Prop}(h:A:=by
 rw[r3,Zc,hcs,<- xm,hlen,hsz,<- CM]
 exact FP _ hroom):A:=h
theorem R8{A:Prop}(h:A:=by
 rw[Zd (by simp[<- hi.len];exact h5)] at h2
 exact dz.ext pL hi1 h6 h2 rfl):A:=h
theorem XU{A:Prop}(h:A:=by
 intro arr e' h3
 obtain⟨fK,h4,_⟩:=hi.rel i blk _ hρ hH
 rw[h3] at h4;cases h4;rfl):A:=h
theorem aa3{A:Prop}(h:A:=by
 obtain⟨i,x,h4,h5,h6,rfl⟩:=fD j b blk h1 h2
 exact hi.live i b x h5 h6 (by rwa [cC] at h3)):A:=h
theorem ac0{A:Prop}(h:A:=by
 obtain⟨i,x,h4,h5,h6,rfl⟩:=fD j b blk h1 h2
 exact hi.iq i b x h5 h6 (by rwa [cC] at h3)):A:=h
theorem QZ{A:Prop}(h:A:=by
 unfold fl
 by_cases hlt:q<l.length <;> simp[hlt]):A:=h
theorem WO{A:Prop}(h:A:=by
 simp[ct] at h
 subst h
 obtain⟨a,hr⟩:=hr
 exact .inl ⟨⟨a,0,hr⟩,rfl⟩):A:=h
theorem VS{A:Prop}(h:A:=by
 unfold oX at h
 split at h
 ·rename_i hl
  rw[rT j i (y6 h) hl];exact hb
 ·cases h):A:=h
theorem L4{A:Prop}(h:A:=by
 exact⟨w.heap.size,by rw[<- hi.len];simp,rfl⟩):A:=h
theorem Rf{A:Prop}(h:A:=by
 exact done (fuel+1) listed a w sF hsz CL hall hsi):A:=h
theorem SD{A:Prop}(h:A:=by
 obtain⟨i,x,h4,h5,h6,rfl⟩:=fD j b blk h1 h2
 exact kr hσ (hi.rel i b x h5 h6)):A:=h
theorem SP{A:Prop}(h:A:=by
 have h3:k.min<=0:=by cases k <;> decide
 simp only[Op.intBits,h1,zU h2 h3]
 rfl):A:=h
theorem Sn{A:Prop}(h:A:=by
 have h1:i<ρ.length:=by rw[hi.len];exact hlt i (Zi h)
 simp[h,h1]):A:=h
theorem RO{A:Prop}(h:A:=by
 rw[<- hy]
 simp[execOp,ho,resolve,hu,Deferred.ofValue,invoke,<- Array.toList_map]):A:=h
theorem Yi{A:Prop}(h:A:=by
 have h2:IntKind.i64.max=9223372036854775807:=by decide
 rw[h2] at nw
 omega):A:=h
set_option linter.unusedSimpArgs false
set_option linter.unusedVariables false
section
section
namespace Go.AF
inductive PV where
 | bool (b:Bool)
 | int (k:IntKind) (n:Int)
 | str (s:ByteArray)
 | nilPtr | nilSlice | nilMap | nilFunc | nilIface
 | ip (cs:List PV) (off:Nat)
 | is (cs:List PV) (len:Nat)
 | im (ks vs:List PV)
 | func (fn:Fn) (first captured:List PV)
 | iface (t:TypeId) (v:PV)
 | agg (cs:List PV)
 | tuple (vs:List PV)
inductive V where
 | p (x:PV)
 | ptr (i off:Nat)
 | row (i len:Nat)
 | sl (i off len:Nat)
 | map (i:Nat)
 | func (fn:Fn) (first captured:List V)
 | iface (t:TypeId) (v:V)
 | agg (cs:List V)
 | tuple (vs:List V)
 | opt (g:Bool) (v:V)
 | raw (a:Option Addr) (n c:Nat)
 | z0
 | top
structure uf where
 l:Nat
 tmps:Array Value
 T:List (Nat×V)
 ps:Array Tmp
 gX:Code
 body:Code
inductive ak where
 | cells (cs:List V) (e:TypeId)
 | row (cs:List V) (e:TypeId)
 | iU (cs:List V) (e:TypeId)
 | map (ks vs:List V)
 | oR (s:ByteArray) (pos:Nat)
 | mapIter (ks vs:List PV) (last:Option (PV×PV))
 | loop (r:uf) (st:LoopState) (pe:Option Code)
 | dead
def ak.live:ak->Bool
 | .dead=>false
 | _=>true
def lk:List (Nat×V)->Nat->Option V
 | [],_=>none
 | (a,v)::r,s=>bif Nat.beq a s then some v else lk r s
def wU(es:Array MapEntry)(clock:Nat):Prop:=(es.toList.map (·.born)).Nodup∧∀ e∈es.toList,e.born<clock
section
variable (w:World) (I:Nat->Prop)
mutual
def Rel:PV->Value->Prop
 | .bool b,u=>u= .bool b
 | .int k n,u=>u= .int k n
 | .str s,u=>u= .string s
 | .nilPtr,u=>u= .pointer none
 | .nilSlice,u=>u= .slice none 0 0
 | .nilMap,u=>u= .map none
 | .nilFunc,u=>u= .nilFunc
 | .nilIface,u=>u= .nilIface
 | .ip cs off,u=>∃ b o,I b∧u= .pointer (some ⟨b,o+off,none⟩)∧aY cs b o
 | .is cs len,u=>((∃ a cap,u= .slice a 0 cap)∧len=0)∨∃ b o cap,(cs≠[]->I b)∧len<=cap∧u= .slice (some ⟨b,o,none⟩) len cap∧aY cs b o
 | .im ks vs,u=>∃ r es clock,I r∧u= .map (some r)∧w.heap[r]? =some (.map es clock)∧aW ks (es.toList.map (·.key))∧aW vs (es.toList.map (·.val))∧wU es clock
 | .func fn fi ca,u=>∃ us vs,u= .func fn us vs∧aW fi us.toList∧aW ca vs.toList
 | .iface t v,u=>∃ x,u= .iface t x∧Rel v x
 | .agg cs,u=>∃ us,u= .agg us∧aW cs us.toList
 | .tuple cs,u=>∃ us,u= .tuple us∧aW cs us.toList
def aW:List PV->List Value->Prop
 | [],us=>us=[]
 | c::cs,us=>∃ u us',us=u::us'∧Rel c u∧aW cs us'
def aY:List PV->Nat->Nat->Prop
 | [],_,_=>True
 | c::cs,b,o=>(∃ u,w.cell? ⟨b,o,none⟩=some u∧Rel c u)∧aY cs b (o+1)
end
end
section
variable (P:Program) (w:World) (I:Nat->Prop) (ρ:List Nat)
mutual
def aG:V->Value->Prop
 | .p x,u=>Rel w I x u
 | .ptr i off,u=>∃ b,ρ[i]? =some b∧u= .pointer (some ⟨b,off,none⟩)
 | .row i len,u=>∃ b e cap,ρ[i]? =some b∧u= .slice (some ⟨b,0,none⟩) len cap∧w.shape? b=some (e,cap*P.cellsOf e)∧len<=cap
 | .sl i off len,u=>∃ b cap,ρ[i]? =some b∧u= .slice (some ⟨b,off,none⟩) len cap∧len<=cap
 | .map i,u=>∃ b,ρ[i]? =some b∧u= .map (some b)
 | .func fn fi ca,u=>∃ us vs,u= .func fn us vs∧aj fi us.toList∧aj ca vs.toList
 | .iface t v,u=>∃ x,u= .iface t x∧aG v x
 | .agg cs,u=>∃ us,u= .agg us∧aj cs us.toList
 | .tuple cs,u=>∃ us,u= .tuple us∧aj cs us.toList
 | .opt g v,u=>(g=true->aG v u)∧(g=false->u=undef)
 | .raw a n c,u=>u= .slice a n c
 | .z0,u=>∃ a,u= .slice a 0 0
 | .top,_=>True
def aj:List V->List Value->Prop
 | [],us=>us=[]
 | c::cs,us=>∃ u us',us=u::us'∧aG c u∧aj cs us'
end
def dz:ak->Nat->Prop
 | .cells cs e,b=>∃ arr,w.heap[b]? =some (.cells arr e (0,0))∧aj P w I ρ cs arr.toList
 | .row cs e,b=>∃ arr,w.heap[b]? =some (.cells arr e (0,0))∧cs.length<=arr.size∧aj P w I ρ cs (arr.toList.take cs.length)
 | .iU cs e,b=>∃ arr m,w.heap[b]? =some (.cells arr e (0,m))∧m<=cs.length∧cs.length<=arr.size∧aj P w I ρ cs (arr.toList.take cs.length)
 | .map ks vs,b=>∃ es clock,w.heap[b]? =some (.map es clock)∧aj P w I ρ ks (es.toList.map (·.key))∧aj P w I ρ vs (es.toList.map (·.val))∧wU es clock
 | .oR s pos,b=>w.heap[b]? =some (.stringIter s pos)
 | .mapIter ks vs last,b=>(ks=[]∧vs=[]∧last=none∧w.heap[b]? =some (.mapIter none 0 #[] 0))∨
     ∃ r es clock seen,w.heap[b]? =some (.mapIter (some r) clock seen clock)∧I r∧w.heap[r]? =some (.map es clock)∧wU es clock∧
      aW w I ks ((es.toList.filter fun e=> !seen.contains e.born).map (·.key))∧aW w I vs ((es.toList.filter fun e=> !seen.contains e.born).map (·.val))∧
      ∀ k v,last=some (k,v)->∃(e:MapEntry) (pre:Array Nat),e∈es.toList∧seen=pre.push e.born∧Rel w I k e.key∧Rel w I v e.val
 | .loop r st pe,b=>b=r.l∧(∃ fn d,w.heap[b]? =some (.loop {state:=st,pending:=pe,fn,tmps:=r.tmps,params:=r.ps,assign:=r.gX,body:=r.body,defers:=d}))∧∀ s v,lk r.T s=some v->aG P w I ρ v (r.tmps.getD s undef)
 | .dead,_=>True
end
theorem qP{α:Type}{l l':List α}(h:l<+:l'){i:Nat}{b:α}(hb:l[i]? =some b):l'[i]? =some b:=by
 obtain⟨t,rfl⟩:=h
 rw[Zd (Za.1 hb).1]
 exact hb
theorem pN{w w':World}{b o:Nat}{s:Option Nat}(h:w'.heap[b]? =w.heap[b]?):w'.cell? ⟨b,o,s⟩=w.cell? ⟨b,o,s⟩:=by
 simp only[World.cell?,h]
mutual
theorem Rel.mono{w w':World}{I I':Nat->Prop}(hI:∀ b,I b->I' b)(hw:∀ b,I b->w'.heap[b]? =w.heap[b]?):∀(x:PV) (u:Value),Rel w I x u->Rel w' I' x u
 | .bool _,_,h=>by simpa[Rel] using h
 | .int _ _,_,h=>by simpa[Rel] using h
 | .str _,_,h=>by simpa[Rel] using h
 | .nilPtr,_,h=>by simpa[Rel] using h
 | .nilSlice,_,h=>by simpa[Rel] using h
 | .nilMap,_,h=>by simpa[Rel] using h
 | .nilFunc,_,h=>by simpa[Rel] using h
 | .nilIface,_,h=>by simpa[Rel] using h
 | .ip cs off,u,h=>by
  obtain⟨b,o,hb,hu,hc⟩:=h
  exact⟨b,o,hI b hb,hu,aY.mono hI hw cs b o (fun _=>hb) hc⟩
 | .is cs len,u,h=>by
  rcases h with h | ⟨b,o,cap,hb,hl,hu,hc⟩
  ·exact .inl h
  ·exact .inr ⟨b,o,cap,fun hn=>hI b (hb hn),hl,hu,aY.mono hI hw cs b o hb hc⟩
 | .im ks vs,u,h=>by
  obtain⟨r,es,clock,hr,hu,hh,hk,hv,hb⟩:=h
  exact⟨r,es,clock,hI r hr,hu,by rw[hw r hr];exact hh,aW.mono hI hw ks _ hk,aW.mono hI hw vs _ hv,hb⟩
 | .func fn fi ca,u,h=>by
  obtain⟨us,vs,hu,h1,h2⟩:=h
  exact⟨us,vs,hu,aW.mono hI hw fi _ h1,aW.mono hI hw ca _ h2⟩
 | .iface t v,u,h=>by
  obtain⟨x,hu,h1⟩:=h
  exact⟨x,hu,Rel.mono hI hw v x h1⟩
 | .agg cs,u,h=>by
  obtain⟨us,hu,h1⟩:=h
  exact⟨us,hu,aW.mono hI hw cs _ h1⟩
 | .tuple cs,u,h=>by
  obtain⟨us,hu,h1⟩:=h
  exact⟨us,hu,aW.mono hI hw cs _ h1⟩
theorem aW.mono{w w':World}{I I':Nat->Prop}(hI:∀ b,I b->I' b)(hw:∀ b,I b->w'.heap[b]? =w.heap[b]?):∀(xs:List PV) (us:List Value),aW w I xs us->aW w' I' xs us
 | [],us,h=>by simpa[aW] using h
 | c::cs,us,h=>by
  obtain⟨u,us',hu,h1,h2⟩:=h
  exact⟨u,us',hu,Rel.mono hI hw c u h1,aW.mono hI hw cs us' h2⟩
theorem aY.mono{w w':World}{I I':Nat->Prop}(hI:∀ b,I b->I' b)(hw:∀ b,I b->w'.heap[b]? =w.heap[b]?):∀(xs:List PV) (b o:Nat),(xs≠[]->I b)->aY w I xs b o->aY w' I' xs b o
 | [],_,_,_,_=>by simp[aY]
 | c::cs,b,o,hb,h=>by
  obtain⟨⟨u,hu,h1⟩,h2⟩:=h
  have hbb:=hb (by simp)
  exact⟨⟨u,(pN (hw b hbb)).trans hu,Rel.mono hI hw c u h1⟩,aY.mono hI hw cs b (o+1) (fun _=>hbb) h2⟩
end
mutual
theorem aG.mono{P:Program}{w w':World}{I I':Nat->Prop}{ρ ρ':List Nat}(hI:∀ b,I b->I' b)(hw:∀ b,I b->w'.heap[b]? =w.heap[b]?)(hρ:ρ<+:ρ')
    (hs:∀ b∈ρ,∀ s,w.shape? b=some s->w'.shape? b=some s):∀(x:V) (u:Value),aG P w I ρ x u->aG P w' I' ρ' x u
 | .p x,u,h=>Rel.mono hI hw x u h
 | .ptr i off,u,h=>by
  obtain⟨b,hb,hu⟩:=h
  exact⟨b,qP hρ hb,hu⟩
 | .row i len,u,h=>by
  obtain⟨b,e,cap,hb,hu,hsh,hl⟩:=h
  exact⟨b,e,cap,qP hρ hb,hu,hs b (Zi hb) _ hsh,hl⟩
 | .sl i off len,u,h=>by
  obtain⟨b,cap,hb,hu⟩:=h
  exact⟨b,cap,qP hρ hb,hu⟩
 | .map i,u,h=>by
  obtain⟨b,hb,hu⟩:=h
  exact⟨b,qP hρ hb,hu⟩
 | .func fn fi ca,u,h=>by
  obtain⟨us,vs,hu,h1,h2⟩:=h
  exact⟨us,vs,hu,aj.mono hI hw hρ hs fi _ h1,aj.mono hI hw hρ hs ca _ h2⟩
 | .iface t v,u,h=>by
  obtain⟨x,hu,h1⟩:=h
  exact⟨x,hu,aG.mono hI hw hρ hs v x h1⟩
 | .agg cs,u,h=>by
  obtain⟨us,hu,h1⟩:=h
  exact⟨us,hu,aj.mono hI hw hρ hs cs _ h1⟩
 | .tuple cs,u,h=>by
  obtain⟨us,hu,h1⟩:=h
  exact⟨us,hu,aj.mono hI hw hρ hs cs _ h1⟩
 | .opt g v,u,h=>⟨fun hg=>aG.mono hI hw hρ hs v u (h.1 hg),h.2⟩
 | .raw _ _ _,u,h=>h
 | .z0,u,h=>h
 | .top,_,_=>by simp[aG]
theorem aj.mono{P:Program}{w w':World}{I I':Nat->Prop}{ρ ρ':List Nat}(hI:∀ b,I b->I' b)(hw:∀ b,I b->w'.heap[b]? =w.heap[b]?)(hρ:ρ<+:ρ')
    (hs:∀ b∈ρ,∀ s,w.shape? b=some s->w'.shape? b=some s):∀(xs:List V) (us:List Value),aj P w I ρ xs us->aj P w' I' ρ' xs us
 | [],us,h=>by simpa[aj] using h
 | c::cs,us,h=>by
  obtain⟨u,us',hu,h1,h2⟩:=h
  exact⟨u,us',hu,aG.mono hI hw hρ hs c u h1,aj.mono hI hw hρ hs cs us' h2⟩
end
theorem dz.mono{P:Program}{w w':World}{I I':Nat->Prop}{ρ ρ':List Nat}(hI:∀ b,I b->I' b)(hw:∀ b,I b->w'.heap[b]? =w.heap[b]?)(hρ:ρ<+:ρ')
    (hs:∀ b∈ρ,∀ s,w.shape? b=some s->w'.shape? b=some s){x:ak}{b:Nat}(hb:w'.heap[b]? =w.heap[b]?)(h:dz P w I ρ x b):dz P w' I' ρ' x b:=by
 cases x with
 | cells cs e=>
  obtain⟨arr,h1,h2⟩:=h
  exact⟨arr,hb.trans h1,aj.mono hI hw hρ hs cs _ h2⟩
 | row cs e=>
  obtain⟨arr,h1,h2,h3⟩:=h
  exact⟨arr,hb.trans h1,h2,aj.mono hI hw hρ hs cs _ h3⟩
 | iU cs e=>
  obtain⟨arr,m,h1,h0,h2,h3⟩:=h
  exact⟨arr,m,hb.trans h1,h0,h2,aj.mono hI hw hρ hs cs _ h3⟩
 | map ks vs=>
  obtain⟨es,clock,h1,h2,h3,h4⟩:=h
  exact⟨es,clock,hb.trans h1,aj.mono hI hw hρ hs ks _ h2,aj.mono hI hw hρ hs vs _ h3,h4⟩
 | oR s pos=>exact hb.trans h
 | mapIter ks vs last=>
  rcases h with⟨h1,h2,h3,h4⟩ | ⟨r,es,clock,seen,h1,h2,h3,h4,h5,h6,h7⟩
  ·exact .inl ⟨h1,h2,h3,hb.trans h4⟩
  ·refine .inr ⟨r,es,clock,seen,hb.trans h1,hI r h2,(hw r h2).trans h3,h4,aW.mono hI hw ks _ h5,aW.mono hI hw vs _ h6,fun k v hl=> ?_⟩
   obtain⟨e,pre,k1,k2,k3,k4⟩:=h7 k v hl
   exact⟨e,pre,k1,k2,Rel.mono hI hw k _ k3,Rel.mono hI hw v _ k4⟩
 | loop r st pe=>
  obtain⟨h0,⟨fn,d,h1⟩,h3⟩:=h
  exact⟨h0,⟨fn,d,hb.trans h1⟩,fun s v hv=>aG.mono hI hw hρ hs v _ (h3 s v hv)⟩
 | dead=>trivial
structure cR (w:World) (I:Nat->Prop) (ρ:List Nat) (w':World) (I':Nat->Prop) (ρ':List Nat):Prop where
 os:w'.os=w.os
 tape:w'.tape=w.tape
 output:w'.output=w.output
 size:w.heap.size<=w'.heap.size
 keep:∀ b,b<w.heap.size->b∉ρ->w'.heap[b]? =w.heap[b]?
 shape:∀ b s,w.shape? b=some s->w'.shape? b=some s
 mB:∀ b,I b->I' b
 bu:∀ b,I b->w'.heap[b]? =w.heap[b]?
 fk:∀ b,I' b->I b∨b∈ρ∨w.heap.size<=b
 cL:∀ b:Nat,w.heap[b]? =some (Obj.deferred (some []))->w'.heap[b]? =some (Obj.deferred (some []))
 kX:∀ b:Nat,w.heap[b]? =some (Obj.deferred (some []))->I' b->I b
 new:∀ b∈ρ',b∈ρ∨w.heap.size<=b
structure Ext (w:World) (I:Nat->Prop) (ρ:List Nat) (w':World) (I':Nat->Prop) (ρ':List Nat):Prop where
 w:cR w I ρ w' I' ρ'
 pre:ρ<+:ρ'
def YE:Operand->Option PV
 | .const (.int k n)=>some (.int k n)
 | .const (.bool b)=>some (.bool b)
 | _=>none
def Fa:List Oper->List (Nat×List PV)
 | o1::o2::rest=>(match o1.op,o2.op with
   | .build _ parts,.store _ (.global g) _=>(match parts.toList.mapM fun p=>YE p.2 with
     | some l=>[(g,l)]
     | none=>[])
   | _,_=>[])++Fa (o2::rest)
 | _=>[]
def MQ:Code->List (Nat×List PV)
 | .region _ l _=>Fa l.toList
 | .seq a b=>MQ a++MQ b
 | _=>[]
def nN(P:Program):List (Nat×List PV):=match P.funcs.toList.find? fun f=>f.name== "gosem.cut.vars" with
 | some f=>(match f.body with
   | some c=>MQ c
   | none=>[])
 | none=>[]
def MJ(P:Program)(w:World)(I:Nat->Prop):Prop:=(∀ x∈nN P,I x.1∧aY w I x.2 x.1 0∧∃ arr e fr,w.heap[x.1]? =some (.cells arr e fr)∧arr.size=x.2.length)∧∀ g,P.globalNamed "internal/bytealg.MaxLen" =some g->I g∧∃ m,w.cell? ⟨g,0,none⟩=some (.int .i64 m)
theorem MJ.mono{P:Program}{w w':World}{I I':Nat->Prop}(h:MJ P w I)(hI:∀ b,I b->I' b)(hw:∀ b,I b->w'.heap[b]? =w.heap[b]?):MJ P w' I':=⟨fun x hx=>by
 obtain⟨h1,h2,h3⟩:=h.1 x hx
 rw[<- hw _ h1] at h3
 exact⟨hI _ h1,aY.mono hI hw _ _ _ (fun _=>h1) h2,h3⟩,fun g hg=>by
 obtain⟨h1,m,h2⟩:=h.2 g hg
 refine⟨hI _ h1,m,?_⟩
 rw[<- h2]
 unfold World.cell?
 simp only[hw _ h1]⟩
structure Inv (P:Program) (w:World) (I:Nat->Prop) (ρ:List Nat) (H:List ak):Prop where
 len:ρ.length=H.length
 iq:∀(i b:Nat) (blk:ak),ρ[i]? =some b->H[i]? =some blk->blk.live=true->b<w.heap.size
 ib:∀ b,I b->b<w.heap.size
 live:∀(i b:Nat) (blk:ak),ρ[i]? =some b->H[i]? =some blk->blk.live=true->¬ I b
 gJ:∀(i j b:Nat) (x y:ak),ρ[i]? =some b->ρ[j]? =some b->H[i]? =some x->H[j]? =some y->x.live=true->y.live=true->i=j
 rel:∀(i b:Nat) (blk:ak),ρ[i]? =some b->H[i]? =some blk->dz P w I ρ blk b
 gl:MJ P w I
theorem cR.refl(w:World)(I:Nat->Prop)(ρ:List Nat):cR w I ρ w I ρ:=
 ⟨rfl,rfl,rfl,Zg _,fun _ _ _=>rfl,fun _ _ h=>h,fun _ h=>h,fun _ _=>rfl,fun _ h=> .inl h,fun _ h=>h,fun _ _ h=>h,fun _ h=> .inl h⟩
theorem Ext.refl(w:World)(I:Nat->Prop)(ρ:List Nat):Ext w I ρ w I ρ:=⟨cR.refl _ _ _,ZG _⟩
theorem cR.trans{w w' w'':World}{I I' W5:Nat->Prop}{ρ ρ' Wx:List Nat}(h:cR w I ρ w' I' ρ')(k:cR w' I' ρ' w'' W5 Wx):cR w I ρ w'' W5 Wx where
 os:=k.os.trans h.os
 tape:=k.tape.trans h.tape
 output:=k.output.trans h.output
 size:=Zz h.size k.size
 keep b hb hn:=by
  have:b∉ρ':=fun hm=>by
   rcases h.new b hm with h1 | h1
   ·exact hn h1
   ·omega
  exact(k.keep b (ZQ hb h.size) this).trans (h.keep b hb hn)
 shape b s hs:=k.shape b s (h.shape b s hs)
 mB b hb:=k.mB b (h.mB b hb)
 bu b hb:=(k.bu b (h.mB b hb)).trans (h.bu b hb)
 fk b hb:=by
  rcases k.fk b hb with h1 | h1 | h1
  ·exact h.fk b h1
  ·exact .inr (h.new b h1)
  ·exact .inr (.inr (Zz h.size h1))
 cL b hb:=k.cL b (h.cL b hb)
 kX b hb hi:=h.kX b hb (k.kX b (h.cL b hb) hi)
 new b hb:=by
  rcases k.new b hb with h1 | h1
  ·exact h.new b h1
  ·exact .inr (Zz h.size h1)
theorem Ext.trans{w w' w'':World}{I I' W5:Nat->Prop}{ρ ρ' Wx:List Nat}(h:Ext w I ρ w' I' ρ')(k:Ext w' I' ρ' w'' W5 Wx):Ext w I ρ w'' W5 Wx:=⟨h.w.trans k.w,h.pre.trans k.pre⟩
theorem aG.ext{P:Program}{w w':World}{I I':Nat->Prop}{ρ ρ':List Nat}(h:Ext w I ρ w' I' ρ'){x:V}{u:Value}(hx:aG P w I ρ x u):aG P w' I' ρ' x u:=
 aG.mono h.w.mB h.w.bu h.pre (fun b _ s hs=>h.w.shape b s hs) x u hx
theorem aj.ext{P:Program}{w w':World}{I I':Nat->Prop}{ρ ρ':List Nat}(h:Ext w I ρ w' I' ρ'){x:List V}{u:List Value}(hx:aj P w I ρ x u):aj P w' I' ρ' x u:=
 aj.mono h.w.mB h.w.bu h.pre (fun b _ s hs=>h.w.shape b s hs) x u hx
theorem Rel.ext{w w':World}{I I':Nat->Prop}{ρ ρ':List Nat}(h:Ext w I ρ w' I' ρ'){x:PV}{u:Value}(hx:Rel w I x u):Rel w' I' x u:=
 Rel.mono h.w.mB h.w.bu x u hx
theorem dz.ext{P:Program}{w w':World}{I I':Nat->Prop}{ρ ρ':List Nat}{H:List ak}(h:Ext w I ρ w' I' ρ')(hi:Inv P w I ρ H){i b:Nat}{x:ak}(hρ:ρ[i]? =some b)(hH:H[i]? =some x)
    (hb:w'.heap[b]? =w.heap[b]?):dz P w' I' ρ' x b:=
 dz.mono h.w.mB h.w.bu h.pre (fun b _ s hs=>h.w.shape b s hs) hb (hi.rel i b x hρ hH)
structure bR (P:Program) (w:World) (I:Nat->Prop) (ρ:List Nat) (N:Nat) (T:List (Nat×V)) (tmps:Array Value):Prop where
 size:tmps.size=N
 at_:∀ s v,lk T s=some v->aG P w I ρ v (tmps.getD s undef)
theorem bR.ext{P:Program}{w w':World}{I I':Nat->Prop}{ρ ρ':List Nat}{N:Nat}{T:List (Nat×V)}{tmps:Array Value}(h:Ext w I ρ w' I' ρ')(t:bR P w I ρ N T tmps):bR P w' I' ρ' N T tmps:=
 ⟨t.size,fun s v hv=>(t.at_ s v hv).ext h⟩
def gN(T:List (Nat×V)):Option Nat->V->List (Nat×V)
 | some d,v=>(d,v)::T
 | none,_=>T
def bC(N:Nat):Option Nat->Bool
 | some d=>Nat.blt d N
 | none=>true
theorem bR.put{P:Program}{w:World}{I:Nat->Prop}{ρ:List Nat}{N:Nat}{T:List (Nat×V)}{a:Act}{dst:Option Nat}{v:V}{u:Value}(hd:bC N dst=true)
    (t:bR P w I ρ N T a.tmps)(hv:aG P w I ρ v u):bR P w I ρ N (gN T dst v) (a.put dst u).tmps:=by
 cases dst with
 | none=>exact t
 | some d=>
  have hlt:d<N:=by simpa[bC,Nat.blt,ZA] using hd
  refine⟨by simp[Act.put,t.size],fun s x hx=> ?_⟩
  simp only[gN,lk] at hx
  by_cases hs:d=s
  ·subst hs
   simp at hx
   subst hx
   have h1:d<a.tmps.size:=by rw[t.size];exact hlt
   simpa[Act.put,h1] using hv
  ·have hb:Nat.beq d s=false:=by
     cases h0:Nat.beq d s with
     | false=>rfl
     | true=>exact absurd (ZL h0) hs
   simp only[hb,cond_false] at hx
   have:=t.at_ s x hx
   simpa[Act.put,hs] using this
def Sub(T T':List (Nat×V)):Prop:=∀ s v,lk T s=some v->lk T' s=some v
theorem bR.sub{P:Program}{w:World}{I:Nat->Prop}{ρ:List Nat}{N:Nat}{T T':List (Nat×V)}{tmps:Array Value}(h:Sub T' T)(t:bR P w I ρ N T tmps):bR P w I ρ N T' tmps:=
 ⟨t.size,fun s v hv=>t.at_ s v (h s v hv)⟩
def qV:Value->Option PV
 | .bool b=>some (.bool b)
 | .int k n=>some (.int k n)
 | .string s=>some (.str s)
 | .pointer none=>some .nilPtr
 | .slice none 0 0=>some .nilSlice
 | .map none=>some .nilMap
 | .nilFunc=>some .nilFunc
 | .nilIface=>some .nilIface
 | _=>none
theorem Rel.scalar{w:World}{I:Nat->Prop}{v:Value}{x:PV}(h:qV v=some x):Rel w I x v:=by
 unfold qV at h
 split at h <;> simp_all <;> subst h <;> simp[Rel]
def lX:List Value->Option (List PV)
 | []=>some []
 | v::vs=>match qV v,lX vs with
   | some x,some xs=>some (x::xs)
   | _,_=>none
theorem aW.scalars{w:World}{I:Nat->Prop}:∀{vs:List Value} {xs:List PV},lX vs=some xs->aW w I xs vs
 | [],_,h=>by simp[lX] at h;subst h;simp[aW]
 | v::vs,xs,h=>by
  simp only[lX] at h
  split at h
  ·rename_i x ys h1 h2
   simp at h;subst h
   exact⟨v,vs,rfl,Rel.scalar h1,aW.scalars h2⟩
  ·cases h
def EN:Value->Option PV
 | .agg cs=>(lX cs.toList).map .agg
 | v=>qV v
theorem Rel.val{w:World}{I:Nat->Prop}{v:Value}{x:PV}(h:EN v=some x):Rel w I x v:=by
 unfold EN at h
 split at h
 ·simp at h
  obtain⟨xs,h1,rfl⟩:=h
  exact⟨_,rfl,aW.scalars h1⟩
 ·exact Rel.scalar h
def ev(T:List (Nat×V)):Operand->Option V
 | .tmp t=>lk T t
 | .const v=>(EN v).map .p
 | .func f=>some (.p (.func (.func f) [] []))
 | .global _=>none
theorem bR.ev{P:Program}{w:World}{I:Nat->Prop}{ρ:List Nat}{N:Nat}{T:List (Nat×V)}{a:Act}(t:bR P w I ρ N T a.tmps){x:Operand}{v:V}(h:AF.ev T x=some v):aG P w I ρ v (a.eval x):=by
 cases x with
 | tmp s=>exact t.at_ s v h
 | const c=>
  simp only[AF.ev,Zm] at h
  obtain⟨y,h1,rfl⟩:=h
  exact Rel.val h1
 | func f=>
  simp only[AF.ev,Yr] at h
  subst h
  simp[aG,Rel,aW,Act.eval]
 | global g=>cases h
def lG(T:List (Nat×V)):List Operand->Option (List V)
 | []=>some []
 | x::xs=>match ev T x,lG T xs with
   | some v,some vs=>some (v::vs)
   | _,_=>none
theorem bR.lG{P:Program}{w:World}{I:Nat->Prop}{ρ:List Nat}{N:Nat}{T:List (Nat×V)}{a:Act}(t:bR P w I ρ N T a.tmps):∀{xs:List Operand} {vs:List V},AF.lG T xs=some vs->aj P w I ρ vs (xs.map a.eval)
 | [],vs,h=>by simp[AF.lG] at h;subst h;simp[aj]
 | x::xs,vs,h=>by
  simp only[AF.lG] at h
  split at h
  ·rename_i y ys h1 h2
   simp at h;subst h
   exact⟨_,_,rfl,t.ev h1,t.lG h2⟩
  ·cases h
section
variable {P:Program} {w w':World} {I:Nat->Prop} {ρ:List Nat} {H:List ak}
theorem dy{b:Nat}(h:w'.heap[b]? =w.heap[b]?):w'.shape? b=w.shape? b:=by simp only[World.shape?,h]
theorem heap_alloc_old(w:World)(o:Obj){b:Nat}(h:b<w.heap.size):(w.alloc o).heap[b]? =w.heap[b]? :=by
 show(w.heap.push o)[b]? =_
 rw[Array.getElem?_push,if_neg (by omega)]
theorem heap_alloc_new(w:World)(o:Obj):(w.alloc o).heap[w.heap.size]? =some o:=by
 show(w.heap.push o)[w.heap.size]? =_
 simp
theorem lJ{b:Nat}{s:TypeId×Nat}(h:w.shape? b=some s):b<w.heap.size:=by
 unfold World.shape? at h
 rcases ZS b w.heap.size with h' | h'
 ·exact h'
 ·simp[Array.getElem?_eq_none h'] at h
theorem Ext.drew:Ext w I ρ w.drew I ρ:=
 ⟨⟨rfl,rfl,rfl,Zg _,fun _ _ _=>rfl,fun _ _ h=>h,fun _ h=>h,fun _ _=>rfl,fun _ h=> .inl h,fun _ h=>h,fun _ _ h=>h,fun _ h=> .inl h⟩,ZG _⟩
theorem dz.ie{x:ak}{b:Nat}(h:x.live=false):dz P w I ρ x b:=by
 cases x <;> first | trivial | cases h
theorem Inv.same{I':Nat->Prop}(hi:Inv P w I ρ H)(he:Ext w I ρ w' I' ρ)(hib:∀ b,I' b->b<w'.heap.size)(hn:∀ b,b<w.heap.size->I' b->I b)(hb:∀ b,b<w.heap.size->w'.heap[b]? =w.heap[b]?):Inv P w' I' ρ H where
 gl:=hi.gl.mono he.w.mB he.w.bu
 len:=hi.len
 iq i b blk h1 h2 h3:=ZQ (hi.iq i b blk h1 h2 h3) he.w.size
 ib:=hib
 live i b blk h1 h2 h3 h4:=hi.live i b blk h1 h2 h3 (hn b (hi.iq i b blk h1 h2 h3) h4)
 gJ:=hi.gJ
 rel i b blk h1 h2:=by
  cases hl:blk.live with
  | false=>exact dz.ie hl
  | true=>exact dz.ext he hi h1 h2 (hb b (hi.iq i b blk h1 h2 hl))
theorem Inv.drew(hi:Inv P w I ρ H):Inv P w.drew I ρ H:=hi.same Ext.drew (fun b h=>hi.ib b h) (fun _ _ h=>h) (fun _ _=>rfl)
theorem th(o:Obj){b:Nat}(h:w.heap[b]? =some (Obj.deferred (some []))):(w.alloc o).heap[b]? =some (Obj.deferred (some [])):=
 (heap_alloc_old w o (ZO.1 h).1).trans h
theorem Ext.iO(hi:Inv P w I ρ H)(o:Obj):Ext w I ρ (w.alloc o) (fun b=>I b∨b=w.heap.size) ρ:=
 ⟨⟨rfl,rfl,rfl,by simp,fun b hb _=>heap_alloc_old w o hb,fun b s h=>(dy (heap_alloc_old w o (lJ h))).trans h,fun _ h=> .inl h,fun b h=>heap_alloc_old w o (hi.ib b h),
  fun b h=>by rcases h with h | h;exact .inl h;exact .inr (.inr (by omega)),fun b h=>th o h,fun b h h2=>by
   rcases h2 with h2 | h2
   ·exact h2
   ·have:=(ZO.1 h).1;omega,fun _ h=> .inl h⟩,ZG _⟩
theorem Inv.iO(hi:Inv P w I ρ H)(o:Obj):Inv P (w.alloc o) (fun b=>I b∨b=w.heap.size) ρ H:=
 hi.same (Ext.iO hi o) (fun b h=>by rcases h with h | h;have:=hi.ib b h;simp;omega;simp;omega) (fun b hb h=>by rcases h with h | h;exact h;omega)
  (fun b hb=>heap_alloc_old w o hb)
theorem Ext.fY(hi:Inv P w I ρ H)(o:Obj):Ext w I ρ (w.alloc o) I ρ:=
 ⟨⟨rfl,rfl,rfl,by simp,fun b hb _=>heap_alloc_old w o hb,fun b s h=>(dy (heap_alloc_old w o (lJ h))).trans h,fun _ h=>h,fun b h=>heap_alloc_old w o (hi.ib b h),
  fun b h=> .inl h,fun b h=>th o h,fun _ _ h=>h,fun _ h=> .inl h⟩,ZG _⟩
theorem Inv.fY(hi:Inv P w I ρ H)(o:Obj):Inv P (w.alloc o) I ρ H:=
 hi.same (Ext.fY hi o) (fun b h=>by have:=hi.ib b h;simp;omega) (fun b _ h=>h) (fun b hb=>heap_alloc_old w o hb)
theorem Ext.aI(hi:Inv P w I ρ H)(o:Obj):Ext w I ρ (w.alloc o) I (ρ++[w.heap.size]):=
 ⟨⟨rfl,rfl,rfl,by simp,fun b hb _=>heap_alloc_old w o hb,fun b s h=>(dy (heap_alloc_old w o (lJ h))).trans h,fun _ h=>h,fun b h=>heap_alloc_old w o (hi.ib b h),
  fun b h=> .inl h,fun b h=>th o h,fun _ _ h=>h,fun b h=>by
   rcases Zs.1 h with h | h
   ·exact .inl h
   ·simp at h;exact .inr (by omega)⟩,⟨_,rfl⟩⟩
theorem bO{α:Type}{l:List α}{x y:α}{i:Nat}(h:(l++[x])[i]? =some y):(i<l.length∧l[i]? =some y)∨(i=l.length∧y=x):=by
 rcases Nat.lt_trichotomy i l.length with h1 | h1 | h1
 ·rw[Zd h1] at h;exact .inl ⟨h1,h⟩
 ·subst h1;simp at h;exact .inr ⟨rfl,h.symm⟩
 ·rw[ZH (by simp;omega)] at h;cases h
theorem Inv.aI(hi:Inv P w I ρ H)(o:Obj){blk:ak}(hr:dz P (w.alloc o) I (ρ++[w.heap.size]) blk w.heap.size):Inv P (w.alloc o) I (ρ++[w.heap.size]) (H++[blk]) where
 gl:=hi.gl.mono (fun _ h=>h) (fun b h=>heap_alloc_old w o (hi.ib b h))
 len:=by simp[hi.len]
 iq i b x h1 h2 h3:=by
  rcases bO h1 with⟨h5,h6⟩ | ⟨h5,h6⟩
  ·rw[Zd (by rw[<- hi.len];exact h5)] at h2
   have:=hi.iq i b x h6 h2 h3;simp;omega
  ·simp;omega
 ib b h:=by have:=hi.ib b h;simp;omega
 live i b x h1 h2 h3 h4:=by
  rcases bO h1 with⟨h5,h6⟩ | ⟨h5,h6⟩
  ·rw[Zd (by rw[<- hi.len];exact h5)] at h2
   exact hi.live i b x h6 h2 h3 h4
  ·have:=hi.ib b h4;omega
 gJ i j b x y h1 h2 h3 h4 h5 h6:=by
  rcases bO h1 with⟨h7,h8⟩ | ⟨h7,h8⟩ <;> rcases bO h2 with⟨h9,h10⟩ | ⟨h9,h10⟩
  ·rw[Zd (by rw[<- hi.len];exact h7)] at h3
   rw[Zd (by rw[<- hi.len];exact h9)] at h4
   exact hi.gJ i j b x y h8 h10 h3 h4 h5 h6
  ·rw[Zd (by rw[<- hi.len];exact h7)] at h3
   have:=hi.iq i b x h8 h3 h5;omega
  ·rw[Zd (by rw[<- hi.len];exact h9)] at h4
   have:=hi.iq j b y h10 h4 h6;omega
  ·omega
 rel i b x h1 h2:=by
  rcases bO h1 with⟨h5,h6⟩ | ⟨h5,h6⟩
  ·rw[Zd (by rw[<- hi.len];exact h5)] at h2
   cases hl:x.live with
   | false=>exact dz.ie hl
   | true=>exact dz.ext (Ext.aI hi o) hi h6 h2 (heap_alloc_old w o (hi.iq i b x h6 h2 hl))
  ·subst h6
   have:i=H.length:=by rw[<- hi.len];exact h5
   subst this
   simp at h2
   subst h2
   exact hr
theorem not_def(hi:Inv P w I ρ H){i b:Nat}{old:ak}(hb:ρ[i]? =some b)(hH:H[i]? =some old)(hl:old.live=true):w.heap[b]? ≠some (Obj.deferred (some [])):=by
 intro h
 have:=hi.rel i b old hb hH
 cases old with
 | cells cs e=>obtain⟨arr,h1,_⟩:=this;rw[h] at h1;cases h1
 | row cs e=>obtain⟨arr,h1,_⟩:=this;rw[h] at h1;cases h1
 | iU cs e=>obtain⟨arr,m,h1,_⟩:=this;rw[h] at h1;cases h1
 | map ks vs=>obtain⟨es,c,h1,_⟩:=this;rw[h] at h1;cases h1
 | oR s p=>have h1:w.heap[b]? =_:=this;rw[h] at h1;cases h1
 | mapIter ks vs last=>
  rcases this with⟨_,_,_,h1⟩ | ⟨r,es,c,seen,h1,_⟩ <;> (rw[h] at h1;cases h1)
 | loop r st pe=>obtain⟨_,⟨fn,d,h1⟩,_⟩:=this;rw[h] at h1;cases h1
 | dead=>cases hl
theorem Ext.write(hi:Inv P w I ρ H){i b:Nat}{old:ak}(hb:ρ[i]? =some b)(hH:H[i]? =some old)(hl:old.live=true)(hos:w'.os=w.os)(YS:w'.tape=w.tape)(hout:w'.output=w.output)
    (hsz:w'.heap.size=w.heap.size)(fL:∀ k,k≠b->w'.heap[k]? =w.heap[k]?)(hsh:∀ s,w.shape? b=some s->w'.shape? b=some s):Ext w I ρ w' I ρ:=
 ⟨⟨hos,YS,hout,by omega,fun k _ hn=>fL k (fun e=>hn (e▸Zi hb)),
  fun k s h=>by
   by_cases e:k=b
   ·subst e;exact hsh s h
   ·exact(dy (fL k e)).trans h,
  fun _ h=>h,fun k h=>fL k (fun e=>hi.live i b old hb hH hl (e▸h)),fun _ h=> .inl h,fun k h=>(fL k (fun e=>not_def hi hb hH hl (e▸h))).trans h,fun _ _ h=>h,fun _ h=> .inl h⟩,ZG _⟩
theorem Inv.write(hi:Inv P w I ρ H){i b:Nat}{old new:ak}(hb:ρ[i]? =some b)(hH:H[i]? =some old)(hl:old.live=true)(he:Ext w I ρ w' I ρ)
    (hsz:w'.heap.size=w.heap.size)(fL:∀ k,k≠b->w'.heap[k]? =w.heap[k]?)(hr:dz P w' I ρ new b):Inv P w' I ρ (H.set i new) where
 gl:=hi.gl.mono he.w.mB he.w.bu
 len:=by simp[hi.len]
 iq j k x h1 h2 h3:=by
  by_cases e:i=j
  ·subst e
   rw[hb] at h1;cases h1
   have:=hi.iq i b old hb hH hl;omega
  ·rw[D9 e] at h2
   have:=hi.iq j k x h1 h2 h3;omega
 ib k h:=by have:=hi.ib k h;omega
 live j k x h1 h2 h3 h4:=by
  by_cases e:i=j
  ·subst e
   rw[hb] at h1;cases h1
   exact hi.live i b old hb hH hl h4
  ·rw[D9 e] at h2
   exact hi.live j k x h1 h2 h3 h4
 gJ j j' k x y h1 h2 h3 h4 h5 h6:=by
  by_cases e:i=j <;> by_cases e':i=j'
  ·omega
  ·subst e
   rw[D9 e'] at h4
   exact hi.gJ i j' k old y h1 h2 hH h4 hl h6
  ·subst e'
   rw[D9 e] at h3
   exact hi.gJ j i k x old h1 h2 h3 hH h5 hl
  ·exact TK
 rel j k x h1 h2:=by
  by_cases e:i=j
  ·subst e
   rw[hb] at h1;cases h1
   have:i<H.length:=(Za.1 hH).1
   simp[this] at h2
   subst h2
   exact hr
  ·rw[D9 e] at h2
   by_cases hd:x.live=true
   ·have hk:k≠b:=fun ek=>e (hi.gJ i j b old x hb (ek▸h1) hH h2 hl hd)
    exact dz.ext he hi h1 h2 (fL k hk)
   ·cases x <;> first | trivial | (exact absurd rfl hd)
theorem Ext.freeze(hi:Inv P w I ρ H){i b:Nat}{old:ak}(hb:ρ[i]? =some b)(hH:H[i]? =some old)(hl:old.live=true):Ext w I ρ w (fun k=>I k∨k=b) ρ:=
 ⟨⟨rfl,rfl,rfl,Zg _,fun _ _ _=>rfl,fun _ _ h=>h,fun _ h=> .inl h,fun _ _=>rfl,fun k h=>by
  rcases h with h | h
  ·exact .inl h
  ·exact .inr (.inl (h▸Zi hb)),fun _ h=>h,fun k h h2=>by
  rcases h2 with h2 | h2
  ·exact h2
  ·exact absurd h (h2▸not_def hi hb hH hl),fun _ h=> .inl h⟩,ZG _⟩
theorem Inv.freeze(hi:Inv P w I ρ H){i b:Nat}{old:ak}(hb:ρ[i]? =some b)(hH:H[i]? =some old)(hl:old.live=true):Inv P w (fun k=>I k∨k=b) ρ (H.set i .dead) where
 gl:=hi.gl.mono (fun _ h=> .inl h) (fun _ _=>rfl)
 len:=by simp[hi.len]
 iq j k x h1 h2 h3:=by
  by_cases e:i=j
  ·subst e
   rw[hb] at h1;cases h1
   exact hi.iq i b old hb hH hl
  ·rw[D9 e] at h2
   exact hi.iq j k x h1 h2 h3
 ib k h:=by
  rcases h with h | h
  ·exact hi.ib k h
  ·subst h;exact hi.iq i _ old hb hH hl
 live j k x h1 h2 h3 h4:=by
  by_cases e:i=j
  ·subst e
   have:i<H.length:=(Za.1 hH).1
   simp[this] at h2
   subst h2
   cases h3
  ·rw[D9 e] at h2
   rcases h4 with h4 | h4
   ·exact hi.live j k x h1 h2 h3 h4
   ·subst h4
    exact e (hi.gJ i j k old x hb h1 hH h2 hl h3)
 gJ j j' k x y h1 h2 h3 h4 h5 h6:=by
  by_cases e:i=j
  ·subst e
   have:i<H.length:=(Za.1 hH).1
   simp[this] at h3
   subst h3
   cases h5
  ·by_cases e':i=j'
   ·subst e'
    have:i<H.length:=(Za.1 hH).1
    simp[this] at h4
    subst h4
    cases h6
   ·exact TK
 rel j k x h1 h2:=by
  by_cases e:i=j
  ·subst e
   have:i<H.length:=(Za.1 hH).1
   simp[this] at h2
   subst h2
   trivial
  ·rw[D9 e] at h2
   exact dz.ext (Ext.freeze hi hb hH hl) hi h1 h2 rfl
theorem Inv.nothing(hi:Inv P w I ρ H):Inv P w I [] []:=
 ⟨rfl,(fun _ _ _ h=>by simp at h),hi.ib,(fun _ _ _ h=>by simp at h),(fun _ _ _ _ _ h=>by simp at h),(fun _ _ _ h=>by simp at h),hi.gl⟩
theorem Inv.frame{I':Nat->Prop}(hi:Inv P w I ρ H)(he:Ext w I [] w' I' [])(hi':Inv P w' I' [] []):Ext w I ρ w' I' ρ∧Inv P w' I' ρ H:=by
 have hk:∀ b,b<w.heap.size->w'.heap[b]? =w.heap[b]? :=fun b hb=>he.w.keep b hb (by simp)
 have hn:∀ b,b<w.heap.size->I' b->I b:=fun b hb h=>by
  rcases he.w.fk b h with h | h | h
  ·exact h
  ·cases h
  ·omega
 have hE:Ext w I ρ w' I' ρ:=⟨⟨he.w.os,he.w.tape,he.w.output,he.w.size,fun b hb _=>hk b hb,he.w.shape,he.w.mB,he.w.bu,fun b h=>by
  rcases he.w.fk b h with h | h | h
  ·exact .inl h
  ·cases h
  ·exact .inr (.inr h),he.w.cL,he.w.kX,fun _ h=> .inl h⟩,ZG _⟩
 exact⟨hE,hi.same hE hi'.ib hn hk⟩
end
def Fr(R:Option Nat):Fence:={Fence.wide with round:=R}
inductive AX where
 | normal | ret
 | exit (id:Nat)
 | panic (v:V)
def ExR(P:Program)(w:World)(I:Nat->Prop)(ρ:List Nat):AX->Exit->Prop
 | .normal,.normal=>True
 | .ret,.ret=>True
 | .exit i,.exit j=>i=j
 | .panic v,.panic chain=>∃ u,chain=[{v:=u,recovered:=false}]∧aG P w I ρ v u
 | _,_=>False
structure pV where
 size:Nat
 pre:List Nat
 defs:List Deferred
def Marks(κ:Nat)(B:pV)(w:World)(I:Nat->Prop)(ρ:List Nat)(ds:List Deferred):Prop:=
 B.size<=w.heap.size∧B.pre.length<=κ∧B.pre<+:ρ∧∃ rs:List Nat,ds=rs.map (fun r=>{target:= .collected r,args:= #[]})++B.defs∧rs.Nodup∧∀ r∈rs,w.heap[r]? =some (Obj.deferred (some []))∧¬ I r∧B.size<=r
theorem Marks.ext{κ:Nat}{B:pV}{w w':World}{I I':Nat->Prop}{ρ ρ':List Nat}{ds:List Deferred}(h:Ext w I ρ w' I' ρ')(m:Marks κ B w I ρ ds):Marks κ B w' I' ρ' ds:=by
 obtain⟨hB,hκ,hp,rs,h1,h2,h3⟩:=m
 refine⟨Zz hB h.w.size,hκ,hp.trans h.pre,rs,h1,h2,fun r hr=> ?_⟩
 obtain⟨h4,h5,h6⟩:=h3 r hr
 exact⟨h.w.cL r h4,fun h7=>h5 (h.w.kX r h4 h7),h6⟩
abbrev Tm:=List (Nat×V)
abbrev Post:=AX->Tm->List ak->Prop
def QC(κ:Nat)(B:pV)(P:Program)(N:Nat)(Q:Post)(w:World)(I:Nat->Prop)(ρ:List Nat)(e:Exit)(a':Act)(w':World):Prop:=
 ∃ x I' ρ' T' H',ExR P w' I' ρ' x e∧Q x T' H'∧cR w I ρ w' I' ρ'∧Inv P w' I' ρ' H'∧bR P w' I' ρ' N T' a'.tmps∧Marks κ B w' I' ρ' a'.defers
theorem QC.ext{κ:Nat}{B:pV}{P:Program}{N:Nat}{Q:Post}{w w':World}{I I':Nat->Prop}{ρ ρ':List Nat}(h:cR w I ρ w' I' ρ'){e:Exit}{a:Act}{u:World}(q:QC κ B P N Q w' I' ρ' e a u):QC κ B P N Q w I ρ e a u:=by
 obtain⟨x,J,σ,T,H,h1,h2,h3,h4⟩:=q
 exact⟨x,J,σ,T,H,h1,h2,h.trans h3,h4⟩
def aC(P:Program)(R:Option Nat)(N κ:Nat)(c:Code)(Q:Post)(T:Tm)(H:List ak):Prop:=
 ∀ B w I ρ a,Inv P w I ρ H->bR P w I ρ N T a.tmps->Marks κ B w I ρ a.defers->c.wpIn (Fr R) 0 P (QC κ B P N Q w I ρ) a w
section
variable {P:Program} {R:Option Nat} {N κ:Nat} {Q Q':Post} {T T':Tm} {H:List ak}
theorem aC.mono{c:Code}(h:aC P R N κ c Q T H)(hq:∀ x T H,Q x T H->Q' x T H):aC P R N κ c Q' T H:=
 fun B w I ρ a hi ht hm=>wpIn_mono (h B w I ρ a hi ht hm) fun _ _ _ ⟨x,J,σ,T,H,h1,h2,h3⟩=>⟨x,J,σ,T,H,h1,hq _ _ _ h2,h3⟩
theorem aC.skip(h:Q .normal T H):aC P R N κ .skip Q T H:=
 fun B w I ρ a hi ht hm=>wpIn_skip ⟨.normal,I,ρ,T,H,trivial,h,cR.refl _ _ _,hi,ht,hm⟩
theorem aC.ret(h:Q .ret T H):aC P R N κ .ret Q T H:=
 fun B w I ρ a hi ht hm=>wpIn_ret ⟨.ret,I,ρ,T,H,trivial,h,cR.refl _ _ _,hi,ht,hm⟩
theorem aC.exit{id:Nat}(h:Q (.exit id) T H):aC P R N κ (.exit id) Q T H:=
 fun B w I ρ a hi ht hm=>wpIn_exit ⟨.exit id,I,ρ,T,H,rfl,h,cR.refl _ _ _,hi,ht,hm⟩
def AX.then(next:Tm->List ak->Prop)(Q:Post):Post
 | .normal,T,H=>next T H
 | x,T,H=>Q x T H
theorem aC.seq{x y:Code}(h:aC P R N κ x (AX.then (aC P R N κ y Q) Q) T H):aC P R N κ (.seq x y) Q T H:=by
 intro B w I ρ a hi ht hm
 refine wpIn_seq (wpIn_mono (h B w I ρ a hi ht hm) ?_)
 rintro e a' w' ⟨z,J,σ,T1,H1,h1,h2,h3,h4,h5,h6⟩
 cases z <;> cases e <;> first | exact h1.elim | skip
 ·exact wpIn_mono (h2 B w' J σ a' h4 h5 h6) fun _ _ _ q=>QC.ext h3 q
 all_goals exact⟨_,J,σ,T1,H1,h1,h2,h3,h4,h5,h6⟩
theorem aC.cond{c:Operand}{x y:Code}(b:Bool)(hc:ev T c=some (.p (.bool b)))(ht:b=true->aC P R N κ x Q T H)(hf:b=false->aC P R N κ y Q T H):aC P R N κ (.cond c x y) Q T H:=
 fun B w I ρ a hi hT hm=>wpIn_cond_split (t:=b) (by have:=hT.ev hc;simpa[aG,Rel] using this) (fun h=>ht h B w I ρ a hi hT hm) (fun h=>hf h B w I ρ a hi hT hm)
def AX.inBlock(id:Nat)(Q:Post):Post
 | .exit id',T,H=>if id'=id then Q .normal T H else Q (.exit id') T H
 | x,T,H=>Q x T H
theorem aC.block{id:Nat}{c:Code}(h:aC P R N κ c (AX.inBlock id Q) T H):aC P R N κ (.block id c) Q T H:=by
 intro B w I ρ a hi ht hm
 refine wpIn_block (wpIn_mono (h B w I ρ a hi ht hm) ?_)
 rintro e a' w' ⟨z,J,σ,T1,H1,h1,h2,h3⟩
 cases z <;> cases e <;> first | exact h1.elim | skip
 ·exact⟨.normal,J,σ,T1,H1,h1,h2,h3⟩
 ·exact⟨.ret,J,σ,T1,H1,h1,h2,h3⟩
 ·rename_i i j
  obtain rfl:i=j:=h1
  simp only[AX.inBlock] at h2
  simp only[Exit.inBlock]
  by_cases e:i=id
  ·rw[if_pos e] at h2 ⊢
   exact⟨.normal,J,σ,T1,H1,trivial,h2,h3⟩
  ·rw[if_neg e] at h2 ⊢
   exact⟨.exit i,J,σ,T1,H1,rfl,h2,h3⟩
 ·exact⟨_,J,σ,T1,H1,h1,h2,h3⟩
end
theorem exists_least(p:Nat->Prop)(h:∃ n,p n):∃ n,p n∧∀ m,p m->n<=m:=by
 obtain⟨n,hn⟩:=h
 induction n using Nat.strongRecOn with
 | _ n ih=>
  by_cases hm:∃ m,m<n∧p m
  ·obtain⟨m,h1,h2⟩:=hm
   exact ih m h1 h2
  ·exact⟨n,hn,fun m h=>by
     rcases ZS m n with h1 | h1
     ·exact absurd ⟨m,h1,h⟩ hm
     ·exact h1⟩
theorem Am{γ:Type}{F:Fence}{n:Nat}{P:Program}{c:Code}{Q:Exit->Act->World->Prop}{a:Act}{w:World}(J:γ->Act->World->Prop)(μ:γ->Nat)(g0:γ)(h0:J g0 a w)
    (round:∀ g a w,J g a w->c.wpIn F n P (Exit.then (fun a' w'=>∃ g',J g' a' w'∧μ g'<μ g) Q) a w):(Code.loop c).wpIn F n P Q a w:=by
 have hl:∀ a w,(∃ g,J g a w)->∃ m,(∃ g,μ g=m∧J g a w)∧∀ k,(∃ g,μ g=k∧J g a w)->m<=k:=fun a w ⟨g,hg⟩=>exists_least _ ⟨μ g,g,rfl,hg⟩
 classical
 let M:Act->World->Nat:=fun a w=>if h:∃ g,J g a w then Classical.choose (hl a w h) else 0
 have hM:∀ a w,(∃ g,J g a w)->(∃ g,μ g=M a w∧J g a w)∧∀ g,J g a w->M a w<=μ g:=fun a w h=>by
  have h1:=Classical.choose_spec (hl a w h)
  have e:M a w=Classical.choose (hl a w h):=dif_pos h
  rw[e]
  exact⟨h1.1,fun g hg=>h1.2 _ ⟨g,rfl,hg⟩⟩
 refine wpIn_loop (fun a w=>∃ g,J g a w) M ⟨g0,h0⟩ fun a w h=> ?_
 obtain⟨⟨g,hg,hJ⟩,_⟩:=hM a w h
 refine wpIn_mono (round g a w hJ) ?_
 intro e a' w' q
 cases e with
 | normal=>
  obtain⟨g',h1,h2⟩:=q
  refine⟨⟨g',h1⟩,?_⟩
  have:=(hM a' w' ⟨g',h1⟩).2 g' h1
  omega
 | _=>exact q
section
variable {P:Program} {R:Option Nat} {N κ:Nat} {Q Q':Post} {T T':Tm} {H:List ak}
def aa(P:Program)(N:Nat)(o:Oper)(T:Tm)(H:List ak)(v:V)(H':List ak):Prop:=
 ∀ R w I ρ a,Inv P w I ρ H->bR P w I ρ N T a.tmps->∀(K:Act->World->Prop) (QX:Exit->Act->World->Prop),
  (∀ u w' I' ρ',Ext w I ρ w' I' ρ'->Inv P w' I' ρ' H'->aG P w' I' ρ' v u->K (a.put o.dst u) w')->o.wpIn (Fr R) 0 P a w K QX
theorem bQ{o:Oper}{a:Act}{w:World}{R:Option Nat}:∀ f,o.about P w a.eval=some f->(Fr R).fn f:=fun _ _=>trivial
theorem bT(R:Option Nat)(ρ:Operand->Value)(o:Oper)(h:∀ c,o.op≠ .defer c):o.semAt R ρ=execOp ρ o:=Oper.semAt_eq R ρ o h
theorem aa.dZ{o:Oper}{v:V}{H':List ak}(hop:∀ c,o.op≠ .defer c)
    (h:∀ w I ρ (a:Act),Inv P w I ρ H->bR P w I ρ N T a.tmps->∃ u w' I' ρ',((execOp a.eval o).run P w= .ok (.value u) w'∨((execOp a.eval o).run P w= .ok .skip w'∧u=undef))∧Ext w I ρ w' I' ρ'∧Inv P w' I' ρ' H'∧aG P w' I' ρ' v u):
    aa P N o T H v H':=by
 intro R w I ρ a hi ht K QX hK
 refine⟨bQ,?_⟩
 rw[bT _ _ _ hop]
 obtain⟨u,w',I',ρ',h1,h2,h3,h4⟩:=h w I ρ a hi ht
 rcases h1 with h1 | ⟨h1,rfl⟩
 ·rw[h1];exact hK u w' I' ρ' h2 h3 h4
 ·rw[h1];exact hK undef w' I' ρ' h2 h3 h4
theorem aa.aR{o:Oper}{v:V}(hop:∀ c,o.op≠ .defer c)
    (h:∀ w I ρ (a:Act),Inv P w I ρ H->bR P w I ρ N T a.tmps->∃ u,(execOp a.eval o).run P w= .ok (.value u) w∧aG P w I ρ v u):aa P N o T H v H:=
 aa.dZ hop fun w I ρ a hi ht=>let ⟨u,h1,h2⟩:=h w I ρ a hi ht;⟨u,w,I,ρ,.inl h1,Ext.refl _ _ _,hi,h2⟩
def aq(P:Program)(R:Option Nat)(N κ:Nat)(ops:Array Oper)(l:List Oper)(Q:Post)(T:Tm)(H:List ak):Prop:=
 ∀(QX:Exit->Act->World->Prop) B w I ρ a,Inv P w I ρ H->bR P w I ρ N T a.tmps->Marks κ B w I ρ a.defers->(∀ e a' w',QC κ B P N Q w I ρ e a' w'->QX e a' w')->wpListIn (Fr R) 0 P ops QX l a w
theorem aC.region{id:Nat}{l:List Oper}(h:aq P R N κ l.toArray l Q T H):aC P R N κ (.region id l.toArray false) Q T H:=
 fun B w I ρ a hi ht hm=>wpIn_region_lit (h _ B w I ρ a hi ht hm fun _ _ _ q=>q)
theorem aq.nil{ops:Array Oper}(h:Q .normal T H):aq P R N κ ops [] Q T H:=
 fun QX B w I ρ a hi ht hm hq=>wpListIn_nil (hq _ _ _ ⟨.normal,I,ρ,T,H,trivial,h,cR.refl _ _ _,hi,ht,hm⟩)
theorem Marks.put{κ:Nat}{B:pV}{w:World}{I:Nat->Prop}{ρ:List Nat}{a:Act}{d:Option Nat}{u:Value}(m:Marks κ B w I ρ a.defers):Marks κ B w I ρ (a.put d u).defers:=by
 cases d <;> exact m
theorem aq.cons{ops:Array Oper}{o:Oper}{rest:List Oper}{v:V}{H':List ak}(hg:o.guard=none)(hd:bC N o.dst=true)(hop:aa P N o T H v H')
    (next:aq P R N κ ops rest Q (gN T o.dst v) H'):aq P R N κ ops (o::rest) Q T H:=by
 intro QX B w I ρ a hi ht hm hq
 refine wpListIn_plain hg fun K hK=>hop R w I ρ a hi ht K QX fun u w' I' ρ' he hi' hv=>hK _ _ ?_
 exact next QX B w' I' ρ' (a.put o.dst u) hi' ((ht.ext he).put hd hv) ((hm.ext he).put) fun e a2 w2 q=>hq e a2 w2 (QC.ext he.w q)
def qW(ops:Array Oper)(j:Nat):Option Nat:=(ops[j]?).bind (·.dst)
def tH(want:Bool):V->Option Bool
 | .p (.bool b)=>some (b==want)
 | .opt g (.p (.bool b))=>some (g&&(b==want))
 | _=>none
theorem pS{ops:Array Oper}{w:World}{I:Nat->Prop}{ρ:List Nat}{j s:Nat}{want c:Bool}{x:V}{tmps:Array Value}(hs:qW ops j=some s)(ht:bR P w I ρ N T tmps)(hd:bC N (some s)=true)(hb:lk T s=some x)(hc:tH want x=some c):
    (yielded ops tmps j==some want)=c:=by
 have h1:=ht.at_ s _ hb
 have hlt:s<tmps.size:=by
  have h0:s<N:=by simpa[bC,Nat.blt,ZA] using hd
  rw[ht.size];exact h0
 have o9:tmps.getD s undef=tmps[s]:=by simp[hlt]
 rw[o9] at h1
 have Xz:∀ b:Bool,tmps[s]= .bool b->yielded ops tmps j=some b:=fun b h=>by
  unfold yielded
  unfold qW at hs
  rw[hs]
  simp[hlt,h]
 have iY:tmps[s]=undef->yielded ops tmps j=none:=fun h=>by
  unfold yielded
  unfold qW at hs
  rw[hs]
  simp[hlt,h,undef]
 unfold tH at hc
 split at hc
 ·rename_i b
  simp at hc
  rw[Xz b h1,<- hc]
  cases b <;> cases want <;> rfl
 ·rename_i g b
  simp at hc
  cases g with
  | true=>rw[Xz b (h1.1 rfl),<- hc];cases b <;> cases want <;> rfl
  | false=>rw[iY (h1.2 rfl),<- hc];rfl
 ·cases hc
def vY:Tm->Tm->Prop
 | [],_=>True
 | (s,v)::r,T=>(lk T s=some v∨∃ g,lk T s=some (.opt g v)∧g=true)∧vY r T
theorem bR.vY{w:World}{I:Nat->Prop}{ρ:List Nat}{tmps:Array Value}(ht:bR P w I ρ N T tmps):∀{T2:Tm},AF.vY T2 T->bR P w I ρ N T2 tmps
 | [],_=>⟨ht.size,fun s v h=>by cases h⟩
 | (s,v)::r,h=>by
  obtain⟨h1,h2⟩:=h
  have ih:=bR.vY ht h2
  refine⟨ht.size,fun s' v' h'=> ?_⟩
  simp only[lk] at h'
  cases hb:Nat.beq s s' with
  | false=>rw[hb] at h';exact ih.at_ s' v' h'
  | true=>
   rw[hb] at h'
   have:=ZL hb
   subst this
   simp at h'
   subst h'
   rcases h1 with h1 | ⟨g,h1,h3⟩
   ·exact ht.at_ s _ h1
   ·exact(ht.at_ s _ h1).1 h3
theorem aq.guard{ops:Array Oper}{o:Oper}{rest:List Oper}{j s:Nat}{want c:Bool}{x v:V}(hg:o.guard=some (j,want))(hs:qW ops j=some s)(hd:bC N o.dst=true)(hd':bC N (some s)=true)
    (hb:lk T s=some x)(hc:tH want x=some c)(T2:Tm)(h2:c=true->vY T2 T)(hop:c=true->aa P N o T2 H v H)
    (next:aq P R N κ ops rest Q (gN T o.dst (.opt c v)) H):aq P R N κ ops (o::rest) Q T H:=by
 intro QX B w I ρ a hi ht hm hq
 refine wpListIn_step fun K hK=> ?_
 simp only[Region.wanted,hg,pS hs ht hd' hb hc]
 cases c with
 | true=>
  simp only[if_true]
  refine hop rfl R w I ρ a hi (ht.vY (h2 rfl)) K QX fun u w' I' ρ' he hi' hv=>hK _ _ ?_
  exact next QX B w' I' ρ' (a.put o.dst u) hi' ((ht.ext he).put hd ⟨fun _=>hv,(fun h=>by cases h)⟩) ((hm.ext he).put) fun e a2 w2 q=>hq e a2 w2 (QC.ext he.w q)
 | false=>
  simp only[Ib,if_false]
  refine⟨bQ,hK _ _ ?_⟩
  exact next QX B w I ρ (a.put o.dst undef) hi (ht.put hd ⟨(fun h=>by cases h),fun _=>rfl⟩) hm.put hq
def aE(P:Program)(f:FuncId)(args:List V)(H:List ak)(Q:V->List ak->Prop):Prop:=
 ∀ w I ρ us,Inv P w I ρ H->aj P w I ρ args us->CallsIn Fence.wide 0 P f us.toArray w fun e w'=>∃ u v I' ρ' H',e= .returned u∧Q v H'∧Ext w I ρ w' I' ρ'∧Inv P w' I' ρ' H'∧aG P w' I' ρ' v u
def Pure(P:Program)(f:FuncId)(args:List PV)(r:PV):Prop:=aE P f (args.map .p) [] fun v H'=>v= .p r∧H'=[]
def fE(P:Program)(N:Nat)(fn:Func)(T:Tm)(H:List ak)(v:V):Prop:=
 ∀ w I ρ (a:Array Value),Inv P w I ρ H->bR P w I ρ N T a->∃ u,(results fn a).run P w= .ok u w∧aG P w I ρ v u
def dB:Nat->List V->Tm
 | _,[]=>[]
 | k,v::vs=>(k,v)::dB (k+1) vs
theorem nM{w:World}{I:Nat->Prop}{ρ:List Nat}:∀(vs:List V) (us:List Value) (k:Nat) (pre post:List Value),pre.length=k->aj P w I ρ vs us->∀ s v,lk (dB k vs) s=some v->aG P w I ρ v ((pre++us++post).toArray.getD s undef)
 | [],_,_,_,_,_,_,s,v,h=>by cases h
 | x::vs,us,k,pre,post,hk,h,s,v,hv=>by
  obtain⟨u,us',rfl,h1,h2⟩:=h
  simp only[dB,lk] at hv
  cases hb:Nat.beq k s with
  | true=>
   rw[hb] at hv
   have:=ZL hb
   subst this
   simp at hv
   subst hv
   subst hk
   simpa using h1
  | false=>
   rw[hb] at hv
   have:=nM vs us' (k+1) (pre++[u]) post (by simp[hk]) h2 s v hv
   simpa using this
theorem aj.length{w:World}{I:Nat->Prop}{ρ:List Nat}:∀{vs:List V} {us:List Value},aj P w I ρ vs us->us.length=vs.length
 | [],us,h=>by simp[aj] at h;simp[h]
 | _::vs,us,h=>by
  obtain⟨u,us',rfl,_,h2⟩:=h
  simp[aj.length h2]
theorem Inv.marks{w w':World}{I:Nat->Prop}{ρ:List Nat}(hi:Inv P w I ρ H)(hsz:w'.heap.size=w.heap.size)(hI:∀ b,I b->w'.heap[b]? =w.heap[b]?)(hρ:∀ b:Nat,w.heap[b]? ≠some (Obj.deferred (some []))->w'.heap[b]? =w.heap[b]?)(hs:∀ b s,w.shape? b=some s->w'.shape? b=some s):Inv P w' I ρ H:=
 ⟨hi.len,fun i b x h1 h2 h3=>by rw[hsz];exact hi.iq i b x h1 h2 h3,fun b h=>by rw[hsz];exact hi.ib b h,hi.live,hi.gJ,
  fun i b blk h1 h2=>by
   cases hl:blk.live with
   | false=>exact dz.ie hl
   | true=>exact dz.mono (fun _ h=>h) hI (ZG _) (fun b _ s h=>hs b s h) (hρ b (not_def hi h1 h2 hl)) (hi.rel i b blk h1 h2),hi.gl.mono (fun _ h=>h) hI⟩
theorem mE{F:Fence}{fn:Func}{tmps:Array Value}{Rr:Ending->World->Prop}:∀(rs:List Nat) (w:World),rs.Nodup->(∀ r∈rs,w.heap[r]? =some (Obj.deferred (some [])))->
    (∀ w',(∀ b,b∉rs->w'.heap[b]? =w.heap[b]?)->w'.os=w.os->w'.tape=w.tape->w'.output=w.output->w'.heap.size=w.heap.size->∃ u,(results fn tmps).run P w'= .ok u w'∧Rr (.returned u) w')->
    LeavesInM F 0 P fn tmps Rr (rs.map fun r=>{target:= .collected r,args:= #[]}) .returning w:=by
 intro rs
 induction rs with
 | nil=>
  intro w _ _ h
  obtain⟨u,h1,h2⟩:=h w (fun _ _=>rfl) rfl rfl rfl rfl
  simp only[zF,LeavesInM,LeavesIn]
  exact⟨u,h1,h2⟩
 | cons r rs ih=>
  exact aa4
theorem aE.iS{f:FuncId}{fn:Func}{c:Code}{args:List V}{Qr:V->List ak->Prop}(hf:P.funcs[f]? =some fn)(hb:fn.body=some c)(hn:args.length<=fn.ntmps)
    (h:aC P none fn.ntmps H.length c (fun x T' H'=>(x= .normal∨x= .ret)∧∃ v,fE P fn.ntmps fn T' H' v∧Qr v H') (dB 0 args) H):aE P f args H Qr:=by
 intro w I ρ us hi ij
 have hl:=aj.length ij
 refine callsIn_of_wp_marks hf hb trivial ?_ rfl
 have ht:bR P w I ρ fn.ntmps (dB 0 args) (us.toArray++Array.replicate (fn.ntmps - us.toArray.size) undef):=by
  exact Fz
 refine wpIn_mono (h ⟨w.heap.size,ρ,[]⟩ w I ρ {tmps:=us.toArray++Array.replicate (fn.ntmps - us.toArray.size) undef,defers:=[]} hi ht ⟨Zg _,NY hi.len,ZG _,[],rfl,Qw,fun _ h=>by cases h⟩) ?_
 rintro e a' w' ⟨z,I',ρ',T',H',h1,⟨h2,v,hv,hq⟩,h3,h4,h5,hB,_,hpre,rs,h6,h7,h8⟩
 have fin:LeavesInM Fence.wide 0 P fn a'.tmps (fun e w'=>∃ u v I' ρ' H',e= .returned u∧Qr v H'∧Ext w I ρ w' I' ρ'∧Inv P w' I' ρ' H'∧aG P w' I' ρ' v u) a'.defers .returning w':=by
  rw[h6]
  show LeavesInM _ _ _ _ _ _ (_++[]) _ _
  rw[ZY]
  refine mE rs w' h7 (fun r hr=>(h8 r hr).1) ?_
  intro w2 k1 k2 k3 k4 k5
  have kI:∀ b,I' b->w2.heap[b]? =w'.heap[b]? :=fun b hb=>k1 b (fun hm=>(h8 b hm).2.1 hb)
  have kρ:∀ b:Nat,w'.heap[b]? ≠some (Obj.deferred (some []))->w2.heap[b]? =w'.heap[b]? :=fun b hb=>k1 b (fun hm=>hb (h8 b hm).1)
  have ks:∀ b s,w'.shape? b=some s->w2.shape? b=some s:=fun b s hs=>by
   exact Gk
  have hi2:Inv P w2 I' ρ' H':=h4.marks k5 kI kρ ks
  have nF:bR P w2 I' ρ' fn.ntmps T' a'.tmps:=⟨h5.size,fun s x hx=>aG.mono (fun _ h=>h) kI (ZG _) (fun b _ s h=>ks b s h) x _ (h5.at_ s x hx)⟩
  obtain⟨u,hu1,PZ⟩:=hv w2 I' ρ' a'.tmps hi2 nF
  refine⟨u,hu1,u,v,I',ρ',H',rfl,hq,?_,hi2,PZ⟩
  have hlow:∀ b,b<w.heap.size->w2.heap[b]? =w'.heap[b]? :=fun b hb=>k1 b (fun hm=>by have:=(h8 b hm).2.2;simp only at this;omega)
  exact⟨⟨k2.trans h3.os,k3.trans h3.tape,k4.trans h3.output,by rw[k5];exact h3.size,fun b hb hn=>(hlow b hb).trans (h3.keep b hb hn),
   fun b s hs=>ks b s (h3.shape b s hs),h3.mB,fun b hb=>(kI b (h3.mB b hb)).trans (h3.bu b hb),h3.fk,fun b hb=>(hlow b (ZO.1 hb).1).trans (h3.cL b hb),h3.kX,h3.new⟩,hpre⟩
 rcases h2 with rfl | rfl <;> cases e <;> first | exact h1.elim | exact fin
theorem Pure.Jj{f:FuncId}{args:List PV}{r:PV}(h:aE P f (args.map .p) [] fun v _=>v= .p r):Pure P f args r:=by
 intro w I ρ us hi ij
 have hρ:ρ=[]:=ZD hi.len
 subst hρ
 refine(h w I [] us hi ij).mono ?_
 rintro e w' ⟨u,v,J,σ,H',h1,rfl,h3,h4,h5⟩
 exact⟨u,_,J,[],[],h1,⟨rfl,rfl⟩,⟨⟨h3.w.os,h3.w.tape,h3.w.output,h3.w.size,h3.w.keep,h3.w.shape,h3.w.mB,h3.w.bu,h3.w.fk,h3.w.cL,h3.w.kX,(fun _ h=>by cases h)⟩,ZG _⟩,h4.nothing,h5⟩
theorem Pure.iS{f:FuncId}{fn:Func}{c:Code}{args:List PV}{r:PV}(hf:P.funcs[f]? =some fn)(hb:fn.body=some c)(hn:args.length<=fn.ntmps)
    (h:aC P none fn.ntmps 0 c (fun x T' H'=>(x= .normal∨x= .ret)∧fE P fn.ntmps fn T' H' (.p r)) (dB 0 (args.map .p)) []):Pure P f args r:=
 Pure.Jj (aE.iS hf hb (by simpa using hn) (h.mono fun x T H ⟨h1,h2⟩=>⟨h1,_,h2,rfl⟩))
end
section
variable {P:Program} {R:Option Nat} {N κ:Nat} {Q Q':Post} {T T':Tm} {H:List ak} {o:Oper}
theorem aa.move{x:Operand}{v:V}(ho:o.op= .move x)(hx:ev T x=some v):aa P N o T H v H:=
 aa.aR (by simp[ho]) fun w I ρ a hi ht=>⟨a.eval x,by simp[execOp,ho],ht.ev hx⟩
theorem aa.assign{x:Operand}{v:V}(ho:o.op= .assign x)(hx:ev T x=some v):aa P N o T H v H:=
 aa.aR (by simp[ho]) fun w I ρ a hi ht=>⟨a.eval x,by simp[execOp,ho],ht.ev hx⟩
theorem qY{w:World}{I:Nat->Prop}{ρ:List Nat}{a:Act}(ht:bR P w I ρ N T a.tmps){x:Operand}{b:Bool}(h:ev T x=some (.p (.bool b))):a.eval x= .bool b:=by
 have:=ht.ev h;simpa[aG,Rel] using this
theorem c5{w:World}{I:Nat->Prop}{ρ:List Nat}{a:Act}(ht:bR P w I ρ N T a.tmps){x:Operand}{k:IntKind}{n:Int}(h:ev T x=some (.p (.int k n))):a.eval x= .int k n:=by
 have:=ht.ev h;simpa[aG,Rel] using this
theorem ke{w:World}{I:Nat->Prop}{ρ:List Nat}{a:Act}(ht:bR P w I ρ N T a.tmps){x:Operand}{s:ByteArray}(h:ev T x=some (.p (.str s))):a.eval x= .string s:=by
 have:=ht.ev h;simpa[aG,Rel] using this
theorem aa.gy{c x:Operand}{b g d:Bool}(ho:o.op= .pick c x (.const (.bool false)))(hc:ev T c=some (.p (.bool b)))(hx:ev T x=some (.opt g (.p (.bool d))))(hg:b=true->g=true):aa P N o T H (.p (.bool (b&&d))) H:=
 aa.aR (by simp[ho]) fun w I ρ a hi ht=>by
  have h1:=qY ht hc
  have h2:=ht.ev hx
  refine⟨.bool (b&&d),?_,by simp[aG,Rel]⟩
  cases b with
  | false=>
   have hk:a.eval (.const (.bool false))= .bool false:=rfl
   simp[execOp,ho,h1,asBool,hk]
  | true=>
   have h3:=h2.1 (hg rfl)
   simp only[aG,Rel] at h3
   simp[execOp,ho,h1,asBool,h3]
theorem aa.lE{c y:Operand}{b g d:Bool}(ho:o.op= .pick c (.const (.bool true)) y)(hc:ev T c=some (.p (.bool b)))(hy:ev T y=some (.opt g (.p (.bool d))))(hg:b=false->g=true):aa P N o T H (.p (.bool (b||d))) H:=
 aa.aR (by simp[ho]) fun w I ρ a hi ht=>by
  have h1:=qY ht hc
  have h2:=ht.ev hy
  refine⟨.bool (b||d),?_,by simp[aG,Rel]⟩
  cases b with
  | true=>
   have hk:a.eval (.const (.bool true))= .bool true:=rfl
   simp[execOp,ho,h1,asBool,hk]
  | false=>
   have h3:=h2.1 (hg rfl)
   simp only[aG,Rel] at h3
   simp[execOp,ho,h1,asBool,h3]
theorem aa.fI{x:Operand}{t:TypeId}{b:Bool}(ho:o.op= .unOp .not t x)(hx:ev T x=some (.p (.bool b))):aa P N o T H (.p (.bool (!b))) H:=
 aa.aR (by simp[ho]) fun w I ρ a hi ht=>⟨.bool (!b),by simp[execOp,ho,qY ht hx,Op.unary],by simp[aG,Rel]⟩
theorem aa.neg{x:Operand}{t:TypeId}{k:IntKind}{n m:Int}(ho:o.op= .unOp .neg t x)(hx:ev T x=some (.p (.int k n)))(hw:k.wrap (0 - n)=m):aa P N o T H (.p (.int k m)) H:=
 aa.aR (by simp[ho]) fun w I ρ a hi ht=>⟨.int k m,by simp[execOp,ho,c5 ht hx,Op.unary,Op.intArith,<- hw],by simp[aG,Rel]⟩
theorem ot(op:BinOp)(t:TypeId)(x y:Operand)(k k':IntKind)(a b:Int)(w:World):(eqGuard op t x y (.int k a) (.int k' b)).run P w= .ok () w:=by
 cases op <;> simp[eqGuard]
theorem zO(op:BinOp)(t:TypeId)(x y:Operand)(a b:Bool)(w:World):(eqGuard op t x y (.bool a) (.bool b)).run P w= .ok () w:=by
 cases op <;> simp[eqGuard]
theorem aa.tW{op:BinOp}{x y:Operand}{t t':TypeId}{k:IntKind}{a b:Int}{r:PV}(ho:o.op= .binOp op t x y t')(hx:ev T x=some (.p (.int k a)))(hy:ev T y=some (.p (.int k b)))
    (hr:∀ w I,∃ u,(Go.binOp op t (.int k a) (.int k b)).run P w= .ok u w∧Rel w I r u):aa P N o T H (.p r) H:=
 aa.aR (by simp[ho]) fun w I ρ ac hi ht=>by
  obtain⟨u,h1,h2⟩:=hr w I
  exact⟨u,by simp[execOp,ho,c5 ht hx,c5 ht hy,ot,h1],h2⟩
theorem aa.add{x y:Operand}{t t':TypeId}{k:IntKind}{a b m:Int}(ho:o.op= .binOp .add t x y t')(hx:ev T x=some (.p (.int k a)))(hy:ev T y=some (.p (.int k b)))(hw:k.wrap (a+b)=m):aa P N o T H (.p (.int k m)) H:=
 aa.tW ho hx hy fun w I=>⟨.int k m,by simp[Go.binOp,Op.intArith,hw],by simp[Rel]⟩
theorem aa.ec{x y:Operand}{t t':TypeId}{k:IntKind}{a b m:Int}(ho:o.op= .binOp .sub t x y t')(hx:ev T x=some (.p (.int k a)))(hy:ev T y=some (.p (.int k b)))(hw:k.wrap (a - b)=m):aa P N o T H (.p (.int k m)) H:=
 aa.tW ho hx hy fun w I=>⟨.int k m,by simp[Go.binOp,Op.intArith,hw],by simp[Rel]⟩
theorem aa.mul{x y:Operand}{t t':TypeId}{k:IntKind}{a b m:Int}(ho:o.op= .binOp .mul t x y t')(hx:ev T x=some (.p (.int k a)))(hy:ev T y=some (.p (.int k b)))(hw:k.wrap (a*b)=m):aa P N o T H (.p (.int k m)) H:=
 aa.tW ho hx hy fun w I=>⟨.int k m,by simp[Go.binOp,Op.intArith,hw],by simp[Rel]⟩
theorem aa.quo{x y:Operand}{t t':TypeId}{k:IntKind}{a b m:Int}(ho:o.op= .binOp .quo t x y t')(hx:ev T x=some (.p (.int k a)))(hy:ev T y=some (.p (.int k b)))(hb:b≠0)(hw:k.wrap (a.tdiv b)=m):aa P N o T H (.p (.int k m)) H:=
 aa.tW ho hx hy fun w I=>⟨.int k m,by simp[Go.binOp,Op.intDiv,hb,hw],by simp[Rel]⟩
theorem aa.rem{x y:Operand}{t t':TypeId}{k:IntKind}{a b m:Int}(ho:o.op= .binOp .rem t x y t')(hx:ev T x=some (.p (.int k a)))(hy:ev T y=some (.p (.int k b)))(hb:b≠0)(hw:a.tmod b=m):aa P N o T H (.p (.int k m)) H:=
 aa.tW ho hx hy fun w I=>⟨.int k m,by simp[Go.binOp,Op.intDiv,hb,hw],by simp[Rel]⟩
theorem aa.lss{x y:Operand}{t t':TypeId}{k:IntKind}{a b:Int}(ho:o.op= .binOp .lss t x y t')(hx:ev T x=some (.p (.int k a)))(hy:ev T y=some (.p (.int k b))):aa P N o T H (.p (.bool (decide (a<b)))) H:=
 aa.tW ho hx hy fun w I=>⟨.bool (decide (a<b)),by simp[Go.binOp,Op.intCmp],by simp[Rel]⟩
theorem aa.leq{x y:Operand}{t t':TypeId}{k:IntKind}{a b:Int}(ho:o.op= .binOp .leq t x y t')(hx:ev T x=some (.p (.int k a)))(hy:ev T y=some (.p (.int k b))):aa P N o T H (.p (.bool (decide (a<=b)))) H:=
 aa.tW ho hx hy fun w I=>⟨.bool (decide (a<=b)),by simp[Go.binOp,Op.intCmp],by simp[Rel]⟩
theorem aa.gtr{x y:Operand}{t t':TypeId}{k:IntKind}{a b:Int}(ho:o.op= .binOp .gtr t x y t')(hx:ev T x=some (.p (.int k a)))(hy:ev T y=some (.p (.int k b))):aa P N o T H (.p (.bool (decide (b<a)))) H:=
 aa.tW ho hx hy fun w I=>⟨.bool (decide (b<a)),by simp[Go.binOp,Op.intCmp],by simp[Rel]⟩
theorem aa.geq{x y:Operand}{t t':TypeId}{k:IntKind}{a b:Int}(ho:o.op= .binOp .geq t x y t')(hx:ev T x=some (.p (.int k a)))(hy:ev T y=some (.p (.int k b))):aa P N o T H (.p (.bool (decide (b<=a)))) H:=
 aa.tW ho hx hy fun w I=>⟨.bool (decide (b<=a)),by simp[Go.binOp,Op.intCmp],by simp[Rel]⟩
theorem aa.eql{x y:Operand}{t t':TypeId}{k:IntKind}{a b:Int}(ho:o.op= .binOp .eql t x y t')(hx:ev T x=some (.p (.int k a)))(hy:ev T y=some (.p (.int k b))):aa P N o T H (.p (.bool (decide (a=b)))) H:=
 aa.tW ho hx hy fun w I=>⟨.bool (decide (a=b)),by simp[Go.binOp,Op.intCmp];rfl,by simp[Rel]⟩
theorem aa.neq{x y:Operand}{t t':TypeId}{k:IntKind}{a b:Int}(ho:o.op= .binOp .neq t x y t')(hx:ev T x=some (.p (.int k a)))(hy:ev T y=some (.p (.int k b))):aa P N o T H (.p (.bool (!decide (a=b)))) H:=
 aa.tW ho hx hy fun w I=>⟨.bool (!decide (a=b)),by simp[Go.binOp,Op.intCmp];rfl,by simp[Rel]⟩
theorem aa.bits{op:BinOp}{x y:Operand}{t t':TypeId}{k:IntKind}{a b m:Int}(ho:o.op= .binOp op t x y t')(hop:op= .and∨op= .or∨op= .xor∨op= .andNot)(hx:ev T x=some (.p (.int k a)))(hy:ev T y=some (.p (.int k b)))
    (hm:∀ w,(Op.intBits op k a b).run P w= .ok (.int k m) w):aa P N o T H (.p (.int k m)) H:=
 aa.tW ho hx hy fun w I=>⟨.int k m,by rcases hop with rfl | rfl | rfl | rfl <;> simp[Go.binOp,hm],by simp[Rel]⟩
theorem aa.shl{x y:Operand}{t t':TypeId}{k k':IntKind}{a b m:Int}(ho:o.op= .binOp .shl t x y t')(hx:ev T x=some (.p (.int k a)))(hy:ev T y=some (.p (.int k' b)))(hb:0<=b)(hw:k.wrap (a*2^(min b.toNat k.bits))=m):aa P N o T H (.p (.int k m)) H:=
 aa.aR (by simp[ho]) fun w I ρ ac hi ht=>⟨.int k m,by simp[execOp,ho,c5 ht hx,c5 ht hy,ot,Go.binOp,Op.shift,Int.not_lt.2 hb,hw],by simp[aG,Rel]⟩
theorem aa.shr{x y:Operand}{t t':TypeId}{k k':IntKind}{a b m:Int}(ho:o.op= .binOp .shr t x y t')(hx:ev T x=some (.p (.int k a)))(hy:ev T y=some (.p (.int k' b)))(hb:0<=b)(hw:a.fdiv (2^(min b.toNat k.bits))=m):aa P N o T H (.p (.int k m)) H:=
 aa.aR (by simp[ho]) fun w I ρ ac hi ht=>⟨.int k m,by simp[execOp,ho,c5 ht hx,c5 ht hy,ot,Go.binOp,Op.shift,Int.not_lt.2 hb,hw],by simp[aG,Rel]⟩
def vw:TypeDesc->Bool
 | .struct _=>true
 | .array _ _=>true
 | _=>false
def fN(P:Program)(t:TypeId):Option (Bool×Nat):=
 match P.underlying t,P.info? t with
 | some d,some i=>some (vw d,i.size)
 | _,_=>none
theorem jz{t:TypeId}{b:Bool}{n:Nat}(h:fN P t=some (b,n)):∃ d i,P.underlying t=some d∧P.info? t=some i∧vw d=b∧i.size=n:=by
 unfold fN at h
 split at h
 ·rename_i d i h1 h2
  simp at h
  exact⟨d,i,h1,h2,h.1,h.2⟩
 ·cases h
theorem gE{t:TypeId}{b:Bool}{n:Nat}(h:fN P t=some (b,n))(w:World):(isAgg t).run P w= .ok b w:=by
 obtain⟨d,i,h1,h2,rfl,h4⟩:=jz h
 simp only[isAgg,Sem.run_bind,run_underlying h1,Result.andThen]
 cases d <;> rfl
theorem aS{t:TypeId}{b:Bool}{n:Nat}(h:fN P t=some (b,n))(w:World):(sizeOf t).run P w= .ok n w:=by
 obtain⟨d,i,h1,h2,h3,h4⟩:=jz h
 rw[run_sizeOf w h2]
 simp[Program.cellsOf,h2,h4]
theorem cN(b o n:Nat):(⟨b,o,none⟩:Addr).add n=⟨b,o+n,none⟩:=by
 unfold Addr.add
 split
 ·rename_i h;subst h;rfl
 ·rfl
theorem aY.get{w:World}{I:Nat->Prop}:∀{cs:List PV} {b o:Nat} {i:Nat} {c:PV},aY w I cs b o->cs[i]? =some c->∃ u,w.cell? ⟨b,o+i,none⟩=some u∧Rel w I c u
 | [],_,_,_,_,_,h=>by simp at h
 | x::cs,b,o,0,c,h,hc=>by
  simp at hc;subst hc
  exact h.1
 | x::cs,b,o,i+1,c,h,hc=>by
  simp at hc
  have:=aY.get h.2 hc
  rwa [show o+1+i=o+(i+1) by omega] at this
theorem aY.drop{w:World}{I:Nat->Prop}:∀{cs:List PV} {b o:Nat} (k:Nat),aY w I cs b o->aY w I (cs.drop k) b (o+k)
 | cs,_,_,0,h=>h
 | [],_,_,k+1,h=>by simp[aY]
 | x::cs,b,o,k+1,h=>by
  have:=aY.drop k h.2
  rw[show o+1+k=o+(k+1) by omega] at this
  simpa using this
theorem aY.list{w:World}{I:Nat->Prop}:∀{cs:List PV} {b o:Nat},aY w I cs b o->∃ us:List Value,aW w I cs us∧us.length=cs.length∧∀ j v,us[j]? =some v->w.cell? ⟨b,o+j,none⟩=some v
 | [],b,o,h=>⟨[],by simp[aW],rfl,fun j v h=>by simp at h⟩
 | x::cs,b,o,h=>by
  obtain⟨⟨u,h1,h2⟩,h3⟩:=h
  obtain⟨us,h4,h5,h6⟩:=aY.list h3
  refine⟨u::us,⟨u,us,rfl,h2,h4⟩,by simp[h5],fun j v hj=> ?_⟩
  cases j with
  | zero=>simp at hj;subst hj;exact h1
  | succ j=>
   simp at hj
   have:=h6 j v hj
   rwa [show o+1+j=o+(j+1) by omega] at this
theorem aY.take{w:World}{I:Nat->Prop}:∀{cs:List PV} {b o:Nat} (k:Nat),aY w I cs b o->aY w I (cs.take k) b o
 | cs,_,_,0,h=>by simp[aY]
 | [],_,_,k+1,h=>by simp[aY]
 | x::cs,b,o,k+1,h=>by
  simp only[List.take_succ_cons]
  exact⟨h.1,aY.take k h.2⟩
theorem aj.pure{w:World}{I:Nat->Prop}{ρ:List Nat}:∀{xs:List PV} {us:List Value},aj P w I ρ (xs.map .p) us↔aW w I xs us
 | [],us=>by simp[aj,aW]
 | x::xs,us=>by
  simp only[ZE,aj,aW,aG]
  constructor
  ·rintro⟨u,us',h1,h2,h3⟩;exact⟨u,us',h1,h2,aj.pure.1 h3⟩
  ·rintro⟨u,us',h1,h2,h3⟩;exact⟨u,us',h1,h2,aj.pure.2 h3⟩
def jS:List V->Option (List PV)
 | []=>some []
 | .p x::vs=>match jS vs with
   | some xs=>some (x::xs)
   | none=>none
 | _::_=>none
theorem eK:∀{vs:List V} {xs:List PV},jS vs=some xs->vs=xs.map .p
 | [],xs,h=>by simp[jS] at h;simp[<- h]
 | v::vs,xs,h=>by
  cases v <;> simp only[jS] at h <;> try cases h
  rename_i x
  cases h1:jS vs with
  | none=>rw[h1] at h;cases h
  | some ys=>rw[h1] at h;simp at h;subst h;simp[eK h1]
def gL(vs:List V):V:=match jS vs with
 | some xs=> .p (.agg xs)
 | none=> .agg vs
theorem aG.gL{w:World}{I:Nat->Prop}{ρ:List Nat}{vs:List V}{us:Array Value}(h:aj P w I ρ vs us.toList):aG P w I ρ (gL vs) (.agg us):=by
 unfold AF.gL
 exact SK
theorem aj.drop{w:World}{I:Nat->Prop}{ρ:List Nat}:∀{vs:List V} {us:List Value} (k:Nat),aj P w I ρ vs us->aj P w I ρ (vs.drop k) (us.drop k)
 | vs,us,0,h=>by simpa using h
 | [],us,k+1,h=>by simp[aj] at h;simp[h,aj]
 | v::vs,us,k+1,h=>by
  obtain⟨u,us',rfl,_,h3⟩:=h
  simpa using aj.drop k h3
theorem aj.take{w:World}{I:Nat->Prop}{ρ:List Nat}:∀{vs:List V} {us:List Value} (k:Nat),aj P w I ρ vs us->aj P w I ρ (vs.take k) (us.take k)
 | vs,us,0,h=>by simp[aj]
 | [],us,k+1,h=>by simp[aj] at h;simp[h,aj]
 | v::vs,us,k+1,h=>by
  obtain⟨u,us',rfl,h2,h3⟩:=h
  exact⟨u,_,rfl,h2,aj.take k h3⟩
theorem aj.get{w:World}{I:Nat->Prop}{ρ:List Nat}:∀{vs:List V} {us:List Value} {i:Nat} {v:V},aj P w I ρ vs us->vs[i]? =some v->∃ u,us[i]? =some u∧aG P w I ρ v u
 | [],us,i,v,h,hv=>by simp at hv
 | x::vs,us,0,v,h,hv=>by
  obtain⟨u,us',rfl,h2,h3⟩:=h
  simp at hv;subst hv
  exact⟨u,rfl,h2⟩
 | x::vs,us,i+1,v,h,hv=>by
  obtain⟨u,us',rfl,h2,h3⟩:=h
  simp at hv
  simpa using aj.get h3 hv
theorem aj.set{w:World}{I:Nat->Prop}{ρ:List Nat}{v:V}{u:Value}(hv:aG P w I ρ v u):∀{vs:List V} {us:List Value} (i:Nat),aj P w I ρ vs us->aj P w I ρ (vs.set i v) (us.set i u)
 | [],us,i,h=>by simp[aj] at h;simp[h,aj]
 | x::vs,us,0,h=>by
  obtain⟨u',us',rfl,h2,h3⟩:=h
  exact⟨u,us',rfl,hv,h3⟩
 | x::vs,us,i+1,h=>by
  obtain⟨u',us',rfl,h2,h3⟩:=h
  exact⟨u',_,rfl,h2,aj.set hv i h3⟩
def b6:Option ak->Option (List V)
 | some (.cells cs _)=>some cs
 | some (.row cs _)=>some cs
 | _=>none
def di(H:List ak)(b:Bool)(n:Nat):V->Option V
 | .p (.ip cs off)=>if b then(if off+n<=cs.length then some (.p (.agg ((cs.drop off).take n))) else none) else(cs[off]?).map .p
 | .ptr i off=>match b6 H[i]? with
   | some cs=>if b then(if off+n<=cs.length then some (gL ((cs.drop off).take n)) else none) else cs[off]?
   | none=>none
 | _=>none
theorem jQ{t:TypeId}{b:Bool}{n:Nat}{w:World}{blk off:Nat}(ht:fN P t=some (b,n)){us:List Value}(hl:b=true->us.length=n)(h0:b=false->us.length=1)(hc:∀ j v,us[j]? =some v->w.cell? ⟨blk,off+j,none⟩=some v):
    (loadVar t ⟨blk,off,none⟩).run P w= .ok (if b then .agg us.toArray else us.getD 0 undef) w:=by
 cases b with
 | true=>
  have:=run_loadCells_list (P:=P) w ⟨blk,off,none⟩ us (fun j v hj=>by rw[cN];exact hc j v hj)
  rw[hl rfl] at this
  simp[loadVar,gE ht,aS ht,this]
 | false=>
  have h1:=h0 rfl
  match us,h1 with
  | [u],_=>
   have:=hc 0 u rfl
   simp at this
   simp[loadVar,gE ht,this]
theorem iH{w:World}{I:Nat->Prop}{ρ:List Nat}{i:Nat}{cs:List V}(hi:Inv P w I ρ H)(hc:b6 H[i]? =some cs):
    ∃ b arr e,ρ[i]? =some b∧w.heap[b]? =some (.cells arr e (0,0))∧cs.length<=arr.size∧aj P w I ρ cs (arr.toList.take cs.length):=by
 unfold b6 at hc
 split at hc
 all_goals first
  | cases hc;done
  | (rename_i e hH
     have hlt:i<H.length:=(Za.1 hH).1
     have hρ:ρ[i]? =some (ρ[i]'(by rw[hi.len];exact hlt)):=Zb _
     cases hc
     have:=hi.rel i _ _ hρ hH
     first
      | (obtain⟨arr,h1,h2,h3⟩:=this;exact⟨_,arr,e,hρ,h1,h2,h3⟩)
      | (obtain⟨arr,h1,h2⟩:=this
         have hl:=aj.length h2
         exact⟨_,arr,e,hρ,h1,by simpa using NY hl.symm,by rw[<- hl,ZT];exact h2⟩))
theorem aj.Y4{w:World}{I:Nat->Prop}{ρ:List Nat}{v:V}{us:List Value}(h:aj P w I ρ [v] us):∃ u,us=[u]∧aG P w I ρ v u:=by
 obtain⟨u,us',rfl,h2,h3⟩:=h
 simp[aj] at h3
 subst h3
 exact⟨u,rfl,h2⟩
theorem x6{w:World}{I:Nat->Prop}{ρ:List Nat}{t:TypeId}{b:Bool}{n:Nat}{p v:V}{u:Value}(ht:fN P t=some (b,n))(hi:Inv P w I ρ H)(hp:aG P w I ρ p u)(h:di H b n p=some v):
    ∃ a u',u= .pointer (some a)∧(loadVar t a).run P w= .ok u' w∧aG P w I ρ v u':=by
 unfold di at h
 split at h
 ·rename_i cs off
  obtain⟨blk,o',hb,hu,fD⟩:=hp
  cases b with
  | true=>
   simp only[if_true] at h
   split at h
   ·rename_i hle
    simp at h;subst h
    obtain⟨us,h1,h2,h3⟩:=aY.list (aY.take n (aY.drop off fD))
    have hlen:us.length=n:=by rw[h2];simp;omega
    refine⟨_,_,hu,jQ ht (us:=us) (fun _=>hlen) (fun h=>by cases h) h3,?_⟩
    exact⟨us.toArray,rfl,by simpa using h1⟩
   ·cases h
  | false=>
   simp only[Ib,if_false,Zm] at h
   obtain⟨c,hc,rfl⟩:=h
   obtain⟨u',h1,h2⟩:=aY.get fD hc
   refine⟨_,_,hu,jQ ht (us:=[u']) (fun h=>by cases h) (fun _=>rfl) (fun j v hj=> ?_),h2⟩
   match j,hj with
   | 0,hj=>simp at hj;subst hj;simpa using h1
 ·rename_i i off
  obtain⟨blk,hρ,hu⟩:=hp
  cases hc:b6 H[i]? with
  | none=>rw[hc] at h;cases h
  | some cs=>
   rw[hc] at h
   obtain⟨acN,arr,e,qf,hw,hl,cT⟩:=iH hi hc
   rw[hρ] at qf;cases qf
   have hcell:∀ j v,(arr.toList)[j]? =some v->w.cell? ⟨blk,j,none⟩=some v:=fun j v hj=>by simp[World.cell?,hw];simpa using hj
   cases b with
   | true=>
    simp only[if_true] at h
    split at h
    ·rename_i hle
     simp at h;subst h
     have h1:aj P w I ρ ((cs.drop off).take n) (((arr.toList.take cs.length).drop off).take n):=(cT.drop off).take n
     have h2:((arr.toList.take cs.length).drop off).take n=(arr.toList.drop off).take n:=by
      rw[List.drop_take,List.take_take]
      congr 1
      omega
     rw[h2] at h1
     have hlen:((arr.toList.drop off).take n).length=n:=by simp;omega
     refine⟨_,_,hu,jQ ht (us:=(arr.toList.drop off).take n) (fun _=>hlen) (fun h=>by cases h) (fun j v hj=> ?_),aG.gL (by simpa using h1)⟩
     rw[ZU] at hj
     split at hj
     ·rw[Rd] at hj;exact hcell _ _ hj
     ·cases hj
    ·cases h
   | false=>
    simp only[Ib,if_false] at h
    obtain⟨u',h1,h2⟩:=aj.get cT h
    have h3:arr.toList[off]? =some u':=by
     rw[ZU] at h1
     split at h1
     ·exact h1
     ·cases h1
    refine⟨_,_,hu,jQ ht (us:=[u']) (fun h=>by cases h) (fun _=>rfl) (fun j v hj=> ?_),h2⟩
    match j,hj with
    | 0,hj=>simp at hj;subst hj;exact hcell _ _ (by simpa using h3)
 ·cases h
theorem aa.load{x:Operand}{t:TypeId}{b:Bool}{n:Nat}{p v:V}(ho:o.op= .load t x)(hx:ev T x=some p)(ht:fN P t=some (b,n))(hl:di H b n p=some v):aa P N o T H v H:=
 aa.aR (by simp[ho]) fun w I ρ a hi hT=>by
  obtain⟨ad,u',h1,h2,h3⟩:=x6 ht hi (hT.ev hx) hl
  exact⟨u',by simp[execOp,ho,Instr.loadAt,h1,Instr.sureAddr,h2],h3⟩
end
section
variable {P:Program} {R:Option Nat} {N κ:Nat} {Q Q':Post} {T T':Tm} {H:List ak} {o:Oper}
def zk:Value->Bool
 | .agg _=>false
 | .tuple _=>false
 | _=>true
def Z9:PV->Bool
 | .agg _=>false
 | .tuple _=>false
 | _=>true
def jT:V->Bool
 | .p x=>Z9 x
 | .agg _=>false
 | .tuple _=>false
 | .opt _ _=>false
 | .top=>false
 | _=>true
def rZ:PV->List PV
 | .agg cs=>cs
 | x=>[x]
def eE:V->List V
 | .p x=>(rZ x).map .p
 | .agg vs=>vs
 | v=>[v]
theorem mW{w:World}{I:Nat->Prop}{ρ:List Nat}{v:V}{u:Value}(h:aG P w I ρ v u)(h1:jT v=true):zk u=true:=by
 cases v with
 | p x=>
  cases x <;> simp only[aG,Rel,jT,Z9] at h h1 <;> first
   | (subst h;rfl)
   | (obtain⟨b,o,_,rfl,_⟩:=h;rfl)
   | (rcases h with⟨⟨_,_,rfl⟩,_⟩ | ⟨b,o,cap,_,_,rfl,_⟩ <;> rfl)
   | (obtain⟨r,es,clock,_,rfl,_⟩:=h;rfl)
   | (obtain⟨us,vs,rfl,_⟩:=h;rfl)
   | (obtain⟨x,rfl,_⟩:=h;rfl)
   | cases h1
 | ptr i off=>obtain⟨b,_,rfl⟩:=h;rfl
 | row i len=>obtain⟨b,e,cap,_,rfl,_⟩:=h;rfl
 | sl i off len=>obtain⟨b,cap,_,rfl,_⟩:=h;rfl
 | map i=>obtain⟨b,_,rfl⟩:=h;rfl
 | func fn fi ca=>obtain⟨us,vs,rfl,_⟩:=h;rfl
 | iface t v=>obtain⟨x,rfl,_⟩:=h;rfl
 | agg _=>cases h1
 | tuple _=>cases h1
 | opt _ _=>cases h1
 | raw a n c=>subst h;rfl
 | z0=>obtain⟨a,rfl⟩:=h;rfl
 | top=>cases h1
def jk:V->Bool
 | .p (.tuple _)=>false
 | .tuple _=>false
 | .opt _ _=>false
 | .top=>false
 | _=>true
theorem jY{w:World}{I:Nat->Prop}{ρ:List Nat}{v:V}{u:Value}(h:aG P w I ρ v u)(h1:jk v=true):aj P w I ρ (eE v) u.cells.toList:=by
 have one:∀ v:V,aG P w I ρ v u->u.cells= #[u]->aj P w I ρ [v] u.cells.toList:=fun v hv e=>by rw[e];exact⟨u,[],rfl,hv,rfl⟩
 cases v with
 | p x=>
  cases x with
  | agg cs=>
   obtain⟨us,rfl,hr⟩:=h
   exact aj.pure.2 hr
  | tuple _=>cases h1
  | _=>
   refine one _ h ?_
   have:=mW h rfl
   cases u <;> first | rfl | cases this
 | agg vs=>obtain⟨us,rfl,hr⟩:=h;exact hr
 | tuple _=>cases h1
 | opt _ _=>cases h1
 | top=>cases h1
 | _=>
  refine one _ h ?_
  have:=mW h rfl
  cases u <;> first | rfl | cases this
theorem aa.Ub{x:Operand}{e:TypeId}{v:PV}(ho:o.op= .box e x)(hx:ev T x=some (.p v))(hc:jk (.p v)=true):aa P N o T H (.p (.ip (rZ v) 0)) H:=
 aa.dZ (by simp[ho]) fun w I ρ a hi ht=>by
  have h1:=ht.ev hx
  refine⟨.pointer (some ⟨w.heap.size,0,none⟩),w.alloc (.cells (a.eval x).cells e),fun b=>I b∨b=w.heap.size,ρ,.inl ?_,Ext.iO hi _,Inv.iO hi _,?_⟩
  ·simp[execOp,ho,Instr.box,newVar,newRow,newObj,Sem.run]
  ·have h2:aj P w I ρ ((rZ v).map .p) (a.eval x).cells.toList:=jY h1 hc
   have h3:=aj.pure.1 h2
   have h4:=aW.mono (fun _ h=> .inl h) (fun b hb=>heap_alloc_old w (.cells (a.eval x).cells e) (hi.ib b hb)) _ _ h3 (I':=fun b=>I b∨b=w.heap.size) (w':=w.alloc (.cells (a.eval x).cells e))
   refine⟨w.heap.size,0,.inr rfl,by simp,?_⟩
   have gen:∀(cs:List PV) (us:List Value) (k:Nat),(∀ j u,us[j]? =some u->(a.eval x).cells.toList[k+j]? =some u)->aW (w.alloc (.cells (a.eval x).cells e)) (fun b=>I b∨b=w.heap.size) cs us->aY (w.alloc (.cells (a.eval x).cells e)) (fun b=>I b∨b=w.heap.size) cs w.heap.size k:=by
    intro cs
    induction cs with
    | nil=>intro us k _ _;simp[aY]
    | cons c cs ih=>
     intro us k hk hr
     obtain⟨u,us',rfl,h5,h6⟩:=hr
     refine⟨⟨u,?_,h5⟩,ih us' (k+1) (fun j u' hj=>by have:=hk (j+1) u' (by simpa using hj);rwa [show k+(j+1)=k+1+j by omega] at this) h6⟩
     have:=hk 0 u rfl
     rw[World.cell?_alloc_new]
     simpa using this
   exact gen _ _ 0 (fun j u hj=>by simpa using hj) h4
theorem aa.cP{x:Operand}{e:TypeId}{v:V}(ho:o.op= .box e x)(hx:ev T x=some v)(hc:jk v=true):aa P N o T H (.ptr H.length 0) (H++[.cells (eE v) e]):=
 aa.dZ (by simp[ho]) fun w I ρ a hi ht=>by
  have h1:=ht.ev hx
  have hE:Ext w I ρ (w.alloc (.cells (a.eval x).cells e)) I (ρ++[w.heap.size]):=Ext.aI hi _
  refine⟨.pointer (some ⟨w.heap.size,0,none⟩),w.alloc (.cells (a.eval x).cells e),I,ρ++[w.heap.size],.inl ?_,hE,Inv.aI hi _ ⟨_,heap_alloc_new w _,aj.ext hE (jY h1 hc)⟩,?_⟩
  ·simp[execOp,ho,Instr.box,newVar,newRow,newObj,Sem.run]
  ·exact L4
def cO(P:Program)(t:TypeId):Option PV:=((P.info? t).bind (·.zero)).bind EN
theorem mq{t:TypeId}{z:PV}(h:cO P t=some z)(w:World):∃ u,(zeroValue t).run P w= .ok u w∧∀ I,Rel w I z u:=by
 unfold cO at h
 cases h1:P.info? t with
 | none=>rw[h1] at h;cases h
 | some i=>
  rw[h1] at h
  cases h2:i.zero with
  | none=>simp[h2] at h
  | some u=>
   simp[h2] at h
   exact⟨u,by simp[zeroValue,run_typeInfo w h1,h2],fun I=>Rel.val h⟩
theorem aa.aI{e:TypeId}{z:PV}(ho:o.op= .alloc e)(hz:cO P e=some z)(hc:jk (.p z)=true):aa P N o T H (.ptr H.length 0) (H++[.cells ((rZ z).map .p) e]):=
 aa.dZ (by simp[ho]) fun w I ρ a hi ht=>by
  obtain⟨u,h1,h2⟩:=mq hz w
  have hE:Ext w I ρ (w.alloc (.cells u.cells e)) I (ρ++[w.heap.size]):=Ext.aI hi _
  refine⟨.pointer (some ⟨w.heap.size,0,none⟩),w.alloc (.cells u.cells e),I,ρ++[w.heap.size],.inl ?_,hE,Inv.aI hi _ ⟨_,heap_alloc_new w _,aj.ext hE (jY (v:= .p z) (h2 I) hc)⟩,?_⟩
  ·simp[execOp,ho,Instr.alloc,newVar,newRow,newObj,Sem.run,h1]
  ·exact L4
def setAt(cs:List V):Nat->List V->List V
 | _,[]=>cs
 | k,v::vs=>setAt (cs.set k v) (k+1) vs
def gU(H:List ak)(i off:Nat)(vs:List V):Option (List ak):=
 match H[i]? with
 | some (.cells cs e)=>if off+vs.length<=cs.length then some (H.set i (.cells (setAt cs off vs) e)) else none
 | some (.row cs e)=>if off+vs.length<=cs.length then some (H.set i (.row (setAt cs off vs) e)) else none
 | _=>none
theorem gH:∀(vs cs:List V) (k:Nat),(setAt cs k vs).length=cs.length
 | [],_,_=>rfl
 | v::vs,cs,k=>by simp[setAt,gH vs]
theorem fJ{w:World}{b:Nat}{e:TypeId}:∀(us:List Value) (arr:Array Value) (w:World) (off k:Nat),w.heap[b]? =some (.cells arr e (0,0))->off+k+us.length<=arr.size->(∀ u∈us,zk u=true)->
    ∃ w' dK,(storeCells ⟨b,off,none⟩ us k).run P w= .ok () w'∧w'.heap[b]? =some (.cells dK e (0,0))∧dK.size=arr.size∧dK.toList=(us.foldl (fun(s:List Value×Nat) u=>(s.1.set s.2 u,s.2+1)) (arr.toList,off+k)).1∧
     w'.os=w.os∧w'.tape=w.tape∧w'.output=w.output∧w'.heap.size=w.heap.size∧(∀ j,j≠b->w'.heap[j]? =w.heap[j]?)
 | [],arr,w,off,k,hb,_,_=>⟨w,arr,by simp[storeCells],hb,rfl,rfl,rfl,rfl,rfl,rfl,fun _ _=>rfl⟩
 | u::us,arr,w,off,k,hb,hl,h1=>by
  have hu:=h1 u (by simp)
  have hlt:off+k<arr.size:=by simp at hl;omega
  have hcell:w.cell? ⟨b,off+k,none⟩=some (arr[off+k]):=by simp[World.cell?,hb,hlt]
  have hfr:w.frozen? ⟨b,off+k,none⟩=false:=by simp[World.frozen?,hb]
  have hrun:(store ⟨b,off+k,none⟩ u).run P w= .ok () (w.setCell ⟨b,off+k,none⟩ u):=by
   cases u <;> first | (simp[store,Sem.run,hcell,hfr];done) | cases hu
  have hb':(w.setCell ⟨b,off+k,none⟩ u).heap[b]? =some (.cells (arr.setIfInBounds (off+k) u) e (0,0)):=by
   simp[World.setCell,Ya,hb]
  obtain⟨w',dK,h2,h3,h4,h5,h6,h7,h8,h9,h10⟩:=fJ us (arr.setIfInBounds (off+k) u) (w.setCell ⟨b,off+k,none⟩ u) off (k+1) hb' (by simp at hl ⊢;omega) (fun v hv=>h1 v (by simp[hv])) (w:=w)
  refine⟨w',dK,?_,h3,by simpa using h4,?_,h6,h7,h8,by simpa using h9,fun j hj=> ?_⟩
  ·simp only[storeCells,cN,Sem.run_bind,hrun,Result.andThen,h2]
  ·rw[h5]
   simp only[UL,Zbw]
   rfl
  ·exact aa5
theorem kU{w:World}{I:Nat->Prop}{ρ:List Nat}:∀(vs:List V) (us:List Value) (cs:List V) (l:List Value) (k:Nat),aj P w I ρ vs us->k+vs.length<=cs.length->aj P w I ρ cs (l.take cs.length)->
    aj P w I ρ (setAt cs k vs) (((us.foldl (fun(s:List Value×Nat) u=>(s.1.set s.2 u,s.2+1)) (l,k)).1).take cs.length)
 | [],us,cs,l,k,h,_,hc=>by simp[aj] at h;subst h;exact hc
 | v::vs,us,cs,l,k,h,hl,hc=>by
  obtain⟨u,us',rfl,h1,h2⟩:=h
  simp only[UL,setAt]
  have:=kU vs us' (cs.set k v) (l.set k u) (k+1) h2 (by simp at hl ⊢;omega) (by
   have h3:=aj.set h1 k hc
   rw[yl,List.take_set]
   exact h3)
  simpa using this
theorem aa.store{x y:Operand}{t:TypeId}{b:Bool}{n i off:Nat}{v:V}{H':List ak}(ho:o.op= .store t x y)(hx:ev T x=some (.ptr i off))(hy:ev T y=some v)(hk:jk v=true)(h1:(eE v).all jT=true)
    (ht:fN P t=some (b,n))(hn:(eE v).length=n)(hs:gU H i off (eE v)=some H'):aa P N o T H .top H':=
 aa.dZ (by simp[ho]) fun w I ρ a hi hT=>by
  obtain⟨blk,hρ,hu⟩:=hT.ev hx
  have hv:=hT.ev hy
  have hcells:=jY hv hk
  have hlen:=aj.length hcells
  have hone:∀ u∈(a.eval y).cells.toList,zk u=true:=by
   have gen:∀(vs:List V) (us:List Value),aj P w I ρ vs us->vs.all jT=true->∀ u∈us,zk u=true:=by
    intro vs
    induction vs with
    | nil=>intro us h _ u hu;simp[aj] at h;subst h;cases hu
    | cons v vs ih=>
     intro us h ha u hu
     obtain⟨u0,us',rfl,h3,h4⟩:=h
     simp at ha
     rcases Zv.1 hu with rfl | hu
     ·exact mW h3 ha.1
     ·exact ih us' h4 (by simpa using ha.2) u hu
   exact gen _ _ hcells h1
  have hsz:(a.eval y).cells.size=n:=by rw[<- hn,<- hlen];simp
  unfold gU at hs
  have main:∀(cs:List V) (e:TypeId) (old new:ak),H[i]? =some old->old.live=true->b6 H[i]? =some cs->off+(eE v).length<=cs.length->H'=H.set i new->
      (∀ w' dK,w'.heap[blk]? =some (.cells dK e (0,0))->cs.length<=dK.size->aj P w' I ρ (setAt cs off (eE v)) (dK.toList.take cs.length)->(∀ arr,w.heap[blk]? =some (.cells arr e (0,0))->dK.size=arr.size)->dz P w' I ρ new blk)->(∀ arr e',w.heap[blk]? =some (.cells arr e' (0,0))->e'=e)->
      ∃ u w' I' ρ',((execOp a.eval o).run P w= .ok (.value u) w'∨((execOp a.eval o).run P w= .ok .skip w'∧u=undef))∧Ext w I ρ w' I' ρ'∧Inv P w' I' ρ' H'∧aG P w' I' ρ' .top u:=by
   intro cs e old new hH e9 hcs hle hnew cT acL
   obtain⟨acN,arr,e',qf,hw,hl,abB⟩:=iH hi hcs
   rw[hρ] at qf;cases qf
   have he:=acL arr e' hw
   subst he
   obtain⟨w',dK,r1,r2,r3,r4,r5,r6,r7,r8,r9⟩:=fJ (P:=P) (w:=w) (a.eval y).cells.toList arr w off 0 hw (by rw[hlen];omega) hone
   have hE:Ext w I ρ w' I ρ:=Ext.write hi hρ hH e9 r5 r6 r7 r8 r9 (fun s h=>by
    simp only[World.shape?,hw] at h
    simp only[World.shape?,r2,r3]
    exact h)
   have vf:aj P w' I ρ (setAt cs off (eE v)) (dK.toList.take cs.length):=by
    rw[r4]
    exact kU _ _ cs arr.toList (off+0) (aj.ext hE hcells) (by simpa using hle) (aj.ext hE abB)
   refine⟨undef,w',I,ρ,.inr ⟨?_,rfl⟩,hE,?_,by simp[aG]⟩
   ·simp[execOp,ho,Instr.storeAt,hu,Instr.sureAddr,storeVar,aS ht,hsz,r1]
   ·rw[hnew]
    exact Inv.write hi hρ hH e9 hE r8 r9 (cT w' dK r2 (by rw[r3];exact hl) vf (fun fK h2=>by rw[hw] at h2;cases h2;exact r3))
  split at hs
  ·rename_i cs e hH
   split at hs
   ·rename_i hle
    simp at hs
    refine main cs e _ (.cells (setAt cs off (eE v)) e) hH rfl (by rw[hH];rfl) hle hs.symm ?_ ?_
    ·intro w' dK hw' hl' cT Y5
     obtain⟨arr,h3,h4⟩:=hi.rel i blk _ hρ hH
     have h5:=aj.length h4
     have h6:=Y5 arr h3
     refine⟨dK,hw',?_⟩
     have:dK.toList.take cs.length=dK.toList:=by rw[NP];simp[h6];simpa using NY h5
     rw[this] at cT
     exact cT
    ·exact XU
   ·cases hs
  ·rename_i cs e hH
   split at hs
   ·rename_i hle
    simp at hs
    refine main cs e _ (.row (setAt cs off (eE v)) e) hH rfl (by rw[hH];rfl) hle hs.symm ?_ ?_
    ·intro w' dK hw' hl' cT Y5
     exact⟨dK,hw',by rw[gH];exact hl',by rw[gH];exact cT⟩
    ·exact XU
   ·cases hs
  ·cases hs
end
section
variable {P:Program} {R:Option Nat} {N κ:Nat} {Q Q':Post} {T T':Tm} {H:List ak} {o:Oper}
def shift(n:Nat):V->Option V
 | .p (.ip cs off)=>some (.p (.ip cs (off+n)))
 | .ptr i off=>some (.ptr i (off+n))
 | _=>none
theorem so{w:World}{I:Nat->Prop}{ρ:List Nat}{p v:V}{u:Value}{n:Nat}(h:aG P w I ρ p u)(hs:shift n p=some v):∃ a,u= .pointer (some a)∧aG P w I ρ v (.pointer (some (a.add n))):=by
 unfold shift at hs
 split at hs
 ·simp at hs;subst hs
  obtain⟨b,o,hb,rfl,fD⟩:=h
  exact⟨_,rfl,b,o,hb,by rw[cN,Jr],fD⟩
 ·simp at hs;subst hs
  obtain⟨b,hb,rfl⟩:=h
  exact⟨_,rfl,b,hb,by rw[cN]⟩
 ·cases hs
def dH(P:Program)(s:TypeId)(f:Nat):Option Nat:=
 match P.underlying s with
 | some (.struct fs)=>match fs[f]? with
   | some fd=>match fN P fd.type with
     | some (_,n)=>if n=0 then none else some fd.offset
     | none=>none
   | none=>none
 | _=>none
theorem aa.fieldAddr{x:Operand}{s:TypeId}{f n:Nat}{p v:V}(ho:o.op= .fieldAddr s x f)(hx:ev T x=some p)(hf:dH P s f=some n)(hs:shift n p=some v):aa P N o T H v H:=
 aa.aR (by simp[ho]) fun w I ρ a hi ht=>by
  obtain⟨ad,hu,hr⟩:=so (ht.ev hx) hs
  unfold dH at hf
  split at hf
  ·rename_i fs hfs
   split at hf
   ·rename_i fd hfd
    split at hf
    ·rename_i b k nj
     split at hf
     ·cases hf
     ·rename_i hk
      simp at hf
      refine⟨_,?_,hr⟩
      simp[execOp,ho,Instr.fieldAt,run_underlying hfs,hfd,hu,Instr.sureAddr,fieldPlace,aS nj,hk,hf]
    ·cases hf
   ·cases hf
  ·cases hf
def nq(P:Program)(t:TypeId):Option Nat:=
 match P.underlying t with
 | some (.slice e)=>(fN P e).map (·.2)
 | some (.array _ e)=>(fN P e).map (·.2)
 | _=>none
def zz(P:Program)(t:TypeId):Option Nat:=
 match P.underlying t with
 | some (.array n _)=>some n
 | _=>none
def eB(P:Program)(t:TypeId):Bool:=
 match P.underlying t with
 | some (.slice _)=>true
 | _=>false
def DE(sz:Nat)(k:Nat):V->Option V
 | .p (.is cs len)=>if k<len then some (.p (.ip cs (k*sz))) else none
 | .row i len=>if k<len then some (.ptr i (k*sz)) else none
 | .sl i off len=>if k<len then some (.ptr i (off+k*sz)) else none
 | _=>none
theorem eT{k:IntKind}{n:Int}(w:World):(asIntOf (.int k n)).run P w= .ok (k,n) w:=rfl
theorem aa.DN{x y:Operand}{t:TypeId}{kd:IntKind}{sz:Nat}{n:Int}{p v:V}(ho:o.op= .indexAddr t x y)(hx:ev T x=some p)(hy:ev T y=some (.p (.int kd n)))(ht:eB P t=true)(he:nq P t=some sz)
    (hcs:∀ cs len,p= .p (.is cs len)->0<len->cs≠[])(h0:0<=n)(hs:DE sz n.toNat p=some v):aa P N o T H v H:=
 aa.aR (by simp[ho]) fun w I ρ a hi hT=>by
  have hn:=c5 hT hy
  have hr:=hT.ev hx
  cases hu:P.underlying t with
  | none=>simp[eB,hu] at ht
  | some d=>
   cases d <;> simp[eB,hu] at ht
   rename_i e
   simp only[nq,hu,Zm] at he
   obtain⟨⟨b,m⟩,htm,rfl⟩:=he
   have fin:∀(ad:Addr) (len cap:Nat) (v:V),a.eval x= .slice (some ad) len cap->n.toNat<len->aG P w I ρ v (.pointer (some (ad.add (n.toNat*m))))->
       ∃ u,(execOp a.eval o).run P w= .ok (.value u) w∧aG P w I ρ v u:=by
    intro ad len cap v pE hlt hv
    refine⟨_,?_,hv⟩
    have hlt':n<(len:Int):=by omega
    simp[execOp,ho,Instr.indexAt,hn,eT,pE,run_underlying hu,h0,hlt',aS htm]
   unfold DE at hs
   split at hs
   ·rename_i cs len
    split at hs
    ·rename_i hlt
     simp at hs;subst hs
     rcases hr with⟨_,hz⟩ | ⟨blk,off,cap,hb,hle,pE,fD⟩
     ·omega
     ·refine fin _ _ _ _ pE hlt ⟨blk,off,hb (hcs cs len rfl (by omega)),by rw[cN],fD⟩
    ·cases hs
   ·rename_i i len
    split at hs
    ·rename_i hlt
     simp at hs;subst hs
     obtain⟨blk,e',cap,hρ,pE,_,_⟩:=hr
     exact fin _ _ _ _ pE hlt ⟨blk,hρ,by rw[cN,tZ]⟩
    ·cases hs
   ·rename_i i off len
    split at hs
    ·rename_i hlt
     simp at hs;subst hs
     obtain⟨blk,cap,hρ,pE,_⟩:=hr
     exact fin _ _ _ _ pE hlt ⟨blk,hρ,by rw[cN]⟩
    ·cases hs
   ·cases hs
theorem aa.oy{x y:Operand}{t:TypeId}{kd:IntKind}{sz len:Nat}{n:Int}{p v:V}(ho:o.op= .indexAddr t x y)(hx:ev T x=some p)(hy:ev T y=some (.p (.int kd n)))(ht:zz P t=some len)(he:nq P t=some sz)
    (h0:0<=n)(hl:n<len)(hs:shift (n.toNat*sz) p=some v):aa P N o T H v H:=
 aa.aR (by simp[ho]) fun w I ρ a hi hT=>by
  have hn:=c5 hT hy
  obtain⟨ad,hu,hr⟩:=so (hT.ev hx) hs
  exact R0
theorem mU(us:Array Value)(off n:Nat):(us.extract off (off+n)).toList=(us.toList.drop off).take n:=by
 rw[Array.toList_extract,List.extract_eq_take_drop,ZK]
def apart(b:Bool)(n off:Nat):V->Option V
 | .p (.agg cs)=>if b then(if off+n<=cs.length then some (.p (.agg ((cs.drop off).take n))) else none) else(cs[off]?).map .p
 | .agg cs=>if b then(if off+n<=cs.length then some (gL ((cs.drop off).take n)) else none) else cs[off]?
 | _=>none
theorem CF{w:World}{I:Nat->Prop}{ρ:List Nat}{t:TypeId}{b:Bool}{n off:Nat}{p v:V}{u:Value}(ht:fN P t=some (b,n))(hp:aG P w I ρ p u)(h:apart b n off p=some v):
    ∃ us u',u= .agg us∧(part t us off).run P w= .ok u' w∧aG P w I ρ v u':=by
 have gen:∀(vs:List V) (us:Array Value),aj P w I ρ vs us.toList->(if b then(if off+n<=vs.length then some (gL ((vs.drop off).take n)) else none) else vs[off]?)=some v->∃ u',(part t us off).run P w= .ok u' w∧aG P w I ρ v u':=by
  intro vs us hr h
  cases b with
  | true=>
   simp only[if_true] at h
   split at h
   ·rename_i hle
    simp at h;subst h
    refine⟨.agg (us.extract off (off+n)),by simp[part,gE ht,aS ht],aG.gL ?_⟩
    rw[mU]
    exact(hr.drop off).take n
   ·cases h
  | false=>
   simp only[Ib,if_false] at h
   obtain⟨u',h1,h2⟩:=aj.get hr h
   exact⟨u',by simp at h1;simp[part,gE ht,h1],h2⟩
 unfold apart at h
 split at h
 ·rename_i cs
  obtain⟨us,rfl,hr⟩:=hp
  have hr':=aj.pure (P:=P) (ρ:=ρ).2 hr
  cases b with
  | true=>
   simp only[if_true] at h
   split at h
   ·rename_i hle
    simp at h;subst h
    refine⟨us,.agg (us.extract off (off+n)),rfl,by simp[part,gE ht,aS ht],?_⟩
    have:=(hr'.drop off).take n
    rw[<- List.map_drop,<- List.map_take] at this
    refine⟨_,rfl,?_⟩
    rw[mU]
    exact aj.pure.1 this
   ·cases h
  | false=>
   simp only[Ib,if_false,Zm] at h
   obtain⟨c,hc,rfl⟩:=h
   obtain⟨u',h1,h2⟩:=aj.get (v:= .p c) (i:=off) hr' (by simp[hc])
   exact⟨us,u',rfl,by simp at h1;simp[part,gE ht,h1],h2⟩
 ·rename_i cs
  obtain⟨us,rfl,hr⟩:=hp
  obtain⟨u',h1,h2⟩:=gen cs us hr h
  exact⟨us,u',rfl,h1,h2⟩
 ·cases h
def J2(P:Program)(s:TypeId)(f:Nat):Option (Bool×Nat×Nat):=
 match P.underlying s with
 | some (.struct fs)=>match fs[f]? with
   | some fd=>(fN P fd.type).map fun x=>(x.1,x.2,fd.offset)
   | none=>none
 | _=>none
theorem aa.field{x:Operand}{s:TypeId}{f n off:Nat}{b:Bool}{p v:V}(ho:o.op= .field s x f)(hx:ev T x=some p)(hf:J2 P s f=some (b,n,off))(hs:apart b n off p=some v):aa P N o T H v H:=
 aa.aR (by simp[ho]) fun w I ρ a hi ht=>by
  unfold J2 at hf
  split at hf
  ·rename_i fs hfs
   split at hf
   ·rename_i fd hfd
    simp only[Zm] at hf
    obtain⟨⟨b',n'⟩,nj,he⟩:=hf
    simp at he
    obtain⟨rfl,rfl,rfl⟩:=he
    obtain⟨us,u',h1,h2,h3⟩:=CF nj (ht.ev hx) hs
    exact⟨u',by simp[execOp,ho,Instr.field,run_underlying hfs,hfd,h1,asAgg,h2],h3⟩
   ·cases hf
  ·cases hf
def OK(P:Program)(t:TypeId):Option (Nat×Bool×Nat):=
 match P.underlying t with
 | some (.array len e)=>(fN P e).map fun x=>(len,x.1,x.2)
 | _=>none
theorem aa.Wr{x y:Operand}{t:TypeId}{kd:IntKind}{n:Int}{len sz:Nat}{b:Bool}{p v:V}(ho:o.op= .index t x y)(hx:ev T x=some p)(hy:ev T y=some (.p (.int kd n)))(ht:OK P t=some (len,b,sz))
    (h0:0<=n)(hl:n<len)(hs:apart b sz (n.toNat*sz) p=some v):aa P N o T H v H:=
 aa.aR (by simp[ho]) fun w I ρ a hi hT=>by
  have hn:=c5 hT hy
  unfold OK at ht
  split at ht
  ·rename_i len' e hd
   simp only[Zm] at ht
   obtain⟨⟨b',n'⟩,nj,he⟩:=ht
   simp at he
   obtain⟨rfl,rfl,rfl⟩:=he
   obtain⟨us,u',h1,h2,h3⟩:=CF nj (hT.ev hx) hs
   refine⟨u',?_,h3⟩
   simp[execOp,ho,Instr.index,hn,eT,run_underlying hd,h1,h0,hl,aS nj,h2]
  ·cases ht
theorem aa.J4{x y:Operand}{t:TypeId}{kd:IntKind}{n:Int}{s:ByteArray}{c:UInt8}(ho:o.op= .index t x y)(hx:ev T x=some (.p (.str s)))(hy:ev T y=some (.p (.int kd n)))(ht:P.underlying t=some .string)
    (h0:0<=n)(hs:s[n.toNat]? =some c):aa P N o T H (.p (.int .u8 c.toNat)) H:=
 aa.aR (by simp[ho]) fun w I ρ a hi hT=>by
  have hn:=c5 hT hy
  have hst:=ke hT hx
  exact⟨.int .u8 c.toNat,by simp[execOp,ho,Instr.index,hn,eT,hst,run_underlying ht,h0,hs],by simp[aG,Rel]⟩
def placesOf(P:Program):List Field->Option (List (Nat×Nat))
 | []=>some []
 | f::fs=>match fN P f.type,placesOf P fs with
   | some x,some r=>some ((f.offset,x.2)::r)
   | _,_=>none
def lW(P:Program)(t:TypeId):Option (List PV×List (Nat×Nat)):=
 match cO P t,P.underlying t with
 | some (.agg z),some (.struct fs)=>match placesOf P fs.toList with
   | some ps=>some (z,ps)
   | none=>none
 | some (.agg z),some (.array n e)=>match fN P e with
   | some (_,sz)=>some (z,(List.range n).map fun i=>(i*sz,sz))
   | none=>none
 | _,_=>none
def jI(ps:List (Nat×Nat))(cells:List V):List (Nat×V)->Option (List V)
 | []=>some cells
 | (i,v)::rest=>match ps[i]? with
   | none=>none
   | some (off,sz)=>if (eE v).length=sz∧off+(eE v).length<=cells.length∧jk v=true then jI ps (setAt cells off (eE v)) rest else none
def jl(T:Tm):List (Nat×Operand)->Option (List (Nat×V))
 | []=>some []
 | (i,x)::r=>match ev T x,jl T r with
   | some v,some vs=>some ((i,v)::vs)
   | _,_=>none
theorem tK{w:World}{I:Nat->Prop}{ρ:List Nat}:∀(vs:List V) (us:List Value) (cs:List V) (arr:Array Value) (off j:Nat),aj P w I ρ vs us->aj P w I ρ cs arr.toList->
    aj P w I ρ (setAt cs (off+j) vs) ((us.zipIdx j).foldl (fun(cs:Array Value) (x:Value×Nat)=>cs.setIfInBounds (off+x.2) x.1) arr).toList
 | [],us,cs,arr,off,j,h,hc=>by simp[aj] at h;subst h;exact hc
 | v::vs,us,cs,arr,off,j,h,hc=>by
  obtain⟨u,us',rfl,h1,h2⟩:=h
  simp only[List.zipIdx_cons,UL,setAt]
  exact tK vs us' (cs.set (off+j) v) _ off (j+1) h2 (by
   rw[Zbw]
   exact aj.set h1 _ hc)
theorem rB{w:World}{I:Nat->Prop}{ρ:List Nat}{ps:List (Nat×Nat)}{place:Nat->Option (Nat×Nat)}(hp:∀ i x,ps[i]? =some x->place i=some x):∀(vs:List (Nat×V)) (us:List (Nat×Value)) (cs:List V) (arr:Array Value) (r:List V),
    us.map (·.1)=vs.map (·.1)->aj P w I ρ (vs.map (·.2)) (us.map (·.2))->aj P w I ρ cs arr.toList->jI ps cs vs=some r->∃ dK,Instr.fill place arr us=some dK∧aj P w I ρ r dK.toList
 | [],us,cs,arr,r,hm,_,hc,h=>by
  have:us=[]:=by simpa using hm
  subst this
  simp[jI] at h;subst h
  exact⟨arr,rfl,hc⟩
 | (i,v)::vs,us,cs,arr,r,hm,hr,hc,h=>by
  match us,hm,hr with
  | (i',u)::us',hm,hr=>
   simp only[ZE,List.cons.injEq] at hm
   obtain⟨rU,Ln⟩:=hm
   subst rU
   obtain⟨u0,us0,he,h1,h2⟩:=hr
   simp at he
   obtain⟨rfl,rfl⟩:=he
   simp only[jI] at h
   split at h
   ·cases h
   ·rename_i off sz hps
    split at h
    case isFalse=>cases h
    case isTrue hyes=>
     obtain⟨hlen,hle,hok⟩:=hyes
     have hcells:=jY h1 hok
     have hl:=aj.length hcells
     have hcl:=aj.length hc
     have:=tK (eE v) u.cells.toList cs arr off 0 hcells hc
     obtain⟨dK,h5,h6⟩:=rB hp vs us' _ _ r Ln h2 (by simpa using this) h
     refine⟨dK,?_,h6⟩
     have e1:u.cells.size=sz:=by rw[<- hlen,<- hl];simp
     have e2:¬ (off+u.cells.size>arr.size):=by
      have:arr.size=cs.length:=by simpa using hcl
      rw[e1,this,<- hlen]
      exact Nat.not_lt.2 hle
     simp only[Instr.fill,hp _ _ hps,e1]
     rw[if_neg (by simp;rw[<- e1];omega)]
     rw[<- h5]
     congr 1
     have e3:u.cells.zipIdx.toList=u.cells.toList.zipIdx:=by simp
     rw[<- Array.foldl_toList,e3]
theorem n8{w:World}{I:Nat->Prop}{ρ:List Nat}{a:Act}(hT:bR P w I ρ N T a.tmps):∀{xs:List (Nat×Operand)} {vs:List (Nat×V)},jl T xs=some vs->(xs.map fun x=>(x.1,a.eval x.2)).map (·.1)=vs.map (·.1)∧aj P w I ρ (vs.map (·.2)) ((xs.map fun x=>(x.1,a.eval x.2)).map (·.2))
 | [],vs,h=>by simp[jl] at h;subst h;simp[aj]
 | (i,x)::xs,vs,h=>by
  simp only[jl] at h
  split at h
  ·rename_i v vs' h1 h2
   simp at h;subst h
   obtain⟨h3,h4⟩:=n8 hT h2
   exact⟨by simp at h3;simp[h3],_,_,rfl,hT.ev h1,h4⟩
  ·cases h
theorem run_places{w:World}:∀(fs:List Field) (ps:List (Nat×Nat)),placesOf P fs=some ps->(fs.mapM (m:=Sem) fun f=>do pure (f.offset,<- sizeOf f.type)).run P w= .ok ps w
 | [],ps,h=>by simp[placesOf] at h;subst h;simp
 | f::fs,ps,h=>by
  simp only[placesOf] at h
  split at h
  ·rename_i x r h1 h2
   simp at h;subst h
   have ih:=run_places (w:=w) fs r h2
   simp only[List.mapM_cons,Sem.run_bind,aS h1,Result.andThen,Sem.run_pure,ih]
  ·cases h
theorem aa.build{t:TypeId}{parts:Array (Nat×Operand)}{z:List PV}{ps:List (Nat×Nat)}{vs:List (Nat×V)}{r:List V}(ho:o.op= .build t parts)(hb:lW P t=some (z,ps))(hv:jl T parts.toList=some vs)(hr:jI ps (z.map .p) vs=some r):aa P N o T H (gL r) H:=
 aa.aR (by simp[ho]) fun w I ρ a hi hT=>by
  obtain⟨hm,cT⟩:=n8 hT hv
  have acv:(parts.map fun(x:Nat×Operand)=>(x.1,a.eval x.2)).toList=parts.toList.map fun x=>(x.1,a.eval x.2):=by simp
  unfold lW at hb
  split at hb
  ·rename_i z' fs hz hu
   split at hb
   ·rename_i ps' hps
    simp at hb
    obtain⟨rfl,rfl⟩:=hb
    obtain⟨u,h1,h2⟩:=mq hz w
    obtain⟨us,rfl,h3⟩:=h2 I
    have OE:(fs.mapM (m:=Sem) fun f=>do pure (f.offset,<- sizeOf f.type)).run P w= .ok ps'.toArray w:=by
     have:=run_places (w:=w) fs.toList ps' hps
     rw[Array.mapM_eq_mapM_toList,Sem.run_map,this]
     rfl
    obtain⟨dK,h5,h6⟩:=rB (place:=fun i=>ps'.toArray[i]?) (fun i x h=>by simpa using h) vs _ _ us r hm cT (aj.pure.2 h3) hr
    refine⟨.agg dK,?_,aG.gL h6⟩
    simp only[execOp,ho,Instr.build,Sem.run_bind,h1,Result.andThen,run_underlying hu,OE,Value.cells]
    rw[show(Array.map (fun(x:Nat×Operand)=>match x with | (i,x)=>(i,a.eval x)) parts).toList=parts.toList.map fun x=>(x.1,a.eval x.2) by simp]
    rw[h5]
    rfl
   ·cases hb
  ·rename_i z' n e hz hu
   split at hb
   ·rename_i b sz nj
    simp at hb
    obtain⟨rfl,rfl⟩:=hb
    obtain⟨u,h1,h2⟩:=mq hz w
    obtain⟨us,rfl,h3⟩:=h2 I
    obtain⟨dK,h5,h6⟩:=rB (place:=fun i=>some (i*sz,sz)) (fun i x h=>by
     simp[Zt,Zm] at h
     obtain⟨a',ha,rfl⟩:=h
     rw[Ys] at ha
     ·simp at ha;subst ha;rfl
     ·rcases ZS i n with h' | h'
      ·exact h'
      ·rw[ZH (by simpa using h')] at ha;cases ha) vs _ _ us r hm cT (aj.pure.2 h3) hr
    refine⟨.agg dK,?_,aG.gL h6⟩
    simp only[execOp,ho,Instr.build,Sem.run_bind,h1,Result.andThen,run_underlying hu,aS nj,Value.cells]
    rw[show(Array.map (fun(x:Nat×Operand)=>match x with | (i,x)=>(i,a.eval x)) parts).toList=parts.toList.map fun x=>(x.1,a.eval x.2) by simp]
    rw[h5]
    rfl
   ·cases hb
  ·cases hb
def Ym(k:Nat):V->Option V
 | .p (.tuple vs)=>(vs[k]?).map .p
 | .tuple vs=>vs[k]?
 | _=>none
theorem aa.extract{x:Operand}{k:Nat}{p v:V}(ho:o.op= .extract x k)(hx:ev T x=some p)(hk:Ym k p=some v):aa P N o T H v H:=
 aa.aR (by simp[ho]) fun w I ρ a hi hT=>by
  have hr:=hT.ev hx
  unfold Ym at hk
  split at hk
  ·simp only[Zm] at hk
   obtain⟨c,hc,rfl⟩:=hk
   obtain⟨us,hu,hl⟩:=hr
   obtain⟨u',h1,h2⟩:=aj.get (v:= .p c) (i:=k) (aj.pure (P:=P) (ρ:=ρ).2 hl) (by simp[hc])
   simp at h1
   exact⟨u',by simp[execOp,ho,Instr.extract,hu,h1],h2⟩
  ·obtain⟨us,hu,hl⟩:=hr
   obtain⟨u',h1,h2⟩:=aj.get hl hk
   simp at h1
   exact⟨u',by simp[execOp,ho,Instr.extract,hu,h1],h2⟩
  ·cases hk
def funcOf(fn:Fn)(fi ca:List V):V:=match jS fi,jS ca with
 | some xs,some ys=> .p (.func fn xs ys)
 | _,_=> .func fn fi ca
theorem aa.makeFunc{fn:Fn}{first captured:Array Operand}{fi ca:List V}(ho:o.op= .makeFunc fn first captured)(h1:lG T first.toList=some fi)(h2:lG T captured.toList=some ca):aa P N o T H (funcOf fn fi ca) H:=
 aa.aR (by simp[ho]) fun w I ρ a hi hT=>by
  have r1:=hT.lG h1
  have r2:=hT.lG h2
  refine⟨.func fn (first.map a.eval) (captured.map a.eval),by simp[execOp,ho,Instr.makeFunc],?_⟩
  unfold funcOf
  split
  ·rename_i xs ys e1 e2
   rw[eK e1] at r1
   rw[eK e2] at r2
   exact⟨_,_,rfl,by simpa using aj.pure.1 r1,by simpa using aj.pure.1 r2⟩
  ·exact⟨_,_,rfl,by simpa using r1,by simpa using r2⟩
def Ds:V->Option Nat
 | .p (.is _ len)=>some len
 | .p .nilSlice=>some 0
 | .row _ len=>some len
 | .sl _ _ len=>some len
 | .raw _ len _=>some len
 | .z0=>some 0
 | _=>none
theorem aa.bJ{x:Operand}{t:TypeId}{n:Nat}{p:V}(ho:o.op= .call {callee:= .builtin .len,args:= #[x],argTypes:= #[t]})(hx:ev T x=some p)(ht:eB P t=true)(hn:Ds p=some n):aa P N o T H (.p (.int .i64 n)) H:=
 aa.aR (by simp[ho]) fun w I ρ a hi hT=>by
  have hr:=hT.ev hx
  have pE:∃ ad cap,a.eval x= .slice ad n cap:=by
   unfold Ds at hn
   split at hn <;> try cases hn
   ·rcases hr with⟨h1,h2⟩ | ⟨b,o,cap,_,_,h1,_⟩
    ·subst h2;exact h1
    ·exact⟨_,_,h1⟩
   ·exact⟨_,_,hr⟩
   ·obtain⟨b,e,cap,_,h1,_⟩:=hr;exact⟨_,_,h1⟩
   ·obtain⟨b,cap,_,h1,_⟩:=hr;exact⟨_,_,h1⟩
   ·exact⟨_,_,hr⟩
   ·obtain⟨a,h1⟩:=hr;exact⟨_,_,h1⟩
  obtain⟨ad,cap,hs⟩:=pE
  cases hu:P.underlying t with
  | none=>simp[eB,hu] at ht
  | some d=>
   cases d <;> simp[eB,hu] at ht
   exact⟨.int .i64 n,by simp[execOp,ho,resolve,invoke,builtin,Builtin.len_,run_underlying hu,hs,goInt],by simp[aG,Rel]⟩
theorem aa.eF{x:Operand}{t:TypeId}{s:ByteArray}(ho:o.op= .call {callee:= .builtin .len,args:= #[x],argTypes:= #[t]})(hx:ev T x=some (.p (.str s)))(ht:P.underlying t=some .string):aa P N o T H (.p (.int .i64 s.size)) H:=
 aa.aR (by simp[ho]) fun w I ρ a hi hT=>by
  exact⟨.int .i64 s.size,by simp[execOp,ho,resolve,invoke,builtin,Builtin.len_,run_underlying ht,ke hT hx,goInt],by simp[aG,Rel]⟩
theorem aa.min2{x y:Operand}{ts:Array TypeId}{k:IntKind}{a b:Int}(ho:o.op= .call {callee:= .builtin .min,args:= #[x,y],argTypes:=ts})(hx:ev T x=some (.p (.int k a)))(hy:ev T y=some (.p (.int k b))):aa P N o T H (.p (.int k (min a b))) H:=
 aa.aR (by simp[ho]) fun w I ρ ac hi hT=>by
  refine⟨.int k (if b<a then b else a),by simp[execOp,ho,resolve,invoke,builtin,Builtin.min_,Builtin.min2,c5 hT hx,c5 hT hy],?_⟩
  simp only[aG,Rel,Value.int.injEq,true_and]
  split <;> omega
theorem aa.max2{x y:Operand}{ts:Array TypeId}{k:IntKind}{a b:Int}(ho:o.op= .call {callee:= .builtin .max,args:= #[x,y],argTypes:=ts})(hx:ev T x=some (.p (.int k a)))(hy:ev T y=some (.p (.int k b))):aa P N o T H (.p (.int k (max a b))) H:=
 aa.aR (by simp[ho]) fun w I ρ ac hi hT=>by
  refine⟨.int k (if b>a then b else a),by simp[execOp,ho,resolve,invoke,builtin,Builtin.max_,Builtin.max2,c5 hT hx,c5 hT hy],?_⟩
  simp only[aG,Rel,Value.int.injEq,true_and]
  split <;> omega
theorem aa.dP{x:Operand}{s d:TypeId}{k k':IntKind}{n m:Int}(ho:o.op= .convert s d x)(hx:ev T x=some (.p (.int k n)))(hs:(P.underlying s).isSome=true)(hd:P.underlying d=some (.int k'))(hw:k'.wrap n=m):aa P N o T H (.p (.int k' m)) H:=
 aa.aR (by simp[ho]) fun w I ρ a hi hT=>by
  obtain⟨ds,hs'⟩:=Option.isSome_iff_exists.1 hs
  refine⟨.int k' m,?_,by simp[aG,Rel]⟩
  simp[execOp,ho,convert,run_underlying hs',run_underlying hd,c5 hT hx,Conv.intToInt,hw]
def an(P:Program)(f:FuncId):Bool:=
 match P.funcs[f]? with
 | some fn=>fn.body.isSome&&fn.name != "runtime.NumGoroutine"
 | none=>false
theorem gI{f:FuncId}(h:an P f=true)(args:Array Value)(w:World):(callFunc f args).run P w= .ok (.enter f args) w:=by
 unfold an at h
 cases hf:P.funcs[f]? with
 | none=>rw[hf] at h;cases h
 | some fn=>
  rw[hf] at h
  simp only[Zo,bne_iff_ne,ne_eq] at h
  obtain⟨h1,h2⟩:=h
  obtain⟨c,hc⟩:=Option.isSome_iff_exists.1 h1
  simp[callFunc,program,Sem.run,hf,h2,hc]
theorem cK{n:Nat}{f:FuncId}{args:Array Value}{w:World}{Rr:Ending->World->Prop}(R:Option Nat)(h:CallsIn Fence.wide n P f args w Rr):CallsIn (Fr R) n P f args w Rr:=h
def callee(args:List V):V->Option (FuncId×List V)
 | .p (.func (.func f) fi ca)=>some (f,fi.map .p++args++ca.map .p)
 | .func (.func f) fi ca=>some (f,fi++args++ca)
 | _=>none
theorem aj.append{w:World}{I:Nat->Prop}{ρ:List Nat}:∀{xs ys:List V} {us vs:List Value},aj P w I ρ xs us->aj P w I ρ ys vs->aj P w I ρ (xs++ys) (us++vs)
 | [],ys,us,vs,h,k=>by simp[aj] at h;subst h;exact k
 | x::xs,ys,us,vs,h,k=>by
  obtain⟨u,us',rfl,h1,h2⟩:=h
  exact⟨u,us'++vs,rfl,h1,aj.append h2 k⟩
theorem ep{w:World}{I:Nat->Prop}{ρ:List Nat}{a:Act}{f:Operand}{xs:Array Operand}{ts:Array TypeId}{fv:V}{vs all:List V}{g:FuncId}(ho:o.op= .call {callee:= .value f,args:=xs,argTypes:=ts})(hT:bR P w I ρ N T a.tmps)(hf:ev T f=some fv)
    (hxs:lG T xs.toList=some vs)(hc:callee vs fv=some (g,all))(hg:an P g=true):∃ us:List Value,aj P w I ρ all us∧(execOp a.eval o).run P w= .ok (.enter g us.toArray) w:=by
 have h1:=hT.ev hf
 have h2:=hT.lG hxs
 unfold callee at hc
 split at hc
 ·rename_i f' fi ca
  simp at hc
  obtain⟨rfl,rfl⟩:=hc
  obtain⟨us,vs',hu,h3,h4⟩:=h1
  refine⟨us.toList++(xs.toList.map a.eval)++vs'.toList,?_,?_⟩
  ·have:=aj.append (aj.append (aj.pure (P:=P) (ρ:=ρ).2 h3) h2) (aj.pure (P:=P) (ρ:=ρ).2 h4)
   simpa using this
  ·simp[execOp,ho,resolve,hu,Deferred.ofValue,invoke,gI hg]
 ·rename_i f' fi ca
  simp at hc
  obtain⟨rfl,rfl⟩:=hc
  obtain⟨us,vs',hu,h3,h4⟩:=h1
  refine⟨us.toList++(xs.toList.map a.eval)++vs'.toList,?_,?_⟩
  ·have:=aj.append (aj.append h3 h2) h4
   simpa using this
  ·simp[execOp,ho,resolve,hu,Deferred.ofValue,invoke,gI hg]
 ·cases hc
theorem aa.B6{f:Operand}{xs:Array Operand}{ts:Array TypeId}{fv:V}{vs:List V}{g:FuncId}{args:List PV}{r:PV}(ho:o.op= .call {callee:= .value f,args:=xs,argTypes:=ts})(hf:ev T f=some fv)
    (hxs:lG T xs.toList=some vs)(hc:callee vs fv=some (g,args.map .p))(hg:an P g=true)(hp:Pure P g args r):aa P N o T H (.p r) H:=by
 intro R w I ρ a hi hT K QX hK
 refine⟨bQ,?_⟩
 rw[bT _ _ _ (by simp[ho])]
 obtain⟨us,h1,h2⟩:=ep ho hT hf hxs hc hg
 rw[h2]
 have h1':aj P w I [] (args.map .p) us:=aj.pure.2 (aj.pure.1 h1)
 refine⟨(fun h=>by cases h),?_⟩
 refine CallsIn.mono (cK R (hp w I [] us hi.nothing h1')) ?_
 rintro e w' ⟨u,v,J,σ,H',rfl,⟨rfl,rfl⟩,h3,h4,h5⟩
 have hσ:σ=[]:=ZD h4.len
 subst hσ
 obtain⟨h6,h7⟩:=Inv.frame hi h3 h4
 exact hK u w' J ρ h6 h7 h5
theorem aa.ir{f:Operand}{xs:Array Operand}{ts:Array TypeId}{fv:V}{vs all:List V}{g:FuncId}{v:V}{H':List ak}(ho:o.op= .call {callee:= .value f,args:=xs,argTypes:=ts})(hf:ev T f=some fv)
    (hxs:lG T xs.toList=some vs)(hc:callee vs fv=some (g,all))(hg:an P g=true)(hp:aE P g all H fun v' H''=>v'=v∧H''=H'):aa P N o T H v H':=by
 intro R w I ρ a hi hT K QX hK
 refine⟨bQ,?_⟩
 rw[bT _ _ _ (by simp[ho])]
 obtain⟨us,h1,h2⟩:=ep ho hT hf hxs hc hg
 rw[h2]
 refine⟨(fun h=>by cases h),?_⟩
 refine CallsIn.mono (cK R (hp w I ρ us hi h1)) ?_
 rintro e w' ⟨u,v',J,σ,H2,rfl,⟨rfl,rfl⟩,h3,h4,h5⟩
 exact hK u w' J σ h3 h4 h5
theorem fE.none_{fn:Func}(h:fn.results= #[]):fE P N fn T H (.p (.tuple [])):=
 fun w I ρ a hi ht=>⟨.tuple #[],by simp[results,h],⟨#[],rfl,by simp[aW]⟩⟩
def pT(P:Program)(T:Tm)(H:List ak):ResultVar->V->Prop
 | .tmp t,v=>lk T t=some v
 | .cell s ty,v=>∃ p b n,lk T s=some p∧fN P ty=some (b,n)∧di H b n p=some v
theorem C3{w:World}{I:Nat->Prop}{ρ:List Nat}{a:Array Value}{r:ResultVar}{v:V}(hi:Inv P w I ρ H)(ht:bR P w I ρ N T a)(h:pT P T H r v):
    ∃ u,(match r with | .tmp t=>pure (a.getD t undef) | .cell addr ty=>do loadVar ty (<- asAddr (a.getD addr undef)):Sem Value).run P w= .ok u w∧aG P w I ρ v u:=by
 cases r with
 | tmp t=>exact⟨_,rfl,ht.at_ t v h⟩
 | cell s ty=>
  obtain⟨p,b,n,h1,h2,h3⟩:=h
  obtain⟨ad,u',h4,h5,h6⟩:=x6 h2 hi (ht.at_ s p h1) h3
  exact⟨u',by simp only[h4,asAddr,Sem.run_bind,Sem.run_pure,Result.andThen];exact h5,h6⟩
end
section
variable {P:Program} {R:Option Nat} {N κ:Nat} {Q Q':Post} {T T':Tm} {H:List ak} {o:Oper}
def ki(vs:List V):V:=match jS vs with
 | some xs=> .p (.tuple xs)
 | none=> .tuple vs
theorem aG.ki{w:World}{I:Nat->Prop}{ρ:List Nat}{vs:List V}{us:Array Value}(h:aj P w I ρ vs us.toList):aG P w I ρ (ki vs) (.tuple us):=by
 unfold AF.ki
 exact SK
def Ws(a:Array Value):ResultVar->Sem Value
 | .tmp t=>pure (a.getD t undef)
 | .cell ad t=>do loadVar t (<- asAddr (a.getD ad undef))
theorem wG(fn:Func)(a:Array Value):results fn a=fn.results.mapM (Ws a)>>=fun vs=>pure (if h:vs.size=1 then vs[0] else .tuple vs):=by
 unfold results
 congr 1
def Ak(P:Program)(T:Tm)(H:List ak):List ResultVar->List V->Prop
 | [],vs=>vs=[]
 | r::rs,vs=>∃ v vs',vs=v::vs'∧pT P T H r v∧Ak P T H rs vs'
theorem wj{w:World}{I:Nat->Prop}{ρ:List Nat}{a:Array Value}(hi:Inv P w I ρ H)(ht:bR P w I ρ N T a):∀{rs:List ResultVar} {vs:List V},Ak P T H rs vs->
    ∃ us,(rs.mapM (Ws a)).run P w= .ok us w∧aj P w I ρ vs us
 | [],vs,h=>⟨[],by simp,by simp[Ak] at h;subst h;rfl⟩
 | r::rs,vs,h=>by
  obtain⟨v,vs',rfl,h1,h2⟩:=h
  obtain⟨u,h3,h4⟩:=C3 hi ht h1
  obtain⟨us,h5,h6⟩:=wj hi ht h2
  refine⟨u::us,?_,u,us,rfl,h4,h6⟩
  simp only[List.mapM_cons,Sem.run_bind]
  have h7:(Ws a r).run P w= .ok u w:=by cases r <;> exact h3
  rw[h7]
  simp only[Result.andThen,h5]
  rfl
theorem fE.one{fn:Func}{r:ResultVar}{v:V}(h:fn.results= #[r])(hr:pT P T H r v):fE P N fn T H v:=by
 intro w I ρ a hi ht
 obtain⟨us,h1,h2⟩:=wj hi ht (rs:=[r]) (vs:=[v]) ⟨v,[],rfl,hr,rfl⟩
 obtain⟨u,rfl,h3⟩:=aj.Y4 h2
 refine⟨u,?_,h3⟩
 simp only[wG,h,Array.mapM_eq_mapM_toList,Sem.run_bind,Sem.run_map,Result.andThen]
 rw[h1]
 rfl
theorem fE.many{fn:Func}{r1 r2:ResultVar}{rs:List ResultVar}{vs:List V}(h:fn.results=(r1::r2::rs).toArray)(hr:Ak P T H (r1::r2::rs) vs):fE P N fn T H (ki vs):=by
 intro w I ρ a hi ht
 obtain⟨us,h1,h2⟩:=wj hi ht hr
 refine⟨.tuple us.toArray,?_,aG.ki (by simpa using h2)⟩
 have hl:us.length=rs.length+2:=by
  have h3:=aj.length h2
  have:∀{rs:List ResultVar} {vs:List V},Ak P T H rs vs->vs.length=rs.length:=by
   intro rs
   induction rs with
   | nil=>intro vs h;simp[Ak] at h;simp[h]
   | cons r rs ih=>intro vs h;obtain⟨v,vs',rfl,_,h⟩:=h;simp[ih h]
  rw[h3,this hr];simp
 simp only[wG,h,Array.mapM_eq_mapM_toList,Sem.run_bind,Sem.run_map,Result.andThen]
 rw[h1]
 simp only[Sem.run_pure]
 rw[dif_neg (by simp;omega)]
end
end Go.AF
end
end
