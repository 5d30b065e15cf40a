/-
 Abstract values and what they say of a world; control, operations, calls. No condition; generic over any program.
-/
import Derived.KernelRfl
import Derived.TacticsIn
import Derived.OrdersIn
import Derived.RangeFuncLeaves
import Derived.RangeFuncRecord
import Derived.Laws.World
import Derived.Laws.Cells
import Derived.Laws.BitsLemmas
import Derived.ChangeKeysEq
theorem Za:type_of% @List.getElem?_eq_some_iff:= @List.getElem?_eq_some_iff
theorem Zb:type_of% @List.getElem?_eq_getElem:= @List.getElem?_eq_getElem
theorem Zc:type_of% @List.getElem?_append_left:= @List.getElem?_append_left
theorem Zd:type_of% @List.length_append:= @List.length_append
theorem Ze:type_of% @Nat.le_refl:= @Nat.le_refl
theorem Zf:type_of% @List.getD_eq_getElem?_getD:= @List.getD_eq_getElem?_getD
theorem Zg:type_of% @List.mem_cons_of_mem:= @List.mem_cons_of_mem
theorem Zh:type_of% @List.mem_of_getElem?:= @List.mem_of_getElem?
theorem Zi:type_of% @List.getElem?_append_right:= @List.getElem?_append_right
theorem Zj:type_of% @decide_eq_true_eq:= @decide_eq_true_eq
theorem Zk:type_of% @Bool.and_eq_true:= @Bool.and_eq_true
theorem Zl:type_of% @Option.map_eq_some_iff:= @Option.map_eq_some_iff
theorem Zm:type_of% @of_decide_eq_true:= @of_decide_eq_true
theorem Zn:type_of% @List.length_cons:= @List.length_cons
theorem Zo:type_of% @List.length_map:= @List.length_map
theorem Zp:type_of% @List.mem_append:= @List.mem_append
theorem Zq:type_of% @List.mem_cons_self:= @List.mem_cons_self
theorem Zr:type_of% @List.mem_cons:= @List.mem_cons
theorem Zs:type_of% @of_decide_eq_false:= @of_decide_eq_false
theorem Zt:type_of% @List.getElem?_map:= @List.getElem?_map
theorem Zu:type_of% @List.getElem?_set:= @List.getElem?_set
theorem Zv:type_of% @Nat.zero_le:= @Nat.zero_le
theorem Zw:type_of% @Nat.lt_iff_add_one_le:= @Nat.lt_iff_add_one_le
theorem Zx:type_of% @List.map_cons:= @List.map_cons
theorem Zy:type_of% @Nat.pow_le_pow_right:= @Nat.pow_le_pow_right
theorem Zz:type_of% @List.all_eq_true:= @List.all_eq_true
theorem ZA:type_of% @List.eq_nil_of_length_eq_zero:= @List.eq_nil_of_length_eq_zero
theorem ZB:type_of% @Option.some.inj:= @Option.some.inj
theorem ZC:type_of% @List.nodup_cons:= @List.nodup_cons
theorem ZD:type_of% @Nat.lt_or_ge:= @Nat.lt_or_ge
theorem ZE:type_of% @List.getElem?_eq_none:= @List.getElem?_eq_none
theorem ZF:type_of% @List.mem_append_right:= @List.mem_append_right
theorem ZG:type_of% @List.map_append:= @List.map_append
theorem ZH:type_of% @List.append_assoc:= @List.append_assoc
theorem ZI:type_of% @List.prefix_refl:= @List.prefix_refl
theorem ZJ:type_of% @List.mem_singleton:= @List.mem_singleton
theorem ZK:type_of% @Nat.add_sub_cancel_left:= @Nat.add_sub_cancel_left
theorem ZL:type_of% @List.flatMap_cons:= @List.flatMap_cons
theorem ZM:type_of% @Nat.one_mul:= @Nat.one_mul
theorem ZN:type_of% @Array.getElem?_eq_some_iff:= @Array.getElem?_eq_some_iff
theorem ZO:type_of% @Nat.eq_of_beq_eq_true:= @Nat.eq_of_beq_eq_true
theorem ZP:type_of% @Nat.le_of_ble_eq_true:= @Nat.le_of_ble_eq_true
theorem ZQ:type_of% @List.getElem?_take:= @List.getElem?_take
theorem ZR:type_of% @Nat.lt_of_lt_of_le:= @Nat.lt_of_lt_of_le
theorem ZS:type_of% @List.take_length:= @List.take_length
theorem ZT:type_of% @Nat.le_trans:= @Nat.le_trans
theorem ZU:type_of% @List.append_nil:= @List.append_nil
theorem ZV:type_of% @List.mem_append_left:= @List.mem_append_left
theorem ZW:type_of% @List.nodup_append:= @List.nodup_append
theorem ZX:type_of% @List.take_succ_eq_append_getElem:= @List.take_succ_eq_append_getElem
theorem ZY:type_of% @Int.mul_le_mul_of_nonneg_left:= @Int.mul_le_mul_of_nonneg_left
theorem ZZ:type_of% @List.getElem_mem:= @List.getElem_mem
theorem x7:type_of% @List.length_take:= @List.length_take
theorem xe:type_of% @List.mem_range:= @List.mem_range
theorem yd:type_of% @List.length_set:= @List.length_set
theorem Gj:type_of% @Array.length_toList:= @Array.length_toList
theorem HK:type_of% @Nat.mul_le_mul_right:= @Nat.mul_le_mul_right
theorem GU:type_of% @List.getElem?_set_ne:= @List.getElem?_set_ne
theorem Gg:type_of% @List.ext_getElem?:= @List.ext_getElem?
theorem Gc:type_of% @Bool.not_eq_true':= @Bool.not_eq_true'
theorem JP:type_of% @List.flatMap_append:= @List.flatMap_append
theorem On:type_of% @Nat.lt_succ_iff_lt_or_eq:= @Nat.lt_succ_iff_lt_or_eq
theorem Ky:type_of% @Nat.eq_of_testBit_eq:= @Nat.eq_of_testBit_eq
theorem xo:type_of% @List.map_nil:= @List.map_nil
theorem He:type_of% @Int.toNat_natCast:= @Int.toNat_natCast
theorem OB:type_of% @List.take_of_length_le:= @List.take_of_length_le
theorem yy:type_of% @Nat.zero_add:= @Nat.zero_add
theorem yu:type_of% @List.mem_map:= @List.mem_map
theorem HL:type_of% @List.not_mem_nil:= @List.not_mem_nil
theorem Kw:type_of% @Bool.false_eq_true:= @Bool.false_eq_true
theorem K4:type_of% @Nat.testBit_two_pow:= @Nat.testBit_two_pow
theorem Ko:type_of% @List.length_range:= @List.length_range
theorem RU:type_of% @List.getElem?_take_of_lt:= @List.getElem?_take_of_lt
theorem Ti:type_of% @Nat.testBit_two_pow_mul_add:= @Nat.testBit_two_pow_mul_add
theorem IN:type_of% @List.length_nil:= @List.length_nil
theorem IS:type_of% @List.nil_append:= @List.nil_append
theorem At:type_of% @Int.le_refl:= @Int.le_refl
theorem Kv:type_of% @Nat.min_eq_left:= @Nat.min_eq_left
theorem NF:type_of% @List.cons_append:= @List.cons_append
theorem LR:type_of% @Option.getD_some:= @Option.getD_some
theorem Pz:type_of% @List.getElem_of_mem:= @List.getElem_of_mem
theorem Oo:type_of% @List.mem_range'_1:= @List.mem_range'_1
theorem UL:type_of% @decide_eq_false_iff_not:= @decide_eq_false_iff_not
theorem US:type_of% @List.length_eq_zero_iff:= @List.length_eq_zero_iff
theorem EV:type_of% @Nat.add_mul:= @Nat.add_mul
theorem RX:type_of% @Nat.pow_lt_pow_right:= @Nat.pow_lt_pow_right
theorem NC:type_of% @Bool.or_eq_true:= @Bool.or_eq_true
theorem N8:type_of% @Nat.testBit_and:= @Nat.testBit_and
theorem TG:type_of% @Nat.testBit_lt_two_pow:= @Nat.testBit_lt_two_pow
theorem VZ:type_of% @List.take_append_of_le_length:= @List.take_append_of_le_length
theorem Qe:type_of% @List.any_eq_false:= @List.any_eq_false
theorem Qu:type_of% @Nat.or_lt_two_pow:= @Nat.or_lt_two_pow
theorem Ml:type_of% @List.take_zero:= @List.take_zero
theorem R8:type_of% @List.getElem?_drop:= @List.getElem?_drop
theorem Uf:type_of% @List.mem_of_mem_take:= @List.mem_of_mem_take
theorem U7:type_of% @Int.eq_ofNat_of_zero_le:= @Int.eq_ofNat_of_zero_le
theorem Y3:type_of% @List.findIdx?_eq_some_iff_getElem:= @List.findIdx?_eq_some_iff_getElem
theorem Nt:type_of% @Nat.add_assoc:= @Nat.add_assoc
theorem Kk:type_of% @Nat.add_zero:= @Nat.add_zero
theorem Oy:type_of% @Nat.testBit_or:= @Nat.testBit_or
theorem R1:type_of% @List.flatten_cons:= @List.flatten_cons
theorem OI:type_of% @List.drop_drop:= @List.drop_drop
theorem R9:type_of% @List.foldl_append:= @List.foldl_append
theorem Q4:type_of% @Option.map_some:= @Option.map_some
theorem PE:type_of% @Nat.two_pow_pos:= @Nat.two_pow_pos
theorem XN:type_of% @List.drop_eq_getElem_cons:= @List.drop_eq_getElem_cons
theorem UX:type_of% @List.length_replicate:= @List.length_replicate
theorem R0:type_of% @List.length_drop:= @List.length_drop
theorem TC:type_of% @Nat.eq_zero_or_pos:= @Nat.eq_zero_or_pos
theorem TI:type_of% @List.length_range':= @List.length_range'
theorem OQ:type_of% @List.nodup_nil:= @List.nodup_nil
theorem Ku:type_of% @Nat.mul_one:= @Nat.mul_one
theorem U2:type_of% @List.getElem?_range':= @List.getElem?_range'
theorem WB:type_of% @List.prefix_iff_eq_take:= @List.prefix_iff_eq_take
theorem Vl:type_of% @List.replicate_succ:= @List.replicate_succ
theorem U4:type_of% @List.map_congr_left:= @List.map_congr_left
theorem U9:type_of% @Int.toNat_of_nonneg:= @Int.toNat_of_nonneg
theorem Oz:type_of% @Nat.le_of_eq:= @Nat.le_of_eq
theorem OE:type_of% @List.map_map:= @List.map_map
theorem Qi:type_of% @List.sum_cons:= @List.sum_cons
theorem TM:type_of% @Nat.mod_eq_of_lt:= @Nat.mod_eq_of_lt
theorem Ui:type_of% @Nat.le_add_right:= @Nat.le_add_right
theorem YX:type_of% @Array.toList_setIfInBounds:= @Array.toList_setIfInBounds
theorem U3:type_of% @List.prefix_append:= @List.prefix_append
theorem Yp:type_of% @Int.tdiv_eq_ediv_of_nonneg:= @Int.tdiv_eq_ediv_of_nonneg
theorem Yf:type_of% @Array.getElem?_modify:= @Array.getElem?_modify
theorem Xy:type_of% @List.take_append_drop:= @List.take_append_drop
theorem Sq:type_of% @List.foldl_cons:= @List.foldl_cons
theorem OX:type_of% @Nat.sub_self:= @Nat.sub_self
theorem XY:type_of% @Bool.or_eq_false_iff:= @Bool.or_eq_false_iff
theorem Y1:type_of% @List.take_append_getElem:= @List.take_append_getElem
theorem XM:type_of% @List.getElem?_range:= @List.getElem?_range
theorem Ww:type_of% @List.flatten_append:= @List.flatten_append
theorem YQ:type_of% @Nat.testBit_two_pow_mul:= @Nat.testBit_two_pow_mul
theorem YH:type_of% @List.drop_of_length_le:= @List.drop_of_length_le
theorem Yg:type_of% @Nat.lt_of_le_of_lt:= @Nat.lt_of_le_of_lt
theorem Wf:type_of% @Bool.not_eq_false':= @Bool.not_eq_false'
theorem Sv:type_of% @List.all_cons:= @List.all_cons
theorem Yw:type_of% @Array.contains_eq_mem:= @Array.contains_eq_mem
theorem Yr:type_of% @List.length_singleton:= @List.length_singleton
theorem XW:type_of% @List.getElem?_inj:= @List.getElem?_inj
theorem WG:type_of% @Array.size_append:= @Array.size_append
theorem VN:type_of% @Option.some.injEq:= @Option.some.injEq
theorem Xg:type_of% @List.filter_cons:= @List.filter_cons
theorem TJ:type_of% @Nat.succ_pos:= @Nat.succ_pos
theorem XH:type_of% @Nat.testBit_zero:= @Nat.testBit_zero
theorem Vg:type_of% @Int.add_zero:= @Int.add_zero
theorem Vi:type_of% @Nat.pow_succ:= @Nat.pow_succ
theorem DM{A:Prop}(h:A:=by
 have gen:∀(bs:List Bool) (k:Nat),k<=bs.length->(∀ i b,bs[i]? =some b->b=decide (i<k))->bs.count false+k=bs.length:=by
  intro bs
  induction bs with
  | nil=>intro k hk _;simp at hk;simp[hk]
  | cons b bs ih=>
   intro k hk hb
   have hb0:=hb 0 b rfl
   cases k with
   | zero=>
    have:=ih 0 (by omega) (fun i c hc=>by have:=hb (i+1) c (by simpa using hc);simpa using this)
    simp at hb0
    subst hb0
    simp at this ⊢
    omega
   | succ k=>
    have:=ih k (by simpa using hk) (fun i c hc=>by have:=hb (i+1) c (by simpa using hc);simpa using this)
    simp at hb0
    subst hb0
    simp at this ⊢
    omega
 have:=gen listed.toList m (by simpa[hsz] using hm) (fun i b hb=>by
  have:=hfl i
  unfold fl at this
  simp at hb
  rw[<- this]
  simp[hb])
 rw[mE] at this
 simpa[hsz] using this):A:=h
theorem D9{A:Prop}(h:A:=by
 obtain⟨k1,k2⟩:=hk.look (fun j=>decide (j=i)||fl listed j) vf i j o oj s ho hj hs' hd (Ne.symm hji)
 rcases Nat.lt_trichotomy j i with h | h | h
 ·have:=k1 h (by simp)
  simp[hji] at this
  simp[this,h]
 ·exact absurd h hji
 ·have Tc:=hk.look (fl listed) hcl i j o oj s ho hj hs' hd (Ne.symm hji)
  cases tU:fl listed j with
  | false=>simp;omega
  | true=>have:=Tc.2 h tU;rw[tB] at this;cases this):A:=h
theorem BS{A:Prop}(h:A:=by
 exact⟨k2.trans h3.os,k3.trans h3.tape,k4.trans h3.output,by rw[k5];exact h3.size,fun b hb hn=>(hlow b hb).trans (h3.keep b hb hn),
  fun b s hs=>ks b s (h3.shape b s hs),h3.lu,fun b hb=>(kI b (h3.lu b hb)).trans (h3.bf b hb),h3.ew,fun b hb=>(hlow b (ZN.1 hb).1).trans (h3.cL b hb),h3.j9,h3.new⟩):A:=h
theorem CK{A:Prop}(h:A:=by
 subst SU
 have e1:tl l T vs (fl (listed.setIfInBounds i true)) d=some (vs i):=qV hk ho (by rw[gO (by omega)];simp) hd
 rw[e1] at hv
 cases hv
 have h6:d<a.tmps.size:=by rw[hs];exact hlt
 simpa[Act.put,h6] using hu):A:=h
theorem Bh{A:Prop}(h:A:=by
 have hlt:i<listed.size:=by omega
 have h5:listed.toList[i]? =some false:=by
  unfold fl at tB
  simp[hlt] at tB ⊢
  exact tB
 have:=count_set listed.toList i h5
 rw[YX]
 omega):A:=h
theorem DV{A:Prop}(h:A:=by
 rw[gO (by omega)]
 have:j≠i:=fun e=>by
  subst e
  rw[ho] at hj;cases hj
  rw[hd] at Pm;cases Pm
  exact SU rfl
 simp[this]):A:=h
theorem Ay{A:Prop}(h:A:=by
 intro w hn hr h
 simp only[Zx,LeavesInM]
 refine⟨by simp,.inl ⟨r,w.putObj r (.deferred none),rfl,run_takeDeferred (hr r (by simp)),?_⟩⟩
 exact BL):A:=h
theorem EK{A:Prop}(h:A:=by
 rw[gO (by omega)]
 have:j≠i:=fun e=>by
  subst e
  rw[ho] at hj;cases hj
  rw[hd] at Pm;cases Pm
 simp[this]):A:=h
theorem EI{A:Prop}(h:A:=by
 intro hJ
 rcases h3.w.ew b hJ with h | h | h
 ·exact hi.live i b blk g1 k2 g3 h
 ·exact JL i b blk g1 k2 g3 k1 h
 ·have:=hi.gf i b blk g1 k2 g3;omega):A:=h
theorem AJ{A:Prop}(h:A:=by
 have h2:=ag.pure.1 (ag.ext hE hr)
 refine aT.nO xs _ 0 h2 fun j u hj=> ?_
 rw[ZQ] at hj
 split at hj
 ·exact pJ
 ·cases hj):A:=h
theorem Cp{A:Prop}(h:A:=by
 refine Inv.aO hi1 _ ⟨eM,heap_alloc_new _ _,?_,ag.ext oO (ag.ext xH ?_)⟩
 ·exact Cq
 ·exact Dr):A:=h
theorem u9{A:Prop}(h:A:=by
 have h1:=Nat.le_mul_of_pos_right (2*n+192) hb0
 exact uX):A:=h
theorem BY{A:Prop}(h:A:=by
 simp only[x7,Gj];rw[hsz];exact Kv (HK _ hle)):A:=h
theorem uF{A:Prop}(h:A:=by
 exact ZR (hi.gf i b blk g1 k2 g3) h3.w.size):A:=h
theorem uJ{A:Prop}(h:A:=by
 unfold fl
 by_cases hlt:q<l.length <;> simp[hlt]):A:=h
theorem EL{A:Prop}(h:A:=by
 intro j oj hj tU e hee hb
 rw[gO (by omega)] at tU ⊢
 exact vf j oj hj tU e hee hb):A:=h
theorem Ch{A:Prop}(h:A:=by
 intro j hj
 rw[gO (by omega),xD j hj]
 have:¬ j=i:=by omega
 simp[this]):A:=h
theorem DN{A:Prop}(h:A:=by
 refine⟨I,ρ,Ext.drew.w,hi',ht.size,fun s v hv=> ?_,hmk.ext Ext.drew⟩
 exact vX):A:=h
theorem mR{A:Prop}(h:A:=by
 intro u w' I' ρ' he' hinv' hu
 refine ih (listed.setIfInBounds i true) (a.put o.dst u) w' ?_ (by simp[hsz]) ?_ ?_ ?_
 ·exact Bh
 ·exact EL
 ·exact Ch
 ·refine⟨I',ρ',he.trans he'.w,hinv',by cases o.dst <;> simp[Act.put,hs],fun s v hv=> ?_,(hmk.ext he').put⟩
  cases hd:o.dst with
  | none=>
   have e1:tl l T vs (fl (listed.setIfInBounds i true)) s=tl l T vs (fl listed) s:=gS hk fun j oj hj Pm=>by
    exact EK
   rw[e1] at hv
   exact(cu s v hv).ext he'
  | some d=>
   have hlt:d<N:=by
    rw[hd] at sO
    simpa[aZ,Nat.blt,Zw] using sO
   by_cases SU:d=s
   ·exact CK
   ·have e1:tl l T vs (fl (listed.setIfInBounds i true)) s=tl l T vs (fl listed) s:=gS hk fun j oj hj Pm=>by
      exact DV
    rw[e1] at hv
    have:=(cu s v hv).ext he'
    simpa[Act.put,SU] using this):A:=h
theorem qC{A:Prop}(h:A:=by
 have hfl:∀ i,fl listed i=decide (i<m):=fun i=>by
  by_cases h:i<m
  ·rw[hall i h];simp[h]
  ·rw[xD i (by omega)];simp[h]
 have Fe:fuel+m=l.length:=by
  exact DM
 refine sy hk fuel m listed a w Fe (Ze _) hsz (fun i _=>hfl i) (hK a w I ρ he hi ⟨hs,fun s v hv=>cu s v ?_⟩ hmk)
 rw[<- hv,hlk m (Ze _)]
 exact gS hk fun j o hj hd=>hfl j):A:=h
theorem mK{A:Prop}(h:A:=by
 intro s v hv
 unfold bE at hv
 rw[lX] at hv
 split at hv
 ·rename_i hs'
  rw[hlk i (by omega)] at hv
  refine cu s v ?_
  rw[<- hv]
  refine gS hk fun j oj hj hd=> ?_
  by_cases hji:j=i
  ·subst hji;rw[tB];simp
  ·exact D9
 ·cases hv):A:=h
theorem AG{A:Prop}(h:A:=by
 refine⟨?_,fun i b blk g1 g2 g3=> ?_,h4.ib,fun i b blk g1 g2 g3=> ?_,fun i i' b x y g1 g2 g3 g4 g5 g6=> ?_,fun i b blk g1 g2=> ?_,h4.gl⟩
 ·unfold bh
  rw[Zd,Zd,SO,Zo,R0,hi.len]
  omega
 ·rcases JD i blk g2 g3 with⟨j,x,k1,rfl,k3,k4⟩ | ⟨k0,k1,k2⟩
  ·exact h4.gf j b x (by rw[k3];exact g1) k1 (by rwa [bY] at g3)
  ·rw[Zc (by rw[hi.len];exact k0)] at g1
   exact uF
 ·rcases JD i blk g2 g3 with⟨j,x,k1,rfl,k3,k4⟩ | ⟨k0,k1,k2⟩
  ·exact h4.live j b x (by rw[k3];exact g1) k1 (by rwa [bY] at g3)
  ·rw[Zc (by rw[hi.len];exact k0)] at g1
   exact EI
 ·rcases JD i x g3 g5 with⟨j,x',k1,rfl,k3,k4⟩ | ⟨k0,k1,k2⟩ <;> rcases JD i' y g4 g6 with⟨j',y',m1,rfl,m3,m4⟩ | ⟨m0,m1,m2⟩
  ·rw[bY] at g5 g6
   have:=h4.fK j j' b x' y' (by rw[k3];exact g1) (by rw[m3];exact g2) k1 m1 g5 g6
   subst this
   rcases k4 with k4 | ⟨k4,k5⟩ <;> rcases m4 with m4 | ⟨m4,m5⟩
   ·rw[k4] at m4;exact ZB m4
   ·have:=(Za.1 k4).1;omega
   ·have:=(Za.1 m4).1;omega
   ·omega
  ·rw[Zc (by rw[hi.len];exact m0)] at g2
   exact absurd (Zh (by rw[k3];exact g1)) (hout i' b y g2 m2 g6 m1)
  ·rw[Zc (by rw[hi.len];exact k0)] at g1
   exact absurd (Zh (by rw[m3];exact g2)) (hout i b x g1 k2 g5 k1)
  ·rw[Zc (by rw[hi.len];exact k0)] at g1
   rw[Zc (by rw[hi.len];exact m0)] at g2
   exact hi.fK i i' b x y g1 g2 k2 m2 g5 g6
 ·cases hlv:blk.live with
  | false=>exact cN.gh hlv
  | true=>
   rcases JD i blk g2 hlv with⟨j,x,k1,rfl,k3,k4⟩ | ⟨k0,k1,k2⟩
   ·exact jC hτ (h4.rel j b x (by rw[k3];exact g1) k1)
   ·rw[Zc (by rw[hi.len];exact k0)] at g1
    exact cN.mono h3.w.lu h3.w.bf ⟨ext,rfl⟩ (fun b _ s hs=>h3.w.shape b s hs) (h3.w.keep b (hi.gf i b blk g1 k2 hlv) (JL i b blk g1 k2 hlv k1)) (hi.rel i b blk g1 k2)):A:=h
theorem nF{A:Prop}(h:A:=by
 have uC:=l7 pE Av Et hb hc
 simp only[Region.wanted,hg,uC]
 cases c with
 | true=>
  simp only[if_true]
  obtain⟨T2,hsub,hop⟩:=hop rfl
  exact hop R w I ρ a hinv (Av.rF hsub) _ _ fun u w' I' ρ' he' hi' hu=>next u w' I' ρ' he' hi' (by rw[hv];exact⟨fun _=>hu,(fun h=>by cases h)⟩)
 | false=>
  simp only[Kw,if_false]
  exact⟨bB,next undef w I ρ (Ext.refl _ _ _) hinv (by rw[hv];exact⟨(fun h=>by cases h),fun _=>rfl⟩)⟩):A:=h
theorem mW{A:Prop}(h:A:=by
 have hex:∃ i,i<m∧fl listed i=false:=by
  refine Classical.byContradiction fun hno=>hall fun i hi=> ?_
  cases h:fl listed i with
  | true=>rfl
  | false=>exact absurd ⟨i,hi,h⟩ hno
 obtain⟨k,⟨h3,h4⟩,h5⟩:=exists_least _ hex
 refine⟨k,⟨h3,h4⟩,fun j hj=> ?_⟩
 cases h:fl listed j with
 | true=>rfl
 | false=>have:=h5 j ⟨by omega,h⟩;omega):A:=h
theorem BF{A:Prop}(h:A:=by
 have h0:ag P w I ρ (cs++List.replicate ys.length .top) (arr.toList.take (cs++List.replicate ys.length V.top).length):=by
  have e1:arr.toList.take (cs++List.replicate ys.length V.top).length=arr.toList.take cs.length++(arr.toList.drop cs.length).take ys.length:=by
   rw[Zd,UX,List.take_add]
  rw[e1]
  refine ag.append har ?_
  have e2:((arr.toList.drop cs.length).take ys.length).length=ys.length:=by
   simp only[x7,R0,Gj]
   rw[hcs,<- uC,hlen,hsz,<- Nat.sub_mul]
   exact Kv (HK _ (by omega))
  have:=ag.WZ (P:=P) (w:=w) (I:=I) (ρ:=ρ) ((arr.toList.drop cs.length).take ys.length)
  rw[e2] at this
  exact this
 have:=jN (P:=P) (w:=w') (I:=I) (ρ:=ρ) ys us (cs++List.replicate ys.length .top) arr.toList (len*z.length+0) (ag.ext hE cu) (by simp[hcs]) (ag.ext hE h0)
 have e3:=qT cs ys (List.replicate ys.length .top) [] (by simp)
 simp only[ZU,IN] at e3
 rw[Kk,<- hcs] at this
 rw[Kk] at e3
 rw[e3] at this
 rw[r4,Kk,<- hcs]
 have e4:(cs++List.replicate ys.length V.top).length=(cs++ys).length:=by simp
 rw[e4] at this
 exact this):A:=h
theorem uN{A:Prop}(h:A:=by
 obtain⟨h1,h2,h3,rs,h4,h5,h6⟩:=hm.ext hE
 refine⟨h1,h2,h3,w.heap.size::rs,by simp[h4],ZC.2 ⟨fun hmem=> ?_,h5⟩,fun r hr=> ?_⟩
 ·obtain⟨rs',g4,g5,g6⟩:=hm.2.2.2
  have e:rs'=rs:=by
   have:=List.append_cancel_right (g4.symm.trans h4)
   exact(List.map_inj_right (fun x y hxy=>by simpa using hxy)).1 this
  subst e
  have:=(ZN.1 (g6 _ hmem).1).1
  omega
 ·rcases Zr.1 hr with rfl | hr
  ·refine⟨?_,fun hI=>by have:=hi.ib _ hI;omega,hm.1⟩
   rw[heap_alloc_old _ _ (by simp)]
   exact heap_alloc_new w _
  ·exact h6 r hr):A:=h
theorem ng{A:Prop}(h:A:=by
 intro listed a w mE hsz hcl xD hsi
 refine done 0 listed a w mE hsz xD (fun i hi=> ?_) hsi
 have hlt:i<listed.size:=by omega
 have h2:=List.count_eq_zero.1 mE
 unfold fl
 cases h3:listed[i] with
 | true=>simp[hlt,h3]
 | false=>exact absurd (by rw[<- h3];exact Array.mem_toList_iff.2 (Array.getElem_mem hlt)) h2):A:=h
theorem A2{A:Prop}(h:A:=by
 unfold bh at h
 rcases ZD i H.length with hil | hil
 ·rw[Zc (by rw[SO];exact hil)] at h
  rcases kO ks _ H i blk hks.2 (by rw[Zo,x7];omega) h with⟨j,g1,g2⟩ | ⟨g1,g2⟩
  ·left
   rw[Zt,Zl] at g2
   obtain⟨x,g3,rfl⟩:=g2
   have HI:=(Za.1 g1).1
   rw[RU HI] at g3
   rw[bY] at hlv
   have dV:(H.getD i .dead).live=true:=by
    cases hl:(H.getD i .dead).live with
    | true=>rfl
    | false=>rw[Rj j i x g1 hl g3] at hlv;cases hlv
   refine⟨j,x,g3,rfl,?_,.inl g1⟩
   rw[hleft j HI,qZ j i g1 dV,Zc (by rw[hi.len];exact hil)]
  ·exact .inr ⟨hil,g1,g2⟩
 ·left
  rw[Zi (by rw[SO];exact hil),SO,Zt,Zl] at h
  obtain⟨x,g3,rfl⟩:=h
  rw[R8] at g3
  obtain⟨m,rfl⟩:∃ m,i=H.length+m:=⟨i - H.length,by omega⟩
  rw[ZK] at g3
  exact⟨ks.length+m,x,g3,rfl,by rw[hright,zR],.inr ⟨by omega,by omega⟩⟩):A:=h
theorem nc{A:Prop}(h:A:=by
 refine⟨by simp;omega,fun s v hv=> ?_⟩
 have:=mZ args us 0 [] (List.replicate (fn.ntmps - us.length) undef) rfl fT s v hv
 have e:us.toArray++Array.replicate (fn.ntmps - us.toArray.size) undef=([]++us++List.replicate (fn.ntmps - us.length) undef).toArray:=by simp
 rw[e];exact this):A:=h
theorem Bi{A:Prop}(h:A:=by
 intro B w I ρ a hi ht hmk
 obtain⟨vs,Tx,q,h0,FF,_,h1,h2⟩:=ay.vals h
 have hq:q<m:=by have:=FF rfl;simp at this;omega
 have hlen:(l.take m).length=m:=by simp;omega
 rw[hlen] at h2
 refine wpIn_region_any EX ?_
 have hi':Inv P w.drew I ρ H:=hi.drew
 refine E9 (κ:=κ) (ff.of hk) hm hq (B:=B) (w0:=w) (I0:=I) (ρ0:=ρ) h0 (fun i o pH ho=>h1 i o (by rw[ZQ,if_pos pH];exact ho)) ?_ _ _ a w.drew (by simp) (by simp) ?_ ?_ ?_
 ·intro a' w' I' ρ' he hi2 jz hm2
  exact h2 _ B w' I' ρ' a' hi2 jz hm2 fun e a2 w2 q=>QC.ext he q
 ·intro i o ho hf
  have hlt:=bW ho
  simp[fl,hlt] at hf
 ·intro i _
  unfold fl
  by_cases hlt:i<l.length <;> simp[hlt]
 ·have e0:fl (Array.replicate l.length false) q=false:=by
    exact uJ
  refine⟨I,ρ,Ext.drew.w,by simpa[e0] using hi',ht.size,fun s v hv=> ?_,hmk.ext Ext.drew⟩
  rw[jQ (fun j o hj hf=>by
   unfold fl at hf
   by_cases hlt:j<l.length <;> simp[hlt] at hf)] at hv
  exact(ht.at_ s v hv).ext (Ext.drew (w:=w) (I:=I) (ρ:=ρ))):A:=h
theorem Ba{A:Prop}(h:A:=by
 rcases br h1 with⟨h7,h8⟩ | ⟨h7,h8⟩ <;> rcases br h2 with⟨h9,h10⟩ | ⟨h9,h10⟩
 ·rw[Zc (by simp[<- hi.len];exact h7)] at h3
  rw[Zc (by simp[<- hi.len];exact h9)] at h4
  exact hi1.fK j j' k bx by2 h8 h10 h3 h4 h5 h6
 ·subst h10
  rw[Zc (by simp[<- hi.len];exact h7)] at h3
  exfalso
  by_cases hji:i=j
  ·subst hji
   simp[hilt] at h3
   subst h3
   cases h5
  ·rw[GU hji] at h3
   exact hji (hi.fK i j k _ bx hρ h8 hH h3 dV h5)
 ·subst h8
  rw[Zc (by simp[<- hi.len];exact h9)] at h4
  exfalso
  by_cases hji:i=j'
  ·subst hji
   simp[hilt] at h4
   subst h4
   cases h6
  ·rw[GU hji] at h4
   exact hji (hi.fK i j' k _ by2 hρ h10 hH h4 dV h6)
 ·omega):A:=h
theorem nE{A:Prop}(h:A:=by
 refine mem_ready.2 ⟨?_,(l[i0]'(by omega)),by rw[List.getElem?_toArray];exact Ks,fun e he hb=>hmin e.on (hk.back i0 _ Ks e he hb)⟩
 have:=vB.2
 unfold fl at this
 have hlt:i0<listed.size:=by omega
 simp[hlt] at this ⊢
 exact this):A:=h
theorem EE{A:Prop}(h:A:=by
 refine⟨by rw[jH,<- h0,Zo],fun j b blk h1 h2 h3=> ?_,hi.ib,fun j b blk h1 h2 h3=> ?_,fun j j' b x y h1 h2 h3 h4 h5 h6=> ?_,fun j b blk h1 h2=> ?_,hi.gl⟩
 ·obtain⟨i,x,h4,h5,rfl,h6⟩:=eK j b blk h1 h2
  rw[bY] at h3
  exact hi.gf i b x (h6 h3) h5 h3
 ·obtain⟨i,x,h4,h5,rfl,h6⟩:=eK j b blk h1 h2
  rw[bY] at h3
  exact hi.live i b x (h6 h3) h5 h3
 ·obtain⟨i,x',h7,h8,rfl,h9⟩:=eK j b x h1 h3
  obtain⟨i',y',k7,k8,rfl,k9⟩:=eK j' b y h2 h4
  rw[bY] at h5 h6
  have:=hi.fK i i' b x' y' (h9 h5) (k9 h6) h8 k8 h5 h6
  subst this
  exact(XW (Za.1 h7).1 hks.2).1 (h7.trans k7.symm)
 ·obtain⟨i,x,h4,h5,rfl,h6⟩:=eK j b blk h1 h2
  cases hl:x.live with
  | true=>exact jC hσ (hi.rel i b x (h6 hl) h5)
  | false=>exact cN.gh (by rw[bY];exact hl)):A:=h
theorem kV{A:Prop}(h:A:=by
 simp only[NC,Zj] at tU ⊢
 rcases tU with rfl | tU
 ·rw[ho] at hj;cases hj
  exact .inr (UW e he hb)
 ·exact .inr (hcl j oj hj tU e he hb)):A:=h
theorem BL{A:Prop}(h:A:=by
 have hnd:=ZC.1 hn
 have hput:∀ b,b≠r->(w.putObj r (.deferred none)).heap[b]? =w.heap[b]? :=fun b hb=>World.putObj_heap_other (fun e=>hb e)
 refine ih _ hnd.2 (fun r' h'=>(hput r' (fun e=>hnd.1 (e▸h'))).trans (hr r' (by simp[h']))) ?_
 intro w' h1 h2 h3 h4 h5
 refine h w' (fun b hb=> ?_) h2 h3 h4 (by rw[h5];simp)
 rw[h1 b (fun e=>hb (by simp[e])),hput b (fun e=>hb (by simp[e]))]):A:=h
theorem vX{A:Prop}(h:A:=by
 rw[jQ (fun j o hj hf=>by
  unfold fl at hf
  by_cases hlt:j<l.length <;> simp[hlt] at hf)] at hv
 exact(ht.at_ s v hv).ext (Ext.drew (w:=w) (I:=I) (ρ:=ρ))):A:=h
theorem nk{A:Prop}(h:A:=by
 rcases ZD i m with h | h
 ·exact h
 ·have:=hk.tail (fun j=>decide (j=i)||fl listed j) vf i h hilt (by simp) i0 (by omega)
  have hne:¬ i0=i:=by omega
  simp[hne,vB.2] at this):A:=h
theorem Es{A:Prop}(h:A:=by
 have e1:eM.toList.take (cs++ys).length=arr.toList.take cs.length++us:=by
   simp only[eM,Array.toList_append]
   rw[ZH,List.take_append]
   have ur:(arr.toList.take (len*z.length)).length=len*z.length:=by
    exact BY
   have e3:(cs++ys).length=len*z.length+us.length:=by rw[Zd,hcs,uC]
   simp only[ur,e3,hcs]
   rw[OB (by rw[ur];omega),ZK,VZ (Ze _),ZS]
 rw[e1]
 exact ag.append har cu):A:=h
theorem vT{A:Prop}(h:A:=by
 simp only[World.shape?]
 show(match (w.drew.alloc (.cells eM e)).heap[w.drew.heap.size]? with | some (.cells c elem _)=>some (elem,c.size) | _=>none)=_
 rw[heap_alloc_new]
 simp only[eM,WG,hce,Builtin.zeroCells]
 simp
 rw[hlen,I4,<- EV]
 congr 1
 omega):A:=h
theorem DE{A:Prop}(h:A:=by
 obtain⟨j,hj,e⟩:=Pz hb
 have HI:j<ks.length:=by rw[<- jH];exact hj
 have e2:ρ2[j]? =some b:=by rw[Zb hj,e]
 have hkj:=Zb HI
 have JW:=hi.gf i b x g1 g2 g3
 cases hl:(H.getD ks[j] .dead).live with
 | true=>
  rw[qZ j ks[j] hkj hl] at e2
  have h5:=hlt ks[j] (Zh hkj)
  have:=hi.fK i ks[j] b x _ g1 e2 g2 (oC _ h5) g3 hl
  rw[this] at g4
  exact g4 (ZZ _)
 | false=>
  rw[hρd j ks[j] hkj hl] at e2
  have:=ZB e2
  omega):A:=h
theorem CZ{A:Prop}(h:A:=by
 have:=run_loadCells_list (P:=P) w.drew ⟨b,0,none⟩ (arr.toList.take (len*z.length)) (fun j v hj=>by
  rw[cF,yy]
  rw[ZQ] at hj
  split at hj
  ·show w.cell? _=_
   simp only[World.cell?,hw]
   simpa using hj
  ·cases hj)
 have ur:(arr.toList.take (len*z.length)).length=len*z.length:=by
  exact BY
 rw[ur] at this
 simpa[Builtin.firstCells] using this):A:=h
theorem Cm{A:Prop}(h:A:=by
 unfold dK at h
 split at h
 ·rename_i i' hk
  split at h
  ·rename_i hl
   cases h
   have HI:=(Za.1 hk).1
   rw[hleft j HI,qZ j i hk hl] at hb
   exact qn ⟨ext,rfl⟩ hb
  ·cases h
 ·rename_i hk
  cases h
  have HI:ks.length<=j:=by simpa using hk
  obtain⟨m,rfl⟩:∃ m,j=ks.length+m:=⟨j - ks.length,by omega⟩
  rw[hright] at hb
  rw[ZK,zR]
  exact hb):A:=h
theorem kB{A:Prop}(h:A:=by
 simp only[Region.wanted,hg,if_true]
 exact hop R w I ρ a hinv Av _ _ next):A:=h
theorem Bz{A:Prop}(h:A:=by
 simp at hx
 obtain⟨k1,k2,k3⟩:=h1 i x hx
 refine⟨k1,?_,k3⟩
 rcases k2 with⟨k4,k5⟩ | ⟨k4,k5⟩
 ·exact .inl ⟨by omega,k5⟩
 ·have:=OG rfl
  have:=(Za.1 hx).1
  omega):A:=h
theorem DY{A:Prop}(h:A:=by
 obtain⟨_,⟨fn0,d0,hw0⟩,_⟩:=jK hi hH0
 rw[hl0] at hw0
 let ob:Obj:= .loop {state:= .ready,pending:=none,fn,tmps:=a.tmps,params:=ps,assign:=fj,body,defers:=d0}
 have hE:Ext w I ρ (w.alloc ob) I (ρ++[w.heap.size]):=Ext.aO hi ob
 refine⟨w.heap.size,[],_,sG hw0 fn a.tmps ps fj body,hE,Inv.aO hi ob ⟨rfl,⟨fn,d0,heap_alloc_new w ob⟩,fun s v hv=>(ht.at_ s v hv).ext hE⟩,hm.ext hE⟩):A:=h
theorem Dr{A:Prop}(h:A:=by
 have e1:eM.toList.take ys.length=us:=by
   simp only[eM,Array.toList_append]
   rw[IS,<- uC,VZ (Ze _)]
   exact ZS
 rw[e1]
 exact cu):A:=h
theorem Bb{A:Prop}(h:A:=by
 obtain⟨j,hj,e⟩:=Pz hb
 have HI:j<ks.length:=by rw[<- jH];exact hj
 have e2:ρ2[j]? =some b:=by rw[Zb hj,e]
 cases hl:(H.getD ks[j] .dead).live with
 | true=>
  rw[qZ j ks[j] (Zb HI) hl] at e2
  exact .inl (Zh e2)
 | false=>
  rw[hρd j ks[j] (Zb HI) hl] at e2
  exact .inr (ZB e2).symm):A:=h
theorem EC{A:Prop}(h:A:=by
 refine⟨by rw[x7];omega,fun i b blk h1 h2 h3=>hi.gf i b blk (t1 i b h1).2 (t2 i blk h2) h3,hi.ib,fun i b blk h1 h2 h3=>hi.live i b blk (t1 i b h1).2 (t2 i blk h2) h3,fun i j b x y h1 h2 h3 h4 h5 h6=>hi.fK i j b x y (t1 i b h1).2 (t1 j b h2).2 (t2 i x h3) (t2 j y h4) h5 h6,fun i b blk h1 h2=> ?_,hi.gl⟩
 exact hw blk (Zh h2) w I ρ b (hi.rel i b blk (t1 i b h1).2 (t2 i blk h2))):A:=h
theorem kj{A:Prop}(h:A:=by
 have hlt:i<listed.size:=by omega
 unfold fl
 simp[hlt] at h3 ⊢
 exact h3):A:=h
theorem Bo{A:Prop}(h:A:=by
 simp only[World.shape?]
 show(match (w.drew.alloc (.cells eM e')).heap[w.drew.heap.size]? with | some (.cells c elem _)=>some (elem,c.size) | _=>none)=_
 rw[heap_alloc_new]
 simp only[eM,WG,hce,Builtin.zeroCells]
 simp
 rw[hlen,I4,hsz,Kv (HK _ hle),<- EV,<- EV]
 congr 1
 omega):A:=h
theorem uG{A:Prop}(h:A:=by
 simp at hx
 obtain⟨k1,k2,k3⟩:=h1 i x hx
 refine⟨k1,?_,k3⟩
 rcases k2 with⟨k4,k5⟩ | ⟨k4,k5⟩
 ·exact .inl ⟨by omega,k5⟩
 ·exact .inr ⟨by omega,k5⟩):A:=h
theorem vm{A:Prop}(h:A:=by
 apply Gg
 intro j
 rw[Zu]
 split
 ·rename_i hij
  subst hij
  split
  ·exact hH.symm
  ·rename_i h;rw[ZE (by omega)]
 ·rfl):A:=h
theorem EB{A:Prop}(h:A:=by
 cases hd:P.underlying t with
 | none=>simp[zA,hd] at ht
 | some d=>
  cases d <;> simp[zA,hd] at ht
  rename_i m e
  subst ht
  simp only[ou,hd,Zl] at he
  obtain⟨⟨b,m'⟩,htm,rfl⟩:=he
  refine⟨_,?_,hr⟩
  simp[execOp,ho,Instr.indexAt,hn,dN,hu,Instr.sureAddr,run_underlying hd,h0,hl,aK htm]):A:=h
theorem pO{A:Prop}(h:A:=by
 cases h:P.underlying t2 with
 | none=>simp[dY,h] at jz
 | some d=>cases d <;> simp[dY,h] at jz;exact⟨_,rfl⟩):A:=h
theorem wD{A:Prop}(h:A:=by
 intro a' w' I' ρ' he hi2 jz hm2
 exact h2 _ B w' I' ρ' a' hi2 jz hm2 fun e a2 w2 q=>QC.ext he q):A:=h
theorem wQ{A:Prop}(h:A:=by
 refine⟨rfl,⟨fn,w.heap.size,?_⟩,fun s v hv=>(ht.at_ s v hv).ext hE⟩
 have:=heap_alloc_new (w.alloc (.deferred (some []))) ob
 rw[hsz] at this
 exact this):A:=h
theorem wj{A:Prop}(h:A:=by
 have h1:=HK gI hnext
 have h2:(2:Nat)^48=281474976710656:=by decide
 have h3:2*(0+n)+192=2*n+192:=by omega
 rw[h3] at h1
 omega):A:=h
theorem mP{A:Prop}(h:A:=by
 intro i _
 unfold fl
 by_cases hlt:i<l.length <;> simp[hlt]):A:=h
theorem Bx{A:Prop}(h:A:=by
 intro ns
 induction ns with
 | nil=>intro o _ i n h;cases h
 | cons m ns ih=>
  intro o h i n hn
  obtain⟨⟨u,hu,hr⟩,h5⟩:=h
  cases i with
  | zero=>cases hn;rw[Kk,hu];exact congrArg some hr
  | succ i=>
   have:=ih (o+1) h5 i n hn
   rwa [show o+1+i=o+(i+1) by omega] at this):A:=h
theorem mX{A:Prop}(h:A:=by
 intro i o ho hf
 have hlt:=bW ho
 simp[fl,hlt] at hf):A:=h
theorem Du{A:Prop}(h:A:=by
 obtain⟨i',x',h7,h8,h9,rfl⟩:=eK i b x h1 h3
 obtain⟨j',y',k7,k8,k9,rfl⟩:=eK j b y h2 h4
 rw[bY] at h5 h6
 have:=hi.fK i' j' b x' y' h8 k8 h9 k9 h5 h6
 subst this
 have hil:i<ks.length:=(Za.1 h7).1
 exact(XW hil hk3).1 (h7.trans k7.symm)):A:=h
theorem C7{A:Prop}(h:A:=by
 intro h
 simp only[NF,lk] at h ⊢
 cases hb:Nat.beq a s with
 | true=>rw[hb] at h;exact .inl h
 | false=>rw[hb] at h;exact ih h):A:=h
theorem qJ{A:Prop}(h:A:=by
 refine(cP (k1 b (fun hm=> ?_))).trans hs
 have:=(h8 b hm).1
 simp[World.shape?,this] at hs):A:=h
theorem uX{A:Prop}(h:A:=by
 have h2:IntKind.i64.max=9223372036854775807:=by decide
 rw[h2]
 omega):A:=h
theorem mH{A:Prop}(h:A:=by
 obtain⟨d,inf,_,h5,_,h6⟩:=iC lH
 simp[Program.cellsOf,h5,h6]):A:=h
theorem vj{A:Prop}(h:A:=by
 unfold wG at hby
 cases h:P.info? e with
 | none=>rw[h] at hby;cases hby
 | some inf=>rw[h] at hby;simp at hby;exact⟨inf,rfl,hby⟩):A:=h
theorem CS{A:Prop}(h:A:=by
 rcases br h1 with⟨h5,h6⟩ | ⟨h5,h6⟩
 ·rw[Zc (by simp[<- hi.len];exact h5)] at h2
  exact hi1.gf j k blk h6 h2 h3
 ·subst h6
  rw[r8];exact hi.gf i k _ hρ hH dV):A:=h
theorem DG{A:Prop}(h:A:=by
 intro j b blk h1 h2
 rw[<- h0,Zt,Zl] at h2
 obtain⟨i,h3,rfl⟩:=h2
 have h4:=hlt i (Zh h3)
 exact⟨i,_,h3,oC i h4,rfl,fun hl=>by rw[<- qZ j i h3 hl];exact h1⟩):A:=h
theorem ED{A:Prop}(h:A:=by
 rcases br h1 with⟨h5,h6⟩ | ⟨h5,h6⟩
 ·rw[Zc (by simp[<- hi.len];exact h5)] at h2
  exact hi1.live j k blk h6 h2 h3 h4
 ·subst h6
  exact hi.live i k _ hρ hH dV h4):A:=h
theorem vt{A:Prop}(h:A:=by
 simp only[Sem.run_pure,Result.andThen,List.map_toArray,Zx,xo,FU,Au,Sem.run_bind,this]
 rfl):A:=h
theorem Dl{A:Prop}(h:A:=by
 intro j b blk h1 h2
 rw[Zt,Zl] at h2
 obtain⟨i,h3,rfl⟩:=h2
 have h4:=hlt i (Zh h3)
 rw[qZ j i h3] at h1
 exact⟨i,H[i],h3,h1,by simp[h4],by simp[h4]⟩):A:=h
theorem pJ{A:Prop}(h:A:=by
 simp only[World.cell?,hw]
 simpa using hj):A:=h
theorem Ee{A:Prop}(h:A:=by
 rcases Zp.1 hb with h | h
 ·exact JL i b x g1 g2 g3 g4 h
 ·have JW:=hi.gf i b x g1 g2 g3
  rcases h3.w.new b (ZF _ h) with h | h
  ·exact JL i b x g1 g2 g3 g4 h
  ·omega):A:=h
theorem CG{A:Prop}(h:A:=by
 obtain⟨w4,e1,e2,e3,e4,e5⟩:=HV h' .done (some c) (MP _ _ hj) (by simp) rfl
 exact⟨some c,w4,e1,wpIn_mono (stop c h' hj B w4 I3 ρ3 {a with defers:=mark++a.defers} e3 e4 e5) fun _ _ _ q=>QC.ext e2 q⟩):A:=h
theorem Ep{A:Prop}(h:A:=by
 have h1:i<ρ.length:=by rw[hi.len];exact hlt i (Zh h)
 rw[Yl,Zt,h]
 show some (if (H.getD i .dead).live=true then ρ.getD i 0 else w.heap.size)=_
 rw[if_pos hl]
 simp[h1]):A:=h
theorem D6{A:Prop}(h:A:=by
 have h0:=cy.refl w I ρ
 exact⟨h0.os,h0.tape,h0.output,h0.size,h0.keep,h0.shape,h0.lu,h0.bf,h0.ew,h0.cL,h0.j9,fun b hb=> .inl (Uf hb)⟩):A:=h
theorem mJ{A:Prop}(h:A:=by
 exact done (fuel+1) listed a w mE hsz xD hall hsi):A:=h
theorem A6{A:Prop}(h:A:=by
 have hlt:i<H.length:=by
  have:=(Za.1 e).1
  rw[x7] at this
  omega
 rw[RU hlt] at e
 exact⟨hlt,e⟩):A:=h
theorem Dm{A:Prop}(h:A:=by
 simp only[eM,WG,Zd]
 rw[hcs,<- uC]
 simp
 rw[hsz]
 have:=HK z.length hle
 omega):A:=h
theorem qL{A:Prop}(h:A:=by
 have h2:(2:Nat)^48=281474976710656:=by decide
 omega):A:=h
theorem Dk{A:Prop}(h:A:=by
 rcases br h2 with⟨h4,h5⟩ | ⟨h4,h5⟩
 ·rw[Zc (by rw[hi.len];exact h4)] at h1
  exact⟨h1,h5⟩
 ·subst h5;cases h3):A:=h
theorem w6{A:Prop}(h:A:=by
 rcases yE b h with h | h
 ·exact .inr (.inl h)
 ·exact .inr (.inr (by omega))):A:=h
theorem CP{A:Prop}(h:A:=by
 unfold wG at hby
 cases hP:P.info? e with
 | none=>rw[hP] at hby;cases hby
 | some inf=>rw[hP] at hby;exact⟨inf,rfl,by simpa using hby⟩):A:=h
theorem Ef{A:Prop}(h:A:=by
 rcases h3.w.new b (ZF _ hb) with h | h
 ·rcases yE b h with h | h
  ·exact .inl h
  ·exact .inr (by omega)
 ·exact .inr h):A:=h
theorem A5{A:Prop}(h:A:=by
 unfold wG at hby
 cases h:P.info? e' with
 | none=>rw[h] at hby;cases hby
 | some inf=>rw[h] at hby;simp at hby;exact⟨inf,rfl,hby⟩):A:=h
theorem D4{A:Prop}(h:A:=by
 cases hl:blk.live with
 | false=>exact cN.gh hl
 | true=>
  obtain⟨h4,h5⟩:=old j k blk h1 h2 hl
  exact cN.ext hE hi h4 h5 rfl):A:=h
theorem BN{A:Prop}(h:A:=by
 obtain⟨t,rfl⟩:=hB
 have:B.length<=H.length:=by omega
 rw[List.take_append,OB this]
 exact U3 _ _):A:=h
theorem Co{A:Prop}(h:A:=by
 simp only[World.shape?,hw,VN,Prod.mk.injEq] at hsh
 obtain⟨h1,h2⟩:=hsh
 subst h1
 exact⟨rfl,by rw[h2,hce]⟩):A:=h
theorem BH{A:Prop}(h:A:=by
 rw[Yl,Zt,h]
 show some (if (H.getD i .dead).live=true then ρ.getD i 0 else w.heap.size)=_
 rw[if_neg (by rw[hl];decide)]):A:=h
theorem AN{A:Prop}(h:A:=by
 rw[hb] at hv
 have:=ZO hb
 subst this
 simp at hv
 subst hv
 exact .inl ⟨⟨_,_,ht.at_ s _ hs⟩,rfl⟩):A:=h
theorem AK{A:Prop}(h:A:=by
 obtain⟨h7,h8⟩:=old j k x h1 h3 h5
 obtain⟨h9,h10⟩:=old j' k y h2 h4 h6
 exact hi.fK j j' k x y h7 h9 h8 h10 h5 h6):A:=h
theorem Bc{A:Prop}(h:A:=by
 cases hp:jF vs with
 | none=>exact⟨us,rfl,h⟩
 | some xs=>rw[dH hp] at h;exact⟨us,rfl,ag.pure.1 h⟩):A:=h
theorem BV{A:Prop}(h:A:=by
 unfold bR at hc
 split at hc
 ·rename_i h;exact⟨_,h,rfl⟩
 ·rename_i h;exact⟨_,h,rfl⟩
 ·cases hc):A:=h
theorem pK{A:Prop}(h:A:=by
 unfold askRoom
 split <;> simp[mark,Sem.run]):A:=h
theorem AL{A:Prop}(h:A:=by
 rw[GU e] at h3
 rw[GU e'] at h4
 exact hi.fK j j' k x y h1 h2 h3 h4 h5 h6):A:=h
theorem BT{A:Prop}(h:A:=by
 rw[h10 j hj]
 simp only[World.setCell,Yf]
 rw[if_neg (by simpa using fun e=>hj e.symm)]):A:=h
theorem Cq{A:Prop}(h:A:=by
 simp only[eM,WG]
 rw[<- uC]
 simp):A:=h
theorem AS{A:Prop}(h:A:=by
 rw[r3,Zd,hcs,<- uC,hlen,hsz,<- EV]
 exact HK _ hroom):A:=h
theorem A9{A:Prop}(h:A:=by
 rw[Zc (by simp[<- hi.len];exact h5)] at h2
 exact cN.ext oO hi1 h6 h2 rfl):A:=h
theorem DC{A:Prop}(h:A:=by
 intro arr e' h3
 obtain⟨eM,h4,_⟩:=hi.rel i blk _ hρ hH
 rw[h3] at h4;cases h4;rfl):A:=h
theorem Ea{A:Prop}(h:A:=by
 obtain⟨i,x,h4,h5,h6,rfl⟩:=eK j b blk h1 h2
 exact hi.live i b x h5 h6 (by rwa [bY] at h3)):A:=h
theorem Ew{A:Prop}(h:A:=by
 obtain⟨i,x,h4,h5,h6,rfl⟩:=eK j b blk h1 h2
 exact hi.gf i b x h5 h6 (by rwa [bY] at h3)):A:=h
theorem Ds{A:Prop}(h:A:=by
 unfold nU at h
 split at h
 ·rename_i hl
  rw[qZ j i (zD h) hl];exact hb
 ·cases h):A:=h
theorem vD{A:Prop}(h:A:=by
 exact⟨w.heap.size,by rw[<- hi.len];simp,rfl⟩):A:=h
theorem AD{A:Prop}(h:A:=by
 obtain⟨i,x,h4,h5,h6,rfl⟩:=eK j b blk h1 h2
 exact jC hσ (hi.rel i b x h5 h6)):A:=h
theorem Ec{A:Prop}(h:A:=by
 have h3:k.min<=0:=by cases k <;> decide
 simp only[Op.intBits,h1,Ak h2 h3]
 rfl):A:=h
theorem Ct{A:Prop}(h:A:=by
 have h1:i<ρ.length:=by rw[hi.len];exact hlt i (Zh h)
 simp[h,h1]):A:=h
theorem dx{A:Prop}(h:A:=by
 simpa using this):A:=h
theorem Dp{A:Prop}(h:A:=by
 rw[<- hy]
 simp[execOp,ho,resolve,hu,Deferred.ofValue,invoke,<- Array.toList_map]):A:=h
theorem Cr{A:Prop}(h:A:=by
 have h2:IntKind.i64.max=9223372036854775807:=by decide
 rw[h2] at mc
 omega):A:=h
set_option linter.unusedSimpArgs false
set_option linter.unusedVariables false
section
section
namespace Go.AF
inductive PV where
 | bool (b:Bool)
 | int (k:IntKind) (n:Int)
 | str (s:ByteArray)
 | nilPtr | nilSlice | nilMap | nilFunc | nilIface
 | ip (cs:List PV) (off:Nat)
 | is (cs:List PV) (len:Nat)
 | im (ks vs:List PV)
 | func (fn:Fn) (first captured:List PV)
 | iface (t:TypeId) (v:PV)
 | agg (cs:List PV)
 | tuple (vs:List PV)
inductive V where
 | p (x:PV)
 | ptr (i off:Nat)
 | row (i len:Nat)
 | sl (i off len:Nat)
 | map (i:Nat)
 | func (fn:Fn) (first captured:List V)
 | iface (t:TypeId) (v:V)
 | agg (cs:List V)
 | tuple (vs:List V)
 | opt (g:Bool) (v:V)
 | raw (a:Option Addr) (n c:Nat)
 | z0
 | top
structure uH where
 l:Nat
 tmps:Array Value
 T:List (Nat×V)
 ps:Array Tmp
 fj:Code
 body:Code
inductive ai where
 | cells (cs:List V) (e:TypeId)
 | row (cs:List V) (e:TypeId)
 | gJ (cs:List V) (e:TypeId)
 | map (ks vs:List V)
 | nQ (s:ByteArray) (pos:Nat)
 | mapIter (ks vs:List PV) (last:Option (PV×PV))
 | loop (r:uH) (st:LoopState) (pe:Option Code)
 | dead
def ai.live:ai->Bool
 | .dead=>false
 | _=>true
def lk:List (Nat×V)->Nat->Option V
 | [],_=>none
 | (a,v)::r,s=>bif Nat.beq a s then some v else lk r s
def uO(es:Array MapEntry)(clock:Nat):Prop:=(es.toList.map (·.born)).Nodup∧∀ e∈es.toList,e.born<clock
section
variable (w:World) (I:Nat->Prop)
mutual
def Rel:PV->Value->Prop
 | .bool b,u=>u= .bool b
 | .int k n,u=>u= .int k n
 | .str s,u=>u= .string s
 | .nilPtr,u=>u= .pointer none
 | .nilSlice,u=>u= .slice none 0 0
 | .nilMap,u=>u= .map none
 | .nilFunc,u=>u= .nilFunc
 | .nilIface,u=>u= .nilIface
 | .ip cs off,u=>∃ b o,I b∧u= .pointer (some ⟨b,o+off,none⟩)∧aT cs b o
 | .is cs len,u=>((∃ a cap,u= .slice a 0 cap)∧len=0)∨∃ b o cap,(cs≠[]->I b)∧len<=cap∧u= .slice (some ⟨b,o,none⟩) len cap∧aT cs b o
 | .im ks vs,u=>∃ r es clock,I r∧u= .map (some r)∧w.heap[r]? =some (.map es clock)∧aR ks (es.toList.map (·.key))∧aR vs (es.toList.map (·.val))∧uO es clock
 | .func fn fi ca,u=>∃ us vs,u= .func fn us vs∧aR fi us.toList∧aR ca vs.toList
 | .iface t v,u=>∃ x,u= .iface t x∧Rel v x
 | .agg cs,u=>∃ us,u= .agg us∧aR cs us.toList
 | .tuple cs,u=>∃ us,u= .tuple us∧aR cs us.toList
def aR:List PV->List Value->Prop
 | [],us=>us=[]
 | c::cs,us=>∃ u us',us=u::us'∧Rel c u∧aR cs us'
def aT:List PV->Nat->Nat->Prop
 | [],_,_=>True
 | c::cs,b,o=>(∃ u,w.cell? ⟨b,o,none⟩=some u∧Rel c u)∧aT cs b (o+1)
end
end
section
variable (P:Program) (w:World) (I:Nat->Prop) (ρ:List Nat)
mutual
def az:V->Value->Prop
 | .p x,u=>Rel w I x u
 | .ptr i off,u=>∃ b,ρ[i]? =some b∧u= .pointer (some ⟨b,off,none⟩)
 | .row i len,u=>∃ b e cap,ρ[i]? =some b∧u= .slice (some ⟨b,0,none⟩) len cap∧w.shape? b=some (e,cap*P.cellsOf e)∧len<=cap
 | .sl i off len,u=>∃ b cap,ρ[i]? =some b∧u= .slice (some ⟨b,off,none⟩) len cap∧len<=cap
 | .map i,u=>∃ b,ρ[i]? =some b∧u= .map (some b)
 | .func fn fi ca,u=>∃ us vs,u= .func fn us vs∧ag fi us.toList∧ag ca vs.toList
 | .iface t v,u=>∃ x,u= .iface t x∧az v x
 | .agg cs,u=>∃ us,u= .agg us∧ag cs us.toList
 | .tuple cs,u=>∃ us,u= .tuple us∧ag cs us.toList
 | .opt g v,u=>(g=true->az v u)∧(g=false->u=undef)
 | .raw a n c,u=>u= .slice a n c
 | .z0,u=>∃ a,u= .slice a 0 0
 | .top,_=>True
def ag:List V->List Value->Prop
 | [],us=>us=[]
 | c::cs,us=>∃ u us',us=u::us'∧az c u∧ag cs us'
end
def cN:ai->Nat->Prop
 | .cells cs e,b=>∃ arr,w.heap[b]? =some (.cells arr e (0,0))∧ag P w I ρ cs arr.toList
 | .row cs e,b=>∃ arr,w.heap[b]? =some (.cells arr e (0,0))∧cs.length<=arr.size∧ag P w I ρ cs (arr.toList.take cs.length)
 | .gJ cs e,b=>∃ arr m,w.heap[b]? =some (.cells arr e (0,m))∧m<=cs.length∧cs.length<=arr.size∧ag P w I ρ cs (arr.toList.take cs.length)
 | .map ks vs,b=>∃ es clock,w.heap[b]? =some (.map es clock)∧ag P w I ρ ks (es.toList.map (·.key))∧ag P w I ρ vs (es.toList.map (·.val))∧uO es clock
 | .nQ s pos,b=>w.heap[b]? =some (.stringIter s pos)
 | .mapIter ks vs last,b=>(ks=[]∧vs=[]∧last=none∧w.heap[b]? =some (.mapIter none 0 #[] 0))∨
     ∃ r es clock seen,w.heap[b]? =some (.mapIter (some r) clock seen clock)∧I r∧w.heap[r]? =some (.map es clock)∧uO es clock∧
      aR w I ks ((es.toList.filter fun e=> !seen.contains e.born).map (·.key))∧aR w I vs ((es.toList.filter fun e=> !seen.contains e.born).map (·.val))∧
      ∀ k v,last=some (k,v)->∃(e:MapEntry) (pre:Array Nat),e∈es.toList∧seen=pre.push e.born∧Rel w I k e.key∧Rel w I v e.val
 | .loop r st pe,b=>b=r.l∧(∃ fn d,w.heap[b]? =some (.loop {state:=st,pending:=pe,fn,tmps:=r.tmps,params:=r.ps,assign:=r.fj,body:=r.body,defers:=d}))∧∀ s v,lk r.T s=some v->az P w I ρ v (r.tmps.getD s undef)
 | .dead,_=>True
end
theorem qn{α:Type}{l l':List α}(h:l<+:l'){i:Nat}{b:α}(hb:l[i]? =some b):l'[i]? =some b:=by
 obtain⟨t,rfl⟩:=h
 rw[Zc (Za.1 hb).1]
 exact hb
theorem oL{w w':World}{b o:Nat}{s:Option Nat}(h:w'.heap[b]? =w.heap[b]?):w'.cell? ⟨b,o,s⟩=w.cell? ⟨b,o,s⟩:=by
 simp only[World.cell?,h]
mutual
theorem Rel.mono{w w':World}{I I':Nat->Prop}(hI:∀ b,I b->I' b)(hw:∀ b,I b->w'.heap[b]? =w.heap[b]?):∀(x:PV) (u:Value),Rel w I x u->Rel w' I' x u
 | .bool _,_,h=>by simpa[Rel] using h
 | .int _ _,_,h=>by simpa[Rel] using h
 | .str _,_,h=>by simpa[Rel] using h
 | .nilPtr,_,h=>by simpa[Rel] using h
 | .nilSlice,_,h=>by simpa[Rel] using h
 | .nilMap,_,h=>by simpa[Rel] using h
 | .nilFunc,_,h=>by simpa[Rel] using h
 | .nilIface,_,h=>by simpa[Rel] using h
 | .ip cs off,u,h=>by
  obtain⟨b,o,hb,hu,hc⟩:=h
  exact⟨b,o,hI b hb,hu,aT.mono hI hw cs b o (fun _=>hb) hc⟩
 | .is cs len,u,h=>by
  rcases h with h | ⟨b,o,cap,hb,hl,hu,hc⟩
  ·exact .inl h
  ·exact .inr ⟨b,o,cap,fun hn=>hI b (hb hn),hl,hu,aT.mono hI hw cs b o hb hc⟩
 | .im ks vs,u,h=>by
  obtain⟨r,es,clock,hr,hu,hh,hk,hv,hb⟩:=h
  exact⟨r,es,clock,hI r hr,hu,by rw[hw r hr];exact hh,aR.mono hI hw ks _ hk,aR.mono hI hw vs _ hv,hb⟩
 | .func fn fi ca,u,h=>by
  obtain⟨us,vs,hu,h1,h2⟩:=h
  exact⟨us,vs,hu,aR.mono hI hw fi _ h1,aR.mono hI hw ca _ h2⟩
 | .iface t v,u,h=>by
  obtain⟨x,hu,h1⟩:=h
  exact⟨x,hu,Rel.mono hI hw v x h1⟩
 | .agg cs,u,h=>by
  obtain⟨us,hu,h1⟩:=h
  exact⟨us,hu,aR.mono hI hw cs _ h1⟩
 | .tuple cs,u,h=>by
  obtain⟨us,hu,h1⟩:=h
  exact⟨us,hu,aR.mono hI hw cs _ h1⟩
theorem aR.mono{w w':World}{I I':Nat->Prop}(hI:∀ b,I b->I' b)(hw:∀ b,I b->w'.heap[b]? =w.heap[b]?):∀(xs:List PV) (us:List Value),aR w I xs us->aR w' I' xs us
 | [],us,h=>by simpa[aR] using h
 | c::cs,us,h=>by
  obtain⟨u,us',hu,h1,h2⟩:=h
  exact⟨u,us',hu,Rel.mono hI hw c u h1,aR.mono hI hw cs us' h2⟩
theorem aT.mono{w w':World}{I I':Nat->Prop}(hI:∀ b,I b->I' b)(hw:∀ b,I b->w'.heap[b]? =w.heap[b]?):∀(xs:List PV) (b o:Nat),(xs≠[]->I b)->aT w I xs b o->aT w' I' xs b o
 | [],_,_,_,_=>by simp[aT]
 | c::cs,b,o,hb,h=>by
  obtain⟨⟨u,hu,h1⟩,h2⟩:=h
  have hbb:=hb (by simp)
  exact⟨⟨u,(oL (hw b hbb)).trans hu,Rel.mono hI hw c u h1⟩,aT.mono hI hw cs b (o+1) (fun _=>hbb) h2⟩
end
mutual
theorem az.mono{P:Program}{w w':World}{I I':Nat->Prop}{ρ ρ':List Nat}(hI:∀ b,I b->I' b)(hw:∀ b,I b->w'.heap[b]? =w.heap[b]?)(hρ:ρ<+:ρ')
    (hs:∀ b∈ρ,∀ s,w.shape? b=some s->w'.shape? b=some s):∀(x:V) (u:Value),az P w I ρ x u->az P w' I' ρ' x u
 | .p x,u,h=>Rel.mono hI hw x u h
 | .ptr i off,u,h=>by
  obtain⟨b,hb,hu⟩:=h
  exact⟨b,qn hρ hb,hu⟩
 | .row i len,u,h=>by
  obtain⟨b,e,cap,hb,hu,hsh,hl⟩:=h
  exact⟨b,e,cap,qn hρ hb,hu,hs b (Zh hb) _ hsh,hl⟩
 | .sl i off len,u,h=>by
  obtain⟨b,cap,hb,hu⟩:=h
  exact⟨b,cap,qn hρ hb,hu⟩
 | .map i,u,h=>by
  obtain⟨b,hb,hu⟩:=h
  exact⟨b,qn hρ hb,hu⟩
 | .func fn fi ca,u,h=>by
  obtain⟨us,vs,hu,h1,h2⟩:=h
  exact⟨us,vs,hu,ag.mono hI hw hρ hs fi _ h1,ag.mono hI hw hρ hs ca _ h2⟩
 | .iface t v,u,h=>by
  obtain⟨x,hu,h1⟩:=h
  exact⟨x,hu,az.mono hI hw hρ hs v x h1⟩
 | .agg cs,u,h=>by
  obtain⟨us,hu,h1⟩:=h
  exact⟨us,hu,ag.mono hI hw hρ hs cs _ h1⟩
 | .tuple cs,u,h=>by
  obtain⟨us,hu,h1⟩:=h
  exact⟨us,hu,ag.mono hI hw hρ hs cs _ h1⟩
 | .opt g v,u,h=>⟨fun hg=>az.mono hI hw hρ hs v u (h.1 hg),h.2⟩
 | .raw _ _ _,u,h=>h
 | .z0,u,h=>h
 | .top,_,_=>by simp[az]
theorem ag.mono{P:Program}{w w':World}{I I':Nat->Prop}{ρ ρ':List Nat}(hI:∀ b,I b->I' b)(hw:∀ b,I b->w'.heap[b]? =w.heap[b]?)(hρ:ρ<+:ρ')
    (hs:∀ b∈ρ,∀ s,w.shape? b=some s->w'.shape? b=some s):∀(xs:List V) (us:List Value),ag P w I ρ xs us->ag P w' I' ρ' xs us
 | [],us,h=>by simpa[ag] using h
 | c::cs,us,h=>by
  obtain⟨u,us',hu,h1,h2⟩:=h
  exact⟨u,us',hu,az.mono hI hw hρ hs c u h1,ag.mono hI hw hρ hs cs us' h2⟩
end
theorem cN.mono{P:Program}{w w':World}{I I':Nat->Prop}{ρ ρ':List Nat}(hI:∀ b,I b->I' b)(hw:∀ b,I b->w'.heap[b]? =w.heap[b]?)(hρ:ρ<+:ρ')
    (hs:∀ b∈ρ,∀ s,w.shape? b=some s->w'.shape? b=some s){x:ai}{b:Nat}(hb:w'.heap[b]? =w.heap[b]?)(h:cN P w I ρ x b):cN P w' I' ρ' x b:=by
 cases x with
 | cells cs e=>
  obtain⟨arr,h1,h2⟩:=h
  exact⟨arr,hb.trans h1,ag.mono hI hw hρ hs cs _ h2⟩
 | row cs e=>
  obtain⟨arr,h1,h2,h3⟩:=h
  exact⟨arr,hb.trans h1,h2,ag.mono hI hw hρ hs cs _ h3⟩
 | gJ cs e=>
  obtain⟨arr,m,h1,h0,h2,h3⟩:=h
  exact⟨arr,m,hb.trans h1,h0,h2,ag.mono hI hw hρ hs cs _ h3⟩
 | map ks vs=>
  obtain⟨es,clock,h1,h2,h3,h4⟩:=h
  exact⟨es,clock,hb.trans h1,ag.mono hI hw hρ hs ks _ h2,ag.mono hI hw hρ hs vs _ h3,h4⟩
 | nQ s pos=>exact hb.trans h
 | mapIter ks vs last=>
  rcases h with⟨h1,h2,h3,h4⟩ | ⟨r,es,clock,seen,h1,h2,h3,h4,h5,h6,h7⟩
  ·exact .inl ⟨h1,h2,h3,hb.trans h4⟩
  ·refine .inr ⟨r,es,clock,seen,hb.trans h1,hI r h2,(hw r h2).trans h3,h4,aR.mono hI hw ks _ h5,aR.mono hI hw vs _ h6,fun k v hl=> ?_⟩
   obtain⟨e,pre,k1,k2,k3,k4⟩:=h7 k v hl
   exact⟨e,pre,k1,k2,Rel.mono hI hw k _ k3,Rel.mono hI hw v _ k4⟩
 | loop r st pe=>
  obtain⟨h0,⟨fn,d,h1⟩,h3⟩:=h
  exact⟨h0,⟨fn,d,hb.trans h1⟩,fun s v hv=>az.mono hI hw hρ hs v _ (h3 s v hv)⟩
 | dead=>trivial
structure cy (w:World) (I:Nat->Prop) (ρ:List Nat) (w':World) (I':Nat->Prop) (ρ':List Nat):Prop where
 os:w'.os=w.os
 tape:w'.tape=w.tape
 output:w'.output=w.output
 size:w.heap.size<=w'.heap.size
 keep:∀ b,b<w.heap.size->b∉ρ->w'.heap[b]? =w.heap[b]?
 shape:∀ b s,w.shape? b=some s->w'.shape? b=some s
 lu:∀ b,I b->I' b
 bf:∀ b,I b->w'.heap[b]? =w.heap[b]?
 ew:∀ b,I' b->I b∨b∈ρ∨w.heap.size<=b
 cL:∀ b:Nat,w.heap[b]? =some (Obj.deferred (some []))->w'.heap[b]? =some (Obj.deferred (some []))
 j9:∀ b:Nat,w.heap[b]? =some (Obj.deferred (some []))->I' b->I b
 new:∀ b∈ρ',b∈ρ∨w.heap.size<=b
structure Ext (w:World) (I:Nat->Prop) (ρ:List Nat) (w':World) (I':Nat->Prop) (ρ':List Nat):Prop where
 w:cy w I ρ w' I' ρ'
 pre:ρ<+:ρ'
def We:Operand->Option PV
 | .const (.int k n)=>some (.int k n)
 | .const (.bool b)=>some (.bool b)
 | _=>none
def GJ:List Oper->List (Nat×List PV)
 | o1::o2::rest=>(match o1.op,o2.op with
   | .build _ parts,.store _ (.global g) _=>(match if parts.toList.map (·.1)==List.range parts.size then parts.toList.mapM fun p=>We p.2 else none with
     | some l=>[(g,l)]
     | none=>[])
   | _,_=>[])++GJ (o2::rest)
 | _=>[]
def Og:Code->List (Nat×List PV)
 | .region _ l _=>GJ l.toList
 | .seq a b=>Og a++Og b
 | _=>[]
def oQ(P:Program):List (Nat×List PV):=match P.funcs.toList.find? fun f=>f.name== "gosem.cut.vars" with
 | some f=>(match f.body with
   | some c=>Og c
   | none=>[])
 | none=>[]
def JF:Bool:=true
def AW:List Int:=(List.range 256).map fun c=>if c==9||c==10||c==11||c==12||c==13||c==32 then 1 else 0
def Je(P:Program)(w:World)(I:Nat->Prop):Prop:=(∀ x∈oQ P,I x.1∧aT w I x.2 x.1 0∧∃ arr e fr,w.heap[x.1]? =some (.cells arr e fr)∧arr.size=x.2.length)∧(JF=true->∀ g,P.globalNamed "strings.asciiSpace" =some g->I g∧aT w I (AW.map (PV.int .u8)) g 0)∧∀ g,P.globalNamed "internal/bytealg.MaxLen" =some g->I g∧∃ m,w.cell? ⟨g,0,none⟩=some (.int .i64 m)
theorem Je.mono{P:Program}{w w':World}{I I':Nat->Prop}(h:Je P w I)(hI:∀ b,I b->I' b)(hw:∀ b,I b->w'.heap[b]? =w.heap[b]?):Je P w' I':=⟨fun x hx=>by
 obtain⟨h1,h2,h3⟩:=h.1 x hx
 rw[<- hw _ h1] at h3
 exact⟨hI _ h1,aT.mono hI hw _ _ _ (fun _=>h1) h2,h3⟩,fun hs g hg=>by
 obtain⟨h1,h2⟩:=h.2.1 hs g hg
 exact⟨hI _ h1,aT.mono hI hw _ _ _ (fun _=>h1) h2⟩,fun g hg=>by
 obtain⟨h1,m,h2⟩:=h.2.2 g hg
 refine⟨hI _ h1,m,?_⟩
 rw[<- h2]
 unfold World.cell?
 simp only[hw _ h1]⟩
structure Inv (P:Program) (w:World) (I:Nat->Prop) (ρ:List Nat) (H:List ai):Prop where
 len:ρ.length=H.length
 gf:∀(i b:Nat) (blk:ai),ρ[i]? =some b->H[i]? =some blk->blk.live=true->b<w.heap.size
 ib:∀ b,I b->b<w.heap.size
 live:∀(i b:Nat) (blk:ai),ρ[i]? =some b->H[i]? =some blk->blk.live=true->¬ I b
 fK:∀(i j b:Nat) (x y:ai),ρ[i]? =some b->ρ[j]? =some b->H[i]? =some x->H[j]? =some y->x.live=true->y.live=true->i=j
 rel:∀(i b:Nat) (blk:ai),ρ[i]? =some b->H[i]? =some blk->cN P w I ρ blk b
 gl:Je P w I
theorem cy.refl(w:World)(I:Nat->Prop)(ρ:List Nat):cy w I ρ w I ρ:=
 ⟨rfl,rfl,rfl,Ze _,fun _ _ _=>rfl,fun _ _ h=>h,fun _ h=>h,fun _ _=>rfl,fun _ h=> .inl h,fun _ h=>h,fun _ _ h=>h,fun _ h=> .inl h⟩
theorem Ext.refl(w:World)(I:Nat->Prop)(ρ:List Nat):Ext w I ρ w I ρ:=⟨cy.refl _ _ _,ZI _⟩
theorem cy.trans{w w' w'':World}{I I' TZ:Nat->Prop}{ρ ρ' TX:List Nat}(h:cy w I ρ w' I' ρ')(k:cy w' I' ρ' w'' TZ TX):cy w I ρ w'' TZ TX where
 os:=k.os.trans h.os
 tape:=k.tape.trans h.tape
 output:=k.output.trans h.output
 size:=ZT h.size k.size
 keep b hb hn:=by
  have:b∉ρ':=fun hm=>by
   rcases h.new b hm with h1 | h1
   ·exact hn h1
   ·omega
  exact(k.keep b (ZR hb h.size) this).trans (h.keep b hb hn)
 shape b s hs:=k.shape b s (h.shape b s hs)
 lu b hb:=k.lu b (h.lu b hb)
 bf b hb:=(k.bf b (h.lu b hb)).trans (h.bf b hb)
 ew b hb:=by
  rcases k.ew b hb with h1 | h1 | h1
  ·exact h.ew b h1
  ·exact .inr (h.new b h1)
  ·exact .inr (.inr (ZT h.size h1))
 cL b hb:=k.cL b (h.cL b hb)
 j9 b hb hi:=h.j9 b hb (k.j9 b (h.cL b hb) hi)
 new b hb:=by
  rcases k.new b hb with h1 | h1
  ·exact h.new b h1
  ·exact .inr (ZT h.size h1)
theorem Ext.trans{w w' w'':World}{I I' TZ:Nat->Prop}{ρ ρ' TX:List Nat}(h:Ext w I ρ w' I' ρ')(k:Ext w' I' ρ' w'' TZ TX):Ext w I ρ w'' TZ TX:=⟨h.w.trans k.w,h.pre.trans k.pre⟩
theorem az.ext{P:Program}{w w':World}{I I':Nat->Prop}{ρ ρ':List Nat}(h:Ext w I ρ w' I' ρ'){x:V}{u:Value}(hx:az P w I ρ x u):az P w' I' ρ' x u:=
 az.mono h.w.lu h.w.bf h.pre (fun b _ s hs=>h.w.shape b s hs) x u hx
theorem ag.ext{P:Program}{w w':World}{I I':Nat->Prop}{ρ ρ':List Nat}(h:Ext w I ρ w' I' ρ'){x:List V}{u:List Value}(hx:ag P w I ρ x u):ag P w' I' ρ' x u:=
 ag.mono h.w.lu h.w.bf h.pre (fun b _ s hs=>h.w.shape b s hs) x u hx
theorem Rel.ext{w w':World}{I I':Nat->Prop}{ρ ρ':List Nat}(h:Ext w I ρ w' I' ρ'){x:PV}{u:Value}(hx:Rel w I x u):Rel w' I' x u:=
 Rel.mono h.w.lu h.w.bf x u hx
theorem cN.ext{P:Program}{w w':World}{I I':Nat->Prop}{ρ ρ':List Nat}{H:List ai}(h:Ext w I ρ w' I' ρ')(hi:Inv P w I ρ H){i b:Nat}{x:ai}(hρ:ρ[i]? =some b)(hH:H[i]? =some x)
    (hb:w'.heap[b]? =w.heap[b]?):cN P w' I' ρ' x b:=
 cN.mono h.w.lu h.w.bf h.pre (fun b _ s hs=>h.w.shape b s hs) hb (hi.rel i b x hρ hH)
structure bn (P:Program) (w:World) (I:Nat->Prop) (ρ:List Nat) (N:Nat) (T:List (Nat×V)) (tmps:Array Value):Prop where
 size:tmps.size=N
 at_:∀ s v,lk T s=some v->az P w I ρ v (tmps.getD s undef)
theorem bn.ext{P:Program}{w w':World}{I I':Nat->Prop}{ρ ρ':List Nat}{N:Nat}{T:List (Nat×V)}{tmps:Array Value}(h:Ext w I ρ w' I' ρ')(t:bn P w I ρ N T tmps):bn P w' I' ρ' N T tmps:=
 ⟨t.size,fun s v hv=>(t.at_ s v hv).ext h⟩
def fF(T:List (Nat×V)):Option Nat->V->List (Nat×V)
 | some d,v=>(d,v)::T
 | none,_=>T
def aZ(N:Nat):Option Nat->Bool
 | some d=>Nat.blt d N
 | none=>true
theorem bn.put{P:Program}{w:World}{I:Nat->Prop}{ρ:List Nat}{N:Nat}{T:List (Nat×V)}{a:Act}{dst:Option Nat}{v:V}{u:Value}(hd:aZ N dst=true)
    (t:bn P w I ρ N T a.tmps)(hv:az P w I ρ v u):bn P w I ρ N (fF T dst v) (a.put dst u).tmps:=by
 cases dst with
 | none=>exact t
 | some d=>
  have hlt:d<N:=by simpa[aZ,Nat.blt,Zw] using hd
  refine⟨by simp[Act.put,t.size],fun s x hx=> ?_⟩
  simp only[fF,lk] at hx
  by_cases hs:d=s
  ·subst hs
   simp at hx
   subst hx
   have h1:d<a.tmps.size:=by rw[t.size];exact hlt
   simpa[Act.put,h1] using hv
  ·have hb:Nat.beq d s=false:=by
     cases h0:Nat.beq d s with
     | false=>rfl
     | true=>exact absurd (ZO h0) hs
   simp only[hb,cond_false] at hx
   have:=t.at_ s x hx
   simpa[Act.put,hs] using this
def Sub(T T':List (Nat×V)):Prop:=∀ s v,lk T s=some v->lk T' s=some v
theorem bn.sub{P:Program}{w:World}{I:Nat->Prop}{ρ:List Nat}{N:Nat}{T T':List (Nat×V)}{tmps:Array Value}(h:Sub T' T)(t:bn P w I ρ N T tmps):bn P w I ρ N T' tmps:=
 ⟨t.size,fun s v hv=>t.at_ s v (h s v hv)⟩
def pW:Value->Option PV
 | .bool b=>some (.bool b)
 | .int k n=>some (.int k n)
 | .string s=>some (.str s)
 | .pointer none=>some .nilPtr
 | .slice none 0 0=>some .nilSlice
 | .map none=>some .nilMap
 | .nilFunc=>some .nilFunc
 | .nilIface=>some .nilIface
 | _=>none
theorem Rel.scalar{w:World}{I:Nat->Prop}{v:Value}{x:PV}(h:pW v=some x):Rel w I x v:=by
 unfold pW at h
 split at h <;> simp_all <;> subst h <;> simp[Rel]
def kG:List Value->Option (List PV)
 | []=>some []
 | v::vs=>match pW v,kG vs with
   | some x,some xs=>some (x::xs)
   | _,_=>none
theorem aR.scalars{w:World}{I:Nat->Prop}:∀{vs:List Value} {xs:List PV},kG vs=some xs->aR w I xs vs
 | [],_,h=>by simp[kG] at h;subst h;simp[aR]
 | v::vs,xs,h=>by
  simp only[kG] at h
  split at h
  ·rename_i x ys h1 h2
   simp at h;subst h
   exact⟨v,vs,rfl,Rel.scalar h1,aR.scalars h2⟩
  ·cases h
def HN:Value->Option PV
 | .agg cs=>(kG cs.toList).map .agg
 | v=>pW v
theorem Rel.val{w:World}{I:Nat->Prop}{v:Value}{x:PV}(h:HN v=some x):Rel w I x v:=by
 unfold HN at h
 split at h
 ·simp at h
  obtain⟨xs,h1,rfl⟩:=h
  exact⟨_,rfl,aR.scalars h1⟩
 ·exact Rel.scalar h
def ev(T:List (Nat×V)):Operand->Option V
 | .tmp t=>lk T t
 | .const v=>(HN v).map .p
 | .func f=>some (.p (.func (.func f) [] []))
 | .global _=>none
theorem bn.ev{P:Program}{w:World}{I:Nat->Prop}{ρ:List Nat}{N:Nat}{T:List (Nat×V)}{a:Act}(t:bn P w I ρ N T a.tmps){x:Operand}{v:V}(h:AF.ev T x=some v):az P w I ρ v (a.eval x):=by
 cases x with
 | tmp s=>exact t.at_ s v h
 | const c=>
  simp only[AF.ev,Zl] at h
  obtain⟨y,h1,rfl⟩:=h
  exact Rel.val h1
 | func f=>
  simp only[AF.ev,VN] at h
  subst h
  simp[az,Rel,aR,Act.eval]
 | global g=>cases h
def kR(T:List (Nat×V)):List Operand->Option (List V)
 | []=>some []
 | x::xs=>match ev T x,kR T xs with
   | some v,some vs=>some (v::vs)
   | _,_=>none
theorem bn.kR{P:Program}{w:World}{I:Nat->Prop}{ρ:List Nat}{N:Nat}{T:List (Nat×V)}{a:Act}(t:bn P w I ρ N T a.tmps):∀{xs:List Operand} {vs:List V},AF.kR T xs=some vs->ag P w I ρ vs (xs.map a.eval)
 | [],vs,h=>by simp[AF.kR] at h;subst h;simp[ag]
 | x::xs,vs,h=>by
  simp only[AF.kR] at h
  split at h
  ·rename_i y ys h1 h2
   simp at h;subst h
   exact⟨_,_,rfl,t.ev h1,t.kR h2⟩
  ·cases h
section
variable {P:Program} {w w':World} {I:Nat->Prop} {ρ:List Nat} {H:List ai}
theorem cP{b:Nat}(h:w'.heap[b]? =w.heap[b]?):w'.shape? b=w.shape? b:=by simp only[World.shape?,h]
theorem heap_alloc_old(w:World)(o:Obj){b:Nat}(h:b<w.heap.size):(w.alloc o).heap[b]? =w.heap[b]? :=by
 show(w.heap.push o)[b]? =_
 rw[Array.getElem?_push,if_neg (by omega)]
theorem heap_alloc_new(w:World)(o:Obj):(w.alloc o).heap[w.heap.size]? =some o:=by
 show(w.heap.push o)[w.heap.size]? =_
 simp
theorem kM{b:Nat}{s:TypeId×Nat}(h:w.shape? b=some s):b<w.heap.size:=by
 unfold World.shape? at h
 rcases ZD b w.heap.size with h' | h'
 ·exact h'
 ·simp[Array.getElem?_eq_none h'] at h
theorem Ext.drew:Ext w I ρ w.drew I ρ:=
 ⟨⟨rfl,rfl,rfl,Ze _,fun _ _ _=>rfl,fun _ _ h=>h,fun _ h=>h,fun _ _=>rfl,fun _ h=> .inl h,fun _ h=>h,fun _ _ h=>h,fun _ h=> .inl h⟩,ZI _⟩
theorem cN.gh{x:ai}{b:Nat}(h:x.live=false):cN P w I ρ x b:=by
 cases x <;> first | trivial | cases h
theorem Inv.same{I':Nat->Prop}(hi:Inv P w I ρ H)(he:Ext w I ρ w' I' ρ)(hib:∀ b,I' b->b<w'.heap.size)(hn:∀ b,b<w.heap.size->I' b->I b)(hb:∀ b,b<w.heap.size->w'.heap[b]? =w.heap[b]?):Inv P w' I' ρ H where
 gl:=hi.gl.mono he.w.lu he.w.bf
 len:=hi.len
 gf i b blk h1 h2 h3:=ZR (hi.gf i b blk h1 h2 h3) he.w.size
 ib:=hib
 live i b blk h1 h2 h3 h4:=hi.live i b blk h1 h2 h3 (hn b (hi.gf i b blk h1 h2 h3) h4)
 fK:=hi.fK
 rel i b blk h1 h2:=by
  cases hl:blk.live with
  | false=>exact cN.gh hl
  | true=>exact cN.ext he hi h1 h2 (hb b (hi.gf i b blk h1 h2 hl))
theorem Inv.drew(hi:Inv P w I ρ H):Inv P w.drew I ρ H:=hi.same Ext.drew (fun b h=>hi.ib b h) (fun _ _ h=>h) (fun _ _=>rfl)
theorem rm(o:Obj){b:Nat}(h:w.heap[b]? =some (Obj.deferred (some []))):(w.alloc o).heap[b]? =some (Obj.deferred (some [])):=
 (heap_alloc_old w o (ZN.1 h).1).trans h
theorem Ext.gL(hi:Inv P w I ρ H)(o:Obj):Ext w I ρ (w.alloc o) (fun b=>I b∨b=w.heap.size) ρ:=
 ⟨⟨rfl,rfl,rfl,by simp,fun b hb _=>heap_alloc_old w o hb,fun b s h=>(cP (heap_alloc_old w o (kM h))).trans h,fun _ h=> .inl h,fun b h=>heap_alloc_old w o (hi.ib b h),
  fun b h=>by rcases h with h | h;exact .inl h;exact .inr (.inr (by omega)),fun b h=>rm o h,fun b h h2=>by
   rcases h2 with h2 | h2
   ·exact h2
   ·have:=(ZN.1 h).1;omega,fun _ h=> .inl h⟩,ZI _⟩
theorem Inv.gL(hi:Inv P w I ρ H)(o:Obj):Inv P (w.alloc o) (fun b=>I b∨b=w.heap.size) ρ H:=
 hi.same (Ext.gL hi o) (fun b h=>by rcases h with h | h;have:=hi.ib b h;simp;omega;simp;omega) (fun b hb h=>by rcases h with h | h;exact h;omega)
  (fun b hb=>heap_alloc_old w o hb)
theorem Ext.dI(hi:Inv P w I ρ H)(o:Obj):Ext w I ρ (w.alloc o) I ρ:=
 ⟨⟨rfl,rfl,rfl,by simp,fun b hb _=>heap_alloc_old w o hb,fun b s h=>(cP (heap_alloc_old w o (kM h))).trans h,fun _ h=>h,fun b h=>heap_alloc_old w o (hi.ib b h),
  fun b h=> .inl h,fun b h=>rm o h,fun _ _ h=>h,fun _ h=> .inl h⟩,ZI _⟩
theorem Inv.dI(hi:Inv P w I ρ H)(o:Obj):Inv P (w.alloc o) I ρ H:=
 hi.same (Ext.dI hi o) (fun b h=>by have:=hi.ib b h;simp;omega) (fun b _ h=>h) (fun b hb=>heap_alloc_old w o hb)
theorem Ext.aO(hi:Inv P w I ρ H)(o:Obj):Ext w I ρ (w.alloc o) I (ρ++[w.heap.size]):=
 ⟨⟨rfl,rfl,rfl,by simp,fun b hb _=>heap_alloc_old w o hb,fun b s h=>(cP (heap_alloc_old w o (kM h))).trans h,fun _ h=>h,fun b h=>heap_alloc_old w o (hi.ib b h),
  fun b h=> .inl h,fun b h=>rm o h,fun _ _ h=>h,fun b h=>by
   rcases Zp.1 h with h | h
   ·exact .inl h
   ·simp at h;exact .inr (by omega)⟩,⟨_,rfl⟩⟩
theorem br{α:Type}{l:List α}{x y:α}{i:Nat}(h:(l++[x])[i]? =some y):(i<l.length∧l[i]? =some y)∨(i=l.length∧y=x):=by
 rcases Nat.lt_trichotomy i l.length with h1 | h1 | h1
 ·rw[Zc h1] at h;exact .inl ⟨h1,h⟩
 ·subst h1;simp at h;exact .inr ⟨rfl,h.symm⟩
 ·rw[ZE (by simp;omega)] at h;cases h
theorem Inv.aO(hi:Inv P w I ρ H)(o:Obj){blk:ai}(hr:cN P (w.alloc o) I (ρ++[w.heap.size]) blk w.heap.size):Inv P (w.alloc o) I (ρ++[w.heap.size]) (H++[blk]) where
 gl:=hi.gl.mono (fun _ h=>h) (fun b h=>heap_alloc_old w o (hi.ib b h))
 len:=by simp[hi.len]
 gf i b x h1 h2 h3:=by
  rcases br h1 with⟨h5,h6⟩ | ⟨h5,h6⟩
  ·rw[Zc (by rw[<- hi.len];exact h5)] at h2
   have:=hi.gf i b x h6 h2 h3;simp;omega
  ·simp;omega
 ib b h:=by have:=hi.ib b h;simp;omega
 live i b x h1 h2 h3 h4:=by
  rcases br h1 with⟨h5,h6⟩ | ⟨h5,h6⟩
  ·rw[Zc (by rw[<- hi.len];exact h5)] at h2
   exact hi.live i b x h6 h2 h3 h4
  ·have:=hi.ib b h4;omega
 fK i j b x y h1 h2 h3 h4 h5 h6:=by
  rcases br h1 with⟨h7,h8⟩ | ⟨h7,h8⟩ <;> rcases br h2 with⟨h9,h10⟩ | ⟨h9,h10⟩
  ·rw[Zc (by rw[<- hi.len];exact h7)] at h3
   rw[Zc (by rw[<- hi.len];exact h9)] at h4
   exact hi.fK i j b x y h8 h10 h3 h4 h5 h6
  ·rw[Zc (by rw[<- hi.len];exact h7)] at h3
   have:=hi.gf i b x h8 h3 h5;omega
  ·rw[Zc (by rw[<- hi.len];exact h9)] at h4
   have:=hi.gf j b y h10 h4 h6;omega
  ·omega
 rel i b x h1 h2:=by
  rcases br h1 with⟨h5,h6⟩ | ⟨h5,h6⟩
  ·rw[Zc (by rw[<- hi.len];exact h5)] at h2
   cases hl:x.live with
   | false=>exact cN.gh hl
   | true=>exact cN.ext (Ext.aO hi o) hi h6 h2 (heap_alloc_old w o (hi.gf i b x h6 h2 hl))
  ·subst h6
   have:i=H.length:=by rw[<- hi.len];exact h5
   subst this
   simp at h2
   subst h2
   exact hr
theorem not_def(hi:Inv P w I ρ H){i b:Nat}{old:ai}(hb:ρ[i]? =some b)(hH:H[i]? =some old)(hl:old.live=true):w.heap[b]? ≠some (Obj.deferred (some [])):=by
 intro h
 have:=hi.rel i b old hb hH
 cases old with
 | cells cs e=>obtain⟨arr,h1,_⟩:=this;rw[h] at h1;cases h1
 | row cs e=>obtain⟨arr,h1,_⟩:=this;rw[h] at h1;cases h1
 | gJ cs e=>obtain⟨arr,m,h1,_⟩:=this;rw[h] at h1;cases h1
 | map ks vs=>obtain⟨es,c,h1,_⟩:=this;rw[h] at h1;cases h1
 | nQ s p=>have h1:w.heap[b]? =_:=this;rw[h] at h1;cases h1
 | mapIter ks vs last=>
  rcases this with⟨_,_,_,h1⟩ | ⟨r,es,c,seen,h1,_⟩ <;> (rw[h] at h1;cases h1)
 | loop r st pe=>obtain⟨_,⟨fn,d,h1⟩,_⟩:=this;rw[h] at h1;cases h1
 | dead=>cases hl
theorem Ext.write(hi:Inv P w I ρ H){i b:Nat}{old:ai}(hb:ρ[i]? =some b)(hH:H[i]? =some old)(hl:old.live=true)(hos:w'.os=w.os)(X8:w'.tape=w.tape)(hout:w'.output=w.output)
    (hsz:w'.heap.size=w.heap.size)(eJ:∀ k,k≠b->w'.heap[k]? =w.heap[k]?)(hsh:∀ s,w.shape? b=some s->w'.shape? b=some s):Ext w I ρ w' I ρ:=
 ⟨⟨hos,X8,hout,by omega,fun k _ hn=>eJ k (fun e=>hn (e▸Zh hb)),
  fun k s h=>by
   by_cases e:k=b
   ·subst e;exact hsh s h
   ·exact(cP (eJ k e)).trans h,
  fun _ h=>h,fun k h=>eJ k (fun e=>hi.live i b old hb hH hl (e▸h)),fun _ h=> .inl h,fun k h=>(eJ k (fun e=>not_def hi hb hH hl (e▸h))).trans h,fun _ _ h=>h,fun _ h=> .inl h⟩,ZI _⟩
theorem Inv.write(hi:Inv P w I ρ H){i b:Nat}{old new:ai}(hb:ρ[i]? =some b)(hH:H[i]? =some old)(hl:old.live=true)(he:Ext w I ρ w' I ρ)
    (hsz:w'.heap.size=w.heap.size)(eJ:∀ k,k≠b->w'.heap[k]? =w.heap[k]?)(hr:cN P w' I ρ new b):Inv P w' I ρ (H.set i new) where
 gl:=hi.gl.mono he.w.lu he.w.bf
 len:=by simp[hi.len]
 gf j k x h1 h2 h3:=by
  by_cases e:i=j
  ·subst e
   rw[hb] at h1;cases h1
   have:=hi.gf i b old hb hH hl;omega
  ·rw[GU e] at h2
   have:=hi.gf j k x h1 h2 h3;omega
 ib k h:=by have:=hi.ib k h;omega
 live j k x h1 h2 h3 h4:=by
  by_cases e:i=j
  ·subst e
   rw[hb] at h1;cases h1
   exact hi.live i b old hb hH hl h4
  ·rw[GU e] at h2
   exact hi.live j k x h1 h2 h3 h4
 fK j j' k x y h1 h2 h3 h4 h5 h6:=by
  by_cases e:i=j <;> by_cases e':i=j'
  ·omega
  ·subst e
   rw[GU e'] at h4
   exact hi.fK i j' k old y h1 h2 hH h4 hl h6
  ·subst e'
   rw[GU e] at h3
   exact hi.fK j i k x old h1 h2 h3 hH h5 hl
  ·exact AL
 rel j k x h1 h2:=by
  by_cases e:i=j
  ·subst e
   rw[hb] at h1;cases h1
   have:i<H.length:=(Za.1 hH).1
   simp[this] at h2
   subst h2
   exact hr
  ·rw[GU e] at h2
   by_cases hd:x.live=true
   ·have hk:k≠b:=fun ek=>e (hi.fK i j b old x hb (ek▸h1) hH h2 hl hd)
    exact cN.ext he hi h1 h2 (eJ k hk)
   ·cases x <;> first | trivial | (exact absurd rfl hd)
theorem Ext.freeze(hi:Inv P w I ρ H){i b:Nat}{old:ai}(hb:ρ[i]? =some b)(hH:H[i]? =some old)(hl:old.live=true):Ext w I ρ w (fun k=>I k∨k=b) ρ:=
 ⟨⟨rfl,rfl,rfl,Ze _,fun _ _ _=>rfl,fun _ _ h=>h,fun _ h=> .inl h,fun _ _=>rfl,fun k h=>by
  rcases h with h | h
  ·exact .inl h
  ·exact .inr (.inl (h▸Zh hb)),fun _ h=>h,fun k h h2=>by
  rcases h2 with h2 | h2
  ·exact h2
  ·exact absurd h (h2▸not_def hi hb hH hl),fun _ h=> .inl h⟩,ZI _⟩
theorem Inv.freeze(hi:Inv P w I ρ H){i b:Nat}{old:ai}(hb:ρ[i]? =some b)(hH:H[i]? =some old)(hl:old.live=true):Inv P w (fun k=>I k∨k=b) ρ (H.set i .dead) where
 gl:=hi.gl.mono (fun _ h=> .inl h) (fun _ _=>rfl)
 len:=by simp[hi.len]
 gf j k x h1 h2 h3:=by
  by_cases e:i=j
  ·subst e
   rw[hb] at h1;cases h1
   exact hi.gf i b old hb hH hl
  ·rw[GU e] at h2
   exact hi.gf j k x h1 h2 h3
 ib k h:=by
  rcases h with h | h
  ·exact hi.ib k h
  ·subst h;exact hi.gf i _ old hb hH hl
 live j k x h1 h2 h3 h4:=by
  by_cases e:i=j
  ·subst e
   have:i<H.length:=(Za.1 hH).1
   simp[this] at h2
   subst h2
   cases h3
  ·rw[GU e] at h2
   rcases h4 with h4 | h4
   ·exact hi.live j k x h1 h2 h3 h4
   ·subst h4
    exact e (hi.fK i j k old x hb h1 hH h2 hl h3)
 fK j j' k x y h1 h2 h3 h4 h5 h6:=by
  by_cases e:i=j
  ·subst e
   have:i<H.length:=(Za.1 hH).1
   simp[this] at h3
   subst h3
   cases h5
  ·by_cases e':i=j'
   ·subst e'
    have:i<H.length:=(Za.1 hH).1
    simp[this] at h4
    subst h4
    cases h6
   ·exact AL
 rel j k x h1 h2:=by
  by_cases e:i=j
  ·subst e
   have:i<H.length:=(Za.1 hH).1
   simp[this] at h2
   subst h2
   trivial
  ·rw[GU e] at h2
   exact cN.ext (Ext.freeze hi hb hH hl) hi h1 h2 rfl
theorem Inv.nothing(hi:Inv P w I ρ H):Inv P w I [] []:=
 ⟨rfl,(fun _ _ _ h=>by simp at h),hi.ib,(fun _ _ _ h=>by simp at h),(fun _ _ _ _ _ h=>by simp at h),(fun _ _ _ h=>by simp at h),hi.gl⟩
theorem Inv.frame{I':Nat->Prop}(hi:Inv P w I ρ H)(he:Ext w I [] w' I' [])(hi':Inv P w' I' [] []):Ext w I ρ w' I' ρ∧Inv P w' I' ρ H:=by
 have hk:∀ b,b<w.heap.size->w'.heap[b]? =w.heap[b]? :=fun b hb=>he.w.keep b hb (by simp)
 have hn:∀ b,b<w.heap.size->I' b->I b:=fun b hb h=>by
  rcases he.w.ew b h with h | h | h
  ·exact h
  ·cases h
  ·omega
 have hE:Ext w I ρ w' I' ρ:=⟨⟨he.w.os,he.w.tape,he.w.output,he.w.size,fun b hb _=>hk b hb,he.w.shape,he.w.lu,he.w.bf,fun b h=>by
  rcases he.w.ew b h with h | h | h
  ·exact .inl h
  ·cases h
  ·exact .inr (.inr h),he.w.cL,he.w.j9,fun _ h=> .inl h⟩,ZI _⟩
 exact⟨hE,hi.same hE hi'.ib hn hk⟩
end
def Fr(R:Option Nat):Fence:={Fence.wide with round:=R}
inductive AX where
 | normal | ret
 | exit (id:Nat)
 | panic (v:V)
def ExR(P:Program)(w:World)(I:Nat->Prop)(ρ:List Nat):AX->Exit->Prop
 | .normal,.normal=>True
 | .ret,.ret=>True
 | .exit i,.exit j=>i=j
 | .panic v,.panic chain=>∃ u,chain=[{v:=u,recovered:=false}]∧az P w I ρ v u
 | _,_=>False
structure mo where
 size:Nat
 pre:List Nat
 defs:List Deferred
def Marks(κ:Nat)(B:mo)(w:World)(I:Nat->Prop)(ρ:List Nat)(ds:List Deferred):Prop:=
 B.size<=w.heap.size∧B.pre.length<=κ∧B.pre<+:ρ∧∃ rs:List Nat,ds=rs.map (fun r=>{target:= .collected r,args:= #[]})++B.defs∧rs.Nodup∧∀ r∈rs,w.heap[r]? =some (Obj.deferred (some []))∧¬ I r∧B.size<=r
theorem Marks.ext{κ:Nat}{B:mo}{w w':World}{I I':Nat->Prop}{ρ ρ':List Nat}{ds:List Deferred}(h:Ext w I ρ w' I' ρ')(m:Marks κ B w I ρ ds):Marks κ B w' I' ρ' ds:=by
 obtain⟨hB,hκ,hp,rs,h1,h2,h3⟩:=m
 refine⟨ZT hB h.w.size,hκ,hp.trans h.pre,rs,h1,h2,fun r hr=> ?_⟩
 obtain⟨h4,h5,h6⟩:=h3 r hr
 exact⟨h.w.cL r h4,fun h7=>h5 (h.w.j9 r h4 h7),h6⟩
abbrev Tm:=List (Nat×V)
abbrev Post:=AX->Tm->List ai->Prop
def QC(κ:Nat)(B:mo)(P:Program)(N:Nat)(Q:Post)(w:World)(I:Nat->Prop)(ρ:List Nat)(e:Exit)(a':Act)(w':World):Prop:=
 ∃ x I' ρ' T' H',ExR P w' I' ρ' x e∧Q x T' H'∧cy w I ρ w' I' ρ'∧Inv P w' I' ρ' H'∧bn P w' I' ρ' N T' a'.tmps∧Marks κ B w' I' ρ' a'.defers
theorem QC.ext{κ:Nat}{B:mo}{P:Program}{N:Nat}{Q:Post}{w w':World}{I I':Nat->Prop}{ρ ρ':List Nat}(h:cy w I ρ w' I' ρ'){e:Exit}{a:Act}{u:World}(q:QC κ B P N Q w' I' ρ' e a u):QC κ B P N Q w I ρ e a u:=by
 obtain⟨x,J,σ,T,H,h1,h2,h3,h4⟩:=q
 exact⟨x,J,σ,T,H,h1,h2,h.trans h3,h4⟩
def aI(P:Program)(R:Option Nat)(N κ:Nat)(c:Code)(Q:Post)(T:Tm)(H:List ai):Prop:=
 ∀ B w I ρ a,Inv P w I ρ H->bn P w I ρ N T a.tmps->Marks κ B w I ρ a.defers->c.wpIn (Fr R) 0 P (QC κ B P N Q w I ρ) a w
section
variable {P:Program} {R:Option Nat} {N κ:Nat} {Q Q':Post} {T T':Tm} {H:List ai}
theorem aI.mono{c:Code}(h:aI P R N κ c Q T H)(hq:∀ x T H,Q x T H->Q' x T H):aI P R N κ c Q' T H:=
 fun B w I ρ a hi ht hm=>wpIn_mono (h B w I ρ a hi ht hm) fun _ _ _ ⟨x,J,σ,T,H,h1,h2,h3⟩=>⟨x,J,σ,T,H,h1,hq _ _ _ h2,h3⟩
theorem aI.skip(h:Q .normal T H):aI P R N κ .skip Q T H:=
 fun B w I ρ a hi ht hm=>wpIn_skip ⟨.normal,I,ρ,T,H,trivial,h,cy.refl _ _ _,hi,ht,hm⟩
theorem aI.ret(h:Q .ret T H):aI P R N κ .ret Q T H:=
 fun B w I ρ a hi ht hm=>wpIn_ret ⟨.ret,I,ρ,T,H,trivial,h,cy.refl _ _ _,hi,ht,hm⟩
theorem aI.exit{id:Nat}(h:Q (.exit id) T H):aI P R N κ (.exit id) Q T H:=
 fun B w I ρ a hi ht hm=>wpIn_exit ⟨.exit id,I,ρ,T,H,rfl,h,cy.refl _ _ _,hi,ht,hm⟩
def AX.then(next:Tm->List ai->Prop)(Q:Post):Post
 | .normal,T,H=>next T H
 | x,T,H=>Q x T H
theorem aI.seq{x y:Code}(h:aI P R N κ x (AX.then (aI P R N κ y Q) Q) T H):aI P R N κ (.seq x y) Q T H:=by
 intro B w I ρ a hi ht hm
 refine wpIn_seq (wpIn_mono (h B w I ρ a hi ht hm) ?_)
 rintro e a' w' ⟨z,J,σ,T1,H1,h1,h2,h3,h4,h5,h6⟩
 cases z <;> cases e <;> first | exact h1.elim | skip
 ·exact wpIn_mono (h2 B w' J σ a' h4 h5 h6) fun _ _ _ q=>QC.ext h3 q
 all_goals exact⟨_,J,σ,T1,H1,h1,h2,h3,h4,h5,h6⟩
theorem aI.cond{c:Operand}{x y:Code}(b:Bool)(hc:ev T c=some (.p (.bool b)))(ht:b=true->aI P R N κ x Q T H)(hf:b=false->aI P R N κ y Q T H):aI P R N κ (.cond c x y) Q T H:=
 fun B w I ρ a hi hT hm=>wpIn_cond_split (t:=b) (by have:=hT.ev hc;simpa[az,Rel] using this) (fun h=>ht h B w I ρ a hi hT hm) (fun h=>hf h B w I ρ a hi hT hm)
def AX.inBlock(id:Nat)(Q:Post):Post
 | .exit id',T,H=>if id'=id then Q .normal T H else Q (.exit id') T H
 | x,T,H=>Q x T H
theorem aI.block{id:Nat}{c:Code}(h:aI P R N κ c (AX.inBlock id Q) T H):aI P R N κ (.block id c) Q T H:=by
 intro B w I ρ a hi ht hm
 refine wpIn_block (wpIn_mono (h B w I ρ a hi ht hm) ?_)
 rintro e a' w' ⟨z,J,σ,T1,H1,h1,h2,h3⟩
 cases z <;> cases e <;> first | exact h1.elim | skip
 ·exact⟨.normal,J,σ,T1,H1,h1,h2,h3⟩
 ·exact⟨.ret,J,σ,T1,H1,h1,h2,h3⟩
 ·rename_i i j
  obtain rfl:i=j:=h1
  simp only[AX.inBlock] at h2
  simp only[Exit.inBlock]
  by_cases e:i=id
  ·rw[if_pos e] at h2 ⊢
   exact⟨.normal,J,σ,T1,H1,trivial,h2,h3⟩
  ·rw[if_neg e] at h2 ⊢
   exact⟨.exit i,J,σ,T1,H1,rfl,h2,h3⟩
 ·exact⟨_,J,σ,T1,H1,h1,h2,h3⟩
end
theorem exists_least(p:Nat->Prop)(h:∃ n,p n):∃ n,p n∧∀ m,p m->n<=m:=by
 obtain⟨n,hn⟩:=h
 induction n using Nat.strongRecOn with
 | _ n ih=>
  by_cases hm:∃ m,m<n∧p m
  ·obtain⟨m,h1,h2⟩:=hm
   exact ih m h1 h2
  ·exact⟨n,hn,fun m h=>by
     rcases ZD m n with h1 | h1
     ·exact absurd ⟨m,h1,h⟩ hm
     ·exact h1⟩
theorem Ah{γ:Type}{F:Fence}{n:Nat}{P:Program}{c:Code}{Q:Exit->Act->World->Prop}{a:Act}{w:World}(J:γ->Act->World->Prop)(μ:γ->Nat)(g0:γ)(h0:J g0 a w)
    (round:∀ g a w,J g a w->c.wpIn F n P (Exit.then (fun a' w'=>∃ g',J g' a' w'∧μ g'<μ g) Q) a w):(Code.loop c).wpIn F n P Q a w:=by
 have hl:∀ a w,(∃ g,J g a w)->∃ m,(∃ g,μ g=m∧J g a w)∧∀ k,(∃ g,μ g=k∧J g a w)->m<=k:=fun a w ⟨g,hg⟩=>exists_least _ ⟨μ g,g,rfl,hg⟩
 classical
 let M:Act->World->Nat:=fun a w=>if h:∃ g,J g a w then Classical.choose (hl a w h) else 0
 have hM:∀ a w,(∃ g,J g a w)->(∃ g,μ g=M a w∧J g a w)∧∀ g,J g a w->M a w<=μ g:=fun a w h=>by
  have h1:=Classical.choose_spec (hl a w h)
  have e:M a w=Classical.choose (hl a w h):=dif_pos h
  rw[e]
  exact⟨h1.1,fun g hg=>h1.2 _ ⟨g,rfl,hg⟩⟩
 refine wpIn_loop (fun a w=>∃ g,J g a w) M ⟨g0,h0⟩ fun a w h=> ?_
 obtain⟨⟨g,hg,hJ⟩,_⟩:=hM a w h
 refine wpIn_mono (round g a w hJ) ?_
 intro e a' w' q
 cases e with
 | normal=>
  obtain⟨g',h1,h2⟩:=q
  refine⟨⟨g',h1⟩,?_⟩
  have:=(hM a' w' ⟨g',h1⟩).2 g' h1
  omega
 | _=>exact q
section
variable {P:Program} {R:Option Nat} {N κ:Nat} {Q Q':Post} {T T':Tm} {H:List ai}
def aa(P:Program)(N:Nat)(o:Oper)(T:Tm)(H:List ai)(v:V)(H':List ai):Prop:=
 ∀ R w I ρ a,Inv P w I ρ H->bn P w I ρ N T a.tmps->∀(K:Act->World->Prop) (QX:Exit->Act->World->Prop),
  (∀ u w' I' ρ',Ext w I ρ w' I' ρ'->Inv P w' I' ρ' H'->az P w' I' ρ' v u->K (a.put o.dst u) w')->o.wpIn (Fr R) 0 P a w K QX
theorem bB{o:Oper}{a:Act}{w:World}{R:Option Nat}:∀ f,o.about P w a.eval=some f->(Fr R).fn f:=fun _ _=>trivial
theorem bD(R:Option Nat)(ρ:Operand->Value)(o:Oper)(h:∀ c,o.op≠ .defer c):o.semAt R ρ=execOp ρ o:=Oper.semAt_eq R ρ o h
theorem aa.dz{o:Oper}{v:V}{H':List ai}(hop:∀ c,o.op≠ .defer c)
    (h:∀ w I ρ (a:Act),Inv P w I ρ H->bn P w I ρ N T a.tmps->∃ u w' I' ρ',((execOp a.eval o).run P w= .ok (.value u) w'∨((execOp a.eval o).run P w= .ok .skip w'∧u=undef))∧Ext w I ρ w' I' ρ'∧Inv P w' I' ρ' H'∧az P w' I' ρ' v u):
    aa P N o T H v H':=by
 intro R w I ρ a hi ht K QX hK
 refine⟨bB,?_⟩
 rw[bD _ _ _ hop]
 obtain⟨u,w',I',ρ',h1,h2,h3,h4⟩:=h w I ρ a hi ht
 rcases h1 with h1 | ⟨h1,rfl⟩
 ·rw[h1];exact hK u w' I' ρ' h2 h3 h4
 ·rw[h1];exact hK undef w' I' ρ' h2 h3 h4
theorem aa.aN{o:Oper}{v:V}(hop:∀ c,o.op≠ .defer c)
    (h:∀ w I ρ (a:Act),Inv P w I ρ H->bn P w I ρ N T a.tmps->∃ u,(execOp a.eval o).run P w= .ok (.value u) w∧az P w I ρ v u):aa P N o T H v H:=
 aa.dz hop fun w I ρ a hi ht=>let ⟨u,h1,h2⟩:=h w I ρ a hi ht;⟨u,w,I,ρ,.inl h1,Ext.refl _ _ _,hi,h2⟩
def aj(P:Program)(R:Option Nat)(N κ:Nat)(ops:Array Oper)(l:List Oper)(Q:Post)(T:Tm)(H:List ai):Prop:=
 ∀(QX:Exit->Act->World->Prop) B w I ρ a,Inv P w I ρ H->bn P w I ρ N T a.tmps->Marks κ B w I ρ a.defers->(∀ e a' w',QC κ B P N Q w I ρ e a' w'->QX e a' w')->wpListIn (Fr R) 0 P ops QX l a w
theorem aI.region{id:Nat}{l:List Oper}(h:aj P R N κ l.toArray l Q T H):aI P R N κ (.region id l.toArray false) Q T H:=
 fun B w I ρ a hi ht hm=>wpIn_region_lit (h _ B w I ρ a hi ht hm fun _ _ _ q=>q)
theorem aj.nil{ops:Array Oper}(h:Q .normal T H):aj P R N κ ops [] Q T H:=
 fun QX B w I ρ a hi ht hm hq=>wpListIn_nil (hq _ _ _ ⟨.normal,I,ρ,T,H,trivial,h,cy.refl _ _ _,hi,ht,hm⟩)
theorem Marks.put{κ:Nat}{B:mo}{w:World}{I:Nat->Prop}{ρ:List Nat}{a:Act}{d:Option Nat}{u:Value}(m:Marks κ B w I ρ a.defers):Marks κ B w I ρ (a.put d u).defers:=by
 cases d <;> exact m
theorem aj.cons{ops:Array Oper}{o:Oper}{rest:List Oper}{v:V}{H':List ai}(hg:o.guard=none)(hd:aZ N o.dst=true)(hop:aa P N o T H v H')
    (next:aj P R N κ ops rest Q (fF T o.dst v) H'):aj P R N κ ops (o::rest) Q T H:=by
 intro QX B w I ρ a hi ht hm hq
 refine wpListIn_plain hg fun K hK=>hop R w I ρ a hi ht K QX fun u w' I' ρ' he hi' hv=>hK _ _ ?_
 exact next QX B w' I' ρ' (a.put o.dst u) hi' ((ht.ext he).put hd hv) ((hm.ext he).put) fun e a2 w2 q=>hq e a2 w2 (QC.ext he.w q)
def oP(ops:Array Oper)(j:Nat):Option Nat:=(ops[j]?).bind (·.dst)
def pZ(want:Bool):V->Option Bool
 | .p (.bool b)=>some (b==want)
 | .opt g (.p (.bool b))=>some (g&&(b==want))
 | _=>none
theorem l7{ops:Array Oper}{w:World}{I:Nat->Prop}{ρ:List Nat}{j s:Nat}{want c:Bool}{x:V}{tmps:Array Value}(hs:oP ops j=some s)(ht:bn P w I ρ N T tmps)(hd:aZ N (some s)=true)(hb:lk T s=some x)(hc:pZ want x=some c):
    (yielded ops tmps j==some want)=c:=by
 have h1:=ht.at_ s _ hb
 have hlt:s<tmps.size:=by
  have h0:s<N:=by simpa[aZ,Nat.blt,Zw] using hd
  rw[ht.size];exact h0
 have oC:tmps.getD s undef=tmps[s]:=by simp[hlt]
 rw[oC] at h1
 have Va:∀ b:Bool,tmps[s]= .bool b->yielded ops tmps j=some b:=fun b h=>by
  unfold yielded
  unfold oP at hs
  rw[hs]
  simp[hlt,h]
 have gZ:tmps[s]=undef->yielded ops tmps j=none:=fun h=>by
  unfold yielded
  unfold oP at hs
  rw[hs]
  simp[hlt,h,undef]
 unfold pZ at hc
 split at hc
 ·rename_i b
  simp at hc
  rw[Va b h1,<- hc]
  cases b <;> cases want <;> rfl
 ·rename_i g b
  simp at hc
  cases g with
  | true=>rw[Va b (h1.1 rfl),<- hc];cases b <;> cases want <;> rfl
  | false=>rw[gZ (h1.2 rfl),<- hc];rfl
 ·cases hc
def rF:Tm->Tm->Prop
 | [],_=>True
 | (s,v)::r,T=>(lk T s=some v∨∃ g,lk T s=some (.opt g v)∧g=true)∧rF r T
theorem bn.rF{w:World}{I:Nat->Prop}{ρ:List Nat}{tmps:Array Value}(ht:bn P w I ρ N T tmps):∀{T2:Tm},AF.rF T2 T->bn P w I ρ N T2 tmps
 | [],_=>⟨ht.size,fun s v h=>by cases h⟩
 | (s,v)::r,h=>by
  obtain⟨h1,h2⟩:=h
  have ih:=bn.rF ht h2
  refine⟨ht.size,fun s' v' h'=> ?_⟩
  simp only[lk] at h'
  cases hb:Nat.beq s s' with
  | false=>rw[hb] at h';exact ih.at_ s' v' h'
  | true=>
   rw[hb] at h'
   have:=ZO hb
   subst this
   simp at h'
   subst h'
   rcases h1 with h1 | ⟨g,h1,h3⟩
   ·exact ht.at_ s _ h1
   ·exact(ht.at_ s _ h1).1 h3
theorem aj.guard{ops:Array Oper}{o:Oper}{rest:List Oper}{j s:Nat}{want c:Bool}{x v:V}(hg:o.guard=some (j,want))(hs:oP ops j=some s)(hd:aZ N o.dst=true)(hd':aZ N (some s)=true)
    (hb:lk T s=some x)(hc:pZ want x=some c)(T2:Tm)(h2:c=true->rF T2 T)(hop:c=true->aa P N o T2 H v H)
    (next:aj P R N κ ops rest Q (fF T o.dst (.opt c v)) H):aj P R N κ ops (o::rest) Q T H:=by
 intro QX B w I ρ a hi ht hm hq
 refine wpListIn_step fun K hK=> ?_
 simp only[Region.wanted,hg,l7 hs ht hd' hb hc]
 cases c with
 | true=>
  simp only[if_true]
  refine hop rfl R w I ρ a hi (ht.rF (h2 rfl)) K QX fun u w' I' ρ' he hi' hv=>hK _ _ ?_
  exact next QX B w' I' ρ' (a.put o.dst u) hi' ((ht.ext he).put hd ⟨fun _=>hv,(fun h=>by cases h)⟩) ((hm.ext he).put) fun e a2 w2 q=>hq e a2 w2 (QC.ext he.w q)
 | false=>
  simp only[Kw,if_false]
  refine⟨bB,hK _ _ ?_⟩
  exact next QX B w I ρ (a.put o.dst undef) hi (ht.put hd ⟨(fun h=>by cases h),fun _=>rfl⟩) hm.put hq
def ax(P:Program)(f:FuncId)(args:List V)(H:List ai)(Q:V->List ai->Prop):Prop:=
 ∀ w I ρ us,Inv P w I ρ H->ag P w I ρ args us->CallsIn Fence.wide 0 P f us.toArray w fun e w'=>∃ u v I' ρ' H',e= .returned u∧Q v H'∧Ext w I ρ w' I' ρ'∧Inv P w' I' ρ' H'∧az P w' I' ρ' v u
def Pure(P:Program)(f:FuncId)(args:List PV)(r:PV):Prop:=ax P f (args.map .p) [] fun v H'=>v= .p r∧H'=[]
def eT(P:Program)(N:Nat)(fn:Func)(T:Tm)(H:List ai)(v:V):Prop:=
 ∀ w I ρ (a:Array Value),Inv P w I ρ H->bn P w I ρ N T a->∃ u,(results fn a).run P w= .ok u w∧az P w I ρ v u
def cW:Nat->List V->Tm
 | _,[]=>[]
 | k,v::vs=>(k,v)::cW (k+1) vs
theorem mZ{w:World}{I:Nat->Prop}{ρ:List Nat}:∀(vs:List V) (us:List Value) (k:Nat) (pre post:List Value),pre.length=k->ag P w I ρ vs us->∀ s v,lk (cW k vs) s=some v->az P w I ρ v ((pre++us++post).toArray.getD s undef)
 | [],_,_,_,_,_,_,s,v,h=>by cases h
 | x::vs,us,k,pre,post,hk,h,s,v,hv=>by
  obtain⟨u,us',rfl,h1,h2⟩:=h
  simp only[cW,lk] at hv
  cases hb:Nat.beq k s with
  | true=>
   rw[hb] at hv
   have:=ZO hb
   subst this
   simp at hv
   subst hv
   subst hk
   simpa using h1
  | false=>
   rw[hb] at hv
   have:=mZ vs us' (k+1) (pre++[u]) post (by simp[hk]) h2 s v hv
   exact dx
theorem ag.length{w:World}{I:Nat->Prop}{ρ:List Nat}:∀{vs:List V} {us:List Value},ag P w I ρ vs us->us.length=vs.length
 | [],us,h=>by simp[ag] at h;simp[h]
 | _::vs,us,h=>by
  obtain⟨u,us',rfl,_,h2⟩:=h
  simp[ag.length h2]
theorem Inv.marks{w w':World}{I:Nat->Prop}{ρ:List Nat}(hi:Inv P w I ρ H)(hsz:w'.heap.size=w.heap.size)(hI:∀ b,I b->w'.heap[b]? =w.heap[b]?)(hρ:∀ b:Nat,w.heap[b]? ≠some (Obj.deferred (some []))->w'.heap[b]? =w.heap[b]?)(hs:∀ b s,w.shape? b=some s->w'.shape? b=some s):Inv P w' I ρ H:=
 ⟨hi.len,fun i b x h1 h2 h3=>by rw[hsz];exact hi.gf i b x h1 h2 h3,fun b h=>by rw[hsz];exact hi.ib b h,hi.live,hi.fK,
  fun i b blk h1 h2=>by
   cases hl:blk.live with
   | false=>exact cN.gh hl
   | true=>exact cN.mono (fun _ h=>h) hI (ZI _) (fun b _ s h=>hs b s h) (hρ b (not_def hi h1 h2 hl)) (hi.rel i b blk h1 h2),hi.gl.mono (fun _ h=>h) hI⟩
theorem lM{F:Fence}{fn:Func}{tmps:Array Value}{Rr:Ending->World->Prop}:∀(rs:List Nat) (w:World),rs.Nodup->(∀ r∈rs,w.heap[r]? =some (Obj.deferred (some [])))->
    (∀ w',(∀ b,b∉rs->w'.heap[b]? =w.heap[b]?)->w'.os=w.os->w'.tape=w.tape->w'.output=w.output->w'.heap.size=w.heap.size->∃ u,(results fn tmps).run P w'= .ok u w'∧Rr (.returned u) w')->
    LeavesInM F 0 P fn tmps Rr (rs.map fun r=>{target:= .collected r,args:= #[]}) .returning w:=by
 intro rs
 induction rs with
 | nil=>
  intro w _ _ h
  obtain⟨u,h1,h2⟩:=h w (fun _ _=>rfl) rfl rfl rfl rfl
  simp only[xo,LeavesInM,LeavesIn]
  exact⟨u,h1,h2⟩
 | cons r rs ih=>
  exact Ay
theorem ax.gN{f:FuncId}{fn:Func}{c:Code}{args:List V}{Qr:V->List ai->Prop}(hf:P.funcs[f]? =some fn)(hb:fn.body=some c)(hn:args.length<=fn.ntmps)
    (h:aI P none fn.ntmps H.length c (fun x T' H'=>(x= .normal∨x= .ret)∧∃ v,eT P fn.ntmps fn T' H' v∧Qr v H') (cW 0 args) H):ax P f args H Qr:=by
 intro w I ρ us hi fT
 have hl:=ag.length fT
 refine callsIn_of_wp_marks hf hb trivial ?_ rfl
 have ht:bn P w I ρ fn.ntmps (cW 0 args) (us.toArray++Array.replicate (fn.ntmps - us.toArray.size) undef):=by
  exact nc
 refine wpIn_mono (h ⟨w.heap.size,ρ,[]⟩ w I ρ {tmps:=us.toArray++Array.replicate (fn.ntmps - us.toArray.size) undef,defers:=[]} hi ht ⟨Ze _,Oz hi.len,ZI _,[],rfl,OQ,fun _ h=>by cases h⟩) ?_
 rintro e a' w' ⟨z,I',ρ',T',H',h1,⟨h2,v,hv,hq⟩,h3,h4,h5,hB,_,hpre,rs,h6,h7,h8⟩
 have fin:LeavesInM Fence.wide 0 P fn a'.tmps (fun e w'=>∃ u v I' ρ' H',e= .returned u∧Qr v H'∧Ext w I ρ w' I' ρ'∧Inv P w' I' ρ' H'∧az P w' I' ρ' v u) a'.defers .returning w':=by
  rw[h6]
  show LeavesInM _ _ _ _ _ _ (_++[]) _ _
  rw[ZU]
  refine lM rs w' h7 (fun r hr=>(h8 r hr).1) ?_
  intro w2 k1 k2 k3 k4 k5
  have kI:∀ b,I' b->w2.heap[b]? =w'.heap[b]? :=fun b hb=>k1 b (fun hm=>(h8 b hm).2.1 hb)
  have kρ:∀ b:Nat,w'.heap[b]? ≠some (Obj.deferred (some []))->w2.heap[b]? =w'.heap[b]? :=fun b hb=>k1 b (fun hm=>hb (h8 b hm).1)
  have ks:∀ b s,w'.shape? b=some s->w2.shape? b=some s:=fun b s hs=>by
   exact qJ
  have hi2:Inv P w2 I' ρ' H':=h4.marks k5 kI kρ ks
  have jz:bn P w2 I' ρ' fn.ntmps T' a'.tmps:=⟨h5.size,fun s x hx=>az.mono (fun _ h=>h) kI (ZI _) (fun b _ s h=>ks b s h) x _ (h5.at_ s x hx)⟩
  obtain⟨u,hu1,Pe⟩:=hv w2 I' ρ' a'.tmps hi2 jz
  refine⟨u,hu1,u,v,I',ρ',H',rfl,hq,?_,hi2,Pe⟩
  have hlow:∀ b,b<w.heap.size->w2.heap[b]? =w'.heap[b]? :=fun b hb=>k1 b (fun hm=>by have:=(h8 b hm).2.2;simp only at this;omega)
  exact⟨⟨k2.trans h3.os,k3.trans h3.tape,k4.trans h3.output,by rw[k5];exact h3.size,fun b hb hn=>(hlow b hb).trans (h3.keep b hb hn),
   fun b s hs=>ks b s (h3.shape b s hs),h3.lu,fun b hb=>(kI b (h3.lu b hb)).trans (h3.bf b hb),h3.ew,fun b hb=>(hlow b (ZN.1 hb).1).trans (h3.cL b hb),h3.j9,h3.new⟩,hpre⟩
 rcases h2 with rfl | rfl <;> cases e <;> first | exact h1.elim | exact fin
theorem Pure.L6{f:FuncId}{args:List PV}{r:PV}(h:ax P f (args.map .p) [] fun v _=>v= .p r):Pure P f args r:=by
 intro w I ρ us hi fT
 have hρ:ρ=[]:=ZA hi.len
 subst hρ
 refine(h w I [] us hi fT).mono ?_
 rintro e w' ⟨u,v,J,σ,H',h1,rfl,h3,h4,h5⟩
 exact⟨u,_,J,[],[],h1,⟨rfl,rfl⟩,⟨⟨h3.w.os,h3.w.tape,h3.w.output,h3.w.size,h3.w.keep,h3.w.shape,h3.w.lu,h3.w.bf,h3.w.ew,h3.w.cL,h3.w.j9,(fun _ h=>by cases h)⟩,ZI _⟩,h4.nothing,h5⟩
theorem Pure.gN{f:FuncId}{fn:Func}{c:Code}{args:List PV}{r:PV}(hf:P.funcs[f]? =some fn)(hb:fn.body=some c)(hn:args.length<=fn.ntmps)
    (h:aI P none fn.ntmps 0 c (fun x T' H'=>(x= .normal∨x= .ret)∧eT P fn.ntmps fn T' H' (.p r)) (cW 0 (args.map .p)) []):Pure P f args r:=
 Pure.L6 (ax.gN hf hb (by simpa using hn) (h.mono fun x T H ⟨h1,h2⟩=>⟨h1,_,h2,rfl⟩))
end
section
variable {P:Program} {R:Option Nat} {N κ:Nat} {Q Q':Post} {T T':Tm} {H:List ai} {o:Oper}
theorem aa.move{x:Operand}{v:V}(ho:o.op= .move x)(hx:ev T x=some v):aa P N o T H v H:=
 aa.aN (by simp[ho]) fun w I ρ a hi ht=>⟨a.eval x,by simp[execOp,ho],ht.ev hx⟩
theorem aa.assign{x:Operand}{v:V}(ho:o.op= .assign x)(hx:ev T x=some v):aa P N o T H v H:=
 aa.aN (by simp[ho]) fun w I ρ a hi ht=>⟨a.eval x,by simp[execOp,ho],ht.ev hx⟩
theorem qD{w:World}{I:Nat->Prop}{ρ:List Nat}{a:Act}(ht:bn P w I ρ N T a.tmps){x:Operand}{b:Bool}(h:ev T x=some (.p (.bool b))):a.eval x= .bool b:=by
 have:=ht.ev h;simpa[az,Rel] using this
theorem cS{w:World}{I:Nat->Prop}{ρ:List Nat}{a:Act}(ht:bn P w I ρ N T a.tmps){x:Operand}{k:IntKind}{n:Int}(h:ev T x=some (.p (.int k n))):a.eval x= .int k n:=by
 have:=ht.ev h;simpa[az,Rel] using this
theorem jt{w:World}{I:Nat->Prop}{ρ:List Nat}{a:Act}(ht:bn P w I ρ N T a.tmps){x:Operand}{s:ByteArray}(h:ev T x=some (.p (.str s))):a.eval x= .string s:=by
 have:=ht.ev h;simpa[az,Rel] using this
theorem aa.gG{c x:Operand}{b g d:Bool}(ho:o.op= .pick c x (.const (.bool false)))(hc:ev T c=some (.p (.bool b)))(hx:ev T x=some (.opt g (.p (.bool d))))(hg:b=true->g=true):aa P N o T H (.p (.bool (b&&d))) H:=
 aa.aN (by simp[ho]) fun w I ρ a hi ht=>by
  have h1:=qD ht hc
  have h2:=ht.ev hx
  refine⟨.bool (b&&d),?_,by simp[az,Rel]⟩
  cases b with
  | false=>
   have hk:a.eval (.const (.bool false))= .bool false:=rfl
   simp[execOp,ho,h1,asBool,hk]
  | true=>
   have h3:=h2.1 (hg rfl)
   simp only[az,Rel] at h3
   simp[execOp,ho,h1,asBool,h3]
theorem aa.pG{c y:Operand}{b g d:Bool}(ho:o.op= .pick c (.const (.bool true)) y)(hc:ev T c=some (.p (.bool b)))(hy:ev T y=some (.opt g (.p (.bool d))))(hg:b=false->g=true):aa P N o T H (.p (.bool (b||d))) H:=
 aa.aN (by simp[ho]) fun w I ρ a hi ht=>by
  have h1:=qD ht hc
  have h2:=ht.ev hy
  refine⟨.bool (b||d),?_,by simp[az,Rel]⟩
  cases b with
  | true=>
   have hk:a.eval (.const (.bool true))= .bool true:=rfl
   simp[execOp,ho,h1,asBool,hk]
  | false=>
   have h3:=h2.1 (hg rfl)
   simp only[az,Rel] at h3
   simp[execOp,ho,h1,asBool,h3]
theorem aa.gH{x:Operand}{t:TypeId}{b:Bool}(ho:o.op= .unOp .not t x)(hx:ev T x=some (.p (.bool b))):aa P N o T H (.p (.bool (!b))) H:=
 aa.aN (by simp[ho]) fun w I ρ a hi ht=>⟨.bool (!b),by simp[execOp,ho,qD ht hx,Op.unary],by simp[az,Rel]⟩
theorem aa.neg{x:Operand}{t:TypeId}{k:IntKind}{n m:Int}(ho:o.op= .unOp .neg t x)(hx:ev T x=some (.p (.int k n)))(hw:k.wrap (0 - n)=m):aa P N o T H (.p (.int k m)) H:=
 aa.aN (by simp[ho]) fun w I ρ a hi ht=>⟨.int k m,by simp[execOp,ho,cS ht hx,Op.unary,Op.intArith,<- hw],by simp[az,Rel]⟩
theorem mN(op:BinOp)(t:TypeId)(x y:Operand)(k k':IntKind)(a b:Int)(w:World):(eqGuard op t x y (.int k a) (.int k' b)).run P w= .ok () w:=by
 cases op <;> simp[eqGuard]
theorem zW(op:BinOp)(t:TypeId)(x y:Operand)(a b:Bool)(w:World):(eqGuard op t x y (.bool a) (.bool b)).run P w= .ok () w:=by
 cases op <;> simp[eqGuard]
theorem aa.tA{op:BinOp}{x y:Operand}{t t':TypeId}{k:IntKind}{a b:Int}{r:PV}(ho:o.op= .binOp op t x y t')(hx:ev T x=some (.p (.int k a)))(hy:ev T y=some (.p (.int k b)))
    (hr:∀ w I,∃ u,(Go.binOp op t (.int k a) (.int k b)).run P w= .ok u w∧Rel w I r u):aa P N o T H (.p r) H:=
 aa.aN (by simp[ho]) fun w I ρ ac hi ht=>by
  obtain⟨u,h1,h2⟩:=hr w I
  exact⟨u,by simp[execOp,ho,cS ht hx,cS ht hy,mN,h1],h2⟩
theorem aa.add{x y:Operand}{t t':TypeId}{k:IntKind}{a b m:Int}(ho:o.op= .binOp .add t x y t')(hx:ev T x=some (.p (.int k a)))(hy:ev T y=some (.p (.int k b)))(hw:k.wrap (a+b)=m):aa P N o T H (.p (.int k m)) H:=
 aa.tA ho hx hy fun w I=>⟨.int k m,by simp[Go.binOp,Op.intArith,hw],by simp[Rel]⟩
theorem aa.fE{x y:Operand}{t t':TypeId}{k:IntKind}{a b m:Int}(ho:o.op= .binOp .sub t x y t')(hx:ev T x=some (.p (.int k a)))(hy:ev T y=some (.p (.int k b)))(hw:k.wrap (a - b)=m):aa P N o T H (.p (.int k m)) H:=
 aa.tA ho hx hy fun w I=>⟨.int k m,by simp[Go.binOp,Op.intArith,hw],by simp[Rel]⟩
theorem aa.mul{x y:Operand}{t t':TypeId}{k:IntKind}{a b m:Int}(ho:o.op= .binOp .mul t x y t')(hx:ev T x=some (.p (.int k a)))(hy:ev T y=some (.p (.int k b)))(hw:k.wrap (a*b)=m):aa P N o T H (.p (.int k m)) H:=
 aa.tA ho hx hy fun w I=>⟨.int k m,by simp[Go.binOp,Op.intArith,hw],by simp[Rel]⟩
theorem aa.quo{x y:Operand}{t t':TypeId}{k:IntKind}{a b m:Int}(ho:o.op= .binOp .quo t x y t')(hx:ev T x=some (.p (.int k a)))(hy:ev T y=some (.p (.int k b)))(hb:b≠0)(hw:k.wrap (a.tdiv b)=m):aa P N o T H (.p (.int k m)) H:=
 aa.tA ho hx hy fun w I=>⟨.int k m,by simp[Go.binOp,Op.intDiv,hb,hw],by simp[Rel]⟩
theorem aa.rem{x y:Operand}{t t':TypeId}{k:IntKind}{a b m:Int}(ho:o.op= .binOp .rem t x y t')(hx:ev T x=some (.p (.int k a)))(hy:ev T y=some (.p (.int k b)))(hb:b≠0)(hw:a.tmod b=m):aa P N o T H (.p (.int k m)) H:=
 aa.tA ho hx hy fun w I=>⟨.int k m,by simp[Go.binOp,Op.intDiv,hb,hw],by simp[Rel]⟩
theorem aa.lss{x y:Operand}{t t':TypeId}{k:IntKind}{a b:Int}(ho:o.op= .binOp .lss t x y t')(hx:ev T x=some (.p (.int k a)))(hy:ev T y=some (.p (.int k b))):aa P N o T H (.p (.bool (decide (a<b)))) H:=
 aa.tA ho hx hy fun w I=>⟨.bool (decide (a<b)),by simp[Go.binOp,Op.intCmp],by simp[Rel]⟩
theorem aa.leq{x y:Operand}{t t':TypeId}{k:IntKind}{a b:Int}(ho:o.op= .binOp .leq t x y t')(hx:ev T x=some (.p (.int k a)))(hy:ev T y=some (.p (.int k b))):aa P N o T H (.p (.bool (decide (a<=b)))) H:=
 aa.tA ho hx hy fun w I=>⟨.bool (decide (a<=b)),by simp[Go.binOp,Op.intCmp],by simp[Rel]⟩
theorem aa.gtr{x y:Operand}{t t':TypeId}{k:IntKind}{a b:Int}(ho:o.op= .binOp .gtr t x y t')(hx:ev T x=some (.p (.int k a)))(hy:ev T y=some (.p (.int k b))):aa P N o T H (.p (.bool (decide (b<a)))) H:=
 aa.tA ho hx hy fun w I=>⟨.bool (decide (b<a)),by simp[Go.binOp,Op.intCmp],by simp[Rel]⟩
theorem aa.geq{x y:Operand}{t t':TypeId}{k:IntKind}{a b:Int}(ho:o.op= .binOp .geq t x y t')(hx:ev T x=some (.p (.int k a)))(hy:ev T y=some (.p (.int k b))):aa P N o T H (.p (.bool (decide (b<=a)))) H:=
 aa.tA ho hx hy fun w I=>⟨.bool (decide (b<=a)),by simp[Go.binOp,Op.intCmp],by simp[Rel]⟩
theorem aa.eql{x y:Operand}{t t':TypeId}{k:IntKind}{a b:Int}(ho:o.op= .binOp .eql t x y t')(hx:ev T x=some (.p (.int k a)))(hy:ev T y=some (.p (.int k b))):aa P N o T H (.p (.bool (decide (a=b)))) H:=
 aa.tA ho hx hy fun w I=>⟨.bool (decide (a=b)),by simp[Go.binOp,Op.intCmp];rfl,by simp[Rel]⟩
theorem aa.neq{x y:Operand}{t t':TypeId}{k:IntKind}{a b:Int}(ho:o.op= .binOp .neq t x y t')(hx:ev T x=some (.p (.int k a)))(hy:ev T y=some (.p (.int k b))):aa P N o T H (.p (.bool (!decide (a=b)))) H:=
 aa.tA ho hx hy fun w I=>⟨.bool (!decide (a=b)),by simp[Go.binOp,Op.intCmp];rfl,by simp[Rel]⟩
theorem aa.bits{op:BinOp}{x y:Operand}{t t':TypeId}{k:IntKind}{a b m:Int}(ho:o.op= .binOp op t x y t')(hop:op= .and∨op= .or∨op= .xor∨op= .andNot)(hx:ev T x=some (.p (.int k a)))(hy:ev T y=some (.p (.int k b)))
    (hm:∀ w,(Op.intBits op k a b).run P w= .ok (.int k m) w):aa P N o T H (.p (.int k m)) H:=
 aa.tA ho hx hy fun w I=>⟨.int k m,by rcases hop with rfl | rfl | rfl | rfl <;> simp[Go.binOp,hm],by simp[Rel]⟩
theorem aa.shl{x y:Operand}{t t':TypeId}{k k':IntKind}{a b m:Int}(ho:o.op= .binOp .shl t x y t')(hx:ev T x=some (.p (.int k a)))(hy:ev T y=some (.p (.int k' b)))(hb:0<=b)(hw:k.wrap (a*2^(min b.toNat k.bits))=m):aa P N o T H (.p (.int k m)) H:=
 aa.aN (by simp[ho]) fun w I ρ ac hi ht=>⟨.int k m,by simp[execOp,ho,cS ht hx,cS ht hy,mN,Go.binOp,Op.shift,Int.not_lt.2 hb,hw],by simp[az,Rel]⟩
theorem aa.shr{x y:Operand}{t t':TypeId}{k k':IntKind}{a b m:Int}(ho:o.op= .binOp .shr t x y t')(hx:ev T x=some (.p (.int k a)))(hy:ev T y=some (.p (.int k' b)))(hb:0<=b)(hw:a.fdiv (2^(min b.toNat k.bits))=m):aa P N o T H (.p (.int k m)) H:=
 aa.aN (by simp[ho]) fun w I ρ ac hi ht=>⟨.int k m,by simp[execOp,ho,cS ht hx,cS ht hy,mN,Go.binOp,Op.shift,Int.not_lt.2 hb,hw],by simp[az,Rel]⟩
def ve:TypeDesc->Bool
 | .struct _=>true
 | .array _ _=>true
 | _=>false
def fm(P:Program)(t:TypeId):Option (Bool×Nat):=
 match P.underlying t,P.info? t with
 | some d,some i=>some (ve d,i.size)
 | _,_=>none
theorem iC{t:TypeId}{b:Bool}{n:Nat}(h:fm P t=some (b,n)):∃ d i,P.underlying t=some d∧P.info? t=some i∧ve d=b∧i.size=n:=by
 unfold fm at h
 split at h
 ·rename_i d i h1 h2
  simp at h
  exact⟨d,i,h1,h2,h.1,h.2⟩
 ·cases h
theorem fG{t:TypeId}{b:Bool}{n:Nat}(h:fm P t=some (b,n))(w:World):(isAgg t).run P w= .ok b w:=by
 obtain⟨d,i,h1,h2,rfl,h4⟩:=iC h
 simp only[isAgg,Sem.run_bind,run_underlying h1,Result.andThen]
 cases d <;> rfl
theorem aK{t:TypeId}{b:Bool}{n:Nat}(h:fm P t=some (b,n))(w:World):(sizeOf t).run P w= .ok n w:=by
 obtain⟨d,i,h1,h2,h3,h4⟩:=iC h
 rw[run_sizeOf w h2]
 simp[Program.cellsOf,h2,h4]
theorem cF(b o n:Nat):(⟨b,o,none⟩:Addr).add n=⟨b,o+n,none⟩:=by
 unfold Addr.add
 split
 ·rename_i h;subst h;rfl
 ·rfl
theorem aT.get{w:World}{I:Nat->Prop}:∀{cs:List PV} {b o:Nat} {i:Nat} {c:PV},aT w I cs b o->cs[i]? =some c->∃ u,w.cell? ⟨b,o+i,none⟩=some u∧Rel w I c u
 | [],_,_,_,_,_,h=>by simp at h
 | x::cs,b,o,0,c,h,hc=>by
  simp at hc;subst hc
  exact h.1
 | x::cs,b,o,i+1,c,h,hc=>by
  simp at hc
  have:=aT.get h.2 hc
  rwa [show o+1+i=o+(i+1) by omega] at this
theorem aT.drop{w:World}{I:Nat->Prop}:∀{cs:List PV} {b o:Nat} (k:Nat),aT w I cs b o->aT w I (cs.drop k) b (o+k)
 | cs,_,_,0,h=>h
 | [],_,_,k+1,h=>by simp[aT]
 | x::cs,b,o,k+1,h=>by
  have:=aT.drop k h.2
  rw[show o+1+k=o+(k+1) by omega] at this
  exact dx
theorem aT.list{w:World}{I:Nat->Prop}:∀{cs:List PV} {b o:Nat},aT w I cs b o->∃ us:List Value,aR w I cs us∧us.length=cs.length∧∀ j v,us[j]? =some v->w.cell? ⟨b,o+j,none⟩=some v
 | [],b,o,h=>⟨[],by simp[aR],rfl,fun j v h=>by simp at h⟩
 | x::cs,b,o,h=>by
  obtain⟨⟨u,h1,h2⟩,h3⟩:=h
  obtain⟨us,h4,h5,h6⟩:=aT.list h3
  refine⟨u::us,⟨u,us,rfl,h2,h4⟩,by simp[h5],fun j v hj=> ?_⟩
  cases j with
  | zero=>simp at hj;subst hj;exact h1
  | succ j=>
   simp at hj
   have:=h6 j v hj
   rwa [show o+1+j=o+(j+1) by omega] at this
theorem aT.take{w:World}{I:Nat->Prop}:∀{cs:List PV} {b o:Nat} (k:Nat),aT w I cs b o->aT w I (cs.take k) b o
 | cs,_,_,0,h=>by simp[aT]
 | [],_,_,k+1,h=>by simp[aT]
 | x::cs,b,o,k+1,h=>by
  simp only[List.take_succ_cons]
  exact⟨h.1,aT.take k h.2⟩
theorem ag.pure{w:World}{I:Nat->Prop}{ρ:List Nat}:∀{xs:List PV} {us:List Value},ag P w I ρ (xs.map .p) us↔aR w I xs us
 | [],us=>by simp[ag,aR]
 | x::xs,us=>by
  simp only[Zx,ag,aR,az]
  constructor
  ·rintro⟨u,us',h1,h2,h3⟩;exact⟨u,us',h1,h2,ag.pure.1 h3⟩
  ·rintro⟨u,us',h1,h2,h3⟩;exact⟨u,us',h1,h2,ag.pure.2 h3⟩
def jF:List V->Option (List PV)
 | []=>some []
 | .p x::vs=>match jF vs with
   | some xs=>some (x::xs)
   | none=>none
 | _::_=>none
theorem dH:∀{vs:List V} {xs:List PV},jF vs=some xs->vs=xs.map .p
 | [],xs,h=>by simp[jF] at h;simp[<- h]
 | v::vs,xs,h=>by
  cases v <;> simp only[jF] at h <;> try cases h
  rename_i x
  cases h1:jF vs with
  | none=>rw[h1] at h;cases h
  | some ys=>rw[h1] at h;simp at h;subst h;simp[dH h1]
def gD(vs:List V):V:=match jF vs with
 | some xs=> .p (.agg xs)
 | none=> .agg vs
theorem az.gD{w:World}{I:Nat->Prop}{ρ:List Nat}{vs:List V}{us:Array Value}(h:ag P w I ρ vs us.toList):az P w I ρ (gD vs) (.agg us):=by
 unfold AF.gD
 exact Bc
theorem ag.drop{w:World}{I:Nat->Prop}{ρ:List Nat}:∀{vs:List V} {us:List Value} (k:Nat),ag P w I ρ vs us->ag P w I ρ (vs.drop k) (us.drop k)
 | vs,us,0,h=>by simpa using h
 | [],us,k+1,h=>by simp[ag] at h;simp[h,ag]
 | v::vs,us,k+1,h=>by
  obtain⟨u,us',rfl,_,h3⟩:=h
  simpa using ag.drop k h3
theorem ag.take{w:World}{I:Nat->Prop}{ρ:List Nat}:∀{vs:List V} {us:List Value} (k:Nat),ag P w I ρ vs us->ag P w I ρ (vs.take k) (us.take k)
 | vs,us,0,h=>by simp[ag]
 | [],us,k+1,h=>by simp[ag] at h;simp[h,ag]
 | v::vs,us,k+1,h=>by
  obtain⟨u,us',rfl,h2,h3⟩:=h
  exact⟨u,_,rfl,h2,ag.take k h3⟩
theorem ag.get{w:World}{I:Nat->Prop}{ρ:List Nat}:∀{vs:List V} {us:List Value} {i:Nat} {v:V},ag P w I ρ vs us->vs[i]? =some v->∃ u,us[i]? =some u∧az P w I ρ v u
 | [],us,i,v,h,hv=>by simp at hv
 | x::vs,us,0,v,h,hv=>by
  obtain⟨u,us',rfl,h2,h3⟩:=h
  simp at hv;subst hv
  exact⟨u,rfl,h2⟩
 | x::vs,us,i+1,v,h,hv=>by
  obtain⟨u,us',rfl,h2,h3⟩:=h
  simp at hv
  simpa using ag.get h3 hv
theorem ag.set{w:World}{I:Nat->Prop}{ρ:List Nat}{v:V}{u:Value}(hv:az P w I ρ v u):∀{vs:List V} {us:List Value} (i:Nat),ag P w I ρ vs us->ag P w I ρ (vs.set i v) (us.set i u)
 | [],us,i,h=>by simp[ag] at h;simp[h,ag]
 | x::vs,us,0,h=>by
  obtain⟨u',us',rfl,h2,h3⟩:=h
  exact⟨u,us',rfl,hv,h3⟩
 | x::vs,us,i+1,h=>by
  obtain⟨u',us',rfl,h2,h3⟩:=h
  exact⟨u',_,rfl,h2,ag.set hv i h3⟩
def bR:Option ai->Option (List V)
 | some (.cells cs _)=>some cs
 | some (.row cs _)=>some cs
 | _=>none
def c7(H:List ai)(b:Bool)(n:Nat):V->Option V
 | .p (.ip cs off)=>if b then(if off+n<=cs.length then some (.p (.agg ((cs.drop off).take n))) else none) else(cs[off]?).map .p
 | .ptr i off=>match bR H[i]? with
   | some cs=>if b then(if off+n<=cs.length then some (gD ((cs.drop off).take n)) else none) else cs[off]?
   | none=>none
 | _=>none
theorem iW{t:TypeId}{b:Bool}{n:Nat}{w:World}{blk off:Nat}(ht:fm P t=some (b,n)){us:List Value}(hl:b=true->us.length=n)(h0:b=false->us.length=1)(hc:∀ j v,us[j]? =some v->w.cell? ⟨blk,off+j,none⟩=some v):
    (loadVar t ⟨blk,off,none⟩).run P w= .ok (if b then .agg us.toArray else us.getD 0 undef) w:=by
 cases b with
 | true=>
  have:=run_loadCells_list (P:=P) w ⟨blk,off,none⟩ us (fun j v hj=>by rw[cF];exact hc j v hj)
  rw[hl rfl] at this
  simp[loadVar,fG ht,aK ht,this]
 | false=>
  have h1:=h0 rfl
  match us,h1 with
  | [u],_=>
   have:=hc 0 u rfl
   simp at this
   simp[loadVar,fG ht,this]
theorem ia{w:World}{I:Nat->Prop}{ρ:List Nat}{i:Nat}{cs:List V}(hi:Inv P w I ρ H)(hc:bR H[i]? =some cs):
    ∃ b arr e,ρ[i]? =some b∧w.heap[b]? =some (.cells arr e (0,0))∧cs.length<=arr.size∧ag P w I ρ cs (arr.toList.take cs.length):=by
 unfold bR at hc
 split at hc
 all_goals first
  | cases hc;done
  | (rename_i e hH
     have hlt:i<H.length:=(Za.1 hH).1
     have hρ:ρ[i]? =some (ρ[i]'(by rw[hi.len];exact hlt)):=Zb _
     cases hc
     have:=hi.rel i _ _ hρ hH
     first
      | (obtain⟨arr,h1,h2,h3⟩:=this;exact⟨_,arr,e,hρ,h1,h2,h3⟩)
      | (obtain⟨arr,h1,h2⟩:=this
         have hl:=ag.length h2
         exact⟨_,arr,e,hρ,h1,by simpa using Oz hl.symm,by rw[<- hl,ZS];exact h2⟩))
theorem ag.Xp{w:World}{I:Nat->Prop}{ρ:List Nat}{v:V}{us:List Value}(h:ag P w I ρ [v] us):∃ u,us=[u]∧az P w I ρ v u:=by
 obtain⟨u,us',rfl,h2,h3⟩:=h
 simp[ag] at h3
 subst h3
 exact⟨u,rfl,h2⟩
theorem yx{w:World}{I:Nat->Prop}{ρ:List Nat}{t:TypeId}{b:Bool}{n:Nat}{p v:V}{u:Value}(ht:fm P t=some (b,n))(hi:Inv P w I ρ H)(hp:az P w I ρ p u)(h:c7 H b n p=some v):
    ∃ a u',u= .pointer (some a)∧(loadVar t a).run P w= .ok u' w∧az P w I ρ v u':=by
 unfold c7 at h
 split at h
 ·rename_i cs off
  obtain⟨blk,o',hb,hu,eK⟩:=hp
  cases b with
  | true=>
   simp only[if_true] at h
   split at h
   ·rename_i hle
    simp at h;subst h
    obtain⟨us,h1,h2,h3⟩:=aT.list (aT.take n (aT.drop off eK))
    have hlen:us.length=n:=by rw[h2];simp;omega
    refine⟨_,_,hu,iW ht (us:=us) (fun _=>hlen) (fun h=>by cases h) h3,?_⟩
    exact⟨us.toArray,rfl,by simpa using h1⟩
   ·cases h
  | false=>
   simp only[Kw,if_false,Zl] at h
   obtain⟨c,hc,rfl⟩:=h
   obtain⟨u',h1,h2⟩:=aT.get eK hc
   refine⟨_,_,hu,iW ht (us:=[u']) (fun h=>by cases h) (fun _=>rfl) (fun j v hj=> ?_),h2⟩
   match j,hj with
   | 0,hj=>simp at hj;subst hj;simpa using h1
 ·rename_i i off
  obtain⟨blk,hρ,hu⟩:=hp
  cases hc:bR H[i]? with
  | none=>rw[hc] at h;cases h
  | some cs=>
   rw[hc] at h
   obtain⟨aaA,arr,e,xg,hw,hl,cu⟩:=ia hi hc
   rw[hρ] at xg;cases xg
   have hcell:∀ j v,(arr.toList)[j]? =some v->w.cell? ⟨blk,j,none⟩=some v:=fun j v hj=>by simp[World.cell?,hw];simpa using hj
   cases b with
   | true=>
    simp only[if_true] at h
    split at h
    ·rename_i hle
     simp at h;subst h
     have h1:ag P w I ρ ((cs.drop off).take n) (((arr.toList.take cs.length).drop off).take n):=(cu.drop off).take n
     have h2:((arr.toList.take cs.length).drop off).take n=(arr.toList.drop off).take n:=by
      rw[List.drop_take,List.take_take]
      congr 1
      omega
     rw[h2] at h1
     have hlen:((arr.toList.drop off).take n).length=n:=by simp;omega
     refine⟨_,_,hu,iW ht (us:=(arr.toList.drop off).take n) (fun _=>hlen) (fun h=>by cases h) (fun j v hj=> ?_),az.gD (by simpa using h1)⟩
     rw[ZQ] at hj
     split at hj
     ·rw[R8] at hj;exact hcell _ _ hj
     ·cases hj
    ·cases h
   | false=>
    simp only[Kw,if_false] at h
    obtain⟨u',h1,h2⟩:=ag.get cu h
    have h3:arr.toList[off]? =some u':=by
     rw[ZQ] at h1
     split at h1
     ·exact h1
     ·cases h1
    refine⟨_,_,hu,iW ht (us:=[u']) (fun h=>by cases h) (fun _=>rfl) (fun j v hj=> ?_),h2⟩
    match j,hj with
    | 0,hj=>simp at hj;subst hj;exact hcell _ _ (by simpa using h3)
 ·cases h
theorem aa.load{x:Operand}{t:TypeId}{b:Bool}{n:Nat}{p v:V}(ho:o.op= .load t x)(hx:ev T x=some p)(ht:fm P t=some (b,n))(hl:c7 H b n p=some v):aa P N o T H v H:=
 aa.aN (by simp[ho]) fun w I ρ a hi hT=>by
  obtain⟨ad,u',h1,h2,h3⟩:=yx ht hi (hT.ev hx) hl
  exact⟨u',by simp[execOp,ho,Instr.loadAt,h1,Instr.sureAddr,h2],h3⟩
end
section
variable {P:Program} {R:Option Nat} {N κ:Nat} {Q Q':Post} {T T':Tm} {H:List ai} {o:Oper}
def zB:Value->Bool
 | .agg _=>false
 | .tuple _=>false
 | _=>true
def Xm:PV->Bool
 | .agg _=>false
 | .tuple _=>false
 | _=>true
def jB:V->Bool
 | .p x=>Xm x
 | .agg _=>false
 | .tuple _=>false
 | .opt _ _=>false
 | .top=>false
 | _=>true
def o3:PV->List PV
 | .agg cs=>cs
 | x=>[x]
def dO:V->List V
 | .p x=>(o3 x).map .p
 | .agg vs=>vs
 | v=>[v]
theorem lO{w:World}{I:Nat->Prop}{ρ:List Nat}{v:V}{u:Value}(h:az P w I ρ v u)(h1:jB v=true):zB u=true:=by
 cases v with
 | p x=>
  cases x <;> simp only[az,Rel,jB,Xm] at h h1 <;> first
   | (subst h;rfl)
   | (obtain⟨b,o,_,rfl,_⟩:=h;rfl)
   | (rcases h with⟨⟨_,_,rfl⟩,_⟩ | ⟨b,o,cap,_,_,rfl,_⟩ <;> rfl)
   | (obtain⟨r,es,clock,_,rfl,_⟩:=h;rfl)
   | (obtain⟨us,vs,rfl,_⟩:=h;rfl)
   | (obtain⟨x,rfl,_⟩:=h;rfl)
   | cases h1
 | ptr i off=>obtain⟨b,_,rfl⟩:=h;rfl
 | row i len=>obtain⟨b,e,cap,_,rfl,_⟩:=h;rfl
 | sl i off len=>obtain⟨b,cap,_,rfl,_⟩:=h;rfl
 | map i=>obtain⟨b,_,rfl⟩:=h;rfl
 | func fn fi ca=>obtain⟨us,vs,rfl,_⟩:=h;rfl
 | iface t v=>obtain⟨x,rfl,_⟩:=h;rfl
 | agg _=>cases h1
 | tuple _=>cases h1
 | opt _ _=>cases h1
 | raw a n c=>subst h;rfl
 | z0=>obtain⟨a,rfl⟩:=h;rfl
 | top=>cases h1
def iu:V->Bool
 | .p (.tuple _)=>false
 | .tuple _=>false
 | .opt _ _=>false
 | .top=>false
 | _=>true
theorem iX{w:World}{I:Nat->Prop}{ρ:List Nat}{v:V}{u:Value}(h:az P w I ρ v u)(h1:iu v=true):ag P w I ρ (dO v) u.cells.toList:=by
 have one:∀ v:V,az P w I ρ v u->u.cells= #[u]->ag P w I ρ [v] u.cells.toList:=fun v hv e=>by rw[e];exact⟨u,[],rfl,hv,rfl⟩
 cases v with
 | p x=>
  cases x with
  | agg cs=>
   obtain⟨us,rfl,hr⟩:=h
   exact ag.pure.2 hr
  | tuple _=>cases h1
  | _=>
   refine one _ h ?_
   have:=lO h rfl
   cases u <;> first | rfl | cases this
 | agg vs=>obtain⟨us,rfl,hr⟩:=h;exact hr
 | tuple _=>cases h1
 | opt _ _=>cases h1
 | top=>cases h1
 | _=>
  refine one _ h ?_
  have:=lO h rfl
  cases u <;> first | rfl | cases this
theorem aa.Uo{x:Operand}{e:TypeId}{v:PV}(ho:o.op= .box e x)(hx:ev T x=some (.p v))(hc:iu (.p v)=true):aa P N o T H (.p (.ip (o3 v) 0)) H:=
 aa.dz (by simp[ho]) fun w I ρ a hi ht=>by
  have h1:=ht.ev hx
  refine⟨.pointer (some ⟨w.heap.size,0,none⟩),w.alloc (.cells (a.eval x).cells e),fun b=>I b∨b=w.heap.size,ρ,.inl ?_,Ext.gL hi _,Inv.gL hi _,?_⟩
  ·simp[execOp,ho,Instr.box,newVar,newRow,newObj,Sem.run]
  ·have h2:ag P w I ρ ((o3 v).map .p) (a.eval x).cells.toList:=iX h1 hc
   have h3:=ag.pure.1 h2
   have h4:=aR.mono (fun _ h=> .inl h) (fun b hb=>heap_alloc_old w (.cells (a.eval x).cells e) (hi.ib b hb)) _ _ h3 (I':=fun b=>I b∨b=w.heap.size) (w':=w.alloc (.cells (a.eval x).cells e))
   refine⟨w.heap.size,0,.inr rfl,by simp,?_⟩
   have gen:∀(cs:List PV) (us:List Value) (k:Nat),(∀ j u,us[j]? =some u->(a.eval x).cells.toList[k+j]? =some u)->aR (w.alloc (.cells (a.eval x).cells e)) (fun b=>I b∨b=w.heap.size) cs us->aT (w.alloc (.cells (a.eval x).cells e)) (fun b=>I b∨b=w.heap.size) cs w.heap.size k:=by
    intro cs
    induction cs with
    | nil=>intro us k _ _;simp[aT]
    | cons c cs ih=>
     intro us k hk hr
     obtain⟨u,us',rfl,h5,h6⟩:=hr
     refine⟨⟨u,?_,h5⟩,ih us' (k+1) (fun j u' hj=>by have:=hk (j+1) u' (by simpa using hj);rwa [show k+(j+1)=k+1+j by omega] at this) h6⟩
     have:=hk 0 u rfl
     rw[World.cell?_alloc_new]
     exact dx
   exact gen _ _ 0 (fun j u hj=>by simpa using hj) h4
theorem aa.j7{x:Operand}{e:TypeId}{v:V}(ho:o.op= .box e x)(hx:ev T x=some v)(hc:iu v=true):aa P N o T H (.ptr H.length 0) (H++[.cells (dO v) e]):=
 aa.dz (by simp[ho]) fun w I ρ a hi ht=>by
  have h1:=ht.ev hx
  have hE:Ext w I ρ (w.alloc (.cells (a.eval x).cells e)) I (ρ++[w.heap.size]):=Ext.aO hi _
  refine⟨.pointer (some ⟨w.heap.size,0,none⟩),w.alloc (.cells (a.eval x).cells e),I,ρ++[w.heap.size],.inl ?_,hE,Inv.aO hi _ ⟨_,heap_alloc_new w _,ag.ext hE (iX h1 hc)⟩,?_⟩
  ·simp[execOp,ho,Instr.box,newVar,newRow,newObj,Sem.run]
  ·exact vD
def cO(P:Program)(t:TypeId):Option PV:=((P.info? t).bind (·.zero)).bind HN
theorem kQ{t:TypeId}{z:PV}(h:cO P t=some z)(w:World):∃ u,(zeroValue t).run P w= .ok u w∧∀ I,Rel w I z u:=by
 unfold cO at h
 cases h1:P.info? t with
 | none=>rw[h1] at h;cases h
 | some i=>
  rw[h1] at h
  cases h2:i.zero with
  | none=>simp[h2] at h
  | some u=>
   simp[h2] at h
   exact⟨u,by simp[zeroValue,run_typeInfo w h1,h2],fun I=>Rel.val h⟩
theorem aa.aO{e:TypeId}{z:PV}(ho:o.op= .alloc e)(hz:cO P e=some z)(hc:iu (.p z)=true):aa P N o T H (.ptr H.length 0) (H++[.cells ((o3 z).map .p) e]):=
 aa.dz (by simp[ho]) fun w I ρ a hi ht=>by
  obtain⟨u,h1,h2⟩:=kQ hz w
  have hE:Ext w I ρ (w.alloc (.cells u.cells e)) I (ρ++[w.heap.size]):=Ext.aO hi _
  refine⟨.pointer (some ⟨w.heap.size,0,none⟩),w.alloc (.cells u.cells e),I,ρ++[w.heap.size],.inl ?_,hE,Inv.aO hi _ ⟨_,heap_alloc_new w _,ag.ext hE (iX (v:= .p z) (h2 I) hc)⟩,?_⟩
  ·simp[execOp,ho,Instr.alloc,newVar,newRow,newObj,Sem.run,h1]
  ·exact vD
def setAt(cs:List V):Nat->List V->List V
 | _,[]=>cs
 | k,v::vs=>setAt (cs.set k v) (k+1) vs
def gu(H:List ai)(i off:Nat)(vs:List V):Option (List ai):=
 match H[i]? with
 | some (.cells cs e)=>if off+vs.length<=cs.length then some (H.set i (.cells (setAt cs off vs) e)) else none
 | some (.row cs e)=>if off+vs.length<=cs.length then some (H.set i (.row (setAt cs off vs) e)) else none
 | _=>none
theorem fI:∀(vs cs:List V) (k:Nat),(setAt cs k vs).length=cs.length
 | [],_,_=>rfl
 | v::vs,cs,k=>by simp[setAt,fI vs]
theorem eU{w:World}{b:Nat}{e:TypeId}:∀(us:List Value) (arr:Array Value) (w:World) (off k:Nat),w.heap[b]? =some (.cells arr e (0,0))->off+k+us.length<=arr.size->(∀ u∈us,zB u=true)->
    ∃ w' c5,(storeCells ⟨b,off,none⟩ us k).run P w= .ok () w'∧w'.heap[b]? =some (.cells c5 e (0,0))∧c5.size=arr.size∧c5.toList=(us.foldl (fun(s:List Value×Nat) u=>(s.1.set s.2 u,s.2+1)) (arr.toList,off+k)).1∧
     w'.os=w.os∧w'.tape=w.tape∧w'.output=w.output∧w'.heap.size=w.heap.size∧(∀ j,j≠b->w'.heap[j]? =w.heap[j]?)
 | [],arr,w,off,k,hb,_,_=>⟨w,arr,by simp[storeCells],hb,rfl,rfl,rfl,rfl,rfl,rfl,fun _ _=>rfl⟩
 | u::us,arr,w,off,k,hb,hl,h1=>by
  have hu:=h1 u (by simp)
  have hlt:off+k<arr.size:=by simp at hl;omega
  have hcell:w.cell? ⟨b,off+k,none⟩=some (arr[off+k]):=by simp[World.cell?,hb,hlt]
  have hfr:w.frozen? ⟨b,off+k,none⟩=false:=by simp[World.frozen?,hb]
  have hrun:(store ⟨b,off+k,none⟩ u).run P w= .ok () (w.setCell ⟨b,off+k,none⟩ u):=by
   cases u <;> first | (simp[store,Sem.run,hcell,hfr];done) | cases hu
  have hb':(w.setCell ⟨b,off+k,none⟩ u).heap[b]? =some (.cells (arr.setIfInBounds (off+k) u) e (0,0)):=by
   simp[World.setCell,Yf,hb]
  obtain⟨w',c5,h2,h3,h4,h5,h6,h7,h8,h9,h10⟩:=eU us (arr.setIfInBounds (off+k) u) (w.setCell ⟨b,off+k,none⟩ u) off (k+1) hb' (by simp at hl ⊢;omega) (fun v hv=>h1 v (by simp[hv])) (w:=w)
  refine⟨w',c5,?_,h3,by simpa using h4,?_,h6,h7,h8,by simpa using h9,fun j hj=> ?_⟩
  ·simp only[storeCells,cF,Sem.run_bind,hrun,Result.andThen,h2]
  ·rw[h5]
   simp only[Sq,YX]
   rfl
  ·exact BT
theorem jN{w:World}{I:Nat->Prop}{ρ:List Nat}:∀(vs:List V) (us:List Value) (cs:List V) (l:List Value) (k:Nat),ag P w I ρ vs us->k+vs.length<=cs.length->ag P w I ρ cs (l.take cs.length)->
    ag P w I ρ (setAt cs k vs) (((us.foldl (fun(s:List Value×Nat) u=>(s.1.set s.2 u,s.2+1)) (l,k)).1).take cs.length)
 | [],us,cs,l,k,h,_,hc=>by simp[ag] at h;subst h;exact hc
 | v::vs,us,cs,l,k,h,hl,hc=>by
  obtain⟨u,us',rfl,h1,h2⟩:=h
  simp only[Sq,setAt]
  have:=jN vs us' (cs.set k v) (l.set k u) (k+1) h2 (by simp at hl ⊢;omega) (by
   have h3:=ag.set h1 k hc
   rw[yd,List.take_set]
   exact h3)
  exact dx
theorem aa.store{x y:Operand}{t:TypeId}{b:Bool}{n i off:Nat}{v:V}{H':List ai}(ho:o.op= .store t x y)(hx:ev T x=some (.ptr i off))(hy:ev T y=some v)(hk:iu v=true)(h1:(dO v).all jB=true)
    (ht:fm P t=some (b,n))(hn:(dO v).length=n)(hs:gu H i off (dO v)=some H'):aa P N o T H .top H':=
 aa.dz (by simp[ho]) fun w I ρ a hi hT=>by
  obtain⟨blk,hρ,hu⟩:=hT.ev hx
  have hv:=hT.ev hy
  have hcells:=iX hv hk
  have hlen:=ag.length hcells
  have hone:∀ u∈(a.eval y).cells.toList,zB u=true:=by
   have gen:∀(vs:List V) (us:List Value),ag P w I ρ vs us->vs.all jB=true->∀ u∈us,zB u=true:=by
    intro vs
    induction vs with
    | nil=>intro us h _ u hu;simp[ag] at h;subst h;cases hu
    | cons v vs ih=>
     intro us h ha u hu
     obtain⟨u0,us',rfl,h3,h4⟩:=h
     simp at ha
     rcases Zr.1 hu with rfl | hu
     ·exact lO h3 ha.1
     ·exact ih us' h4 (by simpa using ha.2) u hu
   exact gen _ _ hcells h1
  have hsz:(a.eval y).cells.size=n:=by rw[<- hn,<- hlen];simp
  unfold gu at hs
  have main:∀(cs:List V) (e:TypeId) (old new:ai),H[i]? =some old->old.live=true->bR H[i]? =some cs->off+(dO v).length<=cs.length->H'=H.set i new->
      (∀ w' c5,w'.heap[blk]? =some (.cells c5 e (0,0))->cs.length<=c5.size->ag P w' I ρ (setAt cs off (dO v)) (c5.toList.take cs.length)->(∀ arr,w.heap[blk]? =some (.cells arr e (0,0))->c5.size=arr.size)->cN P w' I ρ new blk)->(∀ arr e',w.heap[blk]? =some (.cells arr e' (0,0))->e'=e)->
      ∃ u w' I' ρ',((execOp a.eval o).run P w= .ok (.value u) w'∨((execOp a.eval o).run P w= .ok .skip w'∧u=undef))∧Ext w I ρ w' I' ρ'∧Inv P w' I' ρ' H'∧az P w' I' ρ' .top u:=by
   intro cs e old new hH dV hcs hle hnew cu aa2
   obtain⟨aaA,arr,e',xg,hw,hl,X4⟩:=ia hi hcs
   rw[hρ] at xg;cases xg
   have he:=aa2 arr e' hw
   subst he
   obtain⟨w',c5,r1,r2,r3,r4,r5,r6,r7,r8,r9⟩:=eU (P:=P) (w:=w) (a.eval y).cells.toList arr w off 0 hw (by rw[hlen];omega) hone
   have hE:Ext w I ρ w' I ρ:=Ext.write hi hρ hH dV r5 r6 r7 r8 r9 (fun s h=>by
    simp only[World.shape?,hw] at h
    simp only[World.shape?,r2,r3]
    exact h)
   have xd:ag P w' I ρ (setAt cs off (dO v)) (c5.toList.take cs.length):=by
    rw[r4]
    exact jN _ _ cs arr.toList (off+0) (ag.ext hE hcells) (by simpa using hle) (ag.ext hE X4)
   refine⟨undef,w',I,ρ,.inr ⟨?_,rfl⟩,hE,?_,by simp[az]⟩
   ·simp[execOp,ho,Instr.storeAt,hu,Instr.sureAddr,storeVar,aK ht,hsz,r1]
   ·rw[hnew]
    exact Inv.write hi hρ hH dV hE r8 r9 (cu w' c5 r2 (by rw[r3];exact hl) xd (fun eM h2=>by rw[hw] at h2;cases h2;exact r3))
  split at hs
  ·rename_i cs e hH
   split at hs
   ·rename_i hle
    simp at hs
    refine main cs e _ (.cells (setAt cs off (dO v)) e) hH rfl (by rw[hH];rfl) hle hs.symm ?_ ?_
    ·intro w' c5 hw' hl' cu WU
     obtain⟨arr,h3,h4⟩:=hi.rel i blk _ hρ hH
     have h5:=ag.length h4
     have h6:=WU arr h3
     refine⟨c5,hw',?_⟩
     have:c5.toList.take cs.length=c5.toList:=by rw[OB];simp[h6];simpa using Oz h5
     rw[this] at cu
     exact cu
    ·exact DC
   ·cases hs
  ·rename_i cs e hH
   split at hs
   ·rename_i hle
    simp at hs
    refine main cs e _ (.row (setAt cs off (dO v)) e) hH rfl (by rw[hH];rfl) hle hs.symm ?_ ?_
    ·intro w' c5 hw' hl' cu WU
     exact⟨c5,hw',by rw[fI];exact hl',by rw[fI];exact cu⟩
    ·exact DC
   ·cases hs
  ·cases hs
end
section
variable {P:Program} {R:Option Nat} {N κ:Nat} {Q Q':Post} {T T':Tm} {H:List ai} {o:Oper}
def shift(n:Nat):V->Option V
 | .p (.ip cs off)=>some (.p (.ip cs (off+n)))
 | .ptr i off=>some (.ptr i (off+n))
 | _=>none
theorem rM{w:World}{I:Nat->Prop}{ρ:List Nat}{p v:V}{u:Value}{n:Nat}(h:az P w I ρ p u)(hs:shift n p=some v):∃ a,u= .pointer (some a)∧az P w I ρ v (.pointer (some (a.add n))):=by
 unfold shift at hs
 split at hs
 ·simp at hs;subst hs
  obtain⟨b,o,hb,rfl,eK⟩:=h
  exact⟨_,rfl,b,o,hb,by rw[cF,Nt],eK⟩
 ·simp at hs;subst hs
  obtain⟨b,hb,rfl⟩:=h
  exact⟨_,rfl,b,hb,by rw[cF]⟩
 ·cases hs
def dB(P:Program)(s:TypeId)(f:Nat):Option Nat:=
 match P.underlying s with
 | some (.struct fs)=>match fs[f]? with
   | some fd=>match fm P fd.type with
     | some (_,n)=>if n=0 then none else some fd.offset
     | none=>none
   | none=>none
 | _=>none
theorem aa.fieldAddr{x:Operand}{s:TypeId}{f n:Nat}{p v:V}(ho:o.op= .fieldAddr s x f)(hx:ev T x=some p)(hf:dB P s f=some n)(hs:shift n p=some v):aa P N o T H v H:=
 aa.aN (by simp[ho]) fun w I ρ a hi ht=>by
  obtain⟨ad,hu,hr⟩:=rM (ht.ev hx) hs
  unfold dB at hf
  split at hf
  ·rename_i fs hfs
   split at hf
   ·rename_i fd hfd
    split at hf
    ·rename_i b k lH
     split at hf
     ·cases hf
     ·rename_i hk
      simp at hf
      refine⟨_,?_,hr⟩
      simp[execOp,ho,Instr.fieldAt,run_underlying hfs,hfd,hu,Instr.sureAddr,fieldPlace,aK lH,hk,hf]
    ·cases hf
   ·cases hf
  ·cases hf
def ou(P:Program)(t:TypeId):Option Nat:=
 match P.underlying t with
 | some (.slice e)=>(fm P e).map (·.2)
 | some (.array _ e)=>(fm P e).map (·.2)
 | _=>none
def zA(P:Program)(t:TypeId):Option Nat:=
 match P.underlying t with
 | some (.array n _)=>some n
 | _=>none
def dY(P:Program)(t:TypeId):Bool:=
 match P.underlying t with
 | some (.slice _)=>true
 | _=>false
def Fl(sz:Nat)(k:Nat):V->Option V
 | .p (.is cs len)=>if k<len then some (.p (.ip cs (k*sz))) else none
 | .row i len=>if k<len then some (.ptr i (k*sz)) else none
 | .sl i off len=>if k<len then some (.ptr i (off+k*sz)) else none
 | _=>none
theorem dN{k:IntKind}{n:Int}(w:World):(asIntOf (.int k n)).run P w= .ok (k,n) w:=rfl
theorem aa.Fx{x y:Operand}{t:TypeId}{kd:IntKind}{sz:Nat}{n:Int}{p v:V}(ho:o.op= .indexAddr t x y)(hx:ev T x=some p)(hy:ev T y=some (.p (.int kd n)))(ht:dY P t=true)(he:ou P t=some sz)
    (hcs:∀ cs len,p= .p (.is cs len)->0<len->cs≠[])(h0:0<=n)(hs:Fl sz n.toNat p=some v):aa P N o T H v H:=
 aa.aN (by simp[ho]) fun w I ρ a hi hT=>by
  have hn:=cS hT hy
  have hr:=hT.ev hx
  cases hu:P.underlying t with
  | none=>simp[dY,hu] at ht
  | some d=>
   cases d <;> simp[dY,hu] at ht
   rename_i e
   simp only[ou,hu,Zl] at he
   obtain⟨⟨b,m⟩,htm,rfl⟩:=he
   have fin:∀(ad:Addr) (len cap:Nat) (v:V),a.eval x= .slice (some ad) len cap->n.toNat<len->az P w I ρ v (.pointer (some (ad.add (n.toNat*m))))->
       ∃ u,(execOp a.eval o).run P w= .ok (.value u) w∧az P w I ρ v u:=by
    intro ad len cap v pE hlt hv
    refine⟨_,?_,hv⟩
    have hlt':n<(len:Int):=by omega
    simp[execOp,ho,Instr.indexAt,hn,dN,pE,run_underlying hu,h0,hlt',aK htm]
   unfold Fl at hs
   split at hs
   ·rename_i cs len
    split at hs
    ·rename_i hlt
     simp at hs;subst hs
     rcases hr with⟨_,hz⟩ | ⟨blk,off,cap,hb,hle,pE,eK⟩
     ·omega
     ·refine fin _ _ _ _ pE hlt ⟨blk,off,hb (hcs cs len rfl (by omega)),by rw[cF],eK⟩
    ·cases hs
   ·rename_i i len
    split at hs
    ·rename_i hlt
     simp at hs;subst hs
     obtain⟨blk,e',cap,hρ,pE,_,_⟩:=hr
     exact fin _ _ _ _ pE hlt ⟨blk,hρ,by rw[cF,yy]⟩
    ·cases hs
   ·rename_i i off len
    split at hs
    ·rename_i hlt
     simp at hs;subst hs
     obtain⟨blk,cap,hρ,pE,_⟩:=hr
     exact fin _ _ _ _ pE hlt ⟨blk,hρ,by rw[cF]⟩
    ·cases hs
   ·cases hs
theorem aa.nw{x y:Operand}{t:TypeId}{kd:IntKind}{sz len:Nat}{n:Int}{p v:V}(ho:o.op= .indexAddr t x y)(hx:ev T x=some p)(hy:ev T y=some (.p (.int kd n)))(ht:zA P t=some len)(he:ou P t=some sz)
    (h0:0<=n)(hl:n<len)(hs:shift (n.toNat*sz) p=some v):aa P N o T H v H:=
 aa.aN (by simp[ho]) fun w I ρ a hi hT=>by
  have hn:=cS hT hy
  obtain⟨ad,hu,hr⟩:=rM (hT.ev hx) hs
  exact EB
theorem lQ(us:Array Value)(off n:Nat):(us.extract off (off+n)).toList=(us.toList.drop off).take n:=by
 rw[Array.toList_extract,List.extract_eq_take_drop,ZK]
def apart(b:Bool)(n off:Nat):V->Option V
 | .p (.agg cs)=>if b then(if off+n<=cs.length then some (.p (.agg ((cs.drop off).take n))) else none) else(cs[off]?).map .p
 | .agg cs=>if b then(if off+n<=cs.length then some (gD ((cs.drop off).take n)) else none) else cs[off]?
 | _=>none
theorem En{w:World}{I:Nat->Prop}{ρ:List Nat}{t:TypeId}{b:Bool}{n off:Nat}{p v:V}{u:Value}(ht:fm P t=some (b,n))(hp:az P w I ρ p u)(h:apart b n off p=some v):
    ∃ us u',u= .agg us∧(part t us off).run P w= .ok u' w∧az P w I ρ v u':=by
 have gen:∀(vs:List V) (us:Array Value),ag P w I ρ vs us.toList->(if b then(if off+n<=vs.length then some (gD ((vs.drop off).take n)) else none) else vs[off]?)=some v->∃ u',(part t us off).run P w= .ok u' w∧az P w I ρ v u':=by
  intro vs us hr h
  cases b with
  | true=>
   simp only[if_true] at h
   split at h
   ·rename_i hle
    simp at h;subst h
    refine⟨.agg (us.extract off (off+n)),by simp[part,fG ht,aK ht],az.gD ?_⟩
    rw[lQ]
    exact(hr.drop off).take n
   ·cases h
  | false=>
   simp only[Kw,if_false] at h
   obtain⟨u',h1,h2⟩:=ag.get hr h
   exact⟨u',by simp at h1;simp[part,fG ht,h1],h2⟩
 unfold apart at h
 split at h
 ·rename_i cs
  obtain⟨us,rfl,hr⟩:=hp
  have hr':=ag.pure (P:=P) (ρ:=ρ).2 hr
  cases b with
  | true=>
   simp only[if_true] at h
   split at h
   ·rename_i hle
    simp at h;subst h
    refine⟨us,.agg (us.extract off (off+n)),rfl,by simp[part,fG ht,aK ht],?_⟩
    have:=(hr'.drop off).take n
    rw[<- List.map_drop,<- List.map_take] at this
    refine⟨_,rfl,?_⟩
    rw[lQ]
    exact ag.pure.1 this
   ·cases h
  | false=>
   simp only[Kw,if_false,Zl] at h
   obtain⟨c,hc,rfl⟩:=h
   obtain⟨u',h1,h2⟩:=ag.get (v:= .p c) (i:=off) hr' (by simp[hc])
   exact⟨us,u',rfl,by simp at h1;simp[part,fG ht,h1],h2⟩
 ·rename_i cs
  obtain⟨us,rfl,hr⟩:=hp
  obtain⟨u',h1,h2⟩:=gen cs us hr h
  exact⟨us,u',rfl,h1,h2⟩
 ·cases h
def Pc(P:Program)(s:TypeId)(f:Nat):Option (Bool×Nat×Nat):=
 match P.underlying s with
 | some (.struct fs)=>match fs[f]? with
   | some fd=>(fm P fd.type).map fun x=>(x.1,x.2,fd.offset)
   | none=>none
 | _=>none
theorem aa.field{x:Operand}{s:TypeId}{f n off:Nat}{b:Bool}{p v:V}(ho:o.op= .field s x f)(hx:ev T x=some p)(hf:Pc P s f=some (b,n,off))(hs:apart b n off p=some v):aa P N o T H v H:=
 aa.aN (by simp[ho]) fun w I ρ a hi ht=>by
  unfold Pc at hf
  split at hf
  ·rename_i fs hfs
   split at hf
   ·rename_i fd hfd
    simp only[Zl] at hf
    obtain⟨⟨b',n'⟩,lH,he⟩:=hf
    simp at he
    obtain⟨rfl,rfl,rfl⟩:=he
    obtain⟨us,u',h1,h2,h3⟩:=En lH (ht.ev hx) hs
    exact⟨u',by simp[execOp,ho,Instr.field,run_underlying hfs,hfd,h1,asAgg,h2],h3⟩
   ·cases hf
  ·cases hf
def OL(P:Program)(t:TypeId):Option (Nat×Bool×Nat):=
 match P.underlying t with
 | some (.array len e)=>(fm P e).map fun x=>(len,x.1,x.2)
 | _=>none
theorem aa.Ub{x y:Operand}{t:TypeId}{kd:IntKind}{n:Int}{len sz:Nat}{b:Bool}{p v:V}(ho:o.op= .index t x y)(hx:ev T x=some p)(hy:ev T y=some (.p (.int kd n)))(ht:OL P t=some (len,b,sz))
    (h0:0<=n)(hl:n<len)(hs:apart b sz (n.toNat*sz) p=some v):aa P N o T H v H:=
 aa.aN (by simp[ho]) fun w I ρ a hi hT=>by
  have hn:=cS hT hy
  unfold OL at ht
  split at ht
  ·rename_i len' e hd
   simp only[Zl] at ht
   obtain⟨⟨b',n'⟩,lH,he⟩:=ht
   simp at he
   obtain⟨rfl,rfl,rfl⟩:=he
   obtain⟨us,u',h1,h2,h3⟩:=En lH (hT.ev hx) hs
   refine⟨u',?_,h3⟩
   simp[execOp,ho,Instr.index,hn,dN,run_underlying hd,h1,h0,hl,aK lH,h2]
  ·cases ht
theorem aa.N9{x y:Operand}{t:TypeId}{kd:IntKind}{n:Int}{s:ByteArray}{c:UInt8}(ho:o.op= .index t x y)(hx:ev T x=some (.p (.str s)))(hy:ev T y=some (.p (.int kd n)))(ht:P.underlying t=some .string)
    (h0:0<=n)(hs:s[n.toNat]? =some c):aa P N o T H (.p (.int .u8 c.toNat)) H:=
 aa.aN (by simp[ho]) fun w I ρ a hi hT=>by
  have hn:=cS hT hy
  have hst:=jt hT hx
  exact⟨.int .u8 c.toNat,by simp[execOp,ho,Instr.index,hn,dN,hst,run_underlying ht,h0,hs],by simp[az,Rel]⟩
def placesOf(P:Program):List Field->Option (List (Nat×Nat))
 | []=>some []
 | f::fs=>match fm P f.type,placesOf P fs with
   | some x,some r=>some ((f.offset,x.2)::r)
   | _,_=>none
def lT(P:Program)(t:TypeId):Option (List PV×List (Nat×Nat)):=
 match cO P t,P.underlying t with
 | some (.agg z),some (.struct fs)=>match placesOf P fs.toList with
   | some ps=>some (z,ps)
   | none=>none
 | some (.agg z),some (.array n e)=>match fm P e with
   | some (_,sz)=>some (z,(List.range n).map fun i=>(i*sz,sz))
   | none=>none
 | _,_=>none
def iM(ps:List (Nat×Nat))(cells:List V):List (Nat×V)->Option (List V)
 | []=>some cells
 | (i,v)::rest=>match ps[i]? with
   | none=>none
   | some (off,sz)=>if (dO v).length=sz∧off+(dO v).length<=cells.length∧iu v=true then iM ps (setAt cells off (dO v)) rest else none
def iq(T:Tm):List (Nat×Operand)->Option (List (Nat×V))
 | []=>some []
 | (i,x)::r=>match ev T x,iq T r with
   | some v,some vs=>some ((i,v)::vs)
   | _,_=>none
theorem sZ{w:World}{I:Nat->Prop}{ρ:List Nat}:∀(vs:List V) (us:List Value) (cs:List V) (arr:Array Value) (off j:Nat),ag P w I ρ vs us->ag P w I ρ cs arr.toList->
    ag P w I ρ (setAt cs (off+j) vs) ((us.zipIdx j).foldl (fun(cs:Array Value) (x:Value×Nat)=>cs.setIfInBounds (off+x.2) x.1) arr).toList
 | [],us,cs,arr,off,j,h,hc=>by simp[ag] at h;subst h;exact hc
 | v::vs,us,cs,arr,off,j,h,hc=>by
  obtain⟨u,us',rfl,h1,h2⟩:=h
  simp only[List.zipIdx_cons,Sq,setAt]
  exact sZ vs us' (cs.set (off+j) v) _ off (j+1) h2 (by
   rw[YX]
   exact ag.set h1 _ hc)
theorem qS{w:World}{I:Nat->Prop}{ρ:List Nat}{ps:List (Nat×Nat)}{place:Nat->Option (Nat×Nat)}(hp:∀ i x,ps[i]? =some x->place i=some x):∀(vs:List (Nat×V)) (us:List (Nat×Value)) (cs:List V) (arr:Array Value) (r:List V),
    us.map (·.1)=vs.map (·.1)->ag P w I ρ (vs.map (·.2)) (us.map (·.2))->ag P w I ρ cs arr.toList->iM ps cs vs=some r->∃ c5,Instr.fill place arr us=some c5∧ag P w I ρ r c5.toList
 | [],us,cs,arr,r,hm,_,hc,h=>by
  have:us=[]:=by simpa using hm
  subst this
  simp[iM] at h;subst h
  exact⟨arr,rfl,hc⟩
 | (i,v)::vs,us,cs,arr,r,hm,hr,hc,h=>by
  match us,hm,hr with
  | (i',u)::us',hm,hr=>
   simp only[Zx,List.cons.injEq] at hm
   obtain⟨vB,E4⟩:=hm
   subst vB
   obtain⟨u0,us0,he,h1,h2⟩:=hr
   simp at he
   obtain⟨rfl,rfl⟩:=he
   simp only[iM] at h
   split at h
   ·cases h
   ·rename_i off sz hps
    split at h
    case isFalse=>cases h
    case isTrue hyes=>
     obtain⟨hlen,hle,hok⟩:=hyes
     have hcells:=iX h1 hok
     have hl:=ag.length hcells
     have hcl:=ag.length hc
     have:=sZ (dO v) u.cells.toList cs arr off 0 hcells hc
     obtain⟨c5,h5,h6⟩:=qS hp vs us' _ _ r E4 h2 (by simpa using this) h
     refine⟨c5,?_,h6⟩
     have e1:u.cells.size=sz:=by rw[<- hlen,<- hl];simp
     have e2:¬ (off+u.cells.size>arr.size):=by
      have:arr.size=cs.length:=by simpa using hcl
      rw[e1,this,<- hlen]
      exact Nat.not_lt.2 hle
     simp only[Instr.fill,hp _ _ hps,e1]
     rw[if_neg (by simp;rw[<- e1];omega)]
     rw[<- h5]
     congr 1
     have e3:u.cells.zipIdx.toList=u.cells.toList.zipIdx:=by simp
     rw[<- Array.foldl_toList,e3]
theorem mU{w:World}{I:Nat->Prop}{ρ:List Nat}{a:Act}(hT:bn P w I ρ N T a.tmps):∀{xs:List (Nat×Operand)} {vs:List (Nat×V)},iq T xs=some vs->(xs.map fun x=>(x.1,a.eval x.2)).map (·.1)=vs.map (·.1)∧ag P w I ρ (vs.map (·.2)) ((xs.map fun x=>(x.1,a.eval x.2)).map (·.2))
 | [],vs,h=>by simp[iq] at h;subst h;simp[ag]
 | (i,x)::xs,vs,h=>by
  simp only[iq] at h
  split at h
  ·rename_i v vs' h1 h2
   simp at h;subst h
   obtain⟨h3,h4⟩:=mU hT h2
   exact⟨by simp at h3;simp[h3],_,_,rfl,hT.ev h1,h4⟩
  ·cases h
theorem run_places{w:World}:∀(fs:List Field) (ps:List (Nat×Nat)),placesOf P fs=some ps->(fs.mapM (m:=Sem) fun f=>do pure (f.offset,<- sizeOf f.type)).run P w= .ok ps w
 | [],ps,h=>by simp[placesOf] at h;subst h;simp
 | f::fs,ps,h=>by
  simp only[placesOf] at h
  split at h
  ·rename_i x r h1 h2
   simp at h;subst h
   have ih:=run_places (w:=w) fs r h2
   simp only[List.mapM_cons,Sem.run_bind,aK h1,Result.andThen,Sem.run_pure,ih]
  ·cases h
theorem aa.build{t:TypeId}{parts:Array (Nat×Operand)}{z:List PV}{ps:List (Nat×Nat)}{vs:List (Nat×V)}{r:List V}(ho:o.op= .build t parts)(hb:lT P t=some (z,ps))(hv:iq T parts.toList=some vs)(hr:iM ps (z.map .p) vs=some r):aa P N o T H (gD r) H:=
 aa.aN (by simp[ho]) fun w I ρ a hi hT=>by
  obtain⟨hm,cu⟩:=mU hT hv
  have aaS:(parts.map fun(x:Nat×Operand)=>(x.1,a.eval x.2)).toList=parts.toList.map fun x=>(x.1,a.eval x.2):=by simp
  unfold lT at hb
  split at hb
  ·rename_i z' fs hz hu
   split at hb
   ·rename_i ps' hps
    simp at hb
    obtain⟨rfl,rfl⟩:=hb
    obtain⟨u,h1,h2⟩:=kQ hz w
    obtain⟨us,rfl,h3⟩:=h2 I
    have O5:(fs.mapM (m:=Sem) fun f=>do pure (f.offset,<- sizeOf f.type)).run P w= .ok ps'.toArray w:=by
     have:=run_places (w:=w) fs.toList ps' hps
     rw[Array.mapM_eq_mapM_toList,Sem.run_map,this]
     rfl
    obtain⟨c5,h5,h6⟩:=qS (place:=fun i=>ps'.toArray[i]?) (fun i x h=>by simpa using h) vs _ _ us r hm cu (ag.pure.2 h3) hr
    refine⟨.agg c5,?_,az.gD h6⟩
    simp only[execOp,ho,Instr.build,Sem.run_bind,h1,Result.andThen,run_underlying hu,O5,Value.cells]
    rw[show(Array.map (fun(x:Nat×Operand)=>match x with | (i,x)=>(i,a.eval x)) parts).toList=parts.toList.map fun x=>(x.1,a.eval x.2) by simp]
    rw[h5]
    rfl
   ·cases hb
  ·rename_i z' n e hz hu
   split at hb
   ·rename_i b sz lH
    simp at hb
    obtain⟨rfl,rfl⟩:=hb
    obtain⟨u,h1,h2⟩:=kQ hz w
    obtain⟨us,rfl,h3⟩:=h2 I
    obtain⟨c5,h5,h6⟩:=qS (place:=fun i=>some (i*sz,sz)) (fun i x h=>by
     simp[Zt,Zl] at h
     obtain⟨a',ha,rfl⟩:=h
     rw[XM] at ha
     ·simp at ha;subst ha;rfl
     ·rcases ZD i n with h' | h'
      ·exact h'
      ·rw[ZE (by simpa using h')] at ha;cases ha) vs _ _ us r hm cu (ag.pure.2 h3) hr
    refine⟨.agg c5,?_,az.gD h6⟩
    simp only[execOp,ho,Instr.build,Sem.run_bind,h1,Result.andThen,run_underlying hu,aK lH,Value.cells]
    rw[show(Array.map (fun(x:Nat×Operand)=>match x with | (i,x)=>(i,a.eval x)) parts).toList=parts.toList.map fun x=>(x.1,a.eval x.2) by simp]
    rw[h5]
    rfl
   ·cases hb
  ·cases hb
def Vs(k:Nat):V->Option V
 | .p (.tuple vs)=>(vs[k]?).map .p
 | .tuple vs=>vs[k]?
 | _=>none
theorem aa.extract{x:Operand}{k:Nat}{p v:V}(ho:o.op= .extract x k)(hx:ev T x=some p)(hk:Vs k p=some v):aa P N o T H v H:=
 aa.aN (by simp[ho]) fun w I ρ a hi hT=>by
  have hr:=hT.ev hx
  unfold Vs at hk
  split at hk
  ·simp only[Zl] at hk
   obtain⟨c,hc,rfl⟩:=hk
   obtain⟨us,hu,hl⟩:=hr
   obtain⟨u',h1,h2⟩:=ag.get (v:= .p c) (i:=k) (ag.pure (P:=P) (ρ:=ρ).2 hl) (by simp[hc])
   simp at h1
   exact⟨u',by simp[execOp,ho,Instr.extract,hu,h1],h2⟩
  ·obtain⟨us,hu,hl⟩:=hr
   obtain⟨u',h1,h2⟩:=ag.get hl hk
   simp at h1
   exact⟨u',by simp[execOp,ho,Instr.extract,hu,h1],h2⟩
  ·cases hk
def funcOf(fn:Fn)(fi ca:List V):V:=match jF fi,jF ca with
 | some xs,some ys=> .p (.func fn xs ys)
 | _,_=> .func fn fi ca
theorem aa.makeFunc{fn:Fn}{first captured:Array Operand}{fi ca:List V}(ho:o.op= .makeFunc fn first captured)(h1:kR T first.toList=some fi)(h2:kR T captured.toList=some ca):aa P N o T H (funcOf fn fi ca) H:=
 aa.aN (by simp[ho]) fun w I ρ a hi hT=>by
  have r1:=hT.kR h1
  have r2:=hT.kR h2
  refine⟨.func fn (first.map a.eval) (captured.map a.eval),by simp[execOp,ho,Instr.makeFunc],?_⟩
  unfold funcOf
  split
  ·rename_i xs ys e1 e2
   rw[dH e1] at r1
   rw[dH e2] at r2
   exact⟨_,_,rfl,by simpa using ag.pure.1 r1,by simpa using ag.pure.1 r2⟩
  ·exact⟨_,_,rfl,by simpa using r1,by simpa using r2⟩
def FM:V->Option Nat
 | .p (.is _ len)=>some len
 | .p .nilSlice=>some 0
 | .row _ len=>some len
 | .sl _ _ len=>some len
 | .raw _ len _=>some len
 | .z0=>some 0
 | _=>none
theorem aa.cD{x:Operand}{t:TypeId}{n:Nat}{p:V}(ho:o.op= .call {callee:= .builtin .len,args:= #[x],argTypes:= #[t]})(hx:ev T x=some p)(ht:dY P t=true)(hn:FM p=some n):aa P N o T H (.p (.int .i64 n)) H:=
 aa.aN (by simp[ho]) fun w I ρ a hi hT=>by
  have hr:=hT.ev hx
  have pE:∃ ad cap,a.eval x= .slice ad n cap:=by
   unfold FM at hn
   split at hn <;> try cases hn
   ·rcases hr with⟨h1,h2⟩ | ⟨b,o,cap,_,_,h1,_⟩
    ·subst h2;exact h1
    ·exact⟨_,_,h1⟩
   ·exact⟨_,_,hr⟩
   ·obtain⟨b,e,cap,_,h1,_⟩:=hr;exact⟨_,_,h1⟩
   ·obtain⟨b,cap,_,h1,_⟩:=hr;exact⟨_,_,h1⟩
   ·exact⟨_,_,hr⟩
   ·obtain⟨a,h1⟩:=hr;exact⟨_,_,h1⟩
  obtain⟨ad,cap,hs⟩:=pE
  cases hu:P.underlying t with
  | none=>simp[dY,hu] at ht
  | some d=>
   cases d <;> simp[dY,hu] at ht
   exact⟨.int .i64 n,by simp[execOp,ho,resolve,invoke,builtin,Builtin.len_,run_underlying hu,hs,goInt],by simp[az,Rel]⟩
theorem aa.lY{x:Operand}{t:TypeId}{s:ByteArray}(ho:o.op= .call {callee:= .builtin .len,args:= #[x],argTypes:= #[t]})(hx:ev T x=some (.p (.str s)))(ht:P.underlying t=some .string):aa P N o T H (.p (.int .i64 s.size)) H:=
 aa.aN (by simp[ho]) fun w I ρ a hi hT=>by
  exact⟨.int .i64 s.size,by simp[execOp,ho,resolve,invoke,builtin,Builtin.len_,run_underlying ht,jt hT hx,goInt],by simp[az,Rel]⟩
theorem aa.min2{x y:Operand}{ts:Array TypeId}{k:IntKind}{a b:Int}(ho:o.op= .call {callee:= .builtin .min,args:= #[x,y],argTypes:=ts})(hx:ev T x=some (.p (.int k a)))(hy:ev T y=some (.p (.int k b))):aa P N o T H (.p (.int k (min a b))) H:=
 aa.aN (by simp[ho]) fun w I ρ ac hi hT=>by
  refine⟨.int k (if b<a then b else a),by simp[execOp,ho,resolve,invoke,builtin,Builtin.min_,Builtin.min2,cS hT hx,cS hT hy],?_⟩
  simp only[az,Rel,Value.int.injEq,true_and]
  split <;> omega
theorem aa.max2{x y:Operand}{ts:Array TypeId}{k:IntKind}{a b:Int}(ho:o.op= .call {callee:= .builtin .max,args:= #[x,y],argTypes:=ts})(hx:ev T x=some (.p (.int k a)))(hy:ev T y=some (.p (.int k b))):aa P N o T H (.p (.int k (max a b))) H:=
 aa.aN (by simp[ho]) fun w I ρ ac hi hT=>by
  refine⟨.int k (if b>a then b else a),by simp[execOp,ho,resolve,invoke,builtin,Builtin.max_,Builtin.max2,cS hT hx,cS hT hy],?_⟩
  simp only[az,Rel,Value.int.injEq,true_and]
  split <;> omega
theorem aa.dM{x:Operand}{s d:TypeId}{k k':IntKind}{n m:Int}(ho:o.op= .convert s d x)(hx:ev T x=some (.p (.int k n)))(hs:(P.underlying s).isSome=true)(hd:P.underlying d=some (.int k'))(hw:k'.wrap n=m):aa P N o T H (.p (.int k' m)) H:=
 aa.aN (by simp[ho]) fun w I ρ a hi hT=>by
  obtain⟨ds,hs'⟩:=Option.isSome_iff_exists.1 hs
  refine⟨.int k' m,?_,by simp[az,Rel]⟩
  simp[execOp,ho,convert,run_underlying hs',run_underlying hd,cS hT hx,Conv.intToInt,hw]
def ak(P:Program)(f:FuncId):Bool:=
 match P.funcs[f]? with
 | some fn=>fn.body.isSome&&fn.name != "runtime.NumGoroutine"
 | none=>false
theorem fL{f:FuncId}(h:ak P f=true)(args:Array Value)(w:World):(callFunc f args).run P w= .ok (.enter f args) w:=by
 unfold ak at h
 cases hf:P.funcs[f]? with
 | none=>rw[hf] at h;cases h
 | some fn=>
  rw[hf] at h
  simp only[Zk,bne_iff_ne,ne_eq] at h
  obtain⟨h1,h2⟩:=h
  obtain⟨c,hc⟩:=Option.isSome_iff_exists.1 h1
  simp[callFunc,program,Sem.run,hf,h2,hc]
theorem cE{n:Nat}{f:FuncId}{args:Array Value}{w:World}{Rr:Ending->World->Prop}(R:Option Nat)(h:CallsIn Fence.wide n P f args w Rr):CallsIn (Fr R) n P f args w Rr:=h
def callee(args:List V):V->Option (FuncId×List V)
 | .p (.func (.func f) fi ca)=>some (f,fi.map .p++args++ca.map .p)
 | .func (.func f) fi ca=>some (f,fi++args++ca)
 | _=>none
theorem ag.append{w:World}{I:Nat->Prop}{ρ:List Nat}:∀{xs ys:List V} {us vs:List Value},ag P w I ρ xs us->ag P w I ρ ys vs->ag P w I ρ (xs++ys) (us++vs)
 | [],ys,us,vs,h,k=>by simp[ag] at h;subst h;exact k
 | x::xs,ys,us,vs,h,k=>by
  obtain⟨u,us',rfl,h1,h2⟩:=h
  exact⟨u,us'++vs,rfl,h1,ag.append h2 k⟩
theorem dP{w:World}{I:Nat->Prop}{ρ:List Nat}{a:Act}{f:Operand}{xs:Array Operand}{ts:Array TypeId}{fv:V}{vs all:List V}{g:FuncId}(ho:o.op= .call {callee:= .value f,args:=xs,argTypes:=ts})(hT:bn P w I ρ N T a.tmps)(hf:ev T f=some fv)
    (hxs:kR T xs.toList=some vs)(hc:callee vs fv=some (g,all))(hg:ak P g=true):∃ us:List Value,ag P w I ρ all us∧(execOp a.eval o).run P w= .ok (.enter g us.toArray) w:=by
 have h1:=hT.ev hf
 have h2:=hT.kR hxs
 unfold callee at hc
 split at hc
 ·rename_i f' fi ca
  simp at hc
  obtain⟨rfl,rfl⟩:=hc
  obtain⟨us,vs',hu,h3,h4⟩:=h1
  refine⟨us.toList++(xs.toList.map a.eval)++vs'.toList,?_,?_⟩
  ·have:=ag.append (ag.append (ag.pure (P:=P) (ρ:=ρ).2 h3) h2) (ag.pure (P:=P) (ρ:=ρ).2 h4)
   exact dx
  ·simp[execOp,ho,resolve,hu,Deferred.ofValue,invoke,fL hg]
 ·rename_i f' fi ca
  simp at hc
  obtain⟨rfl,rfl⟩:=hc
  obtain⟨us,vs',hu,h3,h4⟩:=h1
  refine⟨us.toList++(xs.toList.map a.eval)++vs'.toList,?_,?_⟩
  ·have:=ag.append (ag.append h3 h2) h4
   exact dx
  ·simp[execOp,ho,resolve,hu,Deferred.ofValue,invoke,fL hg]
 ·cases hc
theorem aa.B1{f:Operand}{xs:Array Operand}{ts:Array TypeId}{fv:V}{vs:List V}{g:FuncId}{args:List PV}{r:PV}(ho:o.op= .call {callee:= .value f,args:=xs,argTypes:=ts})(hf:ev T f=some fv)
    (hxs:kR T xs.toList=some vs)(hc:callee vs fv=some (g,args.map .p))(hg:ak P g=true)(hp:Pure P g args r):aa P N o T H (.p r) H:=by
 intro R w I ρ a hi hT K QX hK
 refine⟨bB,?_⟩
 rw[bD _ _ _ (by simp[ho])]
 obtain⟨us,h1,h2⟩:=dP ho hT hf hxs hc hg
 rw[h2]
 have h1':ag P w I [] (args.map .p) us:=ag.pure.2 (ag.pure.1 h1)
 refine⟨(fun h=>by cases h),?_⟩
 refine CallsIn.mono (cE R (hp w I [] us hi.nothing h1')) ?_
 rintro e w' ⟨u,v,J,σ,H',rfl,⟨rfl,rfl⟩,h3,h4,h5⟩
 have hσ:σ=[]:=ZA h4.len
 subst hσ
 obtain⟨h6,h7⟩:=Inv.frame hi h3 h4
 exact hK u w' J ρ h6 h7 h5
theorem aa.gq{f:Operand}{xs:Array Operand}{ts:Array TypeId}{fv:V}{vs all:List V}{g:FuncId}{v:V}{H':List ai}(ho:o.op= .call {callee:= .value f,args:=xs,argTypes:=ts})(hf:ev T f=some fv)
    (hxs:kR T xs.toList=some vs)(hc:callee vs fv=some (g,all))(hg:ak P g=true)(hp:ax P g all H fun v' H''=>v'=v∧H''=H'):aa P N o T H v H':=by
 intro R w I ρ a hi hT K QX hK
 refine⟨bB,?_⟩
 rw[bD _ _ _ (by simp[ho])]
 obtain⟨us,h1,h2⟩:=dP ho hT hf hxs hc hg
 rw[h2]
 refine⟨(fun h=>by cases h),?_⟩
 refine CallsIn.mono (cE R (hp w I ρ us hi h1)) ?_
 rintro e w' ⟨u,v',J,σ,H2,rfl,⟨rfl,rfl⟩,h3,h4,h5⟩
 exact hK u w' J σ h3 h4 h5
theorem eT.none_{fn:Func}(h:fn.results= #[]):eT P N fn T H (.p (.tuple [])):=
 fun w I ρ a hi ht=>⟨.tuple #[],by simp[results,h],⟨#[],rfl,by simp[aR]⟩⟩
def oZ(P:Program)(T:Tm)(H:List ai):ResultVar->V->Prop
 | .tmp t,v=>lk T t=some v
 | .cell s ty,v=>∃ p b n,lk T s=some p∧fm P ty=some (b,n)∧c7 H b n p=some v
theorem FD{w:World}{I:Nat->Prop}{ρ:List Nat}{a:Array Value}{r:ResultVar}{v:V}(hi:Inv P w I ρ H)(ht:bn P w I ρ N T a)(h:oZ P T H r v):
    ∃ u,(match r with | .tmp t=>pure (a.getD t undef) | .cell addr ty=>do loadVar ty (<- asAddr (a.getD addr undef)):Sem Value).run P w= .ok u w∧az P w I ρ v u:=by
 cases r with
 | tmp t=>exact⟨_,rfl,ht.at_ t v h⟩
 | cell s ty=>
  obtain⟨p,b,n,h1,h2,h3⟩:=h
  obtain⟨ad,u',h4,h5,h6⟩:=yx h2 hi (ht.at_ s p h1) h3
  exact⟨u',by simp only[h4,asAddr,Sem.run_bind,Sem.run_pure,Result.andThen];exact h5,h6⟩
end
section
variable {P:Program} {R:Option Nat} {N κ:Nat} {Q Q':Post} {T T':Tm} {H:List ai} {o:Oper}
def jv(vs:List V):V:=match jF vs with
 | some xs=> .p (.tuple xs)
 | none=> .tuple vs
theorem az.jv{w:World}{I:Nat->Prop}{ρ:List Nat}{vs:List V}{us:Array Value}(h:ag P w I ρ vs us.toList):az P w I ρ (jv vs) (.tuple us):=by
 unfold AF.jv
 exact Bc
def Ss(a:Array Value):ResultVar->Sem Value
 | .tmp t=>pure (a.getD t undef)
 | .cell ad t=>do loadVar t (<- asAddr (a.getD ad undef))
theorem wL(fn:Func)(a:Array Value):results fn a=fn.results.mapM (Ss a)>>=fun vs=>pure (if h:vs.size=1 then vs[0] else .tuple vs):=by
 unfold results
 congr 1
def zX(P:Program)(T:Tm)(H:List ai):List ResultVar->List V->Prop
 | [],vs=>vs=[]
 | r::rs,vs=>∃ v vs',vs=v::vs'∧oZ P T H r v∧zX P T H rs vs'
theorem uc{w:World}{I:Nat->Prop}{ρ:List Nat}{a:Array Value}(hi:Inv P w I ρ H)(ht:bn P w I ρ N T a):∀{rs:List ResultVar} {vs:List V},zX P T H rs vs->
    ∃ us,(rs.mapM (Ss a)).run P w= .ok us w∧ag P w I ρ vs us
 | [],vs,h=>⟨[],by simp,by simp[zX] at h;subst h;rfl⟩
 | r::rs,vs,h=>by
  obtain⟨v,vs',rfl,h1,h2⟩:=h
  obtain⟨u,h3,h4⟩:=FD hi ht h1
  obtain⟨us,h5,h6⟩:=uc hi ht h2
  refine⟨u::us,?_,u,us,rfl,h4,h6⟩
  simp only[List.mapM_cons,Sem.run_bind]
  have h7:(Ss a r).run P w= .ok u w:=by cases r <;> exact h3
  rw[h7]
  simp only[Result.andThen,h5]
  rfl
theorem eT.one{fn:Func}{r:ResultVar}{v:V}(h:fn.results= #[r])(hr:oZ P T H r v):eT P N fn T H v:=by
 intro w I ρ a hi ht
 obtain⟨us,h1,h2⟩:=uc hi ht (rs:=[r]) (vs:=[v]) ⟨v,[],rfl,hr,rfl⟩
 obtain⟨u,rfl,h3⟩:=ag.Xp h2
 refine⟨u,?_,h3⟩
 simp only[wL,h,Array.mapM_eq_mapM_toList,Sem.run_bind,Sem.run_map,Result.andThen]
 rw[h1]
 rfl
theorem eT.many{fn:Func}{r1 r2:ResultVar}{rs:List ResultVar}{vs:List V}(h:fn.results=(r1::r2::rs).toArray)(hr:zX P T H (r1::r2::rs) vs):eT P N fn T H (jv vs):=by
 intro w I ρ a hi ht
 obtain⟨us,h1,h2⟩:=uc hi ht hr
 refine⟨.tuple us.toArray,?_,az.jv (by simpa using h2)⟩
 have hl:us.length=rs.length+2:=by
  have h3:=ag.length h2
  have:∀{rs:List ResultVar} {vs:List V},zX P T H rs vs->vs.length=rs.length:=by
   intro rs
   induction rs with
   | nil=>intro vs h;simp[zX] at h;simp[h]
   | cons r rs ih=>intro vs h;obtain⟨v,vs',rfl,_,h⟩:=h;simp[ih h]
  rw[h3,this hr];simp
 simp only[wL,h,Array.mapM_eq_mapM_toList,Sem.run_bind,Sem.run_map,Result.andThen]
 rw[h1]
 simp only[Sem.run_pure]
 rw[dif_neg (by simp;omega)]
end
end Go.AF
end
end
