/-
 Abstract values and what they say of a world; control, operations, calls. No condition; generic over any program.
-/
import Derived.KernelRfl
import Derived.TacticsIn
import Derived.OrdersIn
import Derived.RangeFuncLeaves
import Derived.RangeFuncRecord
import Derived.Laws.World
import Derived.Laws.Cells
import Derived.Laws.BitsLemmas
import Derived.ChangeKeysEq
theorem Za:type_of% @List.getElem?_eq_some_iff:= @List.getElem?_eq_some_iff
theorem Zb:type_of% @List.length_append:= @List.length_append
theorem Zc:type_of% @List.getElem?_eq_getElem:= @List.getElem?_eq_getElem
theorem Zd:type_of% @List.getElem?_append_left:= @List.getElem?_append_left
theorem Ze:type_of% @List.getD_eq_getElem?_getD:= @List.getD_eq_getElem?_getD
theorem Zf:type_of% @Nat.le_refl:= @Nat.le_refl
theorem Zg:type_of% @List.mem_of_getElem?:= @List.mem_of_getElem?
theorem Zh:type_of% @List.mem_cons_of_mem:= @List.mem_cons_of_mem
theorem Zi:type_of% @Option.map_eq_some_iff:= @Option.map_eq_some_iff
theorem Zj:type_of% @List.getElem?_append_right:= @List.getElem?_append_right
theorem Zk:type_of% @of_decide_eq_true:= @of_decide_eq_true
theorem Zl:type_of% @of_decide_eq_false:= @of_decide_eq_false
theorem Zm:type_of% @List.length_cons:= @List.length_cons
theorem Zn:type_of% @Bool.and_eq_true:= @Bool.and_eq_true
theorem Zo:type_of% @List.mem_append:= @List.mem_append
theorem Zp:type_of% @List.length_map:= @List.length_map
theorem Zq:type_of% @decide_eq_true_eq:= @decide_eq_true_eq
theorem Zr:type_of% @List.mem_cons:= @List.mem_cons
theorem Zs:type_of% @Nat.zero_le:= @Nat.zero_le
theorem Zt:type_of% @List.mem_cons_self:= @List.mem_cons_self
theorem Zu:type_of% @List.getElem?_map:= @List.getElem?_map
theorem Zv:type_of% @List.getElem?_set:= @List.getElem?_set
theorem Zw:type_of% @Nat.lt_iff_add_one_le:= @Nat.lt_iff_add_one_le
theorem Zx:type_of% @List.all_eq_true:= @List.all_eq_true
theorem Zy:type_of% @Nat.pow_le_pow_right:= @Nat.pow_le_pow_right
theorem Zz:type_of% @List.map_cons:= @List.map_cons
theorem ZA:type_of% @List.map_append:= @List.map_append
theorem ZB:type_of% @List.eq_nil_of_length_eq_zero:= @List.eq_nil_of_length_eq_zero
theorem ZC:type_of% @List.nodup_cons:= @List.nodup_cons
theorem ZD:type_of% @Option.some.inj:= @Option.some.inj
theorem ZE:type_of% @List.prefix_refl:= @List.prefix_refl
theorem ZF:type_of% @List.getElem?_eq_none:= @List.getElem?_eq_none
theorem ZG:type_of% @List.mem_append_right:= @List.mem_append_right
theorem ZH:type_of% @List.flatMap_cons:= @List.flatMap_cons
theorem ZI:type_of% @List.mem_singleton:= @List.mem_singleton
theorem ZJ:type_of% @Nat.add_sub_cancel_left:= @Nat.add_sub_cancel_left
theorem ZK:type_of% @List.append_assoc:= @List.append_assoc
theorem ZL:type_of% @Array.getElem?_eq_some_iff:= @Array.getElem?_eq_some_iff
theorem ZM:type_of% @Nat.eq_of_beq_eq_true:= @Nat.eq_of_beq_eq_true
theorem ZN:type_of% @List.take_succ_eq_append_getElem:= @List.take_succ_eq_append_getElem
theorem ZO:type_of% @Nat.one_mul:= @Nat.one_mul
theorem ZP:type_of% @List.take_length:= @List.take_length
theorem ZQ:type_of% @Nat.lt_of_lt_of_le:= @Nat.lt_of_lt_of_le
theorem ZR:type_of% @Nat.le_of_ble_eq_true:= @Nat.le_of_ble_eq_true
theorem ZS:type_of% @Nat.lt_or_ge:= @Nat.lt_or_ge
theorem ZT:type_of% @List.append_nil:= @List.append_nil
theorem ZU:type_of% @List.length_take:= @List.length_take
theorem ZV:type_of% @List.getElem?_take:= @List.getElem?_take
theorem ZW:type_of% @Nat.le_trans:= @Nat.le_trans
theorem ZX:type_of% @List.mem_append_left:= @List.mem_append_left
theorem ZY:type_of% @List.nodup_append:= @List.nodup_append
theorem ZZ:type_of% @List.length_set:= @List.length_set
theorem AD:type_of% @Int.toNat_natCast:= @Int.toNat_natCast
theorem FT:type_of% @Nat.mul_le_mul_right:= @Nat.mul_le_mul_right
theorem zL:type_of% @List.getElem_mem:= @List.getElem_mem
theorem xJ:type_of% @List.mem_range:= @List.mem_range
theorem Gi:type_of% @Array.length_toList:= @Array.length_toList
theorem G7:type_of% @List.getElem?_set_ne:= @List.getElem?_set_ne
theorem uf:type_of% @Nat.zero_add:= @Nat.zero_add
theorem tr:type_of% @Int.le_refl:= @Int.le_refl
theorem Md:type_of% @Nat.lt_succ_iff_lt_or_eq:= @Nat.lt_succ_iff_lt_or_eq
theorem uE:type_of% @List.mem_map:= @List.mem_map
theorem IC:type_of% @List.flatMap_append:= @List.flatMap_append
theorem Fp:type_of% @List.ext_getElem?:= @List.ext_getElem?
theorem F5:type_of% @Bool.not_eq_true':= @Bool.not_eq_true'
theorem KH:type_of% @Nat.eq_of_testBit_eq:= @Nat.eq_of_testBit_eq
theorem OI:type_of% @List.take_of_length_le:= @List.take_of_length_le
theorem KJ:type_of% @Bool.false_eq_true:= @Bool.false_eq_true
theorem zx:type_of% @List.map_nil:= @List.map_nil
theorem Lo:type_of% @Nat.testBit_two_pow:= @Nat.testBit_two_pow
theorem KO:type_of% @List.length_range:= @List.length_range
theorem SW:type_of% @List.getElem?_take_of_lt:= @List.getElem?_take_of_lt
theorem TV:type_of% @Nat.testBit_two_pow_mul_add:= @Nat.testBit_two_pow_mul_add
theorem KP:type_of% @List.length_drop:= @List.length_drop
theorem KF:type_of% @List.not_mem_nil:= @List.not_mem_nil
theorem RV:type_of% @List.length_eq_zero_iff:= @List.length_eq_zero_iff
theorem K5:type_of% @List.mem_range'_1:= @List.mem_range'_1
theorem Li:type_of% @List.foldl_append:= @List.foldl_append
theorem Wi:type_of% @Int.mul_le_mul_of_nonneg_left:= @Int.mul_le_mul_of_nonneg_left
theorem Uu:type_of% @List.drop_eq_getElem_cons:= @List.drop_eq_getElem_cons
theorem KI:type_of% @Nat.min_eq_left:= @Nat.min_eq_left
theorem KG:type_of% @List.length_nil:= @List.length_nil
theorem Pv:type_of% @List.getElem_of_mem:= @List.getElem_of_mem
theorem Sy:type_of% @List.length_singleton:= @List.length_singleton
theorem OM:type_of% @List.any_eq_false:= @List.any_eq_false
theorem Fb:type_of% @Nat.add_mul:= @Nat.add_mul
theorem SG:type_of% @List.mem_of_mem_take:= @List.mem_of_mem_take
theorem Sl:type_of% @Nat.pow_lt_pow_right:= @Nat.pow_lt_pow_right
theorem KV:type_of% @Bool.or_eq_true:= @Bool.or_eq_true
theorem KU:type_of% @Nat.testBit_and:= @Nat.testBit_and
theorem OK:type_of% @List.cons_append:= @List.cons_append
theorem UI:type_of% @Nat.testBit_lt_two_pow:= @Nat.testBit_lt_two_pow
theorem Yl:type_of% @List.take_append_of_le_length:= @List.take_append_of_le_length
theorem O1:type_of% @List.flatten_cons:= @List.flatten_cons
theorem PJ:type_of% @Nat.or_lt_two_pow:= @Nat.or_lt_two_pow
theorem OW:type_of% @List.nil_append:= @List.nil_append
theorem St:type_of% @List.getElem?_drop:= @List.getElem?_drop
theorem Wk:type_of% @decide_eq_false_iff_not:= @decide_eq_false_iff_not
theorem V8:type_of% @Int.eq_ofNat_of_zero_le:= @Int.eq_ofNat_of_zero_le
theorem ZaV:type_of% @List.findIdx?_eq_some_iff_getElem:= @List.findIdx?_eq_some_iff_getElem
theorem NU:type_of% @Nat.add_assoc:= @Nat.add_assoc
theorem KC:type_of% @Nat.add_zero:= @Nat.add_zero
theorem OY:type_of% @Nat.testBit_or:= @Nat.testBit_or
theorem OH:type_of% @List.take_zero:= @List.take_zero
theorem OR:type_of% @List.drop_drop:= @List.drop_drop
theorem Q9:type_of% @List.foldl_cons:= @List.foldl_cons
theorem Ri:type_of% @Option.map_some:= @Option.map_some
theorem JW:type_of% @Nat.mul_one:= @Nat.mul_one
theorem P6:type_of% @Nat.two_pow_pos:= @Nat.two_pow_pos
theorem RX:type_of% @Nat.le_add_right:= @Nat.le_add_right
theorem Vz:type_of% @Nat.eq_zero_or_pos:= @Nat.eq_zero_or_pos
theorem VR:type_of% @List.length_range':= @List.length_range'
theorem Rk:type_of% @List.nodup_nil:= @List.nodup_nil
theorem Wo:type_of% @List.getElem?_range':= @List.getElem?_range'
theorem Us:type_of% @Array.toList_push:= @Array.toList_push
theorem Zbl:type_of% @List.prefix_iff_eq_take:= @List.prefix_iff_eq_take
theorem Wp:type_of% @List.replicate_succ:= @List.replicate_succ
theorem V1:type_of% @List.map_congr_left:= @List.map_congr_left
theorem V7:type_of% @Int.toNat_of_nonneg:= @Int.toNat_of_nonneg
theorem ON:type_of% @Nat.le_of_eq:= @Nat.le_of_eq
theorem Qm:type_of% @List.all_cons:= @List.all_cons
theorem Vj:type_of% @Option.getD_some:= @Option.getD_some
theorem UA:type_of% @Nat.mod_eq_of_lt:= @Nat.mod_eq_of_lt
theorem Zbt:type_of% @Array.toList_setIfInBounds:= @Array.toList_setIfInBounds
theorem We:type_of% @List.prefix_append:= @List.prefix_append
theorem Wl:type_of% @Bool.not_eq_false':= @Bool.not_eq_false'
theorem Zbw:type_of% @Int.tdiv_eq_ediv_of_nonneg:= @Int.tdiv_eq_ediv_of_nonneg
theorem Z0:type_of% @List.length_replicate:= @List.length_replicate
theorem W7:type_of% @Array.getElem?_modify:= @Array.getElem?_modify
theorem WV:type_of% @List.take_append_drop:= @List.take_append_drop
theorem Wg:type_of% @Option.some.injEq:= @Option.some.injEq
theorem Rt:type_of% @Nat.sub_self:= @Nat.sub_self
theorem Q1:type_of% @List.map_map:= @List.map_map
theorem XC:type_of% @Bool.or_eq_false_iff:= @Bool.or_eq_false_iff
theorem ZbE:type_of% @List.take_append_getElem:= @List.take_append_getElem
theorem XR:type_of% @List.getElem?_range:= @List.getElem?_range
theorem Z6:type_of% @List.flatten_append:= @List.flatten_append
theorem ZbH:type_of% @Nat.testBit_two_pow_mul:= @Nat.testBit_two_pow_mul
theorem ZbI:type_of% @List.drop_of_length_le:= @List.drop_of_length_le
theorem S2:type_of% @Nat.add_comm:= @Nat.add_comm
theorem RW:type_of% @Nat.succ_pos:= @Nat.succ_pos
theorem ZbL:type_of% @Array.contains_eq_mem:= @Array.contains_eq_mem
theorem Yi:type_of% @List.getElem?_inj:= @List.getElem?_inj
theorem WA:type_of% @Array.size_append:= @Array.size_append
theorem Wm:type_of% @List.drop_zero:= @List.drop_zero
theorem WH:type_of% @List.filter_cons:= @List.filter_cons
theorem XF:type_of% @Nat.testBit_zero:= @Nat.testBit_zero
theorem YS:type_of% @List.range_succ:= @List.range_succ
theorem V9:type_of% @Nat.pow_succ:= @Nat.pow_succ
theorem D4{A:Prop}(h:A:=by
 have gen:∀(bs:List Bool) (k:Nat),k<=bs.length->(∀ i b,bs[i]? =some b->b=decide (i<k))->bs.count false+k=bs.length:=by
  intro bs
  induction bs with
  | nil=>intro k hk _;simp at hk;simp[hk]
  | cons b bs ih=>
   intro k hk hb
   have hb0:=hb 0 b rfl
   cases k with
   | zero=>
    have:=ih 0 (by omega) (fun i c hc=>by have:=hb (i+1) c (by simpa using hc);simpa using this)
    simp at hb0
    subst hb0
    simp at this ⊢
    omega
   | succ k=>
    have:=ih k (by simpa using hk) (fun i c hc=>by have:=hb (i+1) c (by simpa using hc);simpa using this)
    simp at hb0
    subst hb0
    simp at this ⊢
    omega
 have:=gen listed.toList m (by simpa[hsz] using hm) (fun i b hb=>by
  have:=hfl i
  unfold fl at this
  simp at hb
  rw[<- this]
  simp[hb])
 rw[mV] at this
 simpa[hsz] using this):A:=h
theorem BA{A:Prop}(h:A:=by
 obtain⟨k1,k2⟩:=hk.look (fun j=>decide (j=i)||fl listed j) wO i j o oj s ho hj hs' hd (Ne.symm hji)
 rcases Nat.lt_trichotomy j i with h | h | h
 ·have:=k1 h (by simp)
  simp[hji] at this
  simp[this,h]
 ·exact absurd h hji
 ·have VH:=hk.look (fl listed) hcl i j o oj s ho hj hs' hd (Ne.symm hji)
  cases uI:fl listed j with
  | false=>simp;omega
  | true=>have:=VH.2 h uI;rw[tY] at this;cases this):A:=h
theorem Bb{A:Prop}(h:A:=by
 exact⟨k2.trans h3.os,k3.trans h3.tape,k4.trans h3.output,by rw[k5];exact h3.size,fun b hb hn=>(hlow b hb).trans (h3.keep b hb hn),
  fun b s hs=>ks b s (h3.shape b s hs),h3.lD,fun b hb=>(kI b (h3.lD b hb)).trans (h3.bh b hb),h3.eT,fun b hb=>(hlow b (ZL.1 hb).1).trans (h3.cI b hb),h3.ki,h3.new⟩):A:=h
theorem BL{A:Prop}(h:A:=by
 subst VD
 have e1:tl l T vs (fl (listed.setIfInBounds i true)) d=some (vs i):=qy hk ho (by rw[gP (by omega)];simp) hd
 rw[e1] at hv
 cases hv
 have h6:d<a.tmps.size:=by rw[hs];exact hlt
 simpa[Act.put,h6] using hu):A:=h
theorem Db{A:Prop}(h:A:=by
 have hlt:i<listed.size:=by omega
 have h5:listed.toList[i]? =some false:=by
  unfold fl at tY
  simp[hlt] at tY ⊢
  exact tY
 have:=count_set listed.toList i h5
 rw[Zbt]
 omega):A:=h
theorem ET{A:Prop}(h:A:=by
 rw[gP (by omega)]
 have:j≠i:=fun e=>by
  subst e
  rw[ho] at hj;cases hj
  rw[hd] at Ry;cases Ry
  exact VD rfl
 simp[this]):A:=h
theorem DA{A:Prop}(h:A:=by
 intro w hn hr h
 simp only[Zz,LeavesInM]
 refine⟨by simp,.inl ⟨r,w.putObj r (.deferred none),rfl,run_takeDeferred (hr r (by simp)),?_⟩⟩
 exact CF):A:=h
theorem Cv{A:Prop}(h:A:=by
 rw[gP (by omega)]
 have:j≠i:=fun e=>by
  subst e
  rw[ho] at hj;cases hj
  rw[hd] at Ry;cases Ry
 simp[this]):A:=h
theorem El{A:Prop}(h:A:=by
 intro hJ
 rcases h3.w.eT b hJ with h | h | h
 ·exact hi.live i b blk g1 k2 g3 h
 ·exact Kr i b blk g1 k2 g3 k1 h
 ·have:=hi.gC i b blk g1 k2 g3;omega):A:=h
theorem CW{A:Prop}(h:A:=by
 refine Inv.aQ hi1 _ ⟨fe,heap_alloc_new _ _,?_,ag.ext o3 (ag.ext xV ?_)⟩
 ·exact CQ
 ·exact Dm):A:=h
theorem wU{A:Prop}(h:A:=by
 have h1:=Nat.le_mul_of_pos_right (2*n+192) hb0
 exact xD):A:=h
theorem rP{A:Prop}(h:A:=by
 simp only[World.cell?,hw]
 simpa using hj):A:=h
theorem Bo{A:Prop}(h:A:=by
 simp only[ZU,Gi];rw[hsz];exact KI (FT _ hle)):A:=h
theorem wG{A:Prop}(h:A:=by
 exact ZQ (hi.gC i b blk g1 k2 g3) h3.w.size):A:=h
theorem BJ{A:Prop}(h:A:=by
 have h2:=ag.pure.1 (ag.ext hE hr)
 refine aX.lZ xs _ 0 h2 fun j u hj=> ?_
 exact xd):A:=h
theorem Bp{A:Prop}(h:A:=by
 intro j oj hj uI e hee hb
 rw[gP (by omega)] at uI ⊢
 exact wO j oj hj uI e hee hb):A:=h
theorem Eh{A:Prop}(h:A:=by
 intro j hj
 rw[gP (by omega),xW j hj]
 have:¬ j=i:=by omega
 simp[this]):A:=h
theorem BG{A:Prop}(h:A:=by
 refine⟨I,ρ,Ext.drew.w,hi',ht.size,fun s v hv=> ?_,hmk.ext Ext.drew⟩
 exact rK):A:=h
theorem nH{A:Prop}(h:A:=by
 intro u w' I' ρ' he' hinv' hu
 refine ih (listed.setIfInBounds i true) (a.put o.dst u) w' ?_ (by simp[hsz]) ?_ ?_ ?_
 ·exact Db
 ·exact Bp
 ·exact Eh
 ·refine⟨I',ρ',he.trans he'.w,hinv',by cases o.dst <;> simp[Act.put,hs],fun s v hv=> ?_,(hmk.ext he').put⟩
  cases hd:o.dst with
  | none=>
   have e1:tl l T vs (fl (listed.setIfInBounds i true)) s=tl l T vs (fl listed) s:=gU hk fun j oj hj Ry=>by
    exact Cv
   rw[e1] at hv
   exact(cE s v hv).ext he'
  | some d=>
   have hlt:d<N:=by
    rw[hd] at sA
    simpa[bg,Nat.blt,Zw] using sA
   by_cases VD:d=s
   ·exact BL
   ·have e1:tl l T vs (fl (listed.setIfInBounds i true)) s=tl l T vs (fl listed) s:=gU hk fun j oj hj Ry=>by
      exact ET
    rw[e1] at hv
    have:=(cE s v hv).ext he'
    simpa[Act.put,VD] using this):A:=h
theorem rJ{A:Prop}(h:A:=by
 have hfl:∀ i,fl listed i=decide (i<m):=fun i=>by
  by_cases h:i<m
  ·rw[hall i h];simp[h]
  ·rw[xW i (by omega)];simp[h]
 have FC:fuel+m=l.length:=by
  exact D4
 refine sC hk fuel m listed a w FC (Zf _) hsz (fun i _=>hfl i) (hK a w I ρ he hi ⟨hs,fun s v hv=>cE s v ?_⟩ hmk)
 rw[<- hv,hlk m (Zf _)]
 exact gU hk fun j o hj hd=>hfl j):A:=h
theorem mT{A:Prop}(h:A:=by
 intro s v hv
 unfold bI at hv
 rw[mc] at hv
 split at hv
 ·rename_i hs'
  rw[hlk i (by omega)] at hv
  refine cE s v ?_
  rw[<- hv]
  refine gU hk fun j oj hj hd=> ?_
  by_cases hji:j=i
  ·subst hji;rw[tY];simp
  ·exact BA
 ·cases hv):A:=h
theorem Be{A:Prop}(h:A:=by
 refine⟨?_,fun i b blk g1 g2 g3=> ?_,h4.ib,fun i b blk g1 g2 g3=> ?_,fun i i' b x y g1 g2 g3 g4 g5 g6=> ?_,fun i b blk g1 g2=> ?_,h4.gl⟩
 ·unfold bp
  rw[Zb,Zb,UF,Zp,KP,hi.len]
  omega
 ·rcases IY i blk g2 g3 with⟨j,x,k1,rfl,k3,k4⟩ | ⟨k0,k1,k2⟩
  ·exact h4.gC j b x (by rw[k3];exact g1) k1 (by rwa [cg] at g3)
  ·rw[Zd (by rw[hi.len];exact k0)] at g1
   exact wG
 ·rcases IY i blk g2 g3 with⟨j,x,k1,rfl,k3,k4⟩ | ⟨k0,k1,k2⟩
  ·exact h4.live j b x (by rw[k3];exact g1) k1 (by rwa [cg] at g3)
  ·rw[Zd (by rw[hi.len];exact k0)] at g1
   exact El
 ·rcases IY i x g3 g5 with⟨j,x',k1,rfl,k3,k4⟩ | ⟨k0,k1,k2⟩ <;> rcases IY i' y g4 g6 with⟨j',y',m1,rfl,m3,m4⟩ | ⟨m0,m1,m2⟩
  ·rw[cg] at g5 g6
   have:=h4.fT j j' b x' y' (by rw[k3];exact g1) (by rw[m3];exact g2) k1 m1 g5 g6
   subst this
   rcases k4 with k4 | ⟨k4,k5⟩ <;> rcases m4 with m4 | ⟨m4,m5⟩
   ·rw[k4] at m4;exact ZD m4
   ·have:=(Za.1 k4).1;omega
   ·have:=(Za.1 m4).1;omega
   ·omega
  ·rw[Zd (by rw[hi.len];exact m0)] at g2
   exact absurd (Zg (by rw[k3];exact g1)) (hout i' b y g2 m2 g6 m1)
  ·rw[Zd (by rw[hi.len];exact k0)] at g1
   exact absurd (Zg (by rw[m3];exact g2)) (hout i b x g1 k2 g5 k1)
  ·rw[Zd (by rw[hi.len];exact k0)] at g1
   rw[Zd (by rw[hi.len];exact m0)] at g2
   exact hi.fT i i' b x y g1 g2 k2 m2 g5 g6
 ·cases hlv:blk.live with
  | false=>exact cY.gE hlv
  | true=>
   rcases IY i blk g2 hlv with⟨j,x,k1,rfl,k3,k4⟩ | ⟨k0,k1,k2⟩
   ·exact jr hτ (h4.rel j b x (by rw[k3];exact g1) k1)
   ·rw[Zd (by rw[hi.len];exact k0)] at g1
    exact cY.mono h3.w.lD h3.w.bh ⟨ext,rfl⟩ (fun b _ s hs=>h3.w.shape b s hs) (h3.w.keep b (hi.gC i b blk g1 k2 hlv) (Kr i b blk g1 k2 hlv k1)) (hi.rel i b blk g1 k2)):A:=h
theorem nT{A:Prop}(h:A:=by
 have vI:=lF o4 AW DW hb hc
 simp only[Region.wanted,hg,vI]
 cases c with
 | true=>
  simp only[if_true]
  obtain⟨T2,hsub,hop⟩:=hop rfl
  exact hop R w I ρ a hinv (AW.sH hsub) _ _ fun u w' I' ρ' he' hi' hu=>next u w' I' ρ' he' hi' (by rw[hv];exact⟨fun _=>hu,(fun h=>by cases h)⟩)
 | false=>
  simp only[KJ,if_false]
  exact⟨bD,next undef w I ρ (Ext.refl _ _ _) hinv (by rw[hv];exact⟨(fun h=>by cases h),fun _=>rfl⟩)⟩):A:=h
theorem mU{A:Prop}(h:A:=by
 have hex:∃ i,i<m∧fl listed i=false:=by
  refine Classical.byContradiction fun hno=>hall fun i hi=> ?_
  cases h:fl listed i with
  | true=>rfl
  | false=>exact absurd ⟨i,hi,h⟩ hno
 obtain⟨k,⟨h3,h4⟩,h5⟩:=exists_least _ hex
 refine⟨k,⟨h3,h4⟩,fun j hj=> ?_⟩
 cases h:fl listed j with
 | true=>rfl
 | false=>have:=h5 j ⟨by omega,h⟩;omega):A:=h
theorem DS{A:Prop}(h:A:=by
 have h0:ag P w I ρ (cs++List.replicate ys.length .top) (arr.toList.take (cs++List.replicate ys.length V.top).length):=by
  have e1:arr.toList.take (cs++List.replicate ys.length V.top).length=arr.toList.take cs.length++(arr.toList.drop cs.length).take ys.length:=by
   rw[Zb,Z0,List.take_add]
  rw[e1]
  refine ag.append har ?_
  have e2:((arr.toList.drop cs.length).take ys.length).length=ys.length:=by
   simp only[ZU,KP,Gi]
   rw[hcs,<- vI,hlen,hsz,<- Nat.sub_mul]
   exact KI (FT _ (by omega))
  have:=ag.Xf (P:=P) (w:=w) (I:=I) (ρ:=ρ) ((arr.toList.drop cs.length).take ys.length)
  rw[e2] at this
  exact this
 have:=j4 (P:=P) (w:=w') (I:=I) (ρ:=ρ) ys us (cs++List.replicate ys.length .top) arr.toList (len*z.length+0) (ag.ext hE cE) (by simp[hcs]) (ag.ext hE h0)
 have e3:=rz cs ys (List.replicate ys.length .top) [] (by simp)
 simp only[ZT,KG] at e3
 rw[KC,<- hcs] at this
 rw[KC] at e3
 rw[e3] at this
 rw[r4,KC,<- hcs]
 have e4:(cs++List.replicate ys.length V.top).length=(cs++ys).length:=by simp
 rw[e4] at this
 exact this):A:=h
theorem wP{A:Prop}(h:A:=by
 obtain⟨h1,h2,h3,rs,h4,h5,h6⟩:=hm.ext hE
 refine⟨h1,h2,h3,w.heap.size::rs,by simp[h4],ZC.2 ⟨fun hmem=> ?_,h5⟩,fun r hr=> ?_⟩
 ·obtain⟨rs',g4,g5,g6⟩:=hm.2.2.2
  have e:rs'=rs:=by
   have:=List.append_cancel_right (g4.symm.trans h4)
   exact(List.map_inj_right (fun x y hxy=>by simpa using hxy)).1 this
  subst e
  have:=(ZL.1 (g6 _ hmem).1).1
  omega
 ·rcases Zr.1 hr with rfl | hr
  ·refine⟨?_,fun hI=>by have:=hi.ib _ hI;omega,hm.1⟩
   rw[heap_alloc_old _ _ (by simp)]
   exact heap_alloc_new w _
  ·exact h6 r hr):A:=h
theorem nW{A:Prop}(h:A:=by
 intro listed a w mV hsz hcl xW hsi
 refine done 0 listed a w mV hsz xW (fun i hi=> ?_) hsi
 have hlt:i<listed.size:=by omega
 have h2:=List.count_eq_zero.1 mV
 unfold fl
 cases h3:listed[i] with
 | true=>simp[hlt,h3]
 | false=>exact absurd (by rw[<- h3];exact Array.mem_toList_iff.2 (Array.getElem_mem hlt)) h2):A:=h
theorem Bf{A:Prop}(h:A:=by
 unfold bp at h
 rcases ZS i H.length with hil | hil
 ·rw[Zd (by rw[UF];exact hil)] at h
  rcases ld ks _ H i blk hks.2 (by rw[Zp,ZU];omega) h with⟨j,g1,g2⟩ | ⟨g1,g2⟩
  ·left
   rw[Zu,Zi] at g2
   obtain⟨x,g3,rfl⟩:=g2
   have Hv:=(Za.1 g1).1
   rw[SW Hv] at g3
   rw[cg] at hlv
   have ew:(H.getD i .dead).live=true:=by
    cases hl:(H.getD i .dead).live with
    | true=>rfl
    | false=>rw[SJ j i x g1 hl g3] at hlv;cases hlv
   refine⟨j,x,g3,rfl,?_,.inl g1⟩
   rw[hleft j Hv,rU j i g1 ew,Zd (by rw[hi.len];exact hil)]
  ·exact .inr ⟨hil,g1,g2⟩
 ·left
  rw[Zj (by rw[UF];exact hil),UF,Zu,Zi] at h
  obtain⟨x,g3,rfl⟩:=h
  rw[St] at g3
  obtain⟨m,rfl⟩:∃ m,i=H.length+m:=⟨i - H.length,by omega⟩
  rw[ZJ] at g3
  exact⟨ks.length+m,x,g3,rfl,by rw[hright,zC],.inr ⟨by omega,by omega⟩⟩):A:=h
theorem mZ{A:Prop}(h:A:=by
 refine⟨by simp;omega,fun s v hv=> ?_⟩
 have:=nv args us 0 [] (List.replicate (fn.ntmps - us.length) undef) rfl fX s v hv
 have e:us.toArray++Array.replicate (fn.ntmps - us.toArray.size) undef=([]++us++List.replicate (fn.ntmps - us.length) undef).toArray:=by simp
 rw[e];exact this):A:=h
theorem Et{A:Prop}(h:A:=by
 rcases bB h1 with⟨h7,h8⟩ | ⟨h7,h8⟩ <;> rcases bB h2 with⟨h9,h10⟩ | ⟨h9,h10⟩
 ·rw[Zd (by simp[<- hi.len];exact h7)] at h3
  rw[Zd (by simp[<- hi.len];exact h9)] at h4
  exact hi1.fT j j' k bx by2 h8 h10 h3 h4 h5 h6
 ·subst h10
  rw[Zd (by simp[<- hi.len];exact h7)] at h3
  exfalso
  by_cases hji:i=j
  ·subst hji
   simp[hilt] at h3
   subst h3
   cases h5
  ·rw[G7 hji] at h3
   exact hji (hi.fT i j k _ bx hρ h8 hH h3 ew h5)
 ·subst h8
  rw[Zd (by simp[<- hi.len];exact h9)] at h4
  exfalso
  by_cases hji:i=j'
  ·subst hji
   simp[hilt] at h4
   subst h4
   cases h6
  ·rw[G7 hji] at h4
   exact hji (hi.fT i j' k _ by2 hρ h10 hH h4 ew h6)
 ·omega):A:=h
theorem nc{A:Prop}(h:A:=by
 refine mem_ready.2 ⟨?_,(l[i0]'(by omega)),by rw[List.getElem?_toArray];exact KQ,fun e he hb=>hmin e.on (hk.back i0 _ KQ e he hb)⟩
 have:=nA.2
 unfold fl at this
 have hlt:i0<listed.size:=by omega
 simp[hlt] at this ⊢
 exact this):A:=h
theorem EA{A:Prop}(h:A:=by
 refine⟨by rw[jC,<- h0,Zp],fun j b blk h1 h2 h3=> ?_,hi.ib,fun j b blk h1 h2 h3=> ?_,fun j j' b x y h1 h2 h3 h4 h5 h6=> ?_,fun j b blk h1 h2=> ?_,hi.gl⟩
 ·obtain⟨i,x,h4,h5,rfl,h6⟩:=eD j b blk h1 h2
  rw[cg] at h3
  exact hi.gC i b x (h6 h3) h5 h3
 ·obtain⟨i,x,h4,h5,rfl,h6⟩:=eD j b blk h1 h2
  rw[cg] at h3
  exact hi.live i b x (h6 h3) h5 h3
 ·obtain⟨i,x',h7,h8,rfl,h9⟩:=eD j b x h1 h3
  obtain⟨i',y',k7,k8,rfl,k9⟩:=eD j' b y h2 h4
  rw[cg] at h5 h6
  have:=hi.fT i i' b x' y' (h9 h5) (k9 h6) h8 k8 h5 h6
  subst this
  exact(Yi (Za.1 h7).1 hks.2).1 (h7.trans k7.symm)
 ·obtain⟨i,x,h4,h5,rfl,h6⟩:=eD j b blk h1 h2
  cases hl:x.live with
  | true=>exact jr hσ (hi.rel i b x (h6 hl) h5)
  | false=>exact cY.gE (by rw[cg];exact hl)):A:=h
theorem kO{A:Prop}(h:A:=by
 simp only[KV,Zq] at uI ⊢
 rcases uI with rfl | uI
 ·rw[ho] at hj;cases hj
  exact .inr (Wd e he hb)
 ·exact .inr (hcl j oj hj uI e he hb)):A:=h
theorem CF{A:Prop}(h:A:=by
 have hnd:=ZC.1 hn
 have hput:∀ b,b≠r->(w.putObj r (.deferred none)).heap[b]? =w.heap[b]? :=fun b hb=>World.putObj_heap_other (fun e=>hb e)
 refine ih _ hnd.2 (fun r' h'=>(hput r' (fun e=>hnd.1 (e▸h'))).trans (hr r' (by simp[h']))) ?_
 intro w' h1 h2 h3 h4 h5
 refine h w' (fun b hb=> ?_) h2 h3 h4 (by rw[h5];simp)
 rw[h1 b (fun e=>hb (by simp[e])),hput b (fun e=>hb (by simp[e]))]):A:=h
theorem mX{A:Prop}(h:A:=by
 rcases ZS i m with h | h
 ·exact h
 ·have:=hk.tail (fun j=>decide (j=i)||fl listed j) wO i h hilt (by simp) i0 (by omega)
  have hne:¬ i0=i:=by omega
  simp[hne,nA.2] at this):A:=h
theorem Dv{A:Prop}(h:A:=by
 have e1:fe.toList.take (cs++ys).length=arr.toList.take cs.length++us:=by
   simp only[fe,Array.toList_append]
   rw[ZK,List.take_append]
   have xG:(arr.toList.take (len*z.length)).length=len*z.length:=by
    exact Bo
   have e3:(cs++ys).length=len*z.length+us.length:=by rw[Zb,hcs,vI]
   simp only[xG,e3,hcs]
   rw[OI (by rw[xG];omega),ZJ,Yl (Zf _),ZP]
 rw[e1]
 exact ag.append har cE):A:=h
theorem rK{A:Prop}(h:A:=by
 rw[me (fun j o hj hf=>by
  unfold fl at hf
  by_cases hlt:j<l.length <;> simp[hlt] at hf)] at hv
 exact(ht.at_ s v hv).ext (Ext.drew (w:=w) (I:=I) (ρ:=ρ))):A:=h
theorem wL{A:Prop}(h:A:=by
 simp only[World.shape?]
 show(match (w.drew.alloc (.cells fe e)).heap[w.drew.heap.size]? with | some (.cells c elem _)=>some (elem,c.size) | _=>none)=_
 rw[heap_alloc_new]
 simp only[fe,WA,hce,Builtin.zeroCells]
 simp
 rw[hlen,JD,<- Fb]
 congr 1
 omega):A:=h
theorem qD{A:Prop}(h:A:=by
 apply Fp
 intro i
 simp only[Array.toList_modify,Zu,Zv,List.getElem?_modify]
 by_cases hij:j=i
 ·subst hij
  simp[hjl]
 ·simp[hij]):A:=h
theorem C4{A:Prop}(h:A:=by
 obtain⟨j,hj,e⟩:=Pv hb
 have Hv:j<ks.length:=by rw[<- jC];exact hj
 have e2:ρ2[j]? =some b:=by rw[Zc hj,e]
 have hkj:=Zc Hv
 have J8:=hi.gC i b x g1 g2 g3
 cases hl:(H.getD ks[j] .dead).live with
 | true=>
  rw[rU j ks[j] hkj hl] at e2
  have h5:=hlt ks[j] (Zg hkj)
  have:=hi.fT i ks[j] b x _ g1 e2 g2 (oW _ h5) g3 hl
  rw[this] at g4
  exact g4 (zL _)
 | false=>
  rw[hρd j ks[j] hkj hl] at e2
  have:=ZD e2
  omega):A:=h
theorem DO{A:Prop}(h:A:=by
 have:=run_loadCells_list (P:=P) w.drew ⟨b,0,none⟩ (arr.toList.take (len*z.length)) (fun j v hj=>by
  rw[cK,uf]
  rw[ZV] at hj
  split at hj
  ·show w.cell? _=_
   exact rP
  ·cases hj)
 have xG:(arr.toList.take (len*z.length)).length=len*z.length:=by
  exact Bo
 rw[xG] at this
 simpa[Builtin.firstCells] using this):A:=h
theorem CM{A:Prop}(h:A:=by
 unfold dS at h
 split at h
 ·rename_i i' hk
  split at h
  ·rename_i hl
   cases h
   have Hv:=(Za.1 hk).1
   rw[hleft j Hv,rU j i hk hl] at hb
   exact qq ⟨ext,rfl⟩ hb
  ·cases h
 ·rename_i hk
  cases h
  have Hv:ks.length<=j:=by simpa using hk
  obtain⟨m,rfl⟩:∃ m,j=ks.length+m:=⟨j - ks.length,by omega⟩
  rw[hright] at hb
  rw[ZJ,zC]
  exact hb):A:=h
theorem lg{A:Prop}(h:A:=by
 simp only[Region.wanted,hg,if_true]
 exact hop R w I ρ a hinv AW _ _ next):A:=h
theorem CZ{A:Prop}(h:A:=by
 simp at hx
 obtain⟨k1,k2,k3⟩:=h1 i x hx
 refine⟨k1,?_,k3⟩
 rcases k2 with⟨k4,k5⟩ | ⟨k4,k5⟩
 ·exact .inl ⟨by omega,k5⟩
 ·have:=OL rfl
  have:=(Za.1 hx).1
  omega):A:=h
theorem EO{A:Prop}(h:A:=by
 obtain⟨_,⟨fn0,d0,hw0⟩,_⟩:=j3 hi hH0
 rw[hl0] at hw0
 let ob:Obj:= .loop {state:= .ready,pending:=none,fn,tmps:=a.tmps,params:=ps,assign:=fC,body,defers:=d0}
 have hE:Ext w I ρ (w.alloc ob) I (ρ++[w.heap.size]):=Ext.aQ hi ob
 refine⟨w.heap.size,[],_,sM hw0 fn a.tmps ps fC body,hE,Inv.aQ hi ob ⟨rfl,⟨fn,d0,heap_alloc_new w ob⟩,fun s v hv=>(ht.at_ s v hv).ext hE⟩,hm.ext hE⟩):A:=h
theorem Dm{A:Prop}(h:A:=by
 have e1:fe.toList.take ys.length=us:=by
   simp only[fe,Array.toList_append]
   rw[OW,<- vI,Yl (Zf _)]
   exact ZP
 rw[e1]
 exact cE):A:=h
theorem E2{A:Prop}(h:A:=by
 obtain⟨j,hj,e⟩:=Pv hb
 have Hv:j<ks.length:=by rw[<- jC];exact hj
 have e2:ρ2[j]? =some b:=by rw[Zc hj,e]
 cases hl:(H.getD ks[j] .dead).live with
 | true=>
  rw[rU j ks[j] (Zc Hv) hl] at e2
  exact .inl (Zg e2)
 | false=>
  rw[hρd j ks[j] (Zc Hv) hl] at e2
  exact .inr (ZD e2).symm):A:=h
theorem Bx{A:Prop}(h:A:=by
 refine⟨by rw[ZU];omega,fun i b blk h1 h2 h3=>hi.gC i b blk (t1 i b h1).2 (t2 i blk h2) h3,hi.ib,fun i b blk h1 h2 h3=>hi.live i b blk (t1 i b h1).2 (t2 i blk h2) h3,fun i j b x y h1 h2 h3 h4 h5 h6=>hi.fT i j b x y (t1 i b h1).2 (t1 j b h2).2 (t2 i x h3) (t2 j y h4) h5 h6,fun i b blk h1 h2=> ?_,hi.gl⟩
 exact hw blk (Zg h2) w I ρ b (hi.rel i b blk (t1 i b h1).2 (t2 i blk h2))):A:=h
theorem kG{A:Prop}(h:A:=by
 have hlt:i<listed.size:=by omega
 unfold fl
 simp[hlt] at h3 ⊢
 exact h3):A:=h
theorem Cp{A:Prop}(h:A:=by
 simp only[World.shape?]
 show(match (w.drew.alloc (.cells fe e')).heap[w.drew.heap.size]? with | some (.cells c elem _)=>some (elem,c.size) | _=>none)=_
 rw[heap_alloc_new]
 simp only[fe,WA,hce,Builtin.zeroCells]
 simp
 rw[hlen,JD,hsz,KI (FT _ hle),<- Fb,<- Fb]
 congr 1
 omega):A:=h
theorem vD{A:Prop}(h:A:=by
 simp at hx
 obtain⟨k1,k2,k3⟩:=h1 i x hx
 refine⟨k1,?_,k3⟩
 rcases k2 with⟨k4,k5⟩ | ⟨k4,k5⟩
 ·exact .inl ⟨by omega,k5⟩
 ·exact .inr ⟨by omega,k5⟩):A:=h
theorem wu{A:Prop}(h:A:=by
 apply Fp
 intro j
 rw[Zv]
 split
 ·rename_i hij
  subst hij
  split
  ·exact hH.symm
  ·rename_i h;rw[ZF (by omega)]
 ·rfl):A:=h
theorem EJ{A:Prop}(h:A:=by
 cases hd:P.underlying t with
 | none=>simp[xN,hd] at ht
 | some d=>
  cases d <;> simp[xN,hd] at ht
  rename_i m e
  subst ht
  simp only[nk,hd,Zi] at he
  obtain⟨⟨b,m'⟩,htm,rfl⟩:=he
  refine⟨_,?_,hr⟩
  simp[execOp,ho,Instr.indexAt,hn,dZ,hu,Instr.sureAddr,run_underlying hd,h0,hl,aM htm]):A:=h
theorem qw{A:Prop}(h:A:=by
 cases h:P.underlying t2 with
 | none=>simp[eE,h] at oR
 | some d=>cases d <;> simp[eE,h] at oR;exact⟨_,rfl⟩):A:=h
theorem vY{A:Prop}(h:A:=by
 refine⟨rfl,⟨fn,w.heap.size,?_⟩,fun s v hv=>(ht.at_ s v hv).ext hE⟩
 have:=heap_alloc_new (w.alloc (.deferred (some []))) ob
 rw[hsz] at this
 exact this):A:=h
theorem v7{A:Prop}(h:A:=by
 have h1:=FT b9 hnext
 have h2:(2:Nat)^48=281474976710656:=by decide
 have h3:2*(0+n)+192=2*n+192:=by omega
 rw[h3] at h1
 omega):A:=h
theorem Cr{A:Prop}(h:A:=by
 obtain⟨i',x',h7,h8,h9,rfl⟩:=eD i b x h1 h3
 obtain⟨j',y',k7,k8,k9,rfl⟩:=eD j b y h2 h4
 rw[cg] at h5 h6
 have:=hi.fT i' j' b x' y' h8 k8 h9 k9 h5 h6
 subst this
 have hil:i<ks.length:=(Za.1 h7).1
 exact(Yi hil hk3).1 (h7.trans k7.symm)):A:=h
theorem Da{A:Prop}(h:A:=by
 intro h
 simp only[OK,lk] at h ⊢
 cases hb:Nat.beq a s with
 | true=>rw[hb] at h;exact .inl h
 | false=>rw[hb] at h;exact ih h):A:=h
theorem qT{A:Prop}(h:A:=by
 refine(c6 (k1 b (fun hm=> ?_))).trans hs
 have:=(h8 b hm).1
 simp[World.shape?,this] at hs):A:=h
theorem xd{A:Prop}(h:A:=by
 rw[ZV] at hj
 split at hj
 ·exact rP
 ·cases hj):A:=h
theorem xD{A:Prop}(h:A:=by
 have h2:IntKind.i64.max=9223372036854775807:=by decide
 rw[h2]
 omega):A:=h
theorem DD{A:Prop}(h:A:=by
 simp only[Us,ZA,Zz,zx]
 rw[ZY]
 refine⟨h5,by simp,fun a ha b hb=> ?_⟩
 simp at hb
 subst hb
 rw[uE] at ha
 obtain⟨e,he,rfl⟩:=ha
 have:=h6 e he
 omega):A:=h
theorem nj{A:Prop}(h:A:=by
 obtain⟨d,inf,_,h5,_,h6⟩:=gw kW
 simp[Program.cellsOf,h5,h6]):A:=h
theorem xI{A:Prop}(h:A:=by
 unfold xh at hby
 cases h:P.info? e with
 | none=>rw[h] at hby;cases hby
 | some inf=>rw[h] at hby;simp at hby;exact⟨inf,rfl,hby⟩):A:=h
theorem lu{A:Prop}(h:A:=by
 intro i _
 unfold fl
 by_cases hlt:i<l.length <;> simp[hlt]):A:=h
theorem qt{A:Prop}(h:A:=by
 intro a' w' I' ρ' he hi2 oR hm2
 exact h2 _ B w' I' ρ' a' hi2 oR hm2 fun e a2 w2 q=>QC.ext he q):A:=h
theorem kK{A:Prop}(h:A:=by
 intro i o ho hf
 have hlt:=cC ho
 simp[fl,hlt] at hf):A:=h
theorem CJ{A:Prop}(h:A:=by
 rcases bB h1 with⟨h5,h6⟩ | ⟨h5,h6⟩
 ·rw[Zd (by simp[<- hi.len];exact h5)] at h2
  exact hi1.gC j k blk h6 h2 h3
 ·subst h6
  rw[r8];exact hi.gC i k _ hρ hH ew):A:=h
theorem DX{A:Prop}(h:A:=by
 intro j b blk h1 h2
 rw[<- h0,Zu,Zi] at h2
 obtain⟨i,h3,rfl⟩:=h2
 have h4:=hlt i (Zg h3)
 exact⟨i,_,h3,oW i h4,rfl,fun hl=>by rw[<- rU j i h3 hl];exact h1⟩):A:=h
theorem Dn{A:Prop}(h:A:=by
 rcases bB h1 with⟨h5,h6⟩ | ⟨h5,h6⟩
 ·rw[Zd (by simp[<- hi.len];exact h5)] at h2
  exact hi1.live j k blk h6 h2 h3 h4
 ·subst h6
  exact hi.live i k _ hρ hH ew h4):A:=h
theorem vF{A:Prop}(h:A:=by
 simp only[Sem.run_pure,Result.andThen,List.map_toArray,Zz,zx,FQ,AY,Sem.run_bind,this]
 rfl):A:=h
theorem DI{A:Prop}(h:A:=by
 intro j b blk h1 h2
 rw[Zu,Zi] at h2
 obtain⟨i,h3,rfl⟩:=h2
 have h4:=hlt i (Zg h3)
 rw[rU j i h3] at h1
 exact⟨i,H[i],h3,h1,by simp[h4],by simp[h4]⟩):A:=h
theorem EP{A:Prop}(h:A:=by
 rcases Zo.1 hb with h | h
 ·exact Kr i b x g1 g2 g3 g4 h
 ·have J8:=hi.gC i b x g1 g2 g3
  rcases h3.w.new b (ZG _ h) with h | h
  ·exact Kr i b x g1 g2 g3 g4 h
  ·omega):A:=h
theorem Bl{A:Prop}(h:A:=by
 obtain⟨w4,e1,e2,e3,e4,e5⟩:=IJ h' .done (some c) (NI _ _ hj) (by simp) rfl
 exact⟨some c,w4,e1,wpIn_mono (stop c h' hj B w4 I3 ρ3 {a with defers:=mark++a.defers} e3 e4 e5) fun _ _ _ q=>QC.ext e2 q⟩):A:=h
theorem Cw{A:Prop}(h:A:=by
 have h1:i<ρ.length:=by rw[hi.len];exact hlt i (Zg h)
 rw[YD,Zu,h]
 show some (if (H.getD i .dead).live=true then ρ.getD i 0 else w.heap.size)=_
 rw[if_pos hl]
 simp[h1]):A:=h
theorem Cc{A:Prop}(h:A:=by
 apply Fp
 intro i
 simp only[Array.toList_modify,Zu,List.getElem?_modify]
 by_cases hij:j=i
 ·subst hij
  simp[hjl]
 ·simp[hij]):A:=h
theorem C8{A:Prop}(h:A:=by
 have h0:=cA.refl w I ρ
 exact⟨h0.os,h0.tape,h0.output,h0.size,h0.keep,h0.shape,h0.lD,h0.bh,h0.eT,h0.cI,h0.ki,fun b hb=> .inl (SG hb)⟩):A:=h
theorem Bc{A:Prop}(h:A:=by
 rw[k1]
 cases ok with
 | false=>exact Av I
 | true=>exact aB.jP (us:= #[zu,.bool false]) (ag.two (x:= .p z) (y:= .p (.bool false)) (Av I) (by simp[aB,Rel]))):A:=h
theorem nY{A:Prop}(h:A:=by
 exact done (fuel+1) listed a w mV hsz xW hall hsi):A:=h
theorem CI{A:Prop}(h:A:=by
 have hlt:i<H.length:=by
  have:=(Za.1 e).1
  rw[ZU] at this
  omega
 rw[SW hlt] at e
 exact⟨hlt,e⟩):A:=h
theorem Dq{A:Prop}(h:A:=by
 simp only[fe,WA,Zb]
 rw[hcs,<- vI]
 simp
 rw[hsz]
 have:=FT z.length hle
 omega):A:=h
theorem qV{A:Prop}(h:A:=by
 have h2:(2:Nat)^48=281474976710656:=by decide
 omega):A:=h
theorem CU{A:Prop}(h:A:=by
 rw[k1]
 cases ok with
 | false=>exact k6
 | true=>exact aB.jP (us:= #[e'.val,.bool true]) (ag.two (y:= .p (.bool true)) k6 (by simp[aB,Rel]))):A:=h
theorem EY{A:Prop}(h:A:=by
 rcases bB h2 with⟨h4,h5⟩ | ⟨h4,h5⟩
 ·rw[Zd (by rw[hi.len];exact h4)] at h1
  exact⟨h1,h5⟩
 ·subst h5;cases h3):A:=h
theorem uT{A:Prop}(h:A:=by
 rcases yC b h with h | h
 ·exact .inr (.inl h)
 ·exact .inr (.inr (by omega))):A:=h
theorem DV{A:Prop}(h:A:=by
 unfold xh at hby
 cases hP:P.info? e with
 | none=>rw[hP] at hby;cases hby
 | some inf=>rw[hP] at hby;exact⟨inf,rfl,by simpa using hby⟩):A:=h
theorem C1{A:Prop}(h:A:=by
 rcases h3.w.new b (ZG _ hb) with h | h
 ·rcases yC b h with h | h
  ·exact .inl h
  ·exact .inr (by omega)
 ·exact .inr h):A:=h
theorem EV{A:Prop}(h:A:=by
 unfold xh at hby
 cases h:P.info? e' with
 | none=>rw[h] at hby;cases hby
 | some inf=>rw[h] at hby;simp at hby;exact⟨inf,rfl,hby⟩):A:=h
theorem wK{A:Prop}(h:A:=by
 generalize 9999=d
 simp[Op.equalIn,run_underlying hu,sizeOf,typeInfo,hj]):A:=h
theorem B3{A:Prop}(h:A:=by
 cases hl:blk.live with
 | false=>exact cY.gE hl
 | true=>
  obtain⟨h4,h5⟩:=old j k blk h1 h2 hl
  exact cY.ext hE hi h4 h5 rfl):A:=h
theorem Bh{A:Prop}(h:A:=by
 obtain⟨t,rfl⟩:=hB
 have:B.length<=H.length:=by omega
 rw[List.take_append,OI this]
 exact We _ _):A:=h
theorem Cq{A:Prop}(h:A:=by
 simp only[World.shape?,hw,Wg,Prod.mk.injEq] at hsh
 obtain⟨h1,h2⟩:=hsh
 subst h1
 exact⟨rfl,by rw[h2,hce]⟩):A:=h
theorem DN{A:Prop}(h:A:=by
 rw[YD,Zu,h]
 show some (if (H.getD i .dead).live=true then ρ.getD i 0 else w.heap.size)=_
 rw[if_neg (by rw[hl];decide)]):A:=h
theorem Eu{A:Prop}(h:A:=by
 rw[hb] at hv
 have:=ZM hb
 subst this
 simp at hv
 subst hv
 exact .inl ⟨⟨_,_,ht.at_ s _ hs⟩,rfl⟩):A:=h
theorem C6{A:Prop}(h:A:=by
 obtain⟨h7,h8⟩:=old j k x h1 h3 h5
 obtain⟨h9,h10⟩:=old j' k y h2 h4 h6
 exact hi.fT j j' k x y h7 h9 h8 h10 h5 h6):A:=h
theorem E4{A:Prop}(h:A:=by
 cases hp:iH vs with
 | none=>exact⟨us,rfl,h⟩
 | some xs=>rw[dM hp] at h;exact⟨us,rfl,ag.pure.1 h⟩):A:=h
theorem Cu{A:Prop}(h:A:=by
 unfold bJ at hc
 split at hc
 ·rename_i h;exact⟨_,h,rfl⟩
 ·rename_i h;exact⟨_,h,rfl⟩
 ·cases hc):A:=h
theorem qA{A:Prop}(h:A:=by
 unfold askRoom
 split <;> simp[mark,Sem.run]):A:=h
theorem E1{A:Prop}(h:A:=by
 rw[G7 e] at h3
 rw[G7 e'] at h4
 exact hi.fT j j' k x y h1 h2 h3 h4 h5 h6):A:=h
theorem CK{A:Prop}(h:A:=by
 rw[h10 j hj]
 simp only[World.setCell,W7]
 rw[if_neg (by simpa using fun e=>hj e.symm)]):A:=h
theorem CQ{A:Prop}(h:A:=by
 simp only[fe,WA]
 rw[<- vI]
 simp):A:=h
theorem Ec{A:Prop}(h:A:=by
 rw[r3,Zb,hcs,<- vI,hlen,hsz,<- Fb]
 exact FT _ hroom):A:=h
theorem Bu{A:Prop}(h:A:=by
 rw[Zd (by simp[<- hi.len];exact h5)] at h2
 exact cY.ext o3 hi1 h6 h2 rfl):A:=h
theorem D6{A:Prop}(h:A:=by
 intro arr e' h3
 obtain⟨fe,h4,_⟩:=hi.rel i blk _ hρ hH
 rw[h3] at h4;cases h4;rfl):A:=h
theorem BS{A:Prop}(h:A:=by
 obtain⟨i,x,h4,h5,h6,rfl⟩:=eD j b blk h1 h2
 exact hi.live i b x h5 h6 (by rwa [cg] at h3)):A:=h
theorem Ew{A:Prop}(h:A:=by
 obtain⟨i,x,h4,h5,h6,rfl⟩:=eD j b blk h1 h2
 exact hi.gC i b x h5 h6 (by rwa [cg] at h3)):A:=h
theorem vB{A:Prop}(h:A:=by
 unfold fl
 by_cases hlt:q<l.length <;> simp[hlt]):A:=h
theorem BX{A:Prop}(h:A:=by
 simp[bU] at h
 subst h
 obtain⟨a,hr⟩:=hr
 exact .inl ⟨⟨a,0,hr⟩,rfl⟩):A:=h
theorem De{A:Prop}(h:A:=by
 unfold oe at h
 split at h
 ·rename_i hl
  rw[rU j i (Aw h) hl];exact hb
 ·cases h):A:=h
theorem uP{A:Prop}(h:A:=by
 exact⟨w.heap.size,by rw[<- hi.len];simp,rfl⟩):A:=h
theorem A8{A:Prop}(h:A:=by
 obtain⟨i,x,h4,h5,h6,rfl⟩:=eD j b blk h1 h2
 exact jr hσ (hi.rel i b x h5 h6)):A:=h
theorem Cl{A:Prop}(h:A:=by
 have h3:k.min<=0:=by cases k <;> decide
 simp only[Op.intBits,h1,zB h2 h3]
 rfl):A:=h
theorem CS{A:Prop}(h:A:=by
 have h1:i<ρ.length:=by rw[hi.len];exact hlt i (Zg h)
 simp[h,h1]):A:=h
theorem E9{A:Prop}(h:A:=by
 rw[<- hy]
 simp[execOp,ho,resolve,hu,Deferred.ofValue,invoke,<- Array.toList_map]):A:=h
theorem CT{A:Prop}(h:A:=by
 have h2:IntKind.i64.max=9223372036854775807:=by decide
 rw[h2] at mu
 omega):A:=h
set_option linter.unusedSimpArgs false
set_option linter.unusedVariables false
section
section
namespace Go.AF
inductive PV where
 | bool (b:Bool)
 | int (k:IntKind) (n:Int)
 | str (s:ByteArray)
 | nilPtr | nilSlice | nilMap | nilFunc | nilIface
 | ip (cs:List PV) (off:Nat)
 | is (cs:List PV) (len:Nat)
 | im (ks vs:List PV)
 | func (fn:Fn) (first captured:List PV)
 | iface (t:TypeId) (v:PV)
 | agg (cs:List PV)
 | tuple (vs:List PV)
inductive V where
 | p (x:PV)
 | ptr (i off:Nat)
 | row (i len:Nat)
 | sl (i off len:Nat)
 | map (i:Nat)
 | func (fn:Fn) (first captured:List V)
 | iface (t:TypeId) (v:V)
 | agg (cs:List V)
 | tuple (vs:List V)
 | opt (g:Bool) (v:V)
 | raw (a:Option Addr) (n c:Nat)
 | z0
 | top
structure vH where
 l:Nat
 tmps:Array Value
 T:List (Nat×V)
 ps:Array Tmp
 fC:Code
 body:Code
inductive ah where
 | cells (cs:List V) (e:TypeId)
 | row (cs:List V) (e:TypeId)
 | gV (cs:List V) (e:TypeId)
 | map (ks vs:List V)
 | oh (s:ByteArray) (pos:Nat)
 | mapIter (ks vs:List PV) (last:Option (PV×PV))
 | loop (r:vH) (st:LoopState) (pe:Option Code)
 | dead
def ah.live:ah->Bool
 | .dead=>false
 | _=>true
def lk:List (Nat×V)->Nat->Option V
 | [],_=>none
 | (a,v)::r,s=>bif Nat.beq a s then some v else lk r s
def wA(es:Array MapEntry)(clock:Nat):Prop:=(es.toList.map (·.born)).Nodup∧∀ e∈es.toList,e.born<clock
section
variable (w:World) (I:Nat->Prop)
mutual
def Rel:PV->Value->Prop
 | .bool b,u=>u= .bool b
 | .int k n,u=>u= .int k n
 | .str s,u=>u= .string s
 | .nilPtr,u=>u= .pointer none
 | .nilSlice,u=>u= .slice none 0 0
 | .nilMap,u=>u= .map none
 | .nilFunc,u=>u= .nilFunc
 | .nilIface,u=>u= .nilIface
 | .ip cs off,u=>∃ b o,I b∧u= .pointer (some ⟨b,o+off,none⟩)∧aX cs b o
 | .is cs len,u=>((∃ a cap,u= .slice a 0 cap)∧len=0)∨∃ b o cap,(cs≠[]->I b)∧len<=cap∧u= .slice (some ⟨b,o,none⟩) len cap∧aX cs b o
 | .im ks vs,u=>∃ r es clock,I r∧u= .map (some r)∧w.heap[r]? =some (.map es clock)∧aW ks (es.toList.map (·.key))∧aW vs (es.toList.map (·.val))∧wA es clock
 | .func fn fi ca,u=>∃ us vs,u= .func fn us vs∧aW fi us.toList∧aW ca vs.toList
 | .iface t v,u=>∃ x,u= .iface t x∧Rel v x
 | .agg cs,u=>∃ us,u= .agg us∧aW cs us.toList
 | .tuple cs,u=>∃ us,u= .tuple us∧aW cs us.toList
def aW:List PV->List Value->Prop
 | [],us=>us=[]
 | c::cs,us=>∃ u us',us=u::us'∧Rel c u∧aW cs us'
def aX:List PV->Nat->Nat->Prop
 | [],_,_=>True
 | c::cs,b,o=>(∃ u,w.cell? ⟨b,o,none⟩=some u∧Rel c u)∧aX cs b (o+1)
end
end
section
variable (P:Program) (w:World) (I:Nat->Prop) (ρ:List Nat)
mutual
def aB:V->Value->Prop
 | .p x,u=>Rel w I x u
 | .ptr i off,u=>∃ b,ρ[i]? =some b∧u= .pointer (some ⟨b,off,none⟩)
 | .row i len,u=>∃ b e cap,ρ[i]? =some b∧u= .slice (some ⟨b,0,none⟩) len cap∧w.shape? b=some (e,cap*P.cellsOf e)∧len<=cap
 | .sl i off len,u=>∃ b cap,ρ[i]? =some b∧u= .slice (some ⟨b,off,none⟩) len cap∧len<=cap
 | .map i,u=>∃ b,ρ[i]? =some b∧u= .map (some b)
 | .func fn fi ca,u=>∃ us vs,u= .func fn us vs∧ag fi us.toList∧ag ca vs.toList
 | .iface t v,u=>∃ x,u= .iface t x∧aB v x
 | .agg cs,u=>∃ us,u= .agg us∧ag cs us.toList
 | .tuple cs,u=>∃ us,u= .tuple us∧ag cs us.toList
 | .opt g v,u=>(g=true->aB v u)∧(g=false->u=undef)
 | .raw a n c,u=>u= .slice a n c
 | .z0,u=>∃ a,u= .slice a 0 0
 | .top,_=>True
def ag:List V->List Value->Prop
 | [],us=>us=[]
 | c::cs,us=>∃ u us',us=u::us'∧aB c u∧ag cs us'
end
def cY:ah->Nat->Prop
 | .cells cs e,b=>∃ arr,w.heap[b]? =some (.cells arr e (0,0))∧ag P w I ρ cs arr.toList
 | .row cs e,b=>∃ arr,w.heap[b]? =some (.cells arr e (0,0))∧cs.length<=arr.size∧ag P w I ρ cs (arr.toList.take cs.length)
 | .gV cs e,b=>∃ arr m,w.heap[b]? =some (.cells arr e (0,m))∧m<=cs.length∧cs.length<=arr.size∧ag P w I ρ cs (arr.toList.take cs.length)
 | .map ks vs,b=>∃ es clock,w.heap[b]? =some (.map es clock)∧ag P w I ρ ks (es.toList.map (·.key))∧ag P w I ρ vs (es.toList.map (·.val))∧wA es clock
 | .oh s pos,b=>w.heap[b]? =some (.stringIter s pos)
 | .mapIter ks vs last,b=>(ks=[]∧vs=[]∧last=none∧w.heap[b]? =some (.mapIter none 0 #[] 0))∨
     ∃ r es clock seen,w.heap[b]? =some (.mapIter (some r) clock seen clock)∧I r∧w.heap[r]? =some (.map es clock)∧wA es clock∧
      aW w I ks ((es.toList.filter fun e=> !seen.contains e.born).map (·.key))∧aW w I vs ((es.toList.filter fun e=> !seen.contains e.born).map (·.val))∧
      ∀ k v,last=some (k,v)->∃(e:MapEntry) (pre:Array Nat),e∈es.toList∧seen=pre.push e.born∧Rel w I k e.key∧Rel w I v e.val
 | .loop r st pe,b=>b=r.l∧(∃ fn d,w.heap[b]? =some (.loop {state:=st,pending:=pe,fn,tmps:=r.tmps,params:=r.ps,assign:=r.fC,body:=r.body,defers:=d}))∧∀ s v,lk r.T s=some v->aB P w I ρ v (r.tmps.getD s undef)
 | .dead,_=>True
end
theorem qq{α:Type}{l l':List α}(h:l<+:l'){i:Nat}{b:α}(hb:l[i]? =some b):l'[i]? =some b:=by
 obtain⟨t,rfl⟩:=h
 rw[Zd (Za.1 hb).1]
 exact hb
theorem o6{w w':World}{b o:Nat}{s:Option Nat}(h:w'.heap[b]? =w.heap[b]?):w'.cell? ⟨b,o,s⟩=w.cell? ⟨b,o,s⟩:=by
 simp only[World.cell?,h]
mutual
theorem Rel.mono{w w':World}{I I':Nat->Prop}(hI:∀ b,I b->I' b)(hw:∀ b,I b->w'.heap[b]? =w.heap[b]?):∀(x:PV) (u:Value),Rel w I x u->Rel w' I' x u
 | .bool _,_,h=>by simpa[Rel] using h
 | .int _ _,_,h=>by simpa[Rel] using h
 | .str _,_,h=>by simpa[Rel] using h
 | .nilPtr,_,h=>by simpa[Rel] using h
 | .nilSlice,_,h=>by simpa[Rel] using h
 | .nilMap,_,h=>by simpa[Rel] using h
 | .nilFunc,_,h=>by simpa[Rel] using h
 | .nilIface,_,h=>by simpa[Rel] using h
 | .ip cs off,u,h=>by
  obtain⟨b,o,hb,hu,hc⟩:=h
  exact⟨b,o,hI b hb,hu,aX.mono hI hw cs b o (fun _=>hb) hc⟩
 | .is cs len,u,h=>by
  rcases h with h | ⟨b,o,cap,hb,hl,hu,hc⟩
  ·exact .inl h
  ·exact .inr ⟨b,o,cap,fun hn=>hI b (hb hn),hl,hu,aX.mono hI hw cs b o hb hc⟩
 | .im ks vs,u,h=>by
  obtain⟨r,es,clock,hr,hu,hh,hk,hv,hb⟩:=h
  exact⟨r,es,clock,hI r hr,hu,by rw[hw r hr];exact hh,aW.mono hI hw ks _ hk,aW.mono hI hw vs _ hv,hb⟩
 | .func fn fi ca,u,h=>by
  obtain⟨us,vs,hu,h1,h2⟩:=h
  exact⟨us,vs,hu,aW.mono hI hw fi _ h1,aW.mono hI hw ca _ h2⟩
 | .iface t v,u,h=>by
  obtain⟨x,hu,h1⟩:=h
  exact⟨x,hu,Rel.mono hI hw v x h1⟩
 | .agg cs,u,h=>by
  obtain⟨us,hu,h1⟩:=h
  exact⟨us,hu,aW.mono hI hw cs _ h1⟩
 | .tuple cs,u,h=>by
  obtain⟨us,hu,h1⟩:=h
  exact⟨us,hu,aW.mono hI hw cs _ h1⟩
theorem aW.mono{w w':World}{I I':Nat->Prop}(hI:∀ b,I b->I' b)(hw:∀ b,I b->w'.heap[b]? =w.heap[b]?):∀(xs:List PV) (us:List Value),aW w I xs us->aW w' I' xs us
 | [],us,h=>by simpa[aW] using h
 | c::cs,us,h=>by
  obtain⟨u,us',hu,h1,h2⟩:=h
  exact⟨u,us',hu,Rel.mono hI hw c u h1,aW.mono hI hw cs us' h2⟩
theorem aX.mono{w w':World}{I I':Nat->Prop}(hI:∀ b,I b->I' b)(hw:∀ b,I b->w'.heap[b]? =w.heap[b]?):∀(xs:List PV) (b o:Nat),(xs≠[]->I b)->aX w I xs b o->aX w' I' xs b o
 | [],_,_,_,_=>by simp[aX]
 | c::cs,b,o,hb,h=>by
  obtain⟨⟨u,hu,h1⟩,h2⟩:=h
  have OJ:=hb (by simp)
  exact⟨⟨u,(o6 (hw b OJ)).trans hu,Rel.mono hI hw c u h1⟩,aX.mono hI hw cs b (o+1) (fun _=>OJ) h2⟩
end
mutual
theorem aB.mono{P:Program}{w w':World}{I I':Nat->Prop}{ρ ρ':List Nat}(hI:∀ b,I b->I' b)(hw:∀ b,I b->w'.heap[b]? =w.heap[b]?)(hρ:ρ<+:ρ')
    (hs:∀ b∈ρ,∀ s,w.shape? b=some s->w'.shape? b=some s):∀(x:V) (u:Value),aB P w I ρ x u->aB P w' I' ρ' x u
 | .p x,u,h=>Rel.mono hI hw x u h
 | .ptr i off,u,h=>by
  obtain⟨b,hb,hu⟩:=h
  exact⟨b,qq hρ hb,hu⟩
 | .row i len,u,h=>by
  obtain⟨b,e,cap,hb,hu,hsh,hl⟩:=h
  exact⟨b,e,cap,qq hρ hb,hu,hs b (Zg hb) _ hsh,hl⟩
 | .sl i off len,u,h=>by
  obtain⟨b,cap,hb,hu⟩:=h
  exact⟨b,cap,qq hρ hb,hu⟩
 | .map i,u,h=>by
  obtain⟨b,hb,hu⟩:=h
  exact⟨b,qq hρ hb,hu⟩
 | .func fn fi ca,u,h=>by
  obtain⟨us,vs,hu,h1,h2⟩:=h
  exact⟨us,vs,hu,ag.mono hI hw hρ hs fi _ h1,ag.mono hI hw hρ hs ca _ h2⟩
 | .iface t v,u,h=>by
  obtain⟨x,hu,h1⟩:=h
  exact⟨x,hu,aB.mono hI hw hρ hs v x h1⟩
 | .agg cs,u,h=>by
  obtain⟨us,hu,h1⟩:=h
  exact⟨us,hu,ag.mono hI hw hρ hs cs _ h1⟩
 | .tuple cs,u,h=>by
  obtain⟨us,hu,h1⟩:=h
  exact⟨us,hu,ag.mono hI hw hρ hs cs _ h1⟩
 | .opt g v,u,h=>⟨fun hg=>aB.mono hI hw hρ hs v u (h.1 hg),h.2⟩
 | .raw _ _ _,u,h=>h
 | .z0,u,h=>h
 | .top,_,_=>by simp[aB]
theorem ag.mono{P:Program}{w w':World}{I I':Nat->Prop}{ρ ρ':List Nat}(hI:∀ b,I b->I' b)(hw:∀ b,I b->w'.heap[b]? =w.heap[b]?)(hρ:ρ<+:ρ')
    (hs:∀ b∈ρ,∀ s,w.shape? b=some s->w'.shape? b=some s):∀(xs:List V) (us:List Value),ag P w I ρ xs us->ag P w' I' ρ' xs us
 | [],us,h=>by simpa[ag] using h
 | c::cs,us,h=>by
  obtain⟨u,us',hu,h1,h2⟩:=h
  exact⟨u,us',hu,aB.mono hI hw hρ hs c u h1,ag.mono hI hw hρ hs cs us' h2⟩
end
theorem cY.mono{P:Program}{w w':World}{I I':Nat->Prop}{ρ ρ':List Nat}(hI:∀ b,I b->I' b)(hw:∀ b,I b->w'.heap[b]? =w.heap[b]?)(hρ:ρ<+:ρ')
    (hs:∀ b∈ρ,∀ s,w.shape? b=some s->w'.shape? b=some s){x:ah}{b:Nat}(hb:w'.heap[b]? =w.heap[b]?)(h:cY P w I ρ x b):cY P w' I' ρ' x b:=by
 cases x with
 | cells cs e=>
  obtain⟨arr,h1,h2⟩:=h
  exact⟨arr,hb.trans h1,ag.mono hI hw hρ hs cs _ h2⟩
 | row cs e=>
  obtain⟨arr,h1,h2,h3⟩:=h
  exact⟨arr,hb.trans h1,h2,ag.mono hI hw hρ hs cs _ h3⟩
 | gV cs e=>
  obtain⟨arr,m,h1,h0,h2,h3⟩:=h
  exact⟨arr,m,hb.trans h1,h0,h2,ag.mono hI hw hρ hs cs _ h3⟩
 | map ks vs=>
  obtain⟨es,clock,h1,h2,h3,h4⟩:=h
  exact⟨es,clock,hb.trans h1,ag.mono hI hw hρ hs ks _ h2,ag.mono hI hw hρ hs vs _ h3,h4⟩
 | oh s pos=>exact hb.trans h
 | mapIter ks vs last=>
  rcases h with⟨h1,h2,h3,h4⟩ | ⟨r,es,clock,seen,h1,h2,h3,h4,h5,h6,h7⟩
  ·exact .inl ⟨h1,h2,h3,hb.trans h4⟩
  ·refine .inr ⟨r,es,clock,seen,hb.trans h1,hI r h2,(hw r h2).trans h3,h4,aW.mono hI hw ks _ h5,aW.mono hI hw vs _ h6,fun k v hl=> ?_⟩
   obtain⟨e,pre,k1,k2,k3,k4⟩:=h7 k v hl
   exact⟨e,pre,k1,k2,Rel.mono hI hw k _ k3,Rel.mono hI hw v _ k4⟩
 | loop r st pe=>
  obtain⟨h0,⟨fn,d,h1⟩,h3⟩:=h
  exact⟨h0,⟨fn,d,hb.trans h1⟩,fun s v hv=>aB.mono hI hw hρ hs v _ (h3 s v hv)⟩
 | dead=>trivial
structure cA (w:World) (I:Nat->Prop) (ρ:List Nat) (w':World) (I':Nat->Prop) (ρ':List Nat):Prop where
 os:w'.os=w.os
 tape:w'.tape=w.tape
 output:w'.output=w.output
 size:w.heap.size<=w'.heap.size
 keep:∀ b,b<w.heap.size->b∉ρ->w'.heap[b]? =w.heap[b]?
 shape:∀ b s,w.shape? b=some s->w'.shape? b=some s
 lD:∀ b,I b->I' b
 bh:∀ b,I b->w'.heap[b]? =w.heap[b]?
 eT:∀ b,I' b->I b∨b∈ρ∨w.heap.size<=b
 cI:∀ b:Nat,w.heap[b]? =some (Obj.deferred (some []))->w'.heap[b]? =some (Obj.deferred (some []))
 ki:∀ b:Nat,w.heap[b]? =some (Obj.deferred (some []))->I' b->I b
 new:∀ b∈ρ',b∈ρ∨w.heap.size<=b
structure Ext (w:World) (I:Nat->Prop) (ρ:List Nat) (w':World) (I':Nat->Prop) (ρ':List Nat):Prop where
 w:cA w I ρ w' I' ρ'
 pre:ρ<+:ρ'
def Yr:Operand->Option PV
 | .const (.int k n)=>some (.int k n)
 | .const (.bool b)=>some (.bool b)
 | _=>none
def HA:List Oper->List (Nat×List PV)
 | o1::o2::rest=>(match o1.op,o2.op with
   | .build _ parts,.store _ (.global g) _=>(match if parts.toList.map (·.1)==List.range parts.size then parts.toList.mapM fun p=>Yr p.2 else none with
     | some l=>[(g,l)]
     | none=>[])
   | _,_=>[])++HA (o2::rest)
 | _=>[]
def MA:Code->List (Nat×List PV)
 | .region _ l _=>HA l.toList
 | .seq a b=>MA a++MA b
 | _=>[]
def o5(P:Program):List (Nat×List PV):=match P.funcs.toList.find? fun f=>f.name== "gosem.cut.vars" with
 | some f=>(match f.body with
   | some c=>MA c
   | none=>[])
 | none=>[]
def aaU:Bool:=false
def YH:List Int:=(List.range 256).map fun c=>if c==9||c==10||c==11||c==12||c==13||c==32 then 1 else 0
def OU(P:Program)(w:World)(I:Nat->Prop):Prop:=(∀ x∈o5 P,I x.1∧aX w I x.2 x.1 0∧∃ arr e fr,w.heap[x.1]? =some (.cells arr e fr)∧arr.size=x.2.length)∧(aaU=true->∀ g,P.globalNamed "strings.asciiSpace" =some g->I g∧aX w I (YH.map (PV.int .u8)) g 0)∧∀ g,P.globalNamed "internal/bytealg.MaxLen" =some g->I g∧∃ m,w.cell? ⟨g,0,none⟩=some (.int .i64 m)
theorem OU.mono{P:Program}{w w':World}{I I':Nat->Prop}(h:OU P w I)(hI:∀ b,I b->I' b)(hw:∀ b,I b->w'.heap[b]? =w.heap[b]?):OU P w' I':=⟨fun x hx=>by
 obtain⟨h1,h2,h3⟩:=h.1 x hx
 rw[<- hw _ h1] at h3
 exact⟨hI _ h1,aX.mono hI hw _ _ _ (fun _=>h1) h2,h3⟩,fun hs g hg=>by
 obtain⟨h1,h2⟩:=h.2.1 hs g hg
 exact⟨hI _ h1,aX.mono hI hw _ _ _ (fun _=>h1) h2⟩,fun g hg=>by
 obtain⟨h1,m,h2⟩:=h.2.2 g hg
 refine⟨hI _ h1,m,?_⟩
 rw[<- h2]
 unfold World.cell?
 simp only[hw _ h1]⟩
structure Inv (P:Program) (w:World) (I:Nat->Prop) (ρ:List Nat) (H:List ah):Prop where
 len:ρ.length=H.length
 gC:∀(i b:Nat) (blk:ah),ρ[i]? =some b->H[i]? =some blk->blk.live=true->b<w.heap.size
 ib:∀ b,I b->b<w.heap.size
 live:∀(i b:Nat) (blk:ah),ρ[i]? =some b->H[i]? =some blk->blk.live=true->¬ I b
 fT:∀(i j b:Nat) (x y:ah),ρ[i]? =some b->ρ[j]? =some b->H[i]? =some x->H[j]? =some y->x.live=true->y.live=true->i=j
 rel:∀(i b:Nat) (blk:ah),ρ[i]? =some b->H[i]? =some blk->cY P w I ρ blk b
 gl:OU P w I
theorem cA.refl(w:World)(I:Nat->Prop)(ρ:List Nat):cA w I ρ w I ρ:=
 ⟨rfl,rfl,rfl,Zf _,fun _ _ _=>rfl,fun _ _ h=>h,fun _ h=>h,fun _ _=>rfl,fun _ h=> .inl h,fun _ h=>h,fun _ _ h=>h,fun _ h=> .inl h⟩
theorem Ext.refl(w:World)(I:Nat->Prop)(ρ:List Nat):Ext w I ρ w I ρ:=⟨cA.refl _ _ _,ZE _⟩
theorem cA.trans{w w' w'':World}{I I' QO:Nat->Prop}{ρ ρ' VB:List Nat}(h:cA w I ρ w' I' ρ')(k:cA w' I' ρ' w'' QO VB):cA w I ρ w'' QO VB where
 os:=k.os.trans h.os
 tape:=k.tape.trans h.tape
 output:=k.output.trans h.output
 size:=ZW h.size k.size
 keep b hb hn:=by
  have:b∉ρ':=fun hm=>by
   rcases h.new b hm with h1 | h1
   ·exact hn h1
   ·omega
  exact(k.keep b (ZQ hb h.size) this).trans (h.keep b hb hn)
 shape b s hs:=k.shape b s (h.shape b s hs)
 lD b hb:=k.lD b (h.lD b hb)
 bh b hb:=(k.bh b (h.lD b hb)).trans (h.bh b hb)
 eT b hb:=by
  rcases k.eT b hb with h1 | h1 | h1
  ·exact h.eT b h1
  ·exact .inr (h.new b h1)
  ·exact .inr (.inr (ZW h.size h1))
 cI b hb:=k.cI b (h.cI b hb)
 ki b hb hi:=h.ki b hb (k.ki b (h.cI b hb) hi)
 new b hb:=by
  rcases k.new b hb with h1 | h1
  ·exact h.new b h1
  ·exact .inr (ZW h.size h1)
theorem Ext.trans{w w' w'':World}{I I' QO:Nat->Prop}{ρ ρ' VB:List Nat}(h:Ext w I ρ w' I' ρ')(k:Ext w' I' ρ' w'' QO VB):Ext w I ρ w'' QO VB:=⟨h.w.trans k.w,h.pre.trans k.pre⟩
theorem aB.ext{P:Program}{w w':World}{I I':Nat->Prop}{ρ ρ':List Nat}(h:Ext w I ρ w' I' ρ'){x:V}{u:Value}(hx:aB P w I ρ x u):aB P w' I' ρ' x u:=
 aB.mono h.w.lD h.w.bh h.pre (fun b _ s hs=>h.w.shape b s hs) x u hx
theorem ag.ext{P:Program}{w w':World}{I I':Nat->Prop}{ρ ρ':List Nat}(h:Ext w I ρ w' I' ρ'){x:List V}{u:List Value}(hx:ag P w I ρ x u):ag P w' I' ρ' x u:=
 ag.mono h.w.lD h.w.bh h.pre (fun b _ s hs=>h.w.shape b s hs) x u hx
theorem Rel.ext{w w':World}{I I':Nat->Prop}{ρ ρ':List Nat}(h:Ext w I ρ w' I' ρ'){x:PV}{u:Value}(hx:Rel w I x u):Rel w' I' x u:=
 Rel.mono h.w.lD h.w.bh x u hx
theorem cY.ext{P:Program}{w w':World}{I I':Nat->Prop}{ρ ρ':List Nat}{H:List ah}(h:Ext w I ρ w' I' ρ')(hi:Inv P w I ρ H){i b:Nat}{x:ah}(hρ:ρ[i]? =some b)(hH:H[i]? =some x)
    (hb:w'.heap[b]? =w.heap[b]?):cY P w' I' ρ' x b:=
 cY.mono h.w.lD h.w.bh h.pre (fun b _ s hs=>h.w.shape b s hs) hb (hi.rel i b x hρ hH)
structure bu (P:Program) (w:World) (I:Nat->Prop) (ρ:List Nat) (N:Nat) (T:List (Nat×V)) (tmps:Array Value):Prop where
 size:tmps.size=N
 at_:∀ s v,lk T s=some v->aB P w I ρ v (tmps.getD s undef)
theorem bu.ext{P:Program}{w w':World}{I I':Nat->Prop}{ρ ρ':List Nat}{N:Nat}{T:List (Nat×V)}{tmps:Array Value}(h:Ext w I ρ w' I' ρ')(t:bu P w I ρ N T tmps):bu P w' I' ρ' N T tmps:=
 ⟨t.size,fun s v hv=>(t.at_ s v hv).ext h⟩
def fN(T:List (Nat×V)):Option Nat->V->List (Nat×V)
 | some d,v=>(d,v)::T
 | none,_=>T
def bg(N:Nat):Option Nat->Bool
 | some d=>Nat.blt d N
 | none=>true
theorem bu.put{P:Program}{w:World}{I:Nat->Prop}{ρ:List Nat}{N:Nat}{T:List (Nat×V)}{a:Act}{dst:Option Nat}{v:V}{u:Value}(hd:bg N dst=true)
    (t:bu P w I ρ N T a.tmps)(hv:aB P w I ρ v u):bu P w I ρ N (fN T dst v) (a.put dst u).tmps:=by
 cases dst with
 | none=>exact t
 | some d=>
  have hlt:d<N:=by simpa[bg,Nat.blt,Zw] using hd
  refine⟨by simp[Act.put,t.size],fun s x hx=> ?_⟩
  simp only[fN,lk] at hx
  by_cases hs:d=s
  ·subst hs
   simp at hx
   subst hx
   have h1:d<a.tmps.size:=by rw[t.size];exact hlt
   simpa[Act.put,h1] using hv
  ·have hb:Nat.beq d s=false:=by
     cases h0:Nat.beq d s with
     | false=>rfl
     | true=>exact absurd (ZM h0) hs
   simp only[hb,cond_false] at hx
   have:=t.at_ s x hx
   simpa[Act.put,hs] using this
def Sub(T T':List (Nat×V)):Prop:=∀ s v,lk T s=some v->lk T' s=some v
theorem bu.sub{P:Program}{w:World}{I:Nat->Prop}{ρ:List Nat}{N:Nat}{T T':List (Nat×V)}{tmps:Array Value}(h:Sub T' T)(t:bu P w I ρ N T tmps):bu P w I ρ N T' tmps:=
 ⟨t.size,fun s v hv=>t.at_ s v (h s v hv)⟩
def ql:Value->Option PV
 | .bool b=>some (.bool b)
 | .int k n=>some (.int k n)
 | .string s=>some (.str s)
 | .pointer none=>some .nilPtr
 | .slice none 0 0=>some .nilSlice
 | .map none=>some .nilMap
 | .nilFunc=>some .nilFunc
 | .nilIface=>some .nilIface
 | _=>none
theorem Rel.scalar{w:World}{I:Nat->Prop}{v:Value}{x:PV}(h:ql v=some x):Rel w I x v:=by
 unfold ql at h
 split at h <;> simp_all <;> subst h <;> simp[Rel]
def lB:List Value->Option (List PV)
 | []=>some []
 | v::vs=>match ql v,lB vs with
   | some x,some xs=>some (x::xs)
   | _,_=>none
theorem aW.scalars{w:World}{I:Nat->Prop}:∀{vs:List Value} {xs:List PV},lB vs=some xs->aW w I xs vs
 | [],_,h=>by simp[lB] at h;subst h;simp[aW]
 | v::vs,xs,h=>by
  simp only[lB] at h
  split at h
  ·rename_i x ys h1 h2
   simp at h;subst h
   exact⟨v,vs,rfl,Rel.scalar h1,aW.scalars h2⟩
  ·cases h
def H9:Value->Option PV
 | .agg cs=>(lB cs.toList).map .agg
 | v=>ql v
theorem Rel.val{w:World}{I:Nat->Prop}{v:Value}{x:PV}(h:H9 v=some x):Rel w I x v:=by
 unfold H9 at h
 split at h
 ·simp at h
  obtain⟨xs,h1,rfl⟩:=h
  exact⟨_,rfl,aW.scalars h1⟩
 ·exact Rel.scalar h
def ev(T:List (Nat×V)):Operand->Option V
 | .tmp t=>lk T t
 | .const v=>(H9 v).map .p
 | .func f=>some (.p (.func (.func f) [] []))
 | .global _=>none
theorem bu.ev{P:Program}{w:World}{I:Nat->Prop}{ρ:List Nat}{N:Nat}{T:List (Nat×V)}{a:Act}(t:bu P w I ρ N T a.tmps){x:Operand}{v:V}(h:AF.ev T x=some v):aB P w I ρ v (a.eval x):=by
 cases x with
 | tmp s=>exact t.at_ s v h
 | const c=>
  simp only[AF.ev,Zi] at h
  obtain⟨y,h1,rfl⟩:=h
  exact Rel.val h1
 | func f=>
  simp only[AF.ev,Wg] at h
  subst h
  simp[aB,Rel,aW,Act.eval]
 | global g=>cases h
def jT(T:List (Nat×V)):List Operand->Option (List V)
 | []=>some []
 | x::xs=>match ev T x,jT T xs with
   | some v,some vs=>some (v::vs)
   | _,_=>none
theorem bu.jT{P:Program}{w:World}{I:Nat->Prop}{ρ:List Nat}{N:Nat}{T:List (Nat×V)}{a:Act}(t:bu P w I ρ N T a.tmps):∀{xs:List Operand} {vs:List V},AF.jT T xs=some vs->ag P w I ρ vs (xs.map a.eval)
 | [],vs,h=>by simp[AF.jT] at h;subst h;simp[ag]
 | x::xs,vs,h=>by
  simp only[AF.jT] at h
  split at h
  ·rename_i y ys h1 h2
   simp at h;subst h
   exact⟨_,_,rfl,t.ev h1,t.jT h2⟩
  ·cases h
section
variable {P:Program} {w w':World} {I:Nat->Prop} {ρ:List Nat} {H:List ah}
theorem c6{b:Nat}(h:w'.heap[b]? =w.heap[b]?):w'.shape? b=w.shape? b:=by simp only[World.shape?,h]
theorem heap_alloc_old(w:World)(o:Obj){b:Nat}(h:b<w.heap.size):(w.alloc o).heap[b]? =w.heap[b]? :=by
 show(w.heap.push o)[b]? =_
 rw[Array.getElem?_push,if_neg (by omega)]
theorem heap_alloc_new(w:World)(o:Obj):(w.alloc o).heap[w.heap.size]? =some o:=by
 show(w.heap.push o)[w.heap.size]? =_
 simp
theorem lA{b:Nat}{s:TypeId×Nat}(h:w.shape? b=some s):b<w.heap.size:=by
 unfold World.shape? at h
 rcases ZS b w.heap.size with h' | h'
 ·exact h'
 ·simp[Array.getElem?_eq_none h'] at h
theorem Ext.drew:Ext w I ρ w.drew I ρ:=
 ⟨⟨rfl,rfl,rfl,Zf _,fun _ _ _=>rfl,fun _ _ h=>h,fun _ h=>h,fun _ _=>rfl,fun _ h=> .inl h,fun _ h=>h,fun _ _ h=>h,fun _ h=> .inl h⟩,ZE _⟩
theorem cY.gE{x:ah}{b:Nat}(h:x.live=false):cY P w I ρ x b:=by
 cases x <;> first | trivial | cases h
theorem Inv.same{I':Nat->Prop}(hi:Inv P w I ρ H)(he:Ext w I ρ w' I' ρ)(hib:∀ b,I' b->b<w'.heap.size)(hn:∀ b,b<w.heap.size->I' b->I b)(hb:∀ b,b<w.heap.size->w'.heap[b]? =w.heap[b]?):Inv P w' I' ρ H where
 gl:=hi.gl.mono he.w.lD he.w.bh
 len:=hi.len
 gC i b blk h1 h2 h3:=ZQ (hi.gC i b blk h1 h2 h3) he.w.size
 ib:=hib
 live i b blk h1 h2 h3 h4:=hi.live i b blk h1 h2 h3 (hn b (hi.gC i b blk h1 h2 h3) h4)
 fT:=hi.fT
 rel i b blk h1 h2:=by
  cases hl:blk.live with
  | false=>exact cY.gE hl
  | true=>exact cY.ext he hi h1 h2 (hb b (hi.gC i b blk h1 h2 hl))
theorem Inv.drew(hi:Inv P w I ρ H):Inv P w.drew I ρ H:=hi.same Ext.drew (fun b h=>hi.ib b h) (fun _ _ h=>h) (fun _ _=>rfl)
theorem tC(o:Obj){b:Nat}(h:w.heap[b]? =some (Obj.deferred (some []))):(w.alloc o).heap[b]? =some (Obj.deferred (some [])):=
 (heap_alloc_old w o (ZL.1 h).1).trans h
theorem Ext.gR(hi:Inv P w I ρ H)(o:Obj):Ext w I ρ (w.alloc o) (fun b=>I b∨b=w.heap.size) ρ:=
 ⟨⟨rfl,rfl,rfl,by simp,fun b hb _=>heap_alloc_old w o hb,fun b s h=>(c6 (heap_alloc_old w o (lA h))).trans h,fun _ h=> .inl h,fun b h=>heap_alloc_old w o (hi.ib b h),
  fun b h=>by rcases h with h | h;exact .inl h;exact .inr (.inr (by omega)),fun b h=>tC o h,fun b h h2=>by
   rcases h2 with h2 | h2
   ·exact h2
   ·have:=(ZL.1 h).1;omega,fun _ h=> .inl h⟩,ZE _⟩
theorem Inv.gR(hi:Inv P w I ρ H)(o:Obj):Inv P (w.alloc o) (fun b=>I b∨b=w.heap.size) ρ H:=
 hi.same (Ext.gR hi o) (fun b h=>by rcases h with h | h;have:=hi.ib b h;simp;omega;simp;omega) (fun b hb h=>by rcases h with h | h;exact h;omega)
  (fun b hb=>heap_alloc_old w o hb)
theorem Ext.dW(hi:Inv P w I ρ H)(o:Obj):Ext w I ρ (w.alloc o) I ρ:=
 ⟨⟨rfl,rfl,rfl,by simp,fun b hb _=>heap_alloc_old w o hb,fun b s h=>(c6 (heap_alloc_old w o (lA h))).trans h,fun _ h=>h,fun b h=>heap_alloc_old w o (hi.ib b h),
  fun b h=> .inl h,fun b h=>tC o h,fun _ _ h=>h,fun _ h=> .inl h⟩,ZE _⟩
theorem Inv.dW(hi:Inv P w I ρ H)(o:Obj):Inv P (w.alloc o) I ρ H:=
 hi.same (Ext.dW hi o) (fun b h=>by have:=hi.ib b h;simp;omega) (fun b _ h=>h) (fun b hb=>heap_alloc_old w o hb)
theorem Ext.aQ(hi:Inv P w I ρ H)(o:Obj):Ext w I ρ (w.alloc o) I (ρ++[w.heap.size]):=
 ⟨⟨rfl,rfl,rfl,by simp,fun b hb _=>heap_alloc_old w o hb,fun b s h=>(c6 (heap_alloc_old w o (lA h))).trans h,fun _ h=>h,fun b h=>heap_alloc_old w o (hi.ib b h),
  fun b h=> .inl h,fun b h=>tC o h,fun _ _ h=>h,fun b h=>by
   rcases Zo.1 h with h | h
   ·exact .inl h
   ·simp at h;exact .inr (by omega)⟩,⟨_,rfl⟩⟩
theorem bB{α:Type}{l:List α}{x y:α}{i:Nat}(h:(l++[x])[i]? =some y):(i<l.length∧l[i]? =some y)∨(i=l.length∧y=x):=by
 rcases Nat.lt_trichotomy i l.length with h1 | h1 | h1
 ·rw[Zd h1] at h;exact .inl ⟨h1,h⟩
 ·subst h1;simp at h;exact .inr ⟨rfl,h.symm⟩
 ·rw[ZF (by simp;omega)] at h;cases h
theorem Inv.aQ(hi:Inv P w I ρ H)(o:Obj){blk:ah}(hr:cY P (w.alloc o) I (ρ++[w.heap.size]) blk w.heap.size):Inv P (w.alloc o) I (ρ++[w.heap.size]) (H++[blk]) where
 gl:=hi.gl.mono (fun _ h=>h) (fun b h=>heap_alloc_old w o (hi.ib b h))
 len:=by simp[hi.len]
 gC i b x h1 h2 h3:=by
  rcases bB h1 with⟨h5,h6⟩ | ⟨h5,h6⟩
  ·rw[Zd (by rw[<- hi.len];exact h5)] at h2
   have:=hi.gC i b x h6 h2 h3;simp;omega
  ·simp;omega
 ib b h:=by have:=hi.ib b h;simp;omega
 live i b x h1 h2 h3 h4:=by
  rcases bB h1 with⟨h5,h6⟩ | ⟨h5,h6⟩
  ·rw[Zd (by rw[<- hi.len];exact h5)] at h2
   exact hi.live i b x h6 h2 h3 h4
  ·have:=hi.ib b h4;omega
 fT i j b x y h1 h2 h3 h4 h5 h6:=by
  rcases bB h1 with⟨h7,h8⟩ | ⟨h7,h8⟩ <;> rcases bB h2 with⟨h9,h10⟩ | ⟨h9,h10⟩
  ·rw[Zd (by rw[<- hi.len];exact h7)] at h3
   rw[Zd (by rw[<- hi.len];exact h9)] at h4
   exact hi.fT i j b x y h8 h10 h3 h4 h5 h6
  ·rw[Zd (by rw[<- hi.len];exact h7)] at h3
   have:=hi.gC i b x h8 h3 h5;omega
  ·rw[Zd (by rw[<- hi.len];exact h9)] at h4
   have:=hi.gC j b y h10 h4 h6;omega
  ·omega
 rel i b x h1 h2:=by
  rcases bB h1 with⟨h5,h6⟩ | ⟨h5,h6⟩
  ·rw[Zd (by rw[<- hi.len];exact h5)] at h2
   cases hl:x.live with
   | false=>exact cY.gE hl
   | true=>exact cY.ext (Ext.aQ hi o) hi h6 h2 (heap_alloc_old w o (hi.gC i b x h6 h2 hl))
  ·subst h6
   have:i=H.length:=by rw[<- hi.len];exact h5
   subst this
   simp at h2
   subst h2
   exact hr
theorem not_def(hi:Inv P w I ρ H){i b:Nat}{old:ah}(hb:ρ[i]? =some b)(hH:H[i]? =some old)(hl:old.live=true):w.heap[b]? ≠some (Obj.deferred (some [])):=by
 intro h
 have:=hi.rel i b old hb hH
 cases old with
 | cells cs e=>obtain⟨arr,h1,_⟩:=this;rw[h] at h1;cases h1
 | row cs e=>obtain⟨arr,h1,_⟩:=this;rw[h] at h1;cases h1
 | gV cs e=>obtain⟨arr,m,h1,_⟩:=this;rw[h] at h1;cases h1
 | map ks vs=>obtain⟨es,c,h1,_⟩:=this;rw[h] at h1;cases h1
 | oh s p=>have h1:w.heap[b]? =_:=this;rw[h] at h1;cases h1
 | mapIter ks vs last=>
  rcases this with⟨_,_,_,h1⟩ | ⟨r,es,c,seen,h1,_⟩ <;> (rw[h] at h1;cases h1)
 | loop r st pe=>obtain⟨_,⟨fn,d,h1⟩,_⟩:=this;rw[h] at h1;cases h1
 | dead=>cases hl
theorem Ext.write(hi:Inv P w I ρ H){i b:Nat}{old:ah}(hb:ρ[i]? =some b)(hH:H[i]? =some old)(hl:old.live=true)(hos:w'.os=w.os)(WU:w'.tape=w.tape)(hout:w'.output=w.output)
    (hsz:w'.heap.size=w.heap.size)(ff:∀ k,k≠b->w'.heap[k]? =w.heap[k]?)(hsh:∀ s,w.shape? b=some s->w'.shape? b=some s):Ext w I ρ w' I ρ:=
 ⟨⟨hos,WU,hout,by omega,fun k _ hn=>ff k (fun e=>hn (e▸Zg hb)),
  fun k s h=>by
   by_cases e:k=b
   ·subst e;exact hsh s h
   ·exact(c6 (ff k e)).trans h,
  fun _ h=>h,fun k h=>ff k (fun e=>hi.live i b old hb hH hl (e▸h)),fun _ h=> .inl h,fun k h=>(ff k (fun e=>not_def hi hb hH hl (e▸h))).trans h,fun _ _ h=>h,fun _ h=> .inl h⟩,ZE _⟩
theorem Inv.write(hi:Inv P w I ρ H){i b:Nat}{old new:ah}(hb:ρ[i]? =some b)(hH:H[i]? =some old)(hl:old.live=true)(he:Ext w I ρ w' I ρ)
    (hsz:w'.heap.size=w.heap.size)(ff:∀ k,k≠b->w'.heap[k]? =w.heap[k]?)(hr:cY P w' I ρ new b):Inv P w' I ρ (H.set i new) where
 gl:=hi.gl.mono he.w.lD he.w.bh
 len:=by simp[hi.len]
 gC j k x h1 h2 h3:=by
  by_cases e:i=j
  ·subst e
   rw[hb] at h1;cases h1
   have:=hi.gC i b old hb hH hl;omega
  ·rw[G7 e] at h2
   have:=hi.gC j k x h1 h2 h3;omega
 ib k h:=by have:=hi.ib k h;omega
 live j k x h1 h2 h3 h4:=by
  by_cases e:i=j
  ·subst e
   rw[hb] at h1;cases h1
   exact hi.live i b old hb hH hl h4
  ·rw[G7 e] at h2
   exact hi.live j k x h1 h2 h3 h4
 fT j j' k x y h1 h2 h3 h4 h5 h6:=by
  by_cases e:i=j <;> by_cases e':i=j'
  ·omega
  ·subst e
   rw[G7 e'] at h4
   exact hi.fT i j' k old y h1 h2 hH h4 hl h6
  ·subst e'
   rw[G7 e] at h3
   exact hi.fT j i k x old h1 h2 h3 hH h5 hl
  ·exact E1
 rel j k x h1 h2:=by
  by_cases e:i=j
  ·subst e
   rw[hb] at h1;cases h1
   have:i<H.length:=(Za.1 hH).1
   simp[this] at h2
   subst h2
   exact hr
  ·rw[G7 e] at h2
   by_cases hd:x.live=true
   ·have hk:k≠b:=fun ek=>e (hi.fT i j b old x hb (ek▸h1) hH h2 hl hd)
    exact cY.ext he hi h1 h2 (ff k hk)
   ·cases x <;> first | trivial | (exact absurd rfl hd)
theorem Ext.freeze(hi:Inv P w I ρ H){i b:Nat}{old:ah}(hb:ρ[i]? =some b)(hH:H[i]? =some old)(hl:old.live=true):Ext w I ρ w (fun k=>I k∨k=b) ρ:=
 ⟨⟨rfl,rfl,rfl,Zf _,fun _ _ _=>rfl,fun _ _ h=>h,fun _ h=> .inl h,fun _ _=>rfl,fun k h=>by
  rcases h with h | h
  ·exact .inl h
  ·exact .inr (.inl (h▸Zg hb)),fun _ h=>h,fun k h h2=>by
  rcases h2 with h2 | h2
  ·exact h2
  ·exact absurd h (h2▸not_def hi hb hH hl),fun _ h=> .inl h⟩,ZE _⟩
theorem Inv.freeze(hi:Inv P w I ρ H){i b:Nat}{old:ah}(hb:ρ[i]? =some b)(hH:H[i]? =some old)(hl:old.live=true):Inv P w (fun k=>I k∨k=b) ρ (H.set i .dead) where
 gl:=hi.gl.mono (fun _ h=> .inl h) (fun _ _=>rfl)
 len:=by simp[hi.len]
 gC j k x h1 h2 h3:=by
  by_cases e:i=j
  ·subst e
   rw[hb] at h1;cases h1
   exact hi.gC i b old hb hH hl
  ·rw[G7 e] at h2
   exact hi.gC j k x h1 h2 h3
 ib k h:=by
  rcases h with h | h
  ·exact hi.ib k h
  ·subst h;exact hi.gC i _ old hb hH hl
 live j k x h1 h2 h3 h4:=by
  by_cases e:i=j
  ·subst e
   have:i<H.length:=(Za.1 hH).1
   simp[this] at h2
   subst h2
   cases h3
  ·rw[G7 e] at h2
   rcases h4 with h4 | h4
   ·exact hi.live j k x h1 h2 h3 h4
   ·subst h4
    exact e (hi.fT i j k old x hb h1 hH h2 hl h3)
 fT j j' k x y h1 h2 h3 h4 h5 h6:=by
  by_cases e:i=j
  ·subst e
   have:i<H.length:=(Za.1 hH).1
   simp[this] at h3
   subst h3
   cases h5
  ·by_cases e':i=j'
   ·subst e'
    have:i<H.length:=(Za.1 hH).1
    simp[this] at h4
    subst h4
    cases h6
   ·exact E1
 rel j k x h1 h2:=by
  by_cases e:i=j
  ·subst e
   have:i<H.length:=(Za.1 hH).1
   simp[this] at h2
   subst h2
   trivial
  ·rw[G7 e] at h2
   exact cY.ext (Ext.freeze hi hb hH hl) hi h1 h2 rfl
theorem Inv.nothing(hi:Inv P w I ρ H):Inv P w I [] []:=
 ⟨rfl,(fun _ _ _ h=>by simp at h),hi.ib,(fun _ _ _ h=>by simp at h),(fun _ _ _ _ _ h=>by simp at h),(fun _ _ _ h=>by simp at h),hi.gl⟩
theorem Inv.frame{I':Nat->Prop}(hi:Inv P w I ρ H)(he:Ext w I [] w' I' [])(hi':Inv P w' I' [] []):Ext w I ρ w' I' ρ∧Inv P w' I' ρ H:=by
 have hk:∀ b,b<w.heap.size->w'.heap[b]? =w.heap[b]? :=fun b hb=>he.w.keep b hb (by simp)
 have hn:∀ b,b<w.heap.size->I' b->I b:=fun b hb h=>by
  rcases he.w.eT b h with h | h | h
  ·exact h
  ·cases h
  ·omega
 have hE:Ext w I ρ w' I' ρ:=⟨⟨he.w.os,he.w.tape,he.w.output,he.w.size,fun b hb _=>hk b hb,he.w.shape,he.w.lD,he.w.bh,fun b h=>by
  rcases he.w.eT b h with h | h | h
  ·exact .inl h
  ·cases h
  ·exact .inr (.inr h),he.w.cI,he.w.ki,fun _ h=> .inl h⟩,ZE _⟩
 exact⟨hE,hi.same hE hi'.ib hn hk⟩
end
def Fr(R:Option Nat):Fence:={Fence.wide with round:=R}
inductive AX where
 | normal | ret
 | exit (id:Nat)
 | panic (v:V)
def ExR(P:Program)(w:World)(I:Nat->Prop)(ρ:List Nat):AX->Exit->Prop
 | .normal,.normal=>True
 | .ret,.ret=>True
 | .exit i,.exit j=>i=j
 | .panic v,.panic chain=>∃ u,chain=[{v:=u,recovered:=false}]∧aB P w I ρ v u
 | _,_=>False
structure mC where
 size:Nat
 pre:List Nat
 defs:List Deferred
def Marks(κ:Nat)(B:mC)(w:World)(I:Nat->Prop)(ρ:List Nat)(ds:List Deferred):Prop:=
 B.size<=w.heap.size∧B.pre.length<=κ∧B.pre<+:ρ∧∃ rs:List Nat,ds=rs.map (fun r=>{target:= .collected r,args:= #[]})++B.defs∧rs.Nodup∧∀ r∈rs,w.heap[r]? =some (Obj.deferred (some []))∧¬ I r∧B.size<=r
theorem Marks.ext{κ:Nat}{B:mC}{w w':World}{I I':Nat->Prop}{ρ ρ':List Nat}{ds:List Deferred}(h:Ext w I ρ w' I' ρ')(m:Marks κ B w I ρ ds):Marks κ B w' I' ρ' ds:=by
 obtain⟨hB,hκ,hp,rs,h1,h2,h3⟩:=m
 refine⟨ZW hB h.w.size,hκ,hp.trans h.pre,rs,h1,h2,fun r hr=> ?_⟩
 obtain⟨h4,h5,h6⟩:=h3 r hr
 exact⟨h.w.cI r h4,fun h7=>h5 (h.w.ki r h4 h7),h6⟩
abbrev Tm:=List (Nat×V)
abbrev Post:=AX->Tm->List ah->Prop
def QC(κ:Nat)(B:mC)(P:Program)(N:Nat)(Q:Post)(w:World)(I:Nat->Prop)(ρ:List Nat)(e:Exit)(a':Act)(w':World):Prop:=
 ∃ x I' ρ' T' H',ExR P w' I' ρ' x e∧Q x T' H'∧cA w I ρ w' I' ρ'∧Inv P w' I' ρ' H'∧bu P w' I' ρ' N T' a'.tmps∧Marks κ B w' I' ρ' a'.defers
theorem QC.ext{κ:Nat}{B:mC}{P:Program}{N:Nat}{Q:Post}{w w':World}{I I':Nat->Prop}{ρ ρ':List Nat}(h:cA w I ρ w' I' ρ'){e:Exit}{a:Act}{u:World}(q:QC κ B P N Q w' I' ρ' e a u):QC κ B P N Q w I ρ e a u:=by
 obtain⟨x,J,σ,T,H,h1,h2,h3,h4⟩:=q
 exact⟨x,J,σ,T,H,h1,h2,h.trans h3,h4⟩
def aF(P:Program)(R:Option Nat)(N κ:Nat)(c:Code)(Q:Post)(T:Tm)(H:List ah):Prop:=
 ∀ B w I ρ a,Inv P w I ρ H->bu P w I ρ N T a.tmps->Marks κ B w I ρ a.defers->c.wpIn (Fr R) 0 P (QC κ B P N Q w I ρ) a w
section
variable {P:Program} {R:Option Nat} {N κ:Nat} {Q Q':Post} {T T':Tm} {H:List ah}
theorem aF.mono{c:Code}(h:aF P R N κ c Q T H)(hq:∀ x T H,Q x T H->Q' x T H):aF P R N κ c Q' T H:=
 fun B w I ρ a hi ht hm=>wpIn_mono (h B w I ρ a hi ht hm) fun _ _ _ ⟨x,J,σ,T,H,h1,h2,h3⟩=>⟨x,J,σ,T,H,h1,hq _ _ _ h2,h3⟩
theorem aF.skip(h:Q .normal T H):aF P R N κ .skip Q T H:=
 fun B w I ρ a hi ht hm=>wpIn_skip ⟨.normal,I,ρ,T,H,trivial,h,cA.refl _ _ _,hi,ht,hm⟩
theorem aF.ret(h:Q .ret T H):aF P R N κ .ret Q T H:=
 fun B w I ρ a hi ht hm=>wpIn_ret ⟨.ret,I,ρ,T,H,trivial,h,cA.refl _ _ _,hi,ht,hm⟩
theorem aF.exit{id:Nat}(h:Q (.exit id) T H):aF P R N κ (.exit id) Q T H:=
 fun B w I ρ a hi ht hm=>wpIn_exit ⟨.exit id,I,ρ,T,H,rfl,h,cA.refl _ _ _,hi,ht,hm⟩
def AX.then(next:Tm->List ah->Prop)(Q:Post):Post
 | .normal,T,H=>next T H
 | x,T,H=>Q x T H
theorem aF.seq{x y:Code}(h:aF P R N κ x (AX.then (aF P R N κ y Q) Q) T H):aF P R N κ (.seq x y) Q T H:=by
 intro B w I ρ a hi ht hm
 refine wpIn_seq (wpIn_mono (h B w I ρ a hi ht hm) ?_)
 rintro e a' w' ⟨z,J,σ,T1,H1,h1,h2,h3,h4,h5,h6⟩
 cases z <;> cases e <;> first | exact h1.elim | skip
 ·exact wpIn_mono (h2 B w' J σ a' h4 h5 h6) fun _ _ _ q=>QC.ext h3 q
 all_goals exact⟨_,J,σ,T1,H1,h1,h2,h3,h4,h5,h6⟩
theorem aF.cond{c:Operand}{x y:Code}(b:Bool)(hc:ev T c=some (.p (.bool b)))(ht:b=true->aF P R N κ x Q T H)(hf:b=false->aF P R N κ y Q T H):aF P R N κ (.cond c x y) Q T H:=
 fun B w I ρ a hi hT hm=>wpIn_cond_split (t:=b) (by have:=hT.ev hc;simpa[aB,Rel] using this) (fun h=>ht h B w I ρ a hi hT hm) (fun h=>hf h B w I ρ a hi hT hm)
def AX.inBlock(id:Nat)(Q:Post):Post
 | .exit id',T,H=>if id'=id then Q .normal T H else Q (.exit id') T H
 | x,T,H=>Q x T H
theorem aF.block{id:Nat}{c:Code}(h:aF P R N κ c (AX.inBlock id Q) T H):aF P R N κ (.block id c) Q T H:=by
 intro B w I ρ a hi ht hm
 refine wpIn_block (wpIn_mono (h B w I ρ a hi ht hm) ?_)
 rintro e a' w' ⟨z,J,σ,T1,H1,h1,h2,h3⟩
 cases z <;> cases e <;> first | exact h1.elim | skip
 ·exact⟨.normal,J,σ,T1,H1,h1,h2,h3⟩
 ·exact⟨.ret,J,σ,T1,H1,h1,h2,h3⟩
 ·rename_i i j
  obtain rfl:i=j:=h1
  simp only[AX.inBlock] at h2
  simp only[Exit.inBlock]
  by_cases e:i=id
  ·rw[if_pos e] at h2 ⊢
   exact⟨.normal,J,σ,T1,H1,trivial,h2,h3⟩
  ·rw[if_neg e] at h2 ⊢
   exact⟨.exit i,J,σ,T1,H1,rfl,h2,h3⟩
 ·exact⟨_,J,σ,T1,H1,h1,h2,h3⟩
end
theorem exists_least(p:Nat->Prop)(h:∃ n,p n):∃ n,p n∧∀ m,p m->n<=m:=by
 obtain⟨n,hn⟩:=h
 induction n using Nat.strongRecOn with
 | _ n ih=>
  by_cases hm:∃ m,m<n∧p m
  ·obtain⟨m,h1,h2⟩:=hm
   exact ih m h1 h2
  ·exact⟨n,hn,fun m h=>by
     rcases ZS m n with h1 | h1
     ·exact absurd ⟨m,h1,h⟩ hm
     ·exact h1⟩
theorem zU{γ:Type}{F:Fence}{n:Nat}{P:Program}{c:Code}{Q:Exit->Act->World->Prop}{a:Act}{w:World}(J:γ->Act->World->Prop)(μ:γ->Nat)(g0:γ)(h0:J g0 a w)
    (round:∀ g a w,J g a w->c.wpIn F n P (Exit.then (fun a' w'=>∃ g',J g' a' w'∧μ g'<μ g) Q) a w):(Code.loop c).wpIn F n P Q a w:=by
 have hl:∀ a w,(∃ g,J g a w)->∃ m,(∃ g,μ g=m∧J g a w)∧∀ k,(∃ g,μ g=k∧J g a w)->m<=k:=fun a w ⟨g,hg⟩=>exists_least _ ⟨μ g,g,rfl,hg⟩
 classical
 let M:Act->World->Nat:=fun a w=>if h:∃ g,J g a w then Classical.choose (hl a w h) else 0
 have hM:∀ a w,(∃ g,J g a w)->(∃ g,μ g=M a w∧J g a w)∧∀ g,J g a w->M a w<=μ g:=fun a w h=>by
  have h1:=Classical.choose_spec (hl a w h)
  have e:M a w=Classical.choose (hl a w h):=dif_pos h
  rw[e]
  exact⟨h1.1,fun g hg=>h1.2 _ ⟨g,rfl,hg⟩⟩
 refine wpIn_loop (fun a w=>∃ g,J g a w) M ⟨g0,h0⟩ fun a w h=> ?_
 obtain⟨⟨g,hg,hJ⟩,_⟩:=hM a w h
 refine wpIn_mono (round g a w hJ) ?_
 intro e a' w' q
 cases e with
 | normal=>
  obtain⟨g',h1,h2⟩:=q
  refine⟨⟨g',h1⟩,?_⟩
  have:=(hM a' w' ⟨g',h1⟩).2 g' h1
  omega
 | _=>exact q
section
variable {P:Program} {R:Option Nat} {N κ:Nat} {Q Q':Post} {T T':Tm} {H:List ah}
def aa(P:Program)(N:Nat)(o:Oper)(T:Tm)(H:List ah)(v:V)(H':List ah):Prop:=
 ∀ R w I ρ a,Inv P w I ρ H->bu P w I ρ N T a.tmps->∀(K:Act->World->Prop) (QX:Exit->Act->World->Prop),
  (∀ u w' I' ρ',Ext w I ρ w' I' ρ'->Inv P w' I' ρ' H'->aB P w' I' ρ' v u->K (a.put o.dst u) w')->o.wpIn (Fr R) 0 P a w K QX
theorem bD{o:Oper}{a:Act}{w:World}{R:Option Nat}:∀ f,o.about P w a.eval=some f->(Fr R).fn f:=fun _ _=>trivial
theorem bG(R:Option Nat)(ρ:Operand->Value)(o:Oper)(h:∀ c,o.op≠ .defer c):o.semAt R ρ=execOp ρ o:=Oper.semAt_eq R ρ o h
theorem aa.dB{o:Oper}{v:V}{H':List ah}(hop:∀ c,o.op≠ .defer c)
    (h:∀ w I ρ (a:Act),Inv P w I ρ H->bu P w I ρ N T a.tmps->∃ u w' I' ρ',((execOp a.eval o).run P w= .ok (.value u) w'∨((execOp a.eval o).run P w= .ok .skip w'∧u=undef))∧Ext w I ρ w' I' ρ'∧Inv P w' I' ρ' H'∧aB P w' I' ρ' v u):
    aa P N o T H v H':=by
 intro R w I ρ a hi ht K QX hK
 refine⟨bD,?_⟩
 rw[bG _ _ _ hop]
 obtain⟨u,w',I',ρ',h1,h2,h3,h4⟩:=h w I ρ a hi ht
 rcases h1 with h1 | ⟨h1,rfl⟩
 ·rw[h1];exact hK u w' I' ρ' h2 h3 h4
 ·rw[h1];exact hK undef w' I' ρ' h2 h3 h4
theorem aa.aO{o:Oper}{v:V}(hop:∀ c,o.op≠ .defer c)
    (h:∀ w I ρ (a:Act),Inv P w I ρ H->bu P w I ρ N T a.tmps->∃ u,(execOp a.eval o).run P w= .ok (.value u) w∧aB P w I ρ v u):aa P N o T H v H:=
 aa.dB hop fun w I ρ a hi ht=>let ⟨u,h1,h2⟩:=h w I ρ a hi ht;⟨u,w,I,ρ,.inl h1,Ext.refl _ _ _,hi,h2⟩
def aj(P:Program)(R:Option Nat)(N κ:Nat)(ops:Array Oper)(l:List Oper)(Q:Post)(T:Tm)(H:List ah):Prop:=
 ∀(QX:Exit->Act->World->Prop) B w I ρ a,Inv P w I ρ H->bu P w I ρ N T a.tmps->Marks κ B w I ρ a.defers->(∀ e a' w',QC κ B P N Q w I ρ e a' w'->QX e a' w')->wpListIn (Fr R) 0 P ops QX l a w
theorem aF.region{id:Nat}{l:List Oper}(h:aj P R N κ l.toArray l Q T H):aF P R N κ (.region id l.toArray false) Q T H:=
 fun B w I ρ a hi ht hm=>wpIn_region_lit (h _ B w I ρ a hi ht hm fun _ _ _ q=>q)
theorem aj.nil{ops:Array Oper}(h:Q .normal T H):aj P R N κ ops [] Q T H:=
 fun QX B w I ρ a hi ht hm hq=>wpListIn_nil (hq _ _ _ ⟨.normal,I,ρ,T,H,trivial,h,cA.refl _ _ _,hi,ht,hm⟩)
theorem Marks.put{κ:Nat}{B:mC}{w:World}{I:Nat->Prop}{ρ:List Nat}{a:Act}{d:Option Nat}{u:Value}(m:Marks κ B w I ρ a.defers):Marks κ B w I ρ (a.put d u).defers:=by
 cases d <;> exact m
theorem aj.cons{ops:Array Oper}{o:Oper}{rest:List Oper}{v:V}{H':List ah}(hg:o.guard=none)(hd:bg N o.dst=true)(hop:aa P N o T H v H')
    (next:aj P R N κ ops rest Q (fN T o.dst v) H'):aj P R N κ ops (o::rest) Q T H:=by
 intro QX B w I ρ a hi ht hm hq
 refine wpListIn_plain hg fun K hK=>hop R w I ρ a hi ht K QX fun u w' I' ρ' he hi' hv=>hK _ _ ?_
 exact next QX B w' I' ρ' (a.put o.dst u) hi' ((ht.ext he).put hd hv) ((hm.ext he).put) fun e a2 w2 q=>hq e a2 w2 (QC.ext he.w q)
def pg(ops:Array Oper)(j:Nat):Option Nat:=(ops[j]?).bind (·.dst)
def rQ(want:Bool):V->Option Bool
 | .p (.bool b)=>some (b==want)
 | .opt g (.p (.bool b))=>some (g&&(b==want))
 | _=>none
theorem lF{ops:Array Oper}{w:World}{I:Nat->Prop}{ρ:List Nat}{j s:Nat}{want c:Bool}{x:V}{tmps:Array Value}(hs:pg ops j=some s)(ht:bu P w I ρ N T tmps)(hd:bg N (some s)=true)(hb:lk T s=some x)(hc:rQ want x=some c):
    (yielded ops tmps j==some want)=c:=by
 have h1:=ht.at_ s _ hb
 have hlt:s<tmps.size:=by
  have h0:s<N:=by simpa[bg,Nat.blt,Zw] using hd
  rw[ht.size];exact h0
 have oW:tmps.getD s undef=tmps[s]:=by simp[hlt]
 rw[oW] at h1
 have Wa:∀ b:Bool,tmps[s]= .bool b->yielded ops tmps j=some b:=fun b h=>by
  unfold yielded
  unfold pg at hs
  rw[hs]
  simp[hlt,h]
 have iu:tmps[s]=undef->yielded ops tmps j=none:=fun h=>by
  unfold yielded
  unfold pg at hs
  rw[hs]
  simp[hlt,h,undef]
 unfold rQ at hc
 split at hc
 ·rename_i b
  simp at hc
  rw[Wa b h1,<- hc]
  cases b <;> cases want <;> rfl
 ·rename_i g b
  simp at hc
  cases g with
  | true=>rw[Wa b (h1.1 rfl),<- hc];cases b <;> cases want <;> rfl
  | false=>rw[iu (h1.2 rfl),<- hc];rfl
 ·cases hc
def sH:Tm->Tm->Prop
 | [],_=>True
 | (s,v)::r,T=>(lk T s=some v∨∃ g,lk T s=some (.opt g v)∧g=true)∧sH r T
theorem bu.sH{w:World}{I:Nat->Prop}{ρ:List Nat}{tmps:Array Value}(ht:bu P w I ρ N T tmps):∀{T2:Tm},AF.sH T2 T->bu P w I ρ N T2 tmps
 | [],_=>⟨ht.size,fun s v h=>by cases h⟩
 | (s,v)::r,h=>by
  obtain⟨h1,h2⟩:=h
  have ih:=bu.sH ht h2
  refine⟨ht.size,fun s' v' h'=> ?_⟩
  simp only[lk] at h'
  cases hb:Nat.beq s s' with
  | false=>rw[hb] at h';exact ih.at_ s' v' h'
  | true=>
   rw[hb] at h'
   have:=ZM hb
   subst this
   simp at h'
   subst h'
   rcases h1 with h1 | ⟨g,h1,h3⟩
   ·exact ht.at_ s _ h1
   ·exact(ht.at_ s _ h1).1 h3
theorem aj.guard{ops:Array Oper}{o:Oper}{rest:List Oper}{j s:Nat}{want c:Bool}{x v:V}(hg:o.guard=some (j,want))(hs:pg ops j=some s)(hd:bg N o.dst=true)(hd':bg N (some s)=true)
    (hb:lk T s=some x)(hc:rQ want x=some c)(T2:Tm)(h2:c=true->sH T2 T)(hop:c=true->aa P N o T2 H v H)
    (next:aj P R N κ ops rest Q (fN T o.dst (.opt c v)) H):aj P R N κ ops (o::rest) Q T H:=by
 intro QX B w I ρ a hi ht hm hq
 refine wpListIn_step fun K hK=> ?_
 simp only[Region.wanted,hg,lF hs ht hd' hb hc]
 cases c with
 | true=>
  simp only[if_true]
  refine hop rfl R w I ρ a hi (ht.sH (h2 rfl)) K QX fun u w' I' ρ' he hi' hv=>hK _ _ ?_
  exact next QX B w' I' ρ' (a.put o.dst u) hi' ((ht.ext he).put hd ⟨fun _=>hv,(fun h=>by cases h)⟩) ((hm.ext he).put) fun e a2 w2 q=>hq e a2 w2 (QC.ext he.w q)
 | false=>
  simp only[KJ,if_false]
  refine⟨bD,hK _ _ ?_⟩
  exact next QX B w I ρ (a.put o.dst undef) hi (ht.put hd ⟨(fun h=>by cases h),fun _=>rfl⟩) hm.put hq
def ax(P:Program)(f:FuncId)(args:List V)(H:List ah)(Q:V->List ah->Prop):Prop:=
 ∀ w I ρ us,Inv P w I ρ H->ag P w I ρ args us->CallsIn Fence.wide 0 P f us.toArray w fun e w'=>∃ u v I' ρ' H',e= .returned u∧Q v H'∧Ext w I ρ w' I' ρ'∧Inv P w' I' ρ' H'∧aB P w' I' ρ' v u
def Pure(P:Program)(f:FuncId)(args:List PV)(r:PV):Prop:=ax P f (args.map .p) [] fun v H'=>v= .p r∧H'=[]
def en(P:Program)(N:Nat)(fn:Func)(T:Tm)(H:List ah)(v:V):Prop:=
 ∀ w I ρ (a:Array Value),Inv P w I ρ H->bu P w I ρ N T a->∃ u,(results fn a).run P w= .ok u w∧aB P w I ρ v u
def c8:Nat->List V->Tm
 | _,[]=>[]
 | k,v::vs=>(k,v)::c8 (k+1) vs
theorem nv{w:World}{I:Nat->Prop}{ρ:List Nat}:∀(vs:List V) (us:List Value) (k:Nat) (pre post:List Value),pre.length=k->ag P w I ρ vs us->∀ s v,lk (c8 k vs) s=some v->aB P w I ρ v ((pre++us++post).toArray.getD s undef)
 | [],_,_,_,_,_,_,s,v,h=>by cases h
 | x::vs,us,k,pre,post,hk,h,s,v,hv=>by
  obtain⟨u,us',rfl,h1,h2⟩:=h
  simp only[c8,lk] at hv
  cases hb:Nat.beq k s with
  | true=>
   rw[hb] at hv
   have:=ZM hb
   subst this
   simp at hv
   subst hv
   subst hk
   simpa using h1
  | false=>
   rw[hb] at hv
   have:=nv vs us' (k+1) (pre++[u]) post (by simp[hk]) h2 s v hv
   simpa using this
theorem ag.length{w:World}{I:Nat->Prop}{ρ:List Nat}:∀{vs:List V} {us:List Value},ag P w I ρ vs us->us.length=vs.length
 | [],us,h=>by simp[ag] at h;simp[h]
 | _::vs,us,h=>by
  obtain⟨u,us',rfl,_,h2⟩:=h
  simp[ag.length h2]
theorem Inv.marks{w w':World}{I:Nat->Prop}{ρ:List Nat}(hi:Inv P w I ρ H)(hsz:w'.heap.size=w.heap.size)(hI:∀ b,I b->w'.heap[b]? =w.heap[b]?)(hρ:∀ b:Nat,w.heap[b]? ≠some (Obj.deferred (some []))->w'.heap[b]? =w.heap[b]?)(hs:∀ b s,w.shape? b=some s->w'.shape? b=some s):Inv P w' I ρ H:=
 ⟨hi.len,fun i b x h1 h2 h3=>by rw[hsz];exact hi.gC i b x h1 h2 h3,fun b h=>by rw[hsz];exact hi.ib b h,hi.live,hi.fT,
  fun i b blk h1 h2=>by
   cases hl:blk.live with
   | false=>exact cY.gE hl
   | true=>exact cY.mono (fun _ h=>h) hI (ZE _) (fun b _ s h=>hs b s h) (hρ b (not_def hi h1 h2 hl)) (hi.rel i b blk h1 h2),hi.gl.mono (fun _ h=>h) hI⟩
theorem l6{F:Fence}{fn:Func}{tmps:Array Value}{Rr:Ending->World->Prop}:∀(rs:List Nat) (w:World),rs.Nodup->(∀ r∈rs,w.heap[r]? =some (Obj.deferred (some [])))->
    (∀ w',(∀ b,b∉rs->w'.heap[b]? =w.heap[b]?)->w'.os=w.os->w'.tape=w.tape->w'.output=w.output->w'.heap.size=w.heap.size->∃ u,(results fn tmps).run P w'= .ok u w'∧Rr (.returned u) w')->
    LeavesInM F 0 P fn tmps Rr (rs.map fun r=>{target:= .collected r,args:= #[]}) .returning w:=by
 intro rs
 induction rs with
 | nil=>
  intro w _ _ h
  obtain⟨u,h1,h2⟩:=h w (fun _ _=>rfl) rfl rfl rfl rfl
  simp only[zx,LeavesInM,LeavesIn]
  exact⟨u,h1,h2⟩
 | cons r rs ih=>
  exact DA
theorem ax.gQ{f:FuncId}{fn:Func}{c:Code}{args:List V}{Qr:V->List ah->Prop}(hf:P.funcs[f]? =some fn)(hb:fn.body=some c)(hn:args.length<=fn.ntmps)
    (h:aF P none fn.ntmps H.length c (fun x T' H'=>(x= .normal∨x= .ret)∧∃ v,en P fn.ntmps fn T' H' v∧Qr v H') (c8 0 args) H):ax P f args H Qr:=by
 intro w I ρ us hi fX
 have hl:=ag.length fX
 refine callsIn_of_wp_marks hf hb trivial ?_ rfl
 have ht:bu P w I ρ fn.ntmps (c8 0 args) (us.toArray++Array.replicate (fn.ntmps - us.toArray.size) undef):=by
  exact mZ
 refine wpIn_mono (h ⟨w.heap.size,ρ,[]⟩ w I ρ {tmps:=us.toArray++Array.replicate (fn.ntmps - us.toArray.size) undef,defers:=[]} hi ht ⟨Zf _,ON hi.len,ZE _,[],rfl,Rk,fun _ h=>by cases h⟩) ?_
 rintro e a' w' ⟨z,I',ρ',T',H',h1,⟨h2,v,hv,hq⟩,h3,h4,h5,hB,_,hpre,rs,h6,h7,h8⟩
 have fin:LeavesInM Fence.wide 0 P fn a'.tmps (fun e w'=>∃ u v I' ρ' H',e= .returned u∧Qr v H'∧Ext w I ρ w' I' ρ'∧Inv P w' I' ρ' H'∧aB P w' I' ρ' v u) a'.defers .returning w':=by
  rw[h6]
  show LeavesInM _ _ _ _ _ _ (_++[]) _ _
  rw[ZT]
  refine l6 rs w' h7 (fun r hr=>(h8 r hr).1) ?_
  intro w2 k1 k2 k3 k4 k5
  have kI:∀ b,I' b->w2.heap[b]? =w'.heap[b]? :=fun b hb=>k1 b (fun hm=>(h8 b hm).2.1 hb)
  have kρ:∀ b:Nat,w'.heap[b]? ≠some (Obj.deferred (some []))->w2.heap[b]? =w'.heap[b]? :=fun b hb=>k1 b (fun hm=>hb (h8 b hm).1)
  have ks:∀ b s,w'.shape? b=some s->w2.shape? b=some s:=fun b s hs=>by
   exact qT
  have hi2:Inv P w2 I' ρ' H':=h4.marks k5 kI kρ ks
  have oR:bu P w2 I' ρ' fn.ntmps T' a'.tmps:=⟨h5.size,fun s x hx=>aB.mono (fun _ h=>h) kI (ZE _) (fun b _ s h=>ks b s h) x _ (h5.at_ s x hx)⟩
  obtain⟨u,hu1,Gb⟩:=hv w2 I' ρ' a'.tmps hi2 oR
  refine⟨u,hu1,u,v,I',ρ',H',rfl,hq,?_,hi2,Gb⟩
  have hlow:∀ b,b<w.heap.size->w2.heap[b]? =w'.heap[b]? :=fun b hb=>k1 b (fun hm=>by have:=(h8 b hm).2.2;simp only at this;omega)
  exact⟨⟨k2.trans h3.os,k3.trans h3.tape,k4.trans h3.output,by rw[k5];exact h3.size,fun b hb hn=>(hlow b hb).trans (h3.keep b hb hn),
   fun b s hs=>ks b s (h3.shape b s hs),h3.lD,fun b hb=>(kI b (h3.lD b hb)).trans (h3.bh b hb),h3.eT,fun b hb=>(hlow b (ZL.1 hb).1).trans (h3.cI b hb),h3.ki,h3.new⟩,hpre⟩
 rcases h2 with rfl | rfl <;> cases e <;> first | exact h1.elim | exact fin
theorem Pure.ND{f:FuncId}{args:List PV}{r:PV}(h:ax P f (args.map .p) [] fun v _=>v= .p r):Pure P f args r:=by
 intro w I ρ us hi fX
 have hρ:ρ=[]:=ZB hi.len
 subst hρ
 refine(h w I [] us hi fX).mono ?_
 rintro e w' ⟨u,v,J,σ,H',h1,rfl,h3,h4,h5⟩
 exact⟨u,_,J,[],[],h1,⟨rfl,rfl⟩,⟨⟨h3.w.os,h3.w.tape,h3.w.output,h3.w.size,h3.w.keep,h3.w.shape,h3.w.lD,h3.w.bh,h3.w.eT,h3.w.cI,h3.w.ki,(fun _ h=>by cases h)⟩,ZE _⟩,h4.nothing,h5⟩
theorem Pure.gQ{f:FuncId}{fn:Func}{c:Code}{args:List PV}{r:PV}(hf:P.funcs[f]? =some fn)(hb:fn.body=some c)(hn:args.length<=fn.ntmps)
    (h:aF P none fn.ntmps 0 c (fun x T' H'=>(x= .normal∨x= .ret)∧en P fn.ntmps fn T' H' (.p r)) (c8 0 (args.map .p)) []):Pure P f args r:=
 Pure.ND (ax.gQ hf hb (by simpa using hn) (h.mono fun x T H ⟨h1,h2⟩=>⟨h1,_,h2,rfl⟩))
end
section
variable {P:Program} {R:Option Nat} {N κ:Nat} {Q Q':Post} {T T':Tm} {H:List ah} {o:Oper}
theorem aa.move{x:Operand}{v:V}(ho:o.op= .move x)(hx:ev T x=some v):aa P N o T H v H:=
 aa.aO (by simp[ho]) fun w I ρ a hi ht=>⟨a.eval x,by simp[execOp,ho],ht.ev hx⟩
theorem aa.assign{x:Operand}{v:V}(ho:o.op= .assign x)(hx:ev T x=some v):aa P N o T H v H:=
 aa.aO (by simp[ho]) fun w I ρ a hi ht=>⟨a.eval x,by simp[execOp,ho],ht.ev hx⟩
theorem zH{w:World}{I:Nat->Prop}{ρ:List Nat}{a:Act}(ht:bu P w I ρ N T a.tmps){x:Operand}{b:Bool}(h:ev T x=some (.p (.bool b))):a.eval x= .bool b:=by
 have:=ht.ev h;simpa[aB,Rel] using this
theorem cX{w:World}{I:Nat->Prop}{ρ:List Nat}{a:Act}(ht:bu P w I ρ N T a.tmps){x:Operand}{k:IntKind}{n:Int}(h:ev T x=some (.p (.int k n))):a.eval x= .int k n:=by
 have:=ht.ev h;simpa[aB,Rel] using this
theorem js{w:World}{I:Nat->Prop}{ρ:List Nat}{a:Act}(ht:bu P w I ρ N T a.tmps){x:Operand}{s:ByteArray}(h:ev T x=some (.p (.str s))):a.eval x= .string s:=by
 have:=ht.ev h;simpa[aB,Rel] using this
theorem aa.fH{c x:Operand}{b g d:Bool}(ho:o.op= .pick c x (.const (.bool false)))(hc:ev T c=some (.p (.bool b)))(hx:ev T x=some (.opt g (.p (.bool d))))(hg:b=true->g=true):aa P N o T H (.p (.bool (b&&d))) H:=
 aa.aO (by simp[ho]) fun w I ρ a hi ht=>by
  have h1:=zH ht hc
  have h2:=ht.ev hx
  refine⟨.bool (b&&d),?_,by simp[aB,Rel]⟩
  cases b with
  | false=>
   have hk:a.eval (.const (.bool false))= .bool false:=rfl
   simp[execOp,ho,h1,asBool,hk]
  | true=>
   have h3:=h2.1 (hg rfl)
   simp only[aB,Rel] at h3
   simp[execOp,ho,h1,asBool,h3]
theorem aa.mG{c y:Operand}{b g d:Bool}(ho:o.op= .pick c (.const (.bool true)) y)(hc:ev T c=some (.p (.bool b)))(hy:ev T y=some (.opt g (.p (.bool d))))(hg:b=false->g=true):aa P N o T H (.p (.bool (b||d))) H:=
 aa.aO (by simp[ho]) fun w I ρ a hi ht=>by
  have h1:=zH ht hc
  have h2:=ht.ev hy
  refine⟨.bool (b||d),?_,by simp[aB,Rel]⟩
  cases b with
  | true=>
   have hk:a.eval (.const (.bool true))= .bool true:=rfl
   simp[execOp,ho,h1,asBool,hk]
  | false=>
   have h3:=h2.1 (hg rfl)
   simp only[aB,Rel] at h3
   simp[execOp,ho,h1,asBool,h3]
theorem aa.gr{x:Operand}{t:TypeId}{b:Bool}(ho:o.op= .unOp .not t x)(hx:ev T x=some (.p (.bool b))):aa P N o T H (.p (.bool (!b))) H:=
 aa.aO (by simp[ho]) fun w I ρ a hi ht=>⟨.bool (!b),by simp[execOp,ho,zH ht hx,Op.unary],by simp[aB,Rel]⟩
theorem aa.neg{x:Operand}{t:TypeId}{k:IntKind}{n m:Int}(ho:o.op= .unOp .neg t x)(hx:ev T x=some (.p (.int k n)))(hw:k.wrap (0 - n)=m):aa P N o T H (.p (.int k m)) H:=
 aa.aO (by simp[ho]) fun w I ρ a hi ht=>⟨.int k m,by simp[execOp,ho,cX ht hx,Op.unary,Op.intArith,<- hw],by simp[aB,Rel]⟩
theorem nB(op:BinOp)(t:TypeId)(x y:Operand)(k k':IntKind)(a b:Int)(w:World):(eqGuard op t x y (.int k a) (.int k' b)).run P w= .ok () w:=by
 cases op <;> simp[eqGuard]
theorem aa.ua{op:BinOp}{x y:Operand}{t t':TypeId}{k:IntKind}{a b:Int}{r:PV}(ho:o.op= .binOp op t x y t')(hx:ev T x=some (.p (.int k a)))(hy:ev T y=some (.p (.int k b)))
    (hr:∀ w I,∃ u,(Go.binOp op t (.int k a) (.int k b)).run P w= .ok u w∧Rel w I r u):aa P N o T H (.p r) H:=
 aa.aO (by simp[ho]) fun w I ρ ac hi ht=>by
  obtain⟨u,h1,h2⟩:=hr w I
  exact⟨u,by simp[execOp,ho,cX ht hx,cX ht hy,nB,h1],h2⟩
theorem aa.add{x y:Operand}{t t':TypeId}{k:IntKind}{a b m:Int}(ho:o.op= .binOp .add t x y t')(hx:ev T x=some (.p (.int k a)))(hy:ev T y=some (.p (.int k b)))(hw:k.wrap (a+b)=m):aa P N o T H (.p (.int k m)) H:=
 aa.ua ho hx hy fun w I=>⟨.int k m,by simp[Go.binOp,Op.intArith,hw],by simp[Rel]⟩
theorem aa.iI{x y:Operand}{t t':TypeId}{k:IntKind}{a b m:Int}(ho:o.op= .binOp .sub t x y t')(hx:ev T x=some (.p (.int k a)))(hy:ev T y=some (.p (.int k b)))(hw:k.wrap (a - b)=m):aa P N o T H (.p (.int k m)) H:=
 aa.ua ho hx hy fun w I=>⟨.int k m,by simp[Go.binOp,Op.intArith,hw],by simp[Rel]⟩
theorem aa.mul{x y:Operand}{t t':TypeId}{k:IntKind}{a b m:Int}(ho:o.op= .binOp .mul t x y t')(hx:ev T x=some (.p (.int k a)))(hy:ev T y=some (.p (.int k b)))(hw:k.wrap (a*b)=m):aa P N o T H (.p (.int k m)) H:=
 aa.ua ho hx hy fun w I=>⟨.int k m,by simp[Go.binOp,Op.intArith,hw],by simp[Rel]⟩
theorem aa.quo{x y:Operand}{t t':TypeId}{k:IntKind}{a b m:Int}(ho:o.op= .binOp .quo t x y t')(hx:ev T x=some (.p (.int k a)))(hy:ev T y=some (.p (.int k b)))(hb:b≠0)(hw:k.wrap (a.tdiv b)=m):aa P N o T H (.p (.int k m)) H:=
 aa.ua ho hx hy fun w I=>⟨.int k m,by simp[Go.binOp,Op.intDiv,hb,hw],by simp[Rel]⟩
theorem aa.rem{x y:Operand}{t t':TypeId}{k:IntKind}{a b m:Int}(ho:o.op= .binOp .rem t x y t')(hx:ev T x=some (.p (.int k a)))(hy:ev T y=some (.p (.int k b)))(hb:b≠0)(hw:a.tmod b=m):aa P N o T H (.p (.int k m)) H:=
 aa.ua ho hx hy fun w I=>⟨.int k m,by simp[Go.binOp,Op.intDiv,hb,hw],by simp[Rel]⟩
theorem aa.lss{x y:Operand}{t t':TypeId}{k:IntKind}{a b:Int}(ho:o.op= .binOp .lss t x y t')(hx:ev T x=some (.p (.int k a)))(hy:ev T y=some (.p (.int k b))):aa P N o T H (.p (.bool (decide (a<b)))) H:=
 aa.ua ho hx hy fun w I=>⟨.bool (decide (a<b)),by simp[Go.binOp,Op.intCmp],by simp[Rel]⟩
theorem aa.leq{x y:Operand}{t t':TypeId}{k:IntKind}{a b:Int}(ho:o.op= .binOp .leq t x y t')(hx:ev T x=some (.p (.int k a)))(hy:ev T y=some (.p (.int k b))):aa P N o T H (.p (.bool (decide (a<=b)))) H:=
 aa.ua ho hx hy fun w I=>⟨.bool (decide (a<=b)),by simp[Go.binOp,Op.intCmp],by simp[Rel]⟩
theorem aa.gtr{x y:Operand}{t t':TypeId}{k:IntKind}{a b:Int}(ho:o.op= .binOp .gtr t x y t')(hx:ev T x=some (.p (.int k a)))(hy:ev T y=some (.p (.int k b))):aa P N o T H (.p (.bool (decide (b<a)))) H:=
 aa.ua ho hx hy fun w I=>⟨.bool (decide (b<a)),by simp[Go.binOp,Op.intCmp],by simp[Rel]⟩
theorem aa.geq{x y:Operand}{t t':TypeId}{k:IntKind}{a b:Int}(ho:o.op= .binOp .geq t x y t')(hx:ev T x=some (.p (.int k a)))(hy:ev T y=some (.p (.int k b))):aa P N o T H (.p (.bool (decide (b<=a)))) H:=
 aa.ua ho hx hy fun w I=>⟨.bool (decide (b<=a)),by simp[Go.binOp,Op.intCmp],by simp[Rel]⟩
theorem aa.eql{x y:Operand}{t t':TypeId}{k:IntKind}{a b:Int}(ho:o.op= .binOp .eql t x y t')(hx:ev T x=some (.p (.int k a)))(hy:ev T y=some (.p (.int k b))):aa P N o T H (.p (.bool (decide (a=b)))) H:=
 aa.ua ho hx hy fun w I=>⟨.bool (decide (a=b)),by simp[Go.binOp,Op.intCmp];rfl,by simp[Rel]⟩
theorem aa.neq{x y:Operand}{t t':TypeId}{k:IntKind}{a b:Int}(ho:o.op= .binOp .neq t x y t')(hx:ev T x=some (.p (.int k a)))(hy:ev T y=some (.p (.int k b))):aa P N o T H (.p (.bool (!decide (a=b)))) H:=
 aa.ua ho hx hy fun w I=>⟨.bool (!decide (a=b)),by simp[Go.binOp,Op.intCmp];rfl,by simp[Rel]⟩
theorem aa.bits{op:BinOp}{x y:Operand}{t t':TypeId}{k:IntKind}{a b m:Int}(ho:o.op= .binOp op t x y t')(hop:op= .and∨op= .or∨op= .xor∨op= .andNot)(hx:ev T x=some (.p (.int k a)))(hy:ev T y=some (.p (.int k b)))
    (hm:∀ w,(Op.intBits op k a b).run P w= .ok (.int k m) w):aa P N o T H (.p (.int k m)) H:=
 aa.ua ho hx hy fun w I=>⟨.int k m,by rcases hop with rfl | rfl | rfl | rfl <;> simp[Go.binOp,hm],by simp[Rel]⟩
theorem aa.shl{x y:Operand}{t t':TypeId}{k k':IntKind}{a b m:Int}(ho:o.op= .binOp .shl t x y t')(hx:ev T x=some (.p (.int k a)))(hy:ev T y=some (.p (.int k' b)))(hb:0<=b)(hw:k.wrap (a*2^(min b.toNat k.bits))=m):aa P N o T H (.p (.int k m)) H:=
 aa.aO (by simp[ho]) fun w I ρ ac hi ht=>⟨.int k m,by simp[execOp,ho,cX ht hx,cX ht hy,nB,Go.binOp,Op.shift,Int.not_lt.2 hb,hw],by simp[aB,Rel]⟩
theorem aa.shr{x y:Operand}{t t':TypeId}{k k':IntKind}{a b m:Int}(ho:o.op= .binOp .shr t x y t')(hx:ev T x=some (.p (.int k a)))(hy:ev T y=some (.p (.int k' b)))(hb:0<=b)(hw:a.fdiv (2^(min b.toNat k.bits))=m):aa P N o T H (.p (.int k m)) H:=
 aa.aO (by simp[ho]) fun w I ρ ac hi ht=>⟨.int k m,by simp[execOp,ho,cX ht hx,cX ht hy,nB,Go.binOp,Op.shift,Int.not_lt.2 hb,hw],by simp[aB,Rel]⟩
def wg:TypeDesc->Bool
 | .struct _=>true
 | .array _ _=>true
 | _=>false
def fc(P:Program)(t:TypeId):Option (Bool×Nat):=
 match P.underlying t,P.info? t with
 | some d,some i=>some (wg d,i.size)
 | _,_=>none
theorem gw{t:TypeId}{b:Bool}{n:Nat}(h:fc P t=some (b,n)):∃ d i,P.underlying t=some d∧P.info? t=some i∧wg d=b∧i.size=n:=by
 unfold fc at h
 split at h
 ·rename_i d i h1 h2
  simp at h
  exact⟨d,i,h1,h2,h.1,h.2⟩
 ·cases h
theorem fM{t:TypeId}{b:Bool}{n:Nat}(h:fc P t=some (b,n))(w:World):(isAgg t).run P w= .ok b w:=by
 obtain⟨d,i,h1,h2,rfl,h4⟩:=gw h
 simp only[isAgg,Sem.run_bind,run_underlying h1,Result.andThen]
 cases d <;> rfl
theorem aM{t:TypeId}{b:Bool}{n:Nat}(h:fc P t=some (b,n))(w:World):(sizeOf t).run P w= .ok n w:=by
 obtain⟨d,i,h1,h2,h3,h4⟩:=gw h
 rw[run_sizeOf w h2]
 simp[Program.cellsOf,h2,h4]
theorem cK(b o n:Nat):(⟨b,o,none⟩:Addr).add n=⟨b,o+n,none⟩:=by
 unfold Addr.add
 split
 ·rename_i h;subst h;rfl
 ·rfl
theorem aX.get{w:World}{I:Nat->Prop}:∀{cs:List PV} {b o:Nat} {i:Nat} {c:PV},aX w I cs b o->cs[i]? =some c->∃ u,w.cell? ⟨b,o+i,none⟩=some u∧Rel w I c u
 | [],_,_,_,_,_,h=>by simp at h
 | x::cs,b,o,0,c,h,hc=>by
  simp at hc;subst hc
  exact h.1
 | x::cs,b,o,i+1,c,h,hc=>by
  simp at hc
  have:=aX.get h.2 hc
  rwa [show o+1+i=o+(i+1) by omega] at this
theorem aX.drop{w:World}{I:Nat->Prop}:∀{cs:List PV} {b o:Nat} (k:Nat),aX w I cs b o->aX w I (cs.drop k) b (o+k)
 | cs,_,_,0,h=>h
 | [],_,_,k+1,h=>by simp[aX]
 | x::cs,b,o,k+1,h=>by
  have:=aX.drop k h.2
  rw[show o+1+k=o+(k+1) by omega] at this
  simpa using this
theorem aX.list{w:World}{I:Nat->Prop}:∀{cs:List PV} {b o:Nat},aX w I cs b o->∃ us:List Value,aW w I cs us∧us.length=cs.length∧∀ j v,us[j]? =some v->w.cell? ⟨b,o+j,none⟩=some v
 | [],b,o,h=>⟨[],by simp[aW],rfl,fun j v h=>by simp at h⟩
 | x::cs,b,o,h=>by
  obtain⟨⟨u,h1,h2⟩,h3⟩:=h
  obtain⟨us,h4,h5,h6⟩:=aX.list h3
  refine⟨u::us,⟨u,us,rfl,h2,h4⟩,by simp[h5],fun j v hj=> ?_⟩
  cases j with
  | zero=>simp at hj;subst hj;exact h1
  | succ j=>
   simp at hj
   have:=h6 j v hj
   rwa [show o+1+j=o+(j+1) by omega] at this
theorem aX.take{w:World}{I:Nat->Prop}:∀{cs:List PV} {b o:Nat} (k:Nat),aX w I cs b o->aX w I (cs.take k) b o
 | cs,_,_,0,h=>by simp[aX]
 | [],_,_,k+1,h=>by simp[aX]
 | x::cs,b,o,k+1,h=>by
  simp only[List.take_succ_cons]
  exact⟨h.1,aX.take k h.2⟩
theorem ag.pure{w:World}{I:Nat->Prop}{ρ:List Nat}:∀{xs:List PV} {us:List Value},ag P w I ρ (xs.map .p) us↔aW w I xs us
 | [],us=>by simp[ag,aW]
 | x::xs,us=>by
  simp only[Zz,ag,aW,aB]
  constructor
  ·rintro⟨u,us',h1,h2,h3⟩;exact⟨u,us',h1,h2,ag.pure.1 h3⟩
  ·rintro⟨u,us',h1,h2,h3⟩;exact⟨u,us',h1,h2,ag.pure.2 h3⟩
def iH:List V->Option (List PV)
 | []=>some []
 | .p x::vs=>match iH vs with
   | some xs=>some (x::xs)
   | none=>none
 | _::_=>none
theorem dM:∀{vs:List V} {xs:List PV},iH vs=some xs->vs=xs.map .p
 | [],xs,h=>by simp[iH] at h;simp[<- h]
 | v::vs,xs,h=>by
  cases v <;> simp only[iH] at h <;> try cases h
  rename_i x
  cases h1:iH vs with
  | none=>rw[h1] at h;cases h
  | some ys=>rw[h1] at h;simp at h;subst h;simp[dM h1]
def fW(vs:List V):V:=match iH vs with
 | some xs=> .p (.agg xs)
 | none=> .agg vs
theorem aB.fW{w:World}{I:Nat->Prop}{ρ:List Nat}{vs:List V}{us:Array Value}(h:ag P w I ρ vs us.toList):aB P w I ρ (fW vs) (.agg us):=by
 unfold AF.fW
 exact E4
theorem ag.drop{w:World}{I:Nat->Prop}{ρ:List Nat}:∀{vs:List V} {us:List Value} (k:Nat),ag P w I ρ vs us->ag P w I ρ (vs.drop k) (us.drop k)
 | vs,us,0,h=>by simpa using h
 | [],us,k+1,h=>by simp[ag] at h;simp[h,ag]
 | v::vs,us,k+1,h=>by
  obtain⟨u,us',rfl,_,h3⟩:=h
  simpa using ag.drop k h3
theorem ag.take{w:World}{I:Nat->Prop}{ρ:List Nat}:∀{vs:List V} {us:List Value} (k:Nat),ag P w I ρ vs us->ag P w I ρ (vs.take k) (us.take k)
 | vs,us,0,h=>by simp[ag]
 | [],us,k+1,h=>by simp[ag] at h;simp[h,ag]
 | v::vs,us,k+1,h=>by
  obtain⟨u,us',rfl,h2,h3⟩:=h
  exact⟨u,_,rfl,h2,ag.take k h3⟩
theorem ag.get{w:World}{I:Nat->Prop}{ρ:List Nat}:∀{vs:List V} {us:List Value} {i:Nat} {v:V},ag P w I ρ vs us->vs[i]? =some v->∃ u,us[i]? =some u∧aB P w I ρ v u
 | [],us,i,v,h,hv=>by simp at hv
 | x::vs,us,0,v,h,hv=>by
  obtain⟨u,us',rfl,h2,h3⟩:=h
  simp at hv;subst hv
  exact⟨u,rfl,h2⟩
 | x::vs,us,i+1,v,h,hv=>by
  obtain⟨u,us',rfl,h2,h3⟩:=h
  simp at hv
  simpa using ag.get h3 hv
theorem ag.set{w:World}{I:Nat->Prop}{ρ:List Nat}{v:V}{u:Value}(hv:aB P w I ρ v u):∀{vs:List V} {us:List Value} (i:Nat),ag P w I ρ vs us->ag P w I ρ (vs.set i v) (us.set i u)
 | [],us,i,h=>by simp[ag] at h;simp[h,ag]
 | x::vs,us,0,h=>by
  obtain⟨u',us',rfl,h2,h3⟩:=h
  exact⟨u,us',rfl,hv,h3⟩
 | x::vs,us,i+1,h=>by
  obtain⟨u',us',rfl,h2,h3⟩:=h
  exact⟨u',_,rfl,h2,ag.set hv i h3⟩
def bJ:Option ah->Option (List V)
 | some (.cells cs _)=>some cs
 | some (.row cs _)=>some cs
 | _=>none
def cN(H:List ah)(b:Bool)(n:Nat):V->Option V
 | .p (.ip cs off)=>if b then(if off+n<=cs.length then some (.p (.agg ((cs.drop off).take n))) else none) else(cs[off]?).map .p
 | .ptr i off=>match bJ H[i]? with
   | some cs=>if b then(if off+n<=cs.length then some (fW ((cs.drop off).take n)) else none) else cs[off]?
   | none=>none
 | _=>none
theorem iZ{t:TypeId}{b:Bool}{n:Nat}{w:World}{blk off:Nat}(ht:fc P t=some (b,n)){us:List Value}(hl:b=true->us.length=n)(h0:b=false->us.length=1)(hc:∀ j v,us[j]? =some v->w.cell? ⟨blk,off+j,none⟩=some v):
    (loadVar t ⟨blk,off,none⟩).run P w= .ok (if b then .agg us.toArray else us.getD 0 undef) w:=by
 cases b with
 | true=>
  have:=run_loadCells_list (P:=P) w ⟨blk,off,none⟩ us (fun j v hj=>by rw[cK];exact hc j v hj)
  rw[hl rfl] at this
  simp[loadVar,fM ht,aM ht,this]
 | false=>
  have h1:=h0 rfl
  match us,h1 with
  | [u],_=>
   have:=hc 0 u rfl
   simp at this
   simp[loadVar,fM ht,this]
theorem gN{w:World}{I:Nat->Prop}{ρ:List Nat}{i:Nat}{cs:List V}(hi:Inv P w I ρ H)(hc:bJ H[i]? =some cs):
    ∃ b arr e,ρ[i]? =some b∧w.heap[b]? =some (.cells arr e (0,0))∧cs.length<=arr.size∧ag P w I ρ cs (arr.toList.take cs.length):=by
 unfold bJ at hc
 split at hc
 all_goals first
  | cases hc;done
  | (rename_i e hH
     have hlt:i<H.length:=(Za.1 hH).1
     have hρ:ρ[i]? =some (ρ[i]'(by rw[hi.len];exact hlt)):=Zc _
     cases hc
     have:=hi.rel i _ _ hρ hH
     first
      | (obtain⟨arr,h1,h2,h3⟩:=this;exact⟨_,arr,e,hρ,h1,h2,h3⟩)
      | (obtain⟨arr,h1,h2⟩:=this
         have hl:=ag.length h2
         exact⟨_,arr,e,hρ,h1,by simpa using ON hl.symm,by rw[<- hl,ZP];exact h2⟩))
theorem ag.YI{w:World}{I:Nat->Prop}{ρ:List Nat}{v:V}{us:List Value}(h:ag P w I ρ [v] us):∃ u,us=[u]∧aB P w I ρ v u:=by
 obtain⟨u,us',rfl,h2,h3⟩:=h
 simp[ag] at h3
 subst h3
 exact⟨u,rfl,h2⟩
theorem yK{w:World}{I:Nat->Prop}{ρ:List Nat}{t:TypeId}{b:Bool}{n:Nat}{p v:V}{u:Value}(ht:fc P t=some (b,n))(hi:Inv P w I ρ H)(hp:aB P w I ρ p u)(h:cN H b n p=some v):
    ∃ a u',u= .pointer (some a)∧(loadVar t a).run P w= .ok u' w∧aB P w I ρ v u':=by
 unfold cN at h
 split at h
 ·rename_i cs off
  obtain⟨blk,o',hb,hu,eD⟩:=hp
  cases b with
  | true=>
   simp only[if_true] at h
   split at h
   ·rename_i hle
    simp at h;subst h
    obtain⟨us,h1,h2,h3⟩:=aX.list (aX.take n (aX.drop off eD))
    have hlen:us.length=n:=by rw[h2];simp;omega
    refine⟨_,_,hu,iZ ht (us:=us) (fun _=>hlen) (fun h=>by cases h) h3,?_⟩
    exact⟨us.toArray,rfl,by simpa using h1⟩
   ·cases h
  | false=>
   simp only[KJ,if_false,Zi] at h
   obtain⟨c,hc,rfl⟩:=h
   obtain⟨u',h1,h2⟩:=aX.get eD hc
   refine⟨_,_,hu,iZ ht (us:=[u']) (fun h=>by cases h) (fun _=>rfl) (fun j v hj=> ?_),h2⟩
   match j,hj with
   | 0,hj=>simp at hj;subst hj;simpa using h1
 ·rename_i i off
  obtain⟨blk,hρ,hu⟩:=hp
  cases hc:bJ H[i]? with
  | none=>rw[hc] at h;cases h
  | some cs=>
   rw[hc] at h
   obtain⟨aa0,arr,e,pV,hw,hl,cE⟩:=gN hi hc
   rw[hρ] at pV;cases pV
   have hcell:∀ j v,(arr.toList)[j]? =some v->w.cell? ⟨blk,j,none⟩=some v:=fun j v hj=>by simp[World.cell?,hw];simpa using hj
   cases b with
   | true=>
    simp only[if_true] at h
    split at h
    ·rename_i hle
     simp at h;subst h
     have h1:ag P w I ρ ((cs.drop off).take n) (((arr.toList.take cs.length).drop off).take n):=(cE.drop off).take n
     have h2:((arr.toList.take cs.length).drop off).take n=(arr.toList.drop off).take n:=by
      rw[List.drop_take,List.take_take]
      congr 1
      omega
     rw[h2] at h1
     have hlen:((arr.toList.drop off).take n).length=n:=by simp;omega
     refine⟨_,_,hu,iZ ht (us:=(arr.toList.drop off).take n) (fun _=>hlen) (fun h=>by cases h) (fun j v hj=> ?_),aB.fW (by simpa using h1)⟩
     rw[ZV] at hj
     split at hj
     ·rw[St] at hj;exact hcell _ _ hj
     ·cases hj
    ·cases h
   | false=>
    simp only[KJ,if_false] at h
    obtain⟨u',h1,h2⟩:=ag.get cE h
    have h3:arr.toList[off]? =some u':=by
     rw[ZV] at h1
     split at h1
     ·exact h1
     ·cases h1
    refine⟨_,_,hu,iZ ht (us:=[u']) (fun h=>by cases h) (fun _=>rfl) (fun j v hj=> ?_),h2⟩
    match j,hj with
    | 0,hj=>simp at hj;subst hj;exact hcell _ _ (by simpa using h3)
 ·cases h
theorem aa.load{x:Operand}{t:TypeId}{b:Bool}{n:Nat}{p v:V}(ho:o.op= .load t x)(hx:ev T x=some p)(ht:fc P t=some (b,n))(hl:cN H b n p=some v):aa P N o T H v H:=
 aa.aO (by simp[ho]) fun w I ρ a hi hT=>by
  obtain⟨ad,u',h1,h2,h3⟩:=yK ht hi (hT.ev hx) hl
  exact⟨u',by simp[execOp,ho,Instr.loadAt,h1,Instr.sureAddr,h2],h3⟩
end
section
variable {P:Program} {R:Option Nat} {N κ:Nat} {Q Q':Post} {T T':Tm} {H:List ah} {o:Oper}
def zJ:Value->Bool
 | .agg _=>false
 | .tuple _=>false
 | _=>true
def Yn:PV->Bool
 | .agg _=>false
 | .tuple _=>false
 | _=>true
def ig:V->Bool
 | .p x=>Yn x
 | .agg _=>false
 | .tuple _=>false
 | .opt _ _=>false
 | .top=>false
 | _=>true
def rZ:PV->List PV
 | .agg cs=>cs
 | x=>[x]
def dV:V->List V
 | .p x=>(rZ x).map .p
 | .agg vs=>vs
 | v=>[v]
theorem mg{w:World}{I:Nat->Prop}{ρ:List Nat}{v:V}{u:Value}(h:aB P w I ρ v u)(h1:ig v=true):zJ u=true:=by
 cases v with
 | p x=>
  cases x <;> simp only[aB,Rel,ig,Yn] at h h1 <;> first
   | (subst h;rfl)
   | (obtain⟨b,o,_,rfl,_⟩:=h;rfl)
   | (rcases h with⟨⟨_,_,rfl⟩,_⟩ | ⟨b,o,cap,_,_,rfl,_⟩ <;> rfl)
   | (obtain⟨r,es,clock,_,rfl,_⟩:=h;rfl)
   | (obtain⟨us,vs,rfl,_⟩:=h;rfl)
   | (obtain⟨x,rfl,_⟩:=h;rfl)
   | cases h1
 | ptr i off=>obtain⟨b,_,rfl⟩:=h;rfl
 | row i len=>obtain⟨b,e,cap,_,rfl,_⟩:=h;rfl
 | sl i off len=>obtain⟨b,cap,_,rfl,_⟩:=h;rfl
 | map i=>obtain⟨b,_,rfl⟩:=h;rfl
 | func fn fi ca=>obtain⟨us,vs,rfl,_⟩:=h;rfl
 | iface t v=>obtain⟨x,rfl,_⟩:=h;rfl
 | agg _=>cases h1
 | tuple _=>cases h1
 | opt _ _=>cases h1
 | raw a n c=>subst h;rfl
 | z0=>obtain⟨a,rfl⟩:=h;rfl
 | top=>cases h1
def iD:V->Bool
 | .p (.tuple _)=>false
 | .tuple _=>false
 | .opt _ _=>false
 | .top=>false
 | _=>true
theorem jj{w:World}{I:Nat->Prop}{ρ:List Nat}{v:V}{u:Value}(h:aB P w I ρ v u)(h1:iD v=true):ag P w I ρ (dV v) u.cells.toList:=by
 have one:∀ v:V,aB P w I ρ v u->u.cells= #[u]->ag P w I ρ [v] u.cells.toList:=fun v hv e=>by rw[e];exact⟨u,[],rfl,hv,rfl⟩
 cases v with
 | p x=>
  cases x with
  | agg cs=>
   obtain⟨us,rfl,hr⟩:=h
   exact ag.pure.2 hr
  | tuple _=>cases h1
  | _=>
   refine one _ h ?_
   have:=mg h rfl
   cases u <;> first | rfl | cases this
 | agg vs=>obtain⟨us,rfl,hr⟩:=h;exact hr
 | tuple _=>cases h1
 | opt _ _=>cases h1
 | top=>cases h1
 | _=>
  refine one _ h ?_
  have:=mg h rfl
  cases u <;> first | rfl | cases this
theorem aa.UM{x:Operand}{e:TypeId}{v:PV}(ho:o.op= .box e x)(hx:ev T x=some (.p v))(hc:iD (.p v)=true):aa P N o T H (.p (.ip (rZ v) 0)) H:=
 aa.dB (by simp[ho]) fun w I ρ a hi ht=>by
  have h1:=ht.ev hx
  refine⟨.pointer (some ⟨w.heap.size,0,none⟩),w.alloc (.cells (a.eval x).cells e),fun b=>I b∨b=w.heap.size,ρ,.inl ?_,Ext.gR hi _,Inv.gR hi _,?_⟩
  ·simp[execOp,ho,Instr.box,newVar,newRow,newObj,Sem.run]
  ·have h2:ag P w I ρ ((rZ v).map .p) (a.eval x).cells.toList:=jj h1 hc
   have h3:=ag.pure.1 h2
   have h4:=aW.mono (fun _ h=> .inl h) (fun b hb=>heap_alloc_old w (.cells (a.eval x).cells e) (hi.ib b hb)) _ _ h3 (I':=fun b=>I b∨b=w.heap.size) (w':=w.alloc (.cells (a.eval x).cells e))
   refine⟨w.heap.size,0,.inr rfl,by simp,?_⟩
   have gen:∀(cs:List PV) (us:List Value) (k:Nat),(∀ j u,us[j]? =some u->(a.eval x).cells.toList[k+j]? =some u)->aW (w.alloc (.cells (a.eval x).cells e)) (fun b=>I b∨b=w.heap.size) cs us->aX (w.alloc (.cells (a.eval x).cells e)) (fun b=>I b∨b=w.heap.size) cs w.heap.size k:=by
    intro cs
    induction cs with
    | nil=>intro us k _ _;simp[aX]
    | cons c cs ih=>
     intro us k hk hr
     obtain⟨u,us',rfl,h5,h6⟩:=hr
     refine⟨⟨u,?_,h5⟩,ih us' (k+1) (fun j u' hj=>by have:=hk (j+1) u' (by simpa using hj);rwa [show k+(j+1)=k+1+j by omega] at this) h6⟩
     have:=hk 0 u rfl
     rw[World.cell?_alloc_new]
     simpa using this
   exact gen _ _ 0 (fun j u hj=>by simpa using hj) h4
theorem aa.kF{x:Operand}{e:TypeId}{v:V}(ho:o.op= .box e x)(hx:ev T x=some v)(hc:iD v=true):aa P N o T H (.ptr H.length 0) (H++[.cells (dV v) e]):=
 aa.dB (by simp[ho]) fun w I ρ a hi ht=>by
  have h1:=ht.ev hx
  have hE:Ext w I ρ (w.alloc (.cells (a.eval x).cells e)) I (ρ++[w.heap.size]):=Ext.aQ hi _
  refine⟨.pointer (some ⟨w.heap.size,0,none⟩),w.alloc (.cells (a.eval x).cells e),I,ρ++[w.heap.size],.inl ?_,hE,Inv.aQ hi _ ⟨_,heap_alloc_new w _,ag.ext hE (jj h1 hc)⟩,?_⟩
  ·simp[execOp,ho,Instr.box,newVar,newRow,newObj,Sem.run]
  ·exact uP
def cB(P:Program)(t:TypeId):Option PV:=((P.info? t).bind (·.zero)).bind H9
theorem jK{t:TypeId}{z:PV}(h:cB P t=some z)(w:World):∃ u,(zeroValue t).run P w= .ok u w∧∀ I,Rel w I z u:=by
 unfold cB at h
 cases h1:P.info? t with
 | none=>rw[h1] at h;cases h
 | some i=>
  rw[h1] at h
  cases h2:i.zero with
  | none=>simp[h2] at h
  | some u=>
   simp[h2] at h
   exact⟨u,by simp[zeroValue,run_typeInfo w h1,h2],fun I=>Rel.val h⟩
theorem aa.aQ{e:TypeId}{z:PV}(ho:o.op= .alloc e)(hz:cB P e=some z)(hc:iD (.p z)=true):aa P N o T H (.ptr H.length 0) (H++[.cells ((rZ z).map .p) e]):=
 aa.dB (by simp[ho]) fun w I ρ a hi ht=>by
  obtain⟨u,h1,h2⟩:=jK hz w
  have hE:Ext w I ρ (w.alloc (.cells u.cells e)) I (ρ++[w.heap.size]):=Ext.aQ hi _
  refine⟨.pointer (some ⟨w.heap.size,0,none⟩),w.alloc (.cells u.cells e),I,ρ++[w.heap.size],.inl ?_,hE,Inv.aQ hi _ ⟨_,heap_alloc_new w _,ag.ext hE (jj (v:= .p z) (h2 I) hc)⟩,?_⟩
  ·simp[execOp,ho,Instr.alloc,newVar,newRow,newObj,Sem.run,h1]
  ·exact uP
def setAt(cs:List V):Nat->List V->List V
 | _,[]=>cs
 | k,v::vs=>setAt (cs.set k v) (k+1) vs
def fK(H:List ah)(i off:Nat)(vs:List V):Option (List ah):=
 match H[i]? with
 | some (.cells cs e)=>if off+vs.length<=cs.length then some (H.set i (.cells (setAt cs off vs) e)) else none
 | some (.row cs e)=>if off+vs.length<=cs.length then some (H.set i (.row (setAt cs off vs) e)) else none
 | _=>none
theorem fS:∀(vs cs:List V) (k:Nat),(setAt cs k vs).length=cs.length
 | [],_,_=>rfl
 | v::vs,cs,k=>by simp[setAt,fS vs]
theorem fj{w:World}{b:Nat}{e:TypeId}:∀(us:List Value) (arr:Array Value) (w:World) (off k:Nat),w.heap[b]? =some (.cells arr e (0,0))->off+k+us.length<=arr.size->(∀ u∈us,zJ u=true)->
    ∃ w' dx,(storeCells ⟨b,off,none⟩ us k).run P w= .ok () w'∧w'.heap[b]? =some (.cells dx e (0,0))∧dx.size=arr.size∧dx.toList=(us.foldl (fun(s:List Value×Nat) u=>(s.1.set s.2 u,s.2+1)) (arr.toList,off+k)).1∧
     w'.os=w.os∧w'.tape=w.tape∧w'.output=w.output∧w'.heap.size=w.heap.size∧(∀ j,j≠b->w'.heap[j]? =w.heap[j]?)
 | [],arr,w,off,k,hb,_,_=>⟨w,arr,by simp[storeCells],hb,rfl,rfl,rfl,rfl,rfl,rfl,fun _ _=>rfl⟩
 | u::us,arr,w,off,k,hb,hl,h1=>by
  have hu:=h1 u (by simp)
  have hlt:off+k<arr.size:=by simp at hl;omega
  have hcell:w.cell? ⟨b,off+k,none⟩=some (arr[off+k]):=by simp[World.cell?,hb,hlt]
  have hfr:w.frozen? ⟨b,off+k,none⟩=false:=by simp[World.frozen?,hb]
  have hrun:(store ⟨b,off+k,none⟩ u).run P w= .ok () (w.setCell ⟨b,off+k,none⟩ u):=by
   cases u <;> first | (simp[store,Sem.run,hcell,hfr];done) | cases hu
  have hb':(w.setCell ⟨b,off+k,none⟩ u).heap[b]? =some (.cells (arr.setIfInBounds (off+k) u) e (0,0)):=by
   simp[World.setCell,W7,hb]
  obtain⟨w',dx,h2,h3,h4,h5,h6,h7,h8,h9,h10⟩:=fj us (arr.setIfInBounds (off+k) u) (w.setCell ⟨b,off+k,none⟩ u) off (k+1) hb' (by simp at hl ⊢;omega) (fun v hv=>h1 v (by simp[hv])) (w:=w)
  refine⟨w',dx,?_,h3,by simpa using h4,?_,h6,h7,h8,by simpa using h9,fun j hj=> ?_⟩
  ·simp only[storeCells,cK,Sem.run_bind,hrun,Result.andThen,h2]
  ·rw[h5]
   simp only[Q9,Zbt]
   rfl
  ·exact CK
theorem j4{w:World}{I:Nat->Prop}{ρ:List Nat}:∀(vs:List V) (us:List Value) (cs:List V) (l:List Value) (k:Nat),ag P w I ρ vs us->k+vs.length<=cs.length->ag P w I ρ cs (l.take cs.length)->
    ag P w I ρ (setAt cs k vs) (((us.foldl (fun(s:List Value×Nat) u=>(s.1.set s.2 u,s.2+1)) (l,k)).1).take cs.length)
 | [],us,cs,l,k,h,_,hc=>by simp[ag] at h;subst h;exact hc
 | v::vs,us,cs,l,k,h,hl,hc=>by
  obtain⟨u,us',rfl,h1,h2⟩:=h
  simp only[Q9,setAt]
  have:=j4 vs us' (cs.set k v) (l.set k u) (k+1) h2 (by simp at hl ⊢;omega) (by
   have h3:=ag.set h1 k hc
   rw[ZZ,List.take_set]
   exact h3)
  simpa using this
theorem aa.store{x y:Operand}{t:TypeId}{b:Bool}{n i off:Nat}{v:V}{H':List ah}(ho:o.op= .store t x y)(hx:ev T x=some (.ptr i off))(hy:ev T y=some v)(hk:iD v=true)(h1:(dV v).all ig=true)
    (ht:fc P t=some (b,n))(hn:(dV v).length=n)(hs:fK H i off (dV v)=some H'):aa P N o T H .top H':=
 aa.dB (by simp[ho]) fun w I ρ a hi hT=>by
  obtain⟨blk,hρ,hu⟩:=hT.ev hx
  have hv:=hT.ev hy
  have hcells:=jj hv hk
  have hlen:=ag.length hcells
  have hone:∀ u∈(a.eval y).cells.toList,zJ u=true:=by
   have gen:∀(vs:List V) (us:List Value),ag P w I ρ vs us->vs.all ig=true->∀ u∈us,zJ u=true:=by
    intro vs
    induction vs with
    | nil=>intro us h _ u hu;simp[ag] at h;subst h;cases hu
    | cons v vs ih=>
     intro us h ha u hu
     obtain⟨u0,us',rfl,h3,h4⟩:=h
     simp at ha
     rcases Zr.1 hu with rfl | hu
     ·exact mg h3 ha.1
     ·exact ih us' h4 (by simpa using ha.2) u hu
   exact gen _ _ hcells h1
  have hsz:(a.eval y).cells.size=n:=by rw[<- hn,<- hlen];simp
  unfold fK at hs
  have main:∀(cs:List V) (e:TypeId) (old new:ah),H[i]? =some old->old.live=true->bJ H[i]? =some cs->off+(dV v).length<=cs.length->H'=H.set i new->
      (∀ w' dx,w'.heap[blk]? =some (.cells dx e (0,0))->cs.length<=dx.size->ag P w' I ρ (setAt cs off (dV v)) (dx.toList.take cs.length)->(∀ arr,w.heap[blk]? =some (.cells arr e (0,0))->dx.size=arr.size)->cY P w' I ρ new blk)->(∀ arr e',w.heap[blk]? =some (.cells arr e' (0,0))->e'=e)->
      ∃ u w' I' ρ',((execOp a.eval o).run P w= .ok (.value u) w'∨((execOp a.eval o).run P w= .ok .skip w'∧u=undef))∧Ext w I ρ w' I' ρ'∧Inv P w' I' ρ' H'∧aB P w' I' ρ' .top u:=by
   intro cs e old new hH ew hcs hle hnew cE aay
   obtain⟨aa0,arr,e',pV,hw,hl,XI⟩:=gN hi hcs
   rw[hρ] at pV;cases pV
   have he:=aay arr e' hw
   subst he
   obtain⟨w',dx,r1,r2,r3,r4,r5,r6,r7,r8,r9⟩:=fj (P:=P) (w:=w) (a.eval y).cells.toList arr w off 0 hw (by rw[hlen];omega) hone
   have hE:Ext w I ρ w' I ρ:=Ext.write hi hρ hH ew r5 r6 r7 r8 r9 (fun s h=>by
    simp only[World.shape?,hw] at h
    simp only[World.shape?,r2,r3]
    exact h)
   have vJ:ag P w' I ρ (setAt cs off (dV v)) (dx.toList.take cs.length):=by
    rw[r4]
    exact j4 _ _ cs arr.toList (off+0) (ag.ext hE hcells) (by simpa using hle) (ag.ext hE XI)
   refine⟨undef,w',I,ρ,.inr ⟨?_,rfl⟩,hE,?_,by simp[aB]⟩
   ·simp[execOp,ho,Instr.storeAt,hu,Instr.sureAddr,storeVar,aM ht,hsz,r1]
   ·rw[hnew]
    exact Inv.write hi hρ hH ew hE r8 r9 (cE w' dx r2 (by rw[r3];exact hl) vJ (fun fe h2=>by rw[hw] at h2;cases h2;exact r3))
  split at hs
  ·rename_i cs e hH
   split at hs
   ·rename_i hle
    simp at hs
    refine main cs e _ (.cells (setAt cs off (dV v)) e) hH rfl (by rw[hH];rfl) hle hs.symm ?_ ?_
    ·intro w' dx hw' hl' cE X5
     obtain⟨arr,h3,h4⟩:=hi.rel i blk _ hρ hH
     have h5:=ag.length h4
     have h6:=X5 arr h3
     refine⟨dx,hw',?_⟩
     have:dx.toList.take cs.length=dx.toList:=by rw[OI];simp[h6];simpa using ON h5
     rw[this] at cE
     exact cE
    ·exact D6
   ·cases hs
  ·rename_i cs e hH
   split at hs
   ·rename_i hle
    simp at hs
    refine main cs e _ (.row (setAt cs off (dV v)) e) hH rfl (by rw[hH];rfl) hle hs.symm ?_ ?_
    ·intro w' dx hw' hl' cE X5
     exact⟨dx,hw',by rw[fS];exact hl',by rw[fS];exact cE⟩
    ·exact D6
   ·cases hs
  ·cases hs
end
section
variable {P:Program} {R:Option Nat} {N κ:Nat} {Q Q':Post} {T T':Tm} {H:List ah} {o:Oper}
def shift(n:Nat):V->Option V
 | .p (.ip cs off)=>some (.p (.ip cs (off+n)))
 | .ptr i off=>some (.ptr i (off+n))
 | _=>none
theorem sU{w:World}{I:Nat->Prop}{ρ:List Nat}{p v:V}{u:Value}{n:Nat}(h:aB P w I ρ p u)(hs:shift n p=some v):∃ a,u= .pointer (some a)∧aB P w I ρ v (.pointer (some (a.add n))):=by
 unfold shift at hs
 split at hs
 ·simp at hs;subst hs
  obtain⟨b,o,hb,rfl,eD⟩:=h
  exact⟨_,rfl,b,o,hb,by rw[cK,NU],eD⟩
 ·simp at hs;subst hs
  obtain⟨b,hb,rfl⟩:=h
  exact⟨_,rfl,b,hb,by rw[cK]⟩
 ·cases hs
def dN(P:Program)(s:TypeId)(f:Nat):Option Nat:=
 match P.underlying s with
 | some (.struct fs)=>match fs[f]? with
   | some fd=>match fc P fd.type with
     | some (_,n)=>if n=0 then none else some fd.offset
     | none=>none
   | none=>none
 | _=>none
theorem aa.fieldAddr{x:Operand}{s:TypeId}{f n:Nat}{p v:V}(ho:o.op= .fieldAddr s x f)(hx:ev T x=some p)(hf:dN P s f=some n)(hs:shift n p=some v):aa P N o T H v H:=
 aa.aO (by simp[ho]) fun w I ρ a hi ht=>by
  obtain⟨ad,hu,hr⟩:=sU (ht.ev hx) hs
  unfold dN at hf
  split at hf
  ·rename_i fs hfs
   split at hf
   ·rename_i fd hfd
    split at hf
    ·rename_i b k kW
     split at hf
     ·cases hf
     ·rename_i hk
      simp at hf
      refine⟨_,?_,hr⟩
      simp[execOp,ho,Instr.fieldAt,run_underlying hfs,hfd,hu,Instr.sureAddr,fieldPlace,aM kW,hk,hf]
    ·cases hf
   ·cases hf
  ·cases hf
def nk(P:Program)(t:TypeId):Option Nat:=
 match P.underlying t with
 | some (.slice e)=>(fc P e).map (·.2)
 | some (.array _ e)=>(fc P e).map (·.2)
 | _=>none
def xN(P:Program)(t:TypeId):Option Nat:=
 match P.underlying t with
 | some (.array n _)=>some n
 | _=>none
def eE(P:Program)(t:TypeId):Bool:=
 match P.underlying t with
 | some (.slice _)=>true
 | _=>false
def Gj(sz:Nat)(k:Nat):V->Option V
 | .p (.is cs len)=>if k<len then some (.p (.ip cs (k*sz))) else none
 | .row i len=>if k<len then some (.ptr i (k*sz)) else none
 | .sl i off len=>if k<len then some (.ptr i (off+k*sz)) else none
 | _=>none
theorem dZ{k:IntKind}{n:Int}(w:World):(asIntOf (.int k n)).run P w= .ok (k,n) w:=rfl
theorem aa.FM{x y:Operand}{t:TypeId}{kd:IntKind}{sz:Nat}{n:Int}{p v:V}(ho:o.op= .indexAddr t x y)(hx:ev T x=some p)(hy:ev T y=some (.p (.int kd n)))(ht:eE P t=true)(he:nk P t=some sz)
    (hcs:∀ cs len,p= .p (.is cs len)->0<len->cs≠[])(h0:0<=n)(hs:Gj sz n.toNat p=some v):aa P N o T H v H:=
 aa.aO (by simp[ho]) fun w I ρ a hi hT=>by
  have hn:=cX hT hy
  have hr:=hT.ev hx
  cases hu:P.underlying t with
  | none=>simp[eE,hu] at ht
  | some d=>
   cases d <;> simp[eE,hu] at ht
   rename_i e
   simp only[nk,hu,Zi] at he
   obtain⟨⟨b,m⟩,htm,rfl⟩:=he
   have fin:∀(ad:Addr) (len cap:Nat) (v:V),a.eval x= .slice (some ad) len cap->n.toNat<len->aB P w I ρ v (.pointer (some (ad.add (n.toNat*m))))->
       ∃ u,(execOp a.eval o).run P w= .ok (.value u) w∧aB P w I ρ v u:=by
    intro ad len cap v o4 hlt hv
    refine⟨_,?_,hv⟩
    have hlt':n<(len:Int):=by omega
    simp[execOp,ho,Instr.indexAt,hn,dZ,o4,run_underlying hu,h0,hlt',aM htm]
   unfold Gj at hs
   split at hs
   ·rename_i cs len
    split at hs
    ·rename_i hlt
     simp at hs;subst hs
     rcases hr with⟨_,hz⟩ | ⟨blk,off,cap,hb,hle,o4,eD⟩
     ·omega
     ·refine fin _ _ _ _ o4 hlt ⟨blk,off,hb (hcs cs len rfl (by omega)),by rw[cK],eD⟩
    ·cases hs
   ·rename_i i len
    split at hs
    ·rename_i hlt
     simp at hs;subst hs
     obtain⟨blk,e',cap,hρ,o4,_,_⟩:=hr
     exact fin _ _ _ _ o4 hlt ⟨blk,hρ,by rw[cK,uf]⟩
    ·cases hs
   ·rename_i i off len
    split at hs
    ·rename_i hlt
     simp at hs;subst hs
     obtain⟨blk,cap,hρ,o4,_⟩:=hr
     exact fin _ _ _ _ o4 hlt ⟨blk,hρ,by rw[cK]⟩
    ·cases hs
   ·cases hs
theorem aa.kR{x y:Operand}{t:TypeId}{kd:IntKind}{sz len:Nat}{n:Int}{p v:V}(ho:o.op= .indexAddr t x y)(hx:ev T x=some p)(hy:ev T y=some (.p (.int kd n)))(ht:xN P t=some len)(he:nk P t=some sz)
    (h0:0<=n)(hl:n<len)(hs:shift (n.toNat*sz) p=some v):aa P N o T H v H:=
 aa.aO (by simp[ho]) fun w I ρ a hi hT=>by
  have hn:=cX hT hy
  obtain⟨ad,hu,hr⟩:=sU (hT.ev hx) hs
  exact EJ
theorem lW(us:Array Value)(off n:Nat):(us.extract off (off+n)).toList=(us.toList.drop off).take n:=by
 rw[Array.toList_extract,List.extract_eq_take_drop,ZJ]
def apart(b:Bool)(n off:Nat):V->Option V
 | .p (.agg cs)=>if b then(if off+n<=cs.length then some (.p (.agg ((cs.drop off).take n))) else none) else(cs[off]?).map .p
 | .agg cs=>if b then(if off+n<=cs.length then some (fW ((cs.drop off).take n)) else none) else cs[off]?
 | _=>none
theorem BM{w:World}{I:Nat->Prop}{ρ:List Nat}{t:TypeId}{b:Bool}{n off:Nat}{p v:V}{u:Value}(ht:fc P t=some (b,n))(hp:aB P w I ρ p u)(h:apart b n off p=some v):
    ∃ us u',u= .agg us∧(part t us off).run P w= .ok u' w∧aB P w I ρ v u':=by
 have gen:∀(vs:List V) (us:Array Value),ag P w I ρ vs us.toList->(if b then(if off+n<=vs.length then some (fW ((vs.drop off).take n)) else none) else vs[off]?)=some v->∃ u',(part t us off).run P w= .ok u' w∧aB P w I ρ v u':=by
  intro vs us hr h
  cases b with
  | true=>
   simp only[if_true] at h
   split at h
   ·rename_i hle
    simp at h;subst h
    refine⟨.agg (us.extract off (off+n)),by simp[part,fM ht,aM ht],aB.fW ?_⟩
    rw[lW]
    exact(hr.drop off).take n
   ·cases h
  | false=>
   simp only[KJ,if_false] at h
   obtain⟨u',h1,h2⟩:=ag.get hr h
   exact⟨u',by simp at h1;simp[part,fM ht,h1],h2⟩
 unfold apart at h
 split at h
 ·rename_i cs
  obtain⟨us,rfl,hr⟩:=hp
  have hr':=ag.pure (P:=P) (ρ:=ρ).2 hr
  cases b with
  | true=>
   simp only[if_true] at h
   split at h
   ·rename_i hle
    simp at h;subst h
    refine⟨us,.agg (us.extract off (off+n)),rfl,by simp[part,fM ht,aM ht],?_⟩
    have:=(hr'.drop off).take n
    rw[<- List.map_drop,<- List.map_take] at this
    refine⟨_,rfl,?_⟩
    rw[lW]
    exact ag.pure.1 this
   ·cases h
  | false=>
   simp only[KJ,if_false,Zi] at h
   obtain⟨c,hc,rfl⟩:=h
   obtain⟨u',h1,h2⟩:=ag.get (v:= .p c) (i:=off) hr' (by simp[hc])
   exact⟨us,u',rfl,by simp at h1;simp[part,fM ht,h1],h2⟩
 ·rename_i cs
  obtain⟨us,rfl,hr⟩:=hp
  obtain⟨u',h1,h2⟩:=gen cs us hr h
  exact⟨us,u',rfl,h1,h2⟩
 ·cases h
def Mg(P:Program)(s:TypeId)(f:Nat):Option (Bool×Nat×Nat):=
 match P.underlying s with
 | some (.struct fs)=>match fs[f]? with
   | some fd=>(fc P fd.type).map fun x=>(x.1,x.2,fd.offset)
   | none=>none
 | _=>none
theorem aa.field{x:Operand}{s:TypeId}{f n off:Nat}{b:Bool}{p v:V}(ho:o.op= .field s x f)(hx:ev T x=some p)(hf:Mg P s f=some (b,n,off))(hs:apart b n off p=some v):aa P N o T H v H:=
 aa.aO (by simp[ho]) fun w I ρ a hi ht=>by
  unfold Mg at hf
  split at hf
  ·rename_i fs hfs
   split at hf
   ·rename_i fd hfd
    simp only[Zi] at hf
    obtain⟨⟨b',n'⟩,kW,he⟩:=hf
    simp at he
    obtain⟨rfl,rfl,rfl⟩:=he
    obtain⟨us,u',h1,h2,h3⟩:=BM kW (ht.ev hx) hs
    exact⟨u',by simp[execOp,ho,Instr.field,run_underlying hfs,hfd,h1,asAgg,h2],h3⟩
   ·cases hf
  ·cases hf
def Po(P:Program)(t:TypeId):Option (Nat×Bool×Nat):=
 match P.underlying t with
 | some (.array len e)=>(fc P e).map fun x=>(len,x.1,x.2)
 | _=>none
theorem aa.Vg{x y:Operand}{t:TypeId}{kd:IntKind}{n:Int}{len sz:Nat}{b:Bool}{p v:V}(ho:o.op= .index t x y)(hx:ev T x=some p)(hy:ev T y=some (.p (.int kd n)))(ht:Po P t=some (len,b,sz))
    (h0:0<=n)(hl:n<len)(hs:apart b sz (n.toNat*sz) p=some v):aa P N o T H v H:=
 aa.aO (by simp[ho]) fun w I ρ a hi hT=>by
  have hn:=cX hT hy
  unfold Po at ht
  split at ht
  ·rename_i len' e hd
   simp only[Zi] at ht
   obtain⟨⟨b',n'⟩,kW,he⟩:=ht
   simp at he
   obtain⟨rfl,rfl,rfl⟩:=he
   obtain⟨us,u',h1,h2,h3⟩:=BM kW (hT.ev hx) hs
   refine⟨u',?_,h3⟩
   simp[execOp,ho,Instr.index,hn,dZ,run_underlying hd,h1,h0,hl,aM kW,h2]
  ·cases ht
theorem aa.Na{x y:Operand}{t:TypeId}{kd:IntKind}{n:Int}{s:ByteArray}{c:UInt8}(ho:o.op= .index t x y)(hx:ev T x=some (.p (.str s)))(hy:ev T y=some (.p (.int kd n)))(ht:P.underlying t=some .string)
    (h0:0<=n)(hs:s[n.toNat]? =some c):aa P N o T H (.p (.int .u8 c.toNat)) H:=
 aa.aO (by simp[ho]) fun w I ρ a hi hT=>by
  have hn:=cX hT hy
  have hst:=js hT hx
  exact⟨.int .u8 c.toNat,by simp[execOp,ho,Instr.index,hn,dZ,hst,run_underlying ht,h0,hs],by simp[aB,Rel]⟩
def placesOf(P:Program):List Field->Option (List (Nat×Nat))
 | []=>some []
 | f::fs=>match fc P f.type,placesOf P fs with
   | some x,some r=>some ((f.offset,x.2)::r)
   | _,_=>none
def lY(P:Program)(t:TypeId):Option (List PV×List (Nat×Nat)):=
 match cB P t,P.underlying t with
 | some (.agg z),some (.struct fs)=>match placesOf P fs.toList with
   | some ps=>some (z,ps)
   | none=>none
 | some (.agg z),some (.array n e)=>match fc P e with
   | some (_,sz)=>some (z,(List.range n).map fun i=>(i*sz,sz))
   | none=>none
 | _,_=>none
def iV(ps:List (Nat×Nat))(cells:List V):List (Nat×V)->Option (List V)
 | []=>some cells
 | (i,v)::rest=>match ps[i]? with
   | none=>none
   | some (off,sz)=>if (dV v).length=sz∧off+(dV v).length<=cells.length∧iD v=true then iV ps (setAt cells off (dV v)) rest else none
def iC(T:Tm):List (Nat×Operand)->Option (List (Nat×V))
 | []=>some []
 | (i,x)::r=>match ev T x,iC T r with
   | some v,some vs=>some ((i,v)::vs)
   | _,_=>none
theorem tN{w:World}{I:Nat->Prop}{ρ:List Nat}:∀(vs:List V) (us:List Value) (cs:List V) (arr:Array Value) (off j:Nat),ag P w I ρ vs us->ag P w I ρ cs arr.toList->
    ag P w I ρ (setAt cs (off+j) vs) ((us.zipIdx j).foldl (fun(cs:Array Value) (x:Value×Nat)=>cs.setIfInBounds (off+x.2) x.1) arr).toList
 | [],us,cs,arr,off,j,h,hc=>by simp[ag] at h;subst h;exact hc
 | v::vs,us,cs,arr,off,j,h,hc=>by
  obtain⟨u,us',rfl,h1,h2⟩:=h
  simp only[List.zipIdx_cons,Q9,setAt]
  exact tN vs us' (cs.set (off+j) v) _ off (j+1) h2 (by
   rw[Zbt]
   exact ag.set h1 _ hc)
theorem qi{w:World}{I:Nat->Prop}{ρ:List Nat}{ps:List (Nat×Nat)}{place:Nat->Option (Nat×Nat)}(hp:∀ i x,ps[i]? =some x->place i=some x):∀(vs:List (Nat×V)) (us:List (Nat×Value)) (cs:List V) (arr:Array Value) (r:List V),
    us.map (·.1)=vs.map (·.1)->ag P w I ρ (vs.map (·.2)) (us.map (·.2))->ag P w I ρ cs arr.toList->iV ps cs vs=some r->∃ dx,Instr.fill place arr us=some dx∧ag P w I ρ r dx.toList
 | [],us,cs,arr,r,hm,_,hc,h=>by
  have:us=[]:=by simpa using hm
  subst this
  simp[iV] at h;subst h
  exact⟨arr,rfl,hc⟩
 | (i,v)::vs,us,cs,arr,r,hm,hr,hc,h=>by
  match us,hm,hr with
  | (i',u)::us',hm,hr=>
   simp only[Zz,List.cons.injEq] at hm
   obtain⟨nA,GA⟩:=hm
   subst nA
   obtain⟨u0,us0,he,h1,h2⟩:=hr
   simp at he
   obtain⟨rfl,rfl⟩:=he
   simp only[iV] at h
   split at h
   ·cases h
   ·rename_i off sz hps
    split at h
    case isFalse=>cases h
    case isTrue hyes=>
     obtain⟨hlen,hle,hok⟩:=hyes
     have hcells:=jj h1 hok
     have hl:=ag.length hcells
     have hcl:=ag.length hc
     have:=tN (dV v) u.cells.toList cs arr off 0 hcells hc
     obtain⟨dx,h5,h6⟩:=qi hp vs us' _ _ r GA h2 (by simpa using this) h
     refine⟨dx,?_,h6⟩
     have e1:u.cells.size=sz:=by rw[<- hlen,<- hl];simp
     have e2:¬ (off+u.cells.size>arr.size):=by
      have:arr.size=cs.length:=by simpa using hcl
      rw[e1,this,<- hlen]
      exact Nat.not_lt.2 hle
     simp only[Instr.fill,hp _ _ hps,e1]
     rw[if_neg (by simp;rw[<- e1];omega)]
     rw[<- h5]
     congr 1
     have e3:u.cells.zipIdx.toList=u.cells.toList.zipIdx:=by simp
     rw[<- Array.foldl_toList,e3]
theorem nL{w:World}{I:Nat->Prop}{ρ:List Nat}{a:Act}(hT:bu P w I ρ N T a.tmps):∀{xs:List (Nat×Operand)} {vs:List (Nat×V)},iC T xs=some vs->(xs.map fun x=>(x.1,a.eval x.2)).map (·.1)=vs.map (·.1)∧ag P w I ρ (vs.map (·.2)) ((xs.map fun x=>(x.1,a.eval x.2)).map (·.2))
 | [],vs,h=>by simp[iC] at h;subst h;simp[ag]
 | (i,x)::xs,vs,h=>by
  simp only[iC] at h
  split at h
  ·rename_i v vs' h1 h2
   simp at h;subst h
   obtain⟨h3,h4⟩:=nL hT h2
   exact⟨by simp at h3;simp[h3],_,_,rfl,hT.ev h1,h4⟩
  ·cases h
theorem run_places{w:World}:∀(fs:List Field) (ps:List (Nat×Nat)),placesOf P fs=some ps->(fs.mapM (m:=Sem) fun f=>do pure (f.offset,<- sizeOf f.type)).run P w= .ok ps w
 | [],ps,h=>by simp[placesOf] at h;subst h;simp
 | f::fs,ps,h=>by
  simp only[placesOf] at h
  split at h
  ·rename_i x r h1 h2
   simp at h;subst h
   have ih:=run_places (w:=w) fs r h2
   simp only[List.mapM_cons,Sem.run_bind,aM h1,Result.andThen,Sem.run_pure,ih]
  ·cases h
theorem aa.build{t:TypeId}{parts:Array (Nat×Operand)}{z:List PV}{ps:List (Nat×Nat)}{vs:List (Nat×V)}{r:List V}(ho:o.op= .build t parts)(hb:lY P t=some (z,ps))(hv:iC T parts.toList=some vs)(hr:iV ps (z.map .p) vs=some r):aa P N o T H (fW r) H:=
 aa.aO (by simp[ho]) fun w I ρ a hi hT=>by
  obtain⟨hm,cE⟩:=nL hT hv
  have aak:(parts.map fun(x:Nat×Operand)=>(x.1,a.eval x.2)).toList=parts.toList.map fun x=>(x.1,a.eval x.2):=by simp
  unfold lY at hb
  split at hb
  ·rename_i z' fs hz hu
   split at hb
   ·rename_i ps' hps
    simp at hb
    obtain⟨rfl,rfl⟩:=hb
    obtain⟨u,h1,h2⟩:=jK hz w
    obtain⟨us,rfl,h3⟩:=h2 I
    have QE:(fs.mapM (m:=Sem) fun f=>do pure (f.offset,<- sizeOf f.type)).run P w= .ok ps'.toArray w:=by
     have:=run_places (w:=w) fs.toList ps' hps
     rw[Array.mapM_eq_mapM_toList,Sem.run_map,this]
     rfl
    obtain⟨dx,h5,h6⟩:=qi (place:=fun i=>ps'.toArray[i]?) (fun i x h=>by simpa using h) vs _ _ us r hm cE (ag.pure.2 h3) hr
    refine⟨.agg dx,?_,aB.fW h6⟩
    simp only[execOp,ho,Instr.build,Sem.run_bind,h1,Result.andThen,run_underlying hu,QE,Value.cells]
    rw[show(Array.map (fun(x:Nat×Operand)=>match x with | (i,x)=>(i,a.eval x)) parts).toList=parts.toList.map fun x=>(x.1,a.eval x.2) by simp]
    rw[h5]
    rfl
   ·cases hb
  ·rename_i z' n e hz hu
   split at hb
   ·rename_i b sz kW
    simp at hb
    obtain⟨rfl,rfl⟩:=hb
    obtain⟨u,h1,h2⟩:=jK hz w
    obtain⟨us,rfl,h3⟩:=h2 I
    obtain⟨dx,h5,h6⟩:=qi (place:=fun i=>some (i*sz,sz)) (fun i x h=>by
     simp[Zu,Zi] at h
     obtain⟨a',ha,rfl⟩:=h
     rw[XR] at ha
     ·simp at ha;subst ha;rfl
     ·rcases ZS i n with h' | h'
      ·exact h'
      ·rw[ZF (by simpa using h')] at ha;cases ha) vs _ _ us r hm cE (ag.pure.2 h3) hr
    refine⟨.agg dx,?_,aB.fW h6⟩
    simp only[execOp,ho,Instr.build,Sem.run_bind,h1,Result.andThen,run_underlying hu,aM kW,Value.cells]
    rw[show(Array.map (fun(x:Nat×Operand)=>match x with | (i,x)=>(i,a.eval x)) parts).toList=parts.toList.map fun x=>(x.1,a.eval x.2) by simp]
    rw[h5]
    rfl
   ·cases hb
  ·cases hb
def YV(k:Nat):V->Option V
 | .p (.tuple vs)=>(vs[k]?).map .p
 | .tuple vs=>vs[k]?
 | _=>none
theorem aa.extract{x:Operand}{k:Nat}{p v:V}(ho:o.op= .extract x k)(hx:ev T x=some p)(hk:YV k p=some v):aa P N o T H v H:=
 aa.aO (by simp[ho]) fun w I ρ a hi hT=>by
  have hr:=hT.ev hx
  unfold YV at hk
  split at hk
  ·simp only[Zi] at hk
   obtain⟨c,hc,rfl⟩:=hk
   obtain⟨us,hu,hl⟩:=hr
   obtain⟨u',h1,h2⟩:=ag.get (v:= .p c) (i:=k) (ag.pure (P:=P) (ρ:=ρ).2 hl) (by simp[hc])
   simp at h1
   exact⟨u',by simp[execOp,ho,Instr.extract,hu,h1],h2⟩
  ·obtain⟨us,hu,hl⟩:=hr
   obtain⟨u',h1,h2⟩:=ag.get hl hk
   simp at h1
   exact⟨u',by simp[execOp,ho,Instr.extract,hu,h1],h2⟩
  ·cases hk
def funcOf(fn:Fn)(fi ca:List V):V:=match iH fi,iH ca with
 | some xs,some ys=> .p (.func fn xs ys)
 | _,_=> .func fn fi ca
theorem aa.makeFunc{fn:Fn}{first captured:Array Operand}{fi ca:List V}(ho:o.op= .makeFunc fn first captured)(h1:jT T first.toList=some fi)(h2:jT T captured.toList=some ca):aa P N o T H (funcOf fn fi ca) H:=
 aa.aO (by simp[ho]) fun w I ρ a hi hT=>by
  have r1:=hT.jT h1
  have r2:=hT.jT h2
  refine⟨.func fn (first.map a.eval) (captured.map a.eval),by simp[execOp,ho,Instr.makeFunc],?_⟩
  unfold funcOf
  split
  ·rename_i xs ys e1 e2
   rw[dM e1] at r1
   rw[dM e2] at r2
   exact⟨_,_,rfl,by simpa using ag.pure.1 r1,by simpa using ag.pure.1 r2⟩
  ·exact⟨_,_,rfl,by simpa using r1,by simpa using r2⟩
def Gd:V->Option Nat
 | .p (.is _ len)=>some len
 | .p .nilSlice=>some 0
 | .row _ len=>some len
 | .sl _ _ len=>some len
 | .raw _ len _=>some len
 | .z0=>some 0
 | _=>none
theorem aa.bq{x:Operand}{t:TypeId}{n:Nat}{p:V}(ho:o.op= .call {callee:= .builtin .len,args:= #[x],argTypes:= #[t]})(hx:ev T x=some p)(ht:eE P t=true)(hn:Gd p=some n):aa P N o T H (.p (.int .i64 n)) H:=
 aa.aO (by simp[ho]) fun w I ρ a hi hT=>by
  have hr:=hT.ev hx
  have o4:∃ ad cap,a.eval x= .slice ad n cap:=by
   unfold Gd at hn
   split at hn <;> try cases hn
   ·rcases hr with⟨h1,h2⟩ | ⟨b,o,cap,_,_,h1,_⟩
    ·subst h2;exact h1
    ·exact⟨_,_,h1⟩
   ·exact⟨_,_,hr⟩
   ·obtain⟨b,e,cap,_,h1,_⟩:=hr;exact⟨_,_,h1⟩
   ·obtain⟨b,cap,_,h1,_⟩:=hr;exact⟨_,_,h1⟩
   ·exact⟨_,_,hr⟩
   ·obtain⟨a,h1⟩:=hr;exact⟨_,_,h1⟩
  obtain⟨ad,cap,hs⟩:=o4
  cases hu:P.underlying t with
  | none=>simp[eE,hu] at ht
  | some d=>
   cases d <;> simp[eE,hu] at ht
   exact⟨.int .i64 n,by simp[execOp,ho,resolve,invoke,builtin,Builtin.len_,run_underlying hu,hs,goInt],by simp[aB,Rel]⟩
theorem aa.l7{x:Operand}{t:TypeId}{s:ByteArray}(ho:o.op= .call {callee:= .builtin .len,args:= #[x],argTypes:= #[t]})(hx:ev T x=some (.p (.str s)))(ht:P.underlying t=some .string):aa P N o T H (.p (.int .i64 s.size)) H:=
 aa.aO (by simp[ho]) fun w I ρ a hi hT=>by
  exact⟨.int .i64 s.size,by simp[execOp,ho,resolve,invoke,builtin,Builtin.len_,run_underlying ht,js hT hx,goInt],by simp[aB,Rel]⟩
theorem aa.min2{x y:Operand}{ts:Array TypeId}{k:IntKind}{a b:Int}(ho:o.op= .call {callee:= .builtin .min,args:= #[x,y],argTypes:=ts})(hx:ev T x=some (.p (.int k a)))(hy:ev T y=some (.p (.int k b))):aa P N o T H (.p (.int k (min a b))) H:=
 aa.aO (by simp[ho]) fun w I ρ ac hi hT=>by
  refine⟨.int k (if b<a then b else a),by simp[execOp,ho,resolve,invoke,builtin,Builtin.min_,Builtin.min2,cX hT hx,cX hT hy],?_⟩
  simp only[aB,Rel,Value.int.injEq,true_and]
  split <;> omega
theorem aa.max2{x y:Operand}{ts:Array TypeId}{k:IntKind}{a b:Int}(ho:o.op= .call {callee:= .builtin .max,args:= #[x,y],argTypes:=ts})(hx:ev T x=some (.p (.int k a)))(hy:ev T y=some (.p (.int k b))):aa P N o T H (.p (.int k (max a b))) H:=
 aa.aO (by simp[ho]) fun w I ρ ac hi hT=>by
  refine⟨.int k (if b>a then b else a),by simp[execOp,ho,resolve,invoke,builtin,Builtin.max_,Builtin.max2,cX hT hx,cX hT hy],?_⟩
  simp only[aB,Rel,Value.int.injEq,true_and]
  split <;> omega
theorem aa.dY{x:Operand}{s d:TypeId}{k k':IntKind}{n m:Int}(ho:o.op= .convert s d x)(hx:ev T x=some (.p (.int k n)))(hs:(P.underlying s).isSome=true)(hd:P.underlying d=some (.int k'))(hw:k'.wrap n=m):aa P N o T H (.p (.int k' m)) H:=
 aa.aO (by simp[ho]) fun w I ρ a hi hT=>by
  obtain⟨ds,hs'⟩:=Option.isSome_iff_exists.1 hs
  refine⟨.int k' m,?_,by simp[aB,Rel]⟩
  simp[execOp,ho,convert,run_underlying hs',run_underlying hd,cX hT hx,Conv.intToInt,hw]
def ak(P:Program)(f:FuncId):Bool:=
 match P.funcs[f]? with
 | some fn=>fn.body.isSome&&fn.name != "runtime.NumGoroutine"
 | none=>false
theorem fP{f:FuncId}(h:ak P f=true)(args:Array Value)(w:World):(callFunc f args).run P w= .ok (.enter f args) w:=by
 unfold ak at h
 cases hf:P.funcs[f]? with
 | none=>rw[hf] at h;cases h
 | some fn=>
  rw[hf] at h
  simp only[Zn,bne_iff_ne,ne_eq] at h
  obtain⟨h1,h2⟩:=h
  obtain⟨c,hc⟩:=Option.isSome_iff_exists.1 h1
  simp[callFunc,program,Sem.run,hf,h2,hc]
theorem cz{n:Nat}{f:FuncId}{args:Array Value}{w:World}{Rr:Ending->World->Prop}(R:Option Nat)(h:CallsIn Fence.wide n P f args w Rr):CallsIn (Fr R) n P f args w Rr:=h
def callee(args:List V):V->Option (FuncId×List V)
 | .p (.func (.func f) fi ca)=>some (f,fi.map .p++args++ca.map .p)
 | .func (.func f) fi ca=>some (f,fi++args++ca)
 | _=>none
theorem ag.append{w:World}{I:Nat->Prop}{ρ:List Nat}:∀{xs ys:List V} {us vs:List Value},ag P w I ρ xs us->ag P w I ρ ys vs->ag P w I ρ (xs++ys) (us++vs)
 | [],ys,us,vs,h,k=>by simp[ag] at h;subst h;exact k
 | x::xs,ys,us,vs,h,k=>by
  obtain⟨u,us',rfl,h1,h2⟩:=h
  exact⟨u,us'++vs,rfl,h1,ag.append h2 k⟩
theorem dP{w:World}{I:Nat->Prop}{ρ:List Nat}{a:Act}{f:Operand}{xs:Array Operand}{ts:Array TypeId}{fv:V}{vs all:List V}{g:FuncId}(ho:o.op= .call {callee:= .value f,args:=xs,argTypes:=ts})(hT:bu P w I ρ N T a.tmps)(hf:ev T f=some fv)
    (hxs:jT T xs.toList=some vs)(hc:callee vs fv=some (g,all))(hg:ak P g=true):∃ us:List Value,ag P w I ρ all us∧(execOp a.eval o).run P w= .ok (.enter g us.toArray) w:=by
 have h1:=hT.ev hf
 have h2:=hT.jT hxs
 unfold callee at hc
 split at hc
 ·rename_i f' fi ca
  simp at hc
  obtain⟨rfl,rfl⟩:=hc
  obtain⟨us,vs',hu,h3,h4⟩:=h1
  refine⟨us.toList++(xs.toList.map a.eval)++vs'.toList,?_,?_⟩
  ·have:=ag.append (ag.append (ag.pure (P:=P) (ρ:=ρ).2 h3) h2) (ag.pure (P:=P) (ρ:=ρ).2 h4)
   simpa using this
  ·simp[execOp,ho,resolve,hu,Deferred.ofValue,invoke,fP hg]
 ·rename_i f' fi ca
  simp at hc
  obtain⟨rfl,rfl⟩:=hc
  obtain⟨us,vs',hu,h3,h4⟩:=h1
  refine⟨us.toList++(xs.toList.map a.eval)++vs'.toList,?_,?_⟩
  ·have:=ag.append (ag.append h3 h2) h4
   simpa using this
  ·simp[execOp,ho,resolve,hu,Deferred.ofValue,invoke,fP hg]
 ·cases hc
theorem aa.ED{f:Operand}{xs:Array Operand}{ts:Array TypeId}{fv:V}{vs:List V}{g:FuncId}{args:List PV}{r:PV}(ho:o.op= .call {callee:= .value f,args:=xs,argTypes:=ts})(hf:ev T f=some fv)
    (hxs:jT T xs.toList=some vs)(hc:callee vs fv=some (g,args.map .p))(hg:ak P g=true)(hp:Pure P g args r):aa P N o T H (.p r) H:=by
 intro R w I ρ a hi hT K QX hK
 refine⟨bD,?_⟩
 rw[bG _ _ _ (by simp[ho])]
 obtain⟨us,h1,h2⟩:=dP ho hT hf hxs hc hg
 rw[h2]
 have h1':ag P w I [] (args.map .p) us:=ag.pure.2 (ag.pure.1 h1)
 refine⟨(fun h=>by cases h),?_⟩
 refine CallsIn.mono (cz R (hp w I [] us hi.nothing h1')) ?_
 rintro e w' ⟨u,v,J,σ,H',rfl,⟨rfl,rfl⟩,h3,h4,h5⟩
 have hσ:σ=[]:=ZB h4.len
 subst hσ
 obtain⟨h6,h7⟩:=Inv.frame hi h3 h4
 exact hK u w' J ρ h6 h7 h5
theorem aa.gB{f:Operand}{xs:Array Operand}{ts:Array TypeId}{fv:V}{vs all:List V}{g:FuncId}{v:V}{H':List ah}(ho:o.op= .call {callee:= .value f,args:=xs,argTypes:=ts})(hf:ev T f=some fv)
    (hxs:jT T xs.toList=some vs)(hc:callee vs fv=some (g,all))(hg:ak P g=true)(hp:ax P g all H fun v' H''=>v'=v∧H''=H'):aa P N o T H v H':=by
 intro R w I ρ a hi hT K QX hK
 refine⟨bD,?_⟩
 rw[bG _ _ _ (by simp[ho])]
 obtain⟨us,h1,h2⟩:=dP ho hT hf hxs hc hg
 rw[h2]
 refine⟨(fun h=>by cases h),?_⟩
 refine CallsIn.mono (cz R (hp w I ρ us hi h1)) ?_
 rintro e w' ⟨u,v',J,σ,H2,rfl,⟨rfl,rfl⟩,h3,h4,h5⟩
 exact hK u w' J σ h3 h4 h5
theorem en.none_{fn:Func}(h:fn.results= #[]):en P N fn T H (.p (.tuple [])):=
 fun w I ρ a hi ht=>⟨.tuple #[],by simp[results,h],⟨#[],rfl,by simp[aW]⟩⟩
def pU(P:Program)(T:Tm)(H:List ah):ResultVar->V->Prop
 | .tmp t,v=>lk T t=some v
 | .cell s ty,v=>∃ p b n,lk T s=some p∧fc P ty=some (b,n)∧cN H b n p=some v
theorem FD{w:World}{I:Nat->Prop}{ρ:List Nat}{a:Array Value}{r:ResultVar}{v:V}(hi:Inv P w I ρ H)(ht:bu P w I ρ N T a)(h:pU P T H r v):
    ∃ u,(match r with | .tmp t=>pure (a.getD t undef) | .cell addr ty=>do loadVar ty (<- asAddr (a.getD addr undef)):Sem Value).run P w= .ok u w∧aB P w I ρ v u:=by
 cases r with
 | tmp t=>exact⟨_,rfl,ht.at_ t v h⟩
 | cell s ty=>
  obtain⟨p,b,n,h1,h2,h3⟩:=h
  obtain⟨ad,u',h4,h5,h6⟩:=yK h2 hi (ht.at_ s p h1) h3
  exact⟨u',by simp only[h4,asAddr,Sem.run_bind,Sem.run_pure,Result.andThen];exact h5,h6⟩
end
section
variable {P:Program} {R:Option Nat} {N κ:Nat} {Q Q':Post} {T T':Tm} {H:List ah} {o:Oper}
def jP(vs:List V):V:=match iH vs with
 | some xs=> .p (.tuple xs)
 | none=> .tuple vs
theorem aB.jP{w:World}{I:Nat->Prop}{ρ:List Nat}{vs:List V}{us:Array Value}(h:ag P w I ρ vs us.toList):aB P w I ρ (jP vs) (.tuple us):=by
 unfold AF.jP
 exact E4
def UC(a:Array Value):ResultVar->Sem Value
 | .tmp t=>pure (a.getD t undef)
 | .cell ad t=>do loadVar t (<- asAddr (a.getD ad undef))
theorem wX(fn:Func)(a:Array Value):results fn a=fn.results.mapM (UC a)>>=fun vs=>pure (if h:vs.size=1 then vs[0] else .tuple vs):=by
 unfold results
 congr 1
def AI(P:Program)(T:Tm)(H:List ah):List ResultVar->List V->Prop
 | [],vs=>vs=[]
 | r::rs,vs=>∃ v vs',vs=v::vs'∧pU P T H r v∧AI P T H rs vs'
theorem xB{w:World}{I:Nat->Prop}{ρ:List Nat}{a:Array Value}(hi:Inv P w I ρ H)(ht:bu P w I ρ N T a):∀{rs:List ResultVar} {vs:List V},AI P T H rs vs->
    ∃ us,(rs.mapM (UC a)).run P w= .ok us w∧ag P w I ρ vs us
 | [],vs,h=>⟨[],by simp,by simp[AI] at h;subst h;rfl⟩
 | r::rs,vs,h=>by
  obtain⟨v,vs',rfl,h1,h2⟩:=h
  obtain⟨u,h3,h4⟩:=FD hi ht h1
  obtain⟨us,h5,h6⟩:=xB hi ht h2
  refine⟨u::us,?_,u,us,rfl,h4,h6⟩
  simp only[List.mapM_cons,Sem.run_bind]
  have h7:(UC a r).run P w= .ok u w:=by cases r <;> exact h3
  rw[h7]
  simp only[Result.andThen,h5]
  rfl
theorem en.one{fn:Func}{r:ResultVar}{v:V}(h:fn.results= #[r])(hr:pU P T H r v):en P N fn T H v:=by
 intro w I ρ a hi ht
 obtain⟨us,h1,h2⟩:=xB hi ht (rs:=[r]) (vs:=[v]) ⟨v,[],rfl,hr,rfl⟩
 obtain⟨u,rfl,h3⟩:=ag.YI h2
 refine⟨u,?_,h3⟩
 simp only[wX,h,Array.mapM_eq_mapM_toList,Sem.run_bind,Sem.run_map,Result.andThen]
 rw[h1]
 rfl
theorem en.many{fn:Func}{r1 r2:ResultVar}{rs:List ResultVar}{vs:List V}(h:fn.results=(r1::r2::rs).toArray)(hr:AI P T H (r1::r2::rs) vs):en P N fn T H (jP vs):=by
 intro w I ρ a hi ht
 obtain⟨us,h1,h2⟩:=xB hi ht hr
 refine⟨.tuple us.toArray,?_,aB.jP (by simpa using h2)⟩
 have hl:us.length=rs.length+2:=by
  have h3:=ag.length h2
  have:∀{rs:List ResultVar} {vs:List V},AI P T H rs vs->vs.length=rs.length:=by
   intro rs
   induction rs with
   | nil=>intro vs h;simp[AI] at h;simp[h]
   | cons r rs ih=>intro vs h;obtain⟨v,vs',rfl,_,h⟩:=h;simp[ih h]
  rw[h3,this hr];simp
 simp only[wX,h,Array.mapM_eq_mapM_toList,Sem.run_bind,Sem.run_map,Result.andThen]
 rw[h1]
 simp only[Sem.run_pure]
 rw[dif_neg (by simp;omega)]
end
end Go.AF
end
end
