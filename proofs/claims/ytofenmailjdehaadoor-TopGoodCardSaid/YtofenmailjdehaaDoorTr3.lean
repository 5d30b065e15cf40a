/-
  All that a way leads to.
-/
import Derived.Test.YtofenmailjdehaaDoorTr2
import Derived.Test.YtofenmailjdehaaDoorAfS
set_option linter.unusedVariables false
set_option maxRecDepth 100000
set_option maxHeartbeats 4000000
set_option linter.unusedSimpArgs false
namespace Go.Proofs.YtofenmailjdehaaDoor
open Go.AF
def capW (W : PV) : List V := [.ptr 1 0, .ptr 0 0, .p (.ip [W] 0), .ptr 2 0]
def rcH (W : PV) (M : Nat) : List Blk := [.cells [.p (.int .u32 (M : Int))] 78, .cells (((metB M).flatMap b1).map .p) 130, .cells [.func (.func 50) [] (capW W)] 131]
def NxOk (N : Nat) (nx : Nat → Nat) (W : PV) : Prop := ∀ b, b < N → FIface Tryd.prog "pencilworks/recall.next" W [.int .i64 ((b : Nat) : Int)] (.int .u32 ((nx b : Nat) : Int))
def OnOk (R : Nat → Nat) (W : PV) (b : Nat) : Prop := ∀ M, M < 2 ^ 24 → MetOk R b M → ACalls Tryd.prog 50 (.p (.int .i64 ((b : Nat) : Int)) :: capW W) (rcH W M) fun v H' => H' = rcH W (M ||| R b)
theorem metF_lt {N : Nat} {nx R rk : Nat → Nat} (w : Way N nx R rk) (hN : N ≤ 24) {b M : Nat} (hb : b < N) (hM : M < 2 ^ 24) {ks : List Nat} (hk : ∀ k ∈ ks, k < N) : metF R M b ks < 2 ^ 24 := by
  apply Nat.lt_pow_two_of_testBit
  intro x hx
  cases h : (metF R M b ks).testBit x with
  | false => rfl
  | true =>
    exfalso
    rcases (metF_bit R M b x ks).1 h with h1 | h1 | ⟨k, h1, h2⟩
    · rw [Nat.testBit_lt_two_pow (Nat.lt_of_lt_of_le hM (Nat.pow_le_pow_right (by omega) hx))] at h1
      cases h1
    · omega
    · rw [Nat.testBit_lt_two_pow (Nat.lt_of_lt_of_le (w.rlt k (hk k h1)) (Nat.pow_le_pow_right (by omega) (by omega)))] at h2
      cases h2
theorem on_step {N : Nat} {nx R rk : Nat → Nat} (w : Way N nx R rk) (hN : N ≤ 24) (W : PV) (hnx : NxOk N nx W) (b : Nat) (hb : b < N) (IH : ∀ k, (nx b).testBit k = true → OnOk R W k) : OnOk R W b := by
  intro M hM hMet
  refine ACalls.start (N := 25) Tryd.func50 rfl rfl (Nat.le_of_ble_eq_true rfl) ?_
  have hnl : nx b < 2 ^ 32 := Nat.lt_of_lt_of_le (w.lt b hb) (Nat.pow_le_pow_right (by omega) (by omega))
  have hb24 : b < 24 := by omega
  have h2b := Nat.pow_le_pow_right (show 0 < 2 by omega) (show b ≤ 23 by omega)
  refine AWp.seq ?_
  refine AWp.seq ?_
  refine AWp.region ?_
  refine AList.c 7 rfl rfl rfl (OpJ.move rfl rfl) ?_
  refine AList.c 8 rfl rfl rfl (OpJ.indexArrI rfl rfl rfl ar130 el130 (by omega)) ?_
  refine AList.c 9 rfl rfl rfl (OpJ.loadFlat (f := b1) (c := 1) (k := b) (j := 0) (xs := (metB M)) rfl rfl ty4 rfl rfl (by omega) (fun _ => rfl) (by rw [metB_len]; omega) (by decide) (show _ = PV.bool (M.testBit b) from by rw [metB_get]; rfl)) ?_
  refine AList.nil ?_
  refine AWp.cond _ rfl (fun hc0 => ?_) (fun hc0 => ?_)
  · skip
    have hm : M.testBit b = true := hc0
    refine AWp.ret ?_
    exact ⟨.inr rfl, _, resV.none_ rfl, by rw [met_old w hb hMet hm]⟩
  · skip
    refine AWp.skip ?_
    refine AWp.seq ?_
    refine AWp.region ?_
    refine AList.c 10 rfl rfl rfl (OpJ.move rfl rfl) ?_
    refine AList.c 11 rfl rfl rfl (OpJ.indexArrI rfl rfl rfl ar130 el130 (by omega)) ?_
    refine AList.c0 rfl rfl (OpJ.storeCells (f := b1) (c := 1) (k := b) (j := 0) (xs := (metB M)) (z := true) (ws := [.bool true]) rfl rfl rfl rfl rfl ty4 rfl rfl rfl (by omega) (fun _ => rfl) (by rw [metB_len]; omega) (by decide) rfl) ?_
    refine AList.nil ?_
    refine AWp.seq ?_
    rw [metB_set hb24]
    refine AWp.regionDraw 5 mixed (by kernel_rfl) (by decide) ?_
    refine AQuiet.cons 12 rfl rfl rfl (OpJ.load (v := .p (.int .u32 (M : Int))) rfl rfl ty78 rfl) ?_
    refine AQuiet.cons 13 rfl rfl rfl (OpJ.move rfl rfl) ?_
    refine AQuiet.cons 14 rfl rfl rfl (OpJ.shlN 1 b rfl rfl rfl (by show _ ≤ (32 : Nat); omega) (by show _ ≤ (4294967295 : Int); rw [Nat.one_mul]; omega)) ?_
    refine AQuiet.cons 15 rfl rfl rfl (OpJ.buildImm rfl slz126 (by decide) rfl rfl rfl) ?_
    refine AQuiet.cons 16 rfl rfl rfl (OpJ.callP (join_ok [M, 1 * 2 ^ b] (by intro x hx; simp at hx; rcases hx with rfl | rfl; { omega }; { omega }) (by unfold bigN; show 2 ≤ _; omega)) rfl rfl rfl rfl rf23) ?_
    rw [or2, Nat.one_mul]
    refine AQuiet.nil ?_
    refine AList.c0 rfl rfl (OpJ.store (H' := rcH W (M ||| 2 ^ b)) rfl rfl rfl rfl rfl ty78 rfl rfl) ?_
    refine AList.nil ?_
    refine AWp.seq ?_
    refine AWp.region ?_
    refine AList.c 17 rfl rfl rfl (OpJ.load (v := .p W) rfl rfl ty129 rfl) ?_
    refine AList.c 18 rfl rfl rfl (OpJ.move rfl rfl) ?_
    refine AList.c 19 rfl rfl rfl (OpJ.invoke (hnx b hb) rfl rfl rfl) ?_
    refine AList.c 20 rfl rfl rfl (OpJ.callP (all_ok (nx b)) rfl rfl rfl rfl rf25) ?_
    refine AList.nil ?_
    refine AWp.toEnd ?_
    refine AWp.block ?_
    refine AWp.rangeFunc 3 rfl (fun _ => rfl) rf48 (all_seq (nx b) hnl) (Nat.le_refl 3) (Nat.le_refl 3) (fun _ h => by cases h) (fun x hx => by unfold bitsX at hx; simp at hx; obtain ⟨j, _, rfl⟩ := hx; rfl) rfl (fun k h => h = rcH W (metF R M b ((bitsN (nx b) 32).take k))) (fun c h => False) (fun _ _ h => by rw [h]; rfl) (fun _ _ h => h.elim) rfl ?_ ?_ ?_
    · skip
      intro lx tmps k h x hJ hx
      subst hJ
      obtain ⟨q, hq, rfl⟩ := bitsX_get hx
      have hqm := bits_mem.1 (List.mem_of_getElem? hq)
      have hks : ∀ p ∈ (bitsN (nx b) 32).take k, (nx b).testBit p = true := fun p hp => (bits_mem.1 (List.mem_of_mem_take hp)).2
      have hIH := IH q hqm.2 (metF R M b ((bitsN (nx b) 32).take k)) (metF_lt w hN hb hM fun p hp => w.nlt b hb p (hks p hp)) (met_next w hb hMet hks hqm.2)
      refine AWp.region ?_
      refine AList.c 6 rfl rfl rfl (OpJ.assign rfl rfl) ?_
      refine AList.nil ?_
      refine ⟨rfl, rfl, ?_⟩
      refine AWp.block ?_
      refine AWp.region ?_
      refine AList.c 22 rfl rfl rfl (OpJ.load (v := .func (.func 50) [] (capW W)) rfl rfl ty131 rfl) ?_
      refine AList.c 23 rfl rfl rfl (OpJ.move rfl rfl) ?_
      refine AList.callXK 24 [0, 1, 2] (all := .p (.int .i64 ((q : Nat) : Int)) :: capW W) (by show ACalls _ _ _ [Blk.cells _ _, Blk.cells (renL _ (List.map V.p _)) _, Blk.cells _ _] _; rw [renL_pure]; exact hIH) (fun v H2 h => by rw [h]; rfl) (by rfl) (by rfl) rfl rfl rfl rfl rfl rfl rfl rf50 (fun v H2 hQ2 => ?_)
      subst hQ2
      refine AList.nil ?_
      exact ⟨_, rfl, by rw [take_snoc hq, metF_snoc]; exact To.sub Sub.nil⟩
    · skip
      intro h hJ
      subst hJ
      have hall : metF R M b (bitsN (nx b) 32) = M ||| R b := by
        rcases met_all w (M := M) hb with h | h
        · exact h
        · omega
      rw [bitsX_len, List.take_length, hall]
      exact ⟨[], _, To.done [0, 1, 2] rfl Sub.nil (by show [Blk.cells _ _, Blk.cells (renL _ (List.map V.p _)) _, Blk.cells _ _] = _; rw [renL_pure]; rfl), .inl rfl, _, resV.none_ rfl, rfl⟩
    · skip
      intro c h hx
      exact hx.elim
theorem on_all {N : Nat} {nx R rk : Nat → Nat} (w : Way N nx R rk) (hN : N ≤ 24) (W : PV) (hnx : NxOk N nx W) : ∀ (m b : Nat), b < N → rk b ≤ m → OnOk R W b
  | 0, b, hb, hm => on_step w hN W hnx b hb fun k hk => by have := w.rk b hb k hk; omega
  | m + 1, b, hb, hm => on_step w hN W hnx b hb fun k hk => on_all w hN W hnx m k (w.nlt b hb k hk) (by have := w.rk b hb k hk; omega)
theorem reach_ok {N : Nat} {nx R rk : Nat → Nat} (w : Way N nx R rk) (hN : N ≤ 24) (t : Nat) (y : PV) (hnx : NxOk N nx (.iface t y)) (b : Nat) (hb : b < N) : Pure Tryd.prog 26 [.iface t y, .int .i64 (b : Int)] (.int .u32 ((R b : Nat) : Int)) := by
  refine Pure.start (N := 12) Tryd.func26 rfl rfl (Nat.le_of_ble_eq_true rfl) ?_
  refine AWp.seq ?_
  refine AWp.region ?_
  refine AList.c 2 rfl rfl rfl (OpJ.boxImm rfl rfl rfl) ?_
  refine AList.c 4 rfl rfl rfl (OpJ.allocOwn rfl zr78 rfl) ?_
  refine AList.nil ?_
  refine AWp.seq ?_
  refine AWp.region ?_
  refine AList.c 5 rfl rfl rfl (OpJ.allocOwn rfl zr130 rfl) ?_
  refine AList.nil ?_
  refine AWp.seq ?_
  refine AWp.region ?_
  refine AList.c 6 rfl rfl rfl (OpJ.allocOwn rfl zr131 rfl) ?_
  refine AList.nil ?_
  refine AWp.seq ?_
  refine AWp.region ?_
  refine AList.c 7 rfl rfl rfl (OpJ.makeFunc rfl rfl rfl) ?_
  refine AList.c0 rfl rfl (OpJ.store (H' := rcH (.iface t y) 0) rfl rfl rfl rfl rfl ty131 rfl rfl) ?_
  refine AList.nil ?_
  refine AWp.seq ?_
  refine AWp.region ?_
  refine AList.c 8 rfl rfl rfl (OpJ.load (v := .func (.func 50) [] (capW (.iface t y))) rfl rfl ty131 rfl) ?_
  refine AList.c 9 rfl rfl rfl (OpJ.move rfl rfl) ?_
  refine AList.callX 10 (on_all w hN (.iface t y) hnx (rk b) b hb (Nat.le_refl _) 0 (by decide) (fun x hx => by simp at hx)) rfl rfl rfl rfl rfl rfl rfl rf50 (fun v H2 hQ2 => ?_)
  subst hQ2
  rw [Nat.zero_or]
  refine AList.nil ?_
  refine AWp.seq ?_
  refine AWp.region ?_
  refine AList.c 11 rfl rfl rfl (OpJ.load (v := .p (.int .u32 ((R b : Nat) : Int))) rfl rfl ty78 rfl) ?_
  refine AList.c0 rfl rfl (OpJ.store rfl rfl rfl rfl rfl ty78 rfl rfl) ?_
  refine AList.nil ?_
  refine AWp.ret ?_
  exact Fin.one rfl (⟨_, _, _, rfl, ty78, rfl⟩)
theorem nx_back (l : List Bat) (hC : crdOk l) : NxOk l.length (frN l) (.iface 125 (batV l)) := fun b hb => ⟨125, _, 103, rfl, by kernel_rfl, rf103, bnext_ok l b hC hb⟩
theorem nx_ahead (l : List Bat) (hC : crdOk l) : NxOk l.length (nextN l) (.iface 82 (ahdV l)) := fun b hb => ⟨82, _, 98, rfl, by kernel_rfl, rf98, anext_ok l b hC hb⟩
end Go.Proofs.YtofenmailjdehaaDoor
