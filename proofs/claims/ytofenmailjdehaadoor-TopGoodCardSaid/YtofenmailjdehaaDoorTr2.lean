/-
  Ways, and all that they lead to.
-/
import Derived.Test.YtofenmailjdehaaDoorTr1
import Derived.Test.YtofenmailjdehaaDoorRcR
set_option linter.unusedVariables false
set_option maxRecDepth 100000
set_option maxHeartbeats 4000000
set_option linter.unusedSimpArgs false
namespace Go.Proofs.YtofenmailjdehaaDoor
open Go.AF
theorem bnext_ok (l : List Bat) (b : Nat) (hC : crdOk l) (hb : b < l.length) : Pure Tryd.prog 103 [batV l, .int .i64 (b : Int)] (.int .u32 ((frN l b : Nat) : Int)) := by
  have hf := (hC b hb).2.1
  have hp := pw24 (n := b) (by have := crd24 hC; omega)
  have hfr : (bt l b).f = ((frN l b : Nat) : Int) := by unfold frN; omega
  refine Pure.start (N := 11) Tryd.func103 rfl rfl (Nat.le_of_ble_eq_true rfl) ?_
  refine AWp.seq ?_
  refine AWp.region ?_
  refine AList.c 4 rfl rfl rfl (OpJ.assign rfl rfl) ?_
  refine AList.nil ?_
  refine AWp.seq ?_
  refine AWp.region ?_
  refine AList.c 5 rfl rfl rfl (OpJ.move rfl rfl) ?_
  refine AList.c 6 rfl rfl rfl (OpJ.move rfl rfl) ?_
  refine AList.c 7 rfl rfl rfl (OpJ.indexG (g := bt l) bt_get rfl rfl rfl sl125 el125 rfl (fun _ => rfl) (by decide) hb) ?_
  refine AList.c 8 rfl rfl rfl (OpJ.fieldAddr rfl rfl fd31_0 rfl) ?_
  refine AList.c 9 rfl rfl rfl (OpJ.load (v := .p (.int .i64 (bt l b).f)) rfl rfl ty3 rfl) ?_
  refine AList.c 10 rfl rfl rfl (OpJ.convInt rfl rfl (by rw [un3]; rfl) un78 (u32ok ?_)) ?_
  · omega
  refine AList.c 4 rfl rfl rfl (OpJ.assign rfl rfl) ?_
  refine AList.nil ?_
  refine AWp.ret ?_
  refine Fin.oneE rfl rfl ?_
  rw [hfr]
theorem anext_ok (l : List Bat) (b : Nat) (hC : crdOk l) (hb : b < l.length) : Pure Tryd.prog 98 [ahdV l, .int .i64 (b : Int)] (.int .u32 ((nextN l b : Nat) : Int)) := by
  refine Pure.start (N := 8) Tryd.func98 rfl rfl (Nat.le_of_ble_eq_true rfl) ?_
  refine AWp.seq ?_
  refine AWp.region ?_
  refine AList.c 4 rfl rfl rfl (OpJ.assign rfl rfl) ?_
  refine AList.nil ?_
  refine AWp.seq ?_
  refine AWp.region ?_
  refine AList.c 5 rfl rfl rfl (OpJ.move rfl rfl) ?_
  refine AList.c 6 rfl rfl rfl (OpJ.move rfl rfl) ?_
  refine AList.c 7 rfl rfl rfl (OpJ.lookupImD (KeyOk.int .i64 .i64) (gp := u32V) 0 rfl rfl rfl mp82 rfl) ?_
  refine AList.c 4 rfl rfl rfl (OpJ.assign rfl rfl) ?_
  refine AList.nil ?_
  refine AWp.ret ?_
  refine Fin.oneE rfl rfl ?_
  have e := ahdM_get hC b l.length (Nat.le_refl _)
  show u32V ((mget ((b : Nat) : Int) (ahdM l l.length)).getD 0) = _
  rw [e]
  rfl
theorem newAhead_ok (l : List Bat) (hC : crdOk l) : Pure Tryd.prog 24 [batV l] (ahdV l) := by
  have h24 := crd24 hC
  refine Pure.start (N := 31) Tryd.func24 rfl rfl (Nat.le_of_ble_eq_true rfl) ?_
  refine AWp.seq ?_
  refine AWp.region ?_
  refine AList.c 2 rfl rfl rfl (OpJ.assign rfl rfl) ?_
  refine AList.nil ?_
  refine AWp.seq ?_
  refine AWp.region ?_
  refine AList.c 7 rfl rfl rfl (OpJ.makeMap (K := Int) (α := Nat) (enc := PV.int .i64) (g := fun n => .p (u32V n)) rfl) ?_
  refine AList.c 3 rfl rfl rfl (OpJ.allocOwn rfl zr82 rfl) ?_
  refine AList.c0 rfl rfl (OpJ.store rfl rfl rfl rfl rfl ty82 rfl rfl) ?_
  refine AList.nil ?_
  refine AWp.seq ?_
  refine AWp.seq ?_
  refine AWp.region ?_
  refine AList.c 8 rfl rfl rfl (OpJ.move rfl rfl) ?_
  refine AList.c 9 rfl rfl rfl (OpJ.lenSlice rfl rfl sl29 rfl) ?_
  refine AList.c 10 rfl rfl rfl (OpJ.move rfl rfl) ?_
  refine AList.nil ?_
  refine AWp.block ?_
  refine AWp.loopHL [2, 3, 8, 9, 19, 30] (fun g => [(10, .p (.int .i64 ((g : Nat) : Int)))]) (fun g => [mapB (PV.int .i64) (fun n => .p (u32V n)) (ahdM l g), .cells [.map 0] 82]) (fun g => g ≤ l.length) (fun g => l.length - g) 0 (Nat.zero_le _) (To.sub (Sub.chk (Sub.cons rfl (Sub.nil)))) (fun i hg => ?_)
  refine AWp.seq ?_
  refine AWp.region ?_
  refine AList.c 11 rfl rfl rfl (OpJ.lss rfl rfl rfl) ?_
  refine AList.nil ?_
  refine AWp.seq ?_
  refine AWp.cond _ rfl (fun hc0 => ?_) (fun hc0 => ?_)
  · skip
    have hk0 : i < l.length := by have h := of_decide_eq_true hc0; omega
    have hf := (hC i hk0).2.1
    have hp := pw24 (n := i) (by omega)
    have hfr : (bt l i).f = ((frN l i : Nat) : Int) := by unfold frN; omega
    have hlt : frN l i < 2 ^ 32 := by omega
    refine AWp.skip ?_
    refine AWp.seq ?_
    refine AWp.block ?_
    refine AWp.seq ?_
    refine AWp.region ?_
    refine AList.c 12 rfl rfl rfl (OpJ.move rfl rfl) ?_
    refine AList.c 13 rfl rfl rfl (OpJ.indexG (g := bt l) bt_get rfl rfl rfl sl29 el29 rfl (fun _ => rfl) (by decide) hk0) ?_
    refine AList.c 14 rfl rfl rfl (OpJ.load (v := .p (.agg (bt l i).cells)) rfl rfl ty31 rfl) ?_
    refine AList.c 4 rfl rfl rfl (OpJ.allocOwn rfl zr3 rfl) ?_
    refine AList.c 5 rfl rfl rfl (OpJ.allocOwn rfl zr31 rfl) ?_
    refine AList.c0 rfl rfl (OpJ.store rfl rfl rfl rfl rfl ty3 rfl rfl) ?_
    refine AList.c0 rfl rfl (OpJ.store rfl rfl rfl rfl rfl ty31 rfl rfl) ?_
    refine AList.nil ?_
    refine AWp.seq ?_
    refine AWp.region ?_
    refine AList.c 15 rfl rfl rfl (OpJ.fieldAddr rfl rfl fd31_0 rfl) ?_
    refine AList.c 16 rfl rfl rfl (OpJ.load (v := .p (.int .i64 (bt l i).f)) rfl rfl ty3 rfl) ?_
    refine AList.c 17 rfl rfl rfl (OpJ.convInt rfl rfl (by rw [un3]; rfl) un78 (u32ok ?_)) ?_
    · omega
    rw [hfr]
    refine AList.c 18 rfl rfl rfl (OpJ.callP (all_ok (frN l i)) rfl rfl rfl rfl rf25) ?_
    refine AList.nil ?_
    refine AWp.block ?_
    refine AWp.rangeFunc 0 rfl (fun _ => rfl) rf48 (all_seq (frN l i) hlt) (Nat.le_refl _) (Nat.zero_le _) (fun _ h => by cases h) (fun x hx => by unfold bitsX at hx; simp at hx; obtain ⟨j, _, rfl⟩ := hx; rfl) rfl (fun k h => h = [mapB (PV.int .i64) (fun n => .p (u32V n)) (ahdS i (ahdM l i) ((bitsN (frN l i) 32).take k)), .cells [.map 0] 82, .cells [.p (.int .i64 ((i : Nat) : Int))] 3, .cells ((bt l i).cells.map .p) 31]) (fun c h => False) (fun _ _ h => by rw [h]; rfl) (fun _ _ h => h.elim) rfl ?_ ?_ ?_
    · skip
      intro lx tmps k h x hJ hx
      subst hJ
      obtain ⟨q, hq, rfl⟩ := bitsX_get hx
      have hqm := bits_mem.1 (List.mem_of_getElem? hq)
      have hqi := fr_lt hC hk0 hqm.2
      have hval := ahdK_lt hC hk0 q k
      have hjl : ∀ x ∈ [(mget ((q : Nat) : Int) (ahdS i (ahdM l i) ((bitsN (frN l i) 32).take k))).getD 0, 1 * 2 ^ i], x < 2 ^ 32 := by intro x hx2; simp at hx2; rcases hx2 with rfl | rfl; { omega }; { unfold pw at hp; omega }
      refine AWp.region ?_
      refine AList.c 6 rfl rfl rfl (OpJ.assign rfl rfl) ?_
      refine AList.nil ?_
      refine ⟨rfl, rfl, ?_⟩
      refine AWp.block ?_
      refine AWp.regionDraw 9 mixed (by kernel_rfl) (by decide) ?_
      refine AQuiet.cons 20 rfl rfl rfl (OpJ.load (v := .map 0) rfl rfl ty82 rfl) ?_
      refine AQuiet.cons 21 rfl rfl rfl (OpJ.move rfl rfl) ?_
      refine AQuiet.cons 22 rfl rfl rfl (OpJ.load (v := .map 0) rfl rfl ty82 rfl) ?_
      refine AQuiet.cons 23 rfl rfl rfl (OpJ.move rfl rfl) ?_
      refine AQuiet.cons 24 rfl rfl rfl (OpJ.lookupOwnD (KeyOk.int .i64 .i64) (gp := u32V) 0 rfl rfl rfl rfl mp82 rfl) ?_
      refine AQuiet.cons 25 rfl rfl rfl (OpJ.load (v := .p (.int .i64 ((i : Nat) : Int))) rfl rfl ty3 rfl) ?_
      refine AQuiet.cons 26 rfl rfl rfl (OpJ.shlN 1 i rfl rfl rfl (by show _ ≤ (32 : Nat); omega) (by show _ ≤ (4294967295 : Int); rw [Nat.one_mul]; unfold pw at hp; omega)) ?_
      refine AQuiet.cons 27 rfl rfl rfl (OpJ.buildImm rfl slz126 (by decide) rfl rfl rfl) ?_
      refine AQuiet.cons 28 rfl rfl rfl (OpJ.callP (join_ok [(mget ((q : Nat) : Int) (ahdS i (ahdM l i) ((bitsN (frN l i) 32).take k))).getD 0, 1 * 2 ^ i] hjl (by unfold bigN; show 2 ≤ _; omega)) rfl rfl rfl rfl rf23) ?_
      rw [or2, Nat.one_mul]
      refine AQuiet.nil ?_
      refine AList.c0 rfl rfl (OpJ.mapUpdate (KeyOk.int .i64 .i64) (g := fun n => .p (u32V n)) (.inl rfl) rfl rfl rfl rfl mp82) ?_
      refine AList.nil ?_
      exact ⟨_, rfl, by rw [take_snoc hq, ahdS_snoc]; exact To.sub Sub.nil⟩
    · skip
      intro h hJ
      subst hJ
      rw [bitsX_len, List.take_length]
      refine AWp.region ?_
      refine AList.c 29 rfl rfl rfl (OpJ.add rfl rfl rfl (i64ok ?_)) ?_
      · omega
      refine AList.c 10 rfl rfl rfl (OpJ.move rfl rfl) ?_
      refine AList.nil ?_
      refine ⟨i + 1, ?_, ?_, ?_⟩
      · omega
      · omega
      exact To.done [0, 1] rfl (by repeat (first | exact Sub.nil | refine Sub.cons rfl ?_)) (congrArg (fun z => [z, Blk.cells [V.map 0] 82]) (renB_mapB _ (PV.int .i64) u32V (ahdM l (i + 1))))
    · skip
      intro c h hx
      exact hx.elim
  · skip
    obtain rfl : i = l.length := by have h := of_decide_eq_false hc0; omega
    refine AWp.exit ?_
    refine AWp.seq ?_
    refine AWp.region ?_
    refine AList.c 30 rfl rfl rfl (OpJ.load rfl rfl ty82 rfl) ?_
    refine AList.c 2 rfl rfl rfl (OpJ.assign rfl rfl) ?_
    refine AList.nil ?_
    refine AWp.to (To.freezeMap 0 rfl) ?_
    refine AWp.ret ?_
    exact Fin.oneE rfl rfl rfl
end Go.Proofs.YtofenmailjdehaaDoor
