/-
  Stocks.
-/
import Derived.Test.YtpamkihpffoflaaBx6
import Derived.Test.YtpamkihpffoflaaBxM
set_option linter.unusedVariables false
set_option maxRecDepth 100000
set_option maxHeartbeats 4000000
set_option linter.unusedSimpArgs false
namespace Go.Proofs.Ytpamkihpffoflaa
open Go.AF
theorem newStock_ok (n : Nat) (l : List Pl) (hn : n ≤ 8) (hl : okP n l) : Pure Try.prog 34 [plV l] (stkV (stkM l l.length)) := by
  have hl8 := hl.1
  have hp8 := pow8 hn
  refine Pure.start (N := 22) Try.func34 rfl rfl (Nat.le_of_ble_eq_true rfl) ?_
  refine AWp.seq ?_
  refine AWp.region ?_
  refine AList.c 2 rfl rfl rfl (OpJ.assign rfl rfl) ?_
  refine AList.nil ?_
  refine AWp.seq ?_
  refine AWp.region ?_
  refine AList.c 6 rfl rfl rfl (OpJ.makeMap (K := Int) (α := Int) (enc := PV.int .i64) (g := fun a => .p (PV.int .i64 a)) rfl) ?_
  refine AList.c 3 rfl rfl rfl (OpJ.assign rfl rfl) ?_
  refine AList.nil ?_
  refine AWp.seq ?_
  refine AWp.seq ?_
  refine AWp.region ?_
  refine AList.c 7 rfl rfl rfl (OpJ.move rfl rfl) ?_
  refine AList.c 8 rfl rfl rfl (OpJ.lenSlice rfl rfl sl23 rfl) ?_
  refine AList.c 9 rfl rfl rfl (OpJ.move rfl rfl) ?_
  refine AList.nil ?_
  refine AWp.block ?_
  refine AWp.loopH [5, 9, 10, 11, 12, 13, 14, 15, 16, 17, 18, 19, 20] (fun g => [(9, .p (.int .i64 ((g : Nat) : Int)))]) (fun g => [mapB (PV.int .i64) (fun a => .p (PV.int .i64 a)) (stkM l g)]) (fun g => g ≤ l.length) (fun g => l.length - g) 0 (Nat.zero_le _) (To.sub (Sub.chd (Sub.cons rfl Sub.nil))) (fun i hg => ?_)
  refine AWp.seq ?_
  refine AWp.region ?_
  refine AList.c 10 rfl rfl rfl (OpJ.lss rfl rfl rfl) ?_
  refine AList.nil ?_
  refine AWp.seq ?_
  refine AWp.cond _ rfl (fun hc0 => ?_) (fun hc0 => ?_)
  · skip
    have hk0 : i < l.length := by simp at hc0; omega
    have hti := hl.2 l[i] (List.getElem_mem _)
    have hg1 := stkM_get hl (l[i].s : Int) i hg
    refine AWp.skip ?_
    refine AWp.seq ?_
    refine AWp.block ?_
    refine AWp.seq ?_
    refine AWp.region ?_
    refine AList.c 11 rfl rfl rfl (OpJ.indexEl rfl rfl rfl sl23 el23 rfl (fun _ => rfl) (by decide) hk0) ?_
    refine AList.c 12 rfl rfl rfl (OpJ.load rfl rfl ty46 rfl) ?_
    refine AList.c 5 rfl rfl rfl (OpJ.allocOwn rfl zr46 rfl) ?_
    refine AList.c0 rfl rfl (OpJ.store rfl rfl rfl rfl rfl ty46 rfl rfl) ?_
    refine AList.nil ?_
    refine AWp.region ?_
    refine AList.c 13 rfl rfl rfl (OpJ.move rfl rfl) ?_
    refine AList.c 14 rfl rfl rfl (OpJ.fieldAddr rfl rfl fd46_0 rfl) ?_
    refine AList.c 15 rfl rfl rfl (OpJ.load rfl rfl ty3 rfl) ?_
    refine AList.c 16 rfl rfl rfl (OpJ.lookupOwnD (KeyOk.int .i64 .i64) (gp := PV.int .i64) 0 rfl rfl rfl rfl mp59 rfl) ?_
    refine AList.c 17 rfl rfl rfl (OpJ.fieldAddr rfl rfl fd46_1 rfl) ?_
    refine AList.c 18 rfl rfl rfl (OpJ.load rfl rfl ty3 rfl) ?_
    refine AList.c 19 rfl rfl rfl (OpJ.add rfl rfl rfl (i64ok ?_)) ?_
    · omega
    refine AList.c0 rfl rfl (OpJ.mapUpdate (KeyOk.int .i64 .i64) (g := fun a => .p (PV.int .i64 a)) (.inl rfl) rfl rfl rfl rfl mp59) ?_
    refine AList.nil ?_
    refine AWp.region ?_
    refine AList.c 20 rfl rfl rfl (OpJ.add rfl rfl rfl (i64ok ?_)) ?_
    · omega
    refine AList.c 9 rfl rfl rfl (OpJ.move rfl rfl) ?_
    refine AList.nil ?_
    refine ⟨i + 1, ?_, ?_, ?_⟩
    · omega
    · omega
    refine To.done [0] rfl (by repeat (first | exact Sub.nil | refine Sub.cons rfl ?_)) ?_
    show [renB _ (mapB _ (fun a => .p (PV.int .i64 a)) (mset _ _ _))] = _
    rw [renB_mapB, stkM_succ l i hk0, stkStep]
  · skip
    obtain rfl : i = l.length := by simp at hc0; omega
    refine AWp.to (To.freezeMap 0 (gp := PV.int .i64) rfl) ?_
    refine AWp.exit ?_
    refine AWp.seq ?_
    refine AWp.region ?_
    refine AList.c 21 rfl rfl rfl (OpJ.move rfl rfl) ?_
    refine AList.c 2 rfl rfl rfl (OpJ.assign rfl rfl) ?_
    refine AList.nil ?_
    refine AWp.ret ?_
    exact Fin.one rfl (rfl)
theorem meetsZ_ok (s : Nat) (t : Int) (hs : s ≤ 1152921504606846976) (h0 : 0 ≤ t) (ht : t ≤ 1152921504606846976) : Pure Try.prog 60 [.int .i64 (s : Int), .int .i64 t] (.bool (!decide (s &&& t.toNat = 0))) := by
  have h := meets_ok s t.toNat hs (by omega)
  rwa [Int.toNat_of_nonneg h0] at h
theorem bof_ok (n : Nat) (l : List Pl) (s : Nat) (hn : n ≤ 8) (hl : okP n l) (hs : s < 256) : Pure Try.prog 36 [stkV (stkM l l.length), .int .i64 (s : Int)] (.int .i64 (ofP l s)) := by
  have hp8 := pow8 hn
  have hms := stkM_ok hl
  have htot := stkM_ofP l s
  have hB := ofP_BB hl s
  have hpos : ∀ m ∈ stkM l l.length, 0 ≤ ofE s m.1 m.2 := fun m hm => by have := hms m hm; unfold ofE; split <;> omega
  generalize stkM l l.length = ms at hms htot hpos ⊢
  refine Pure.start (N := 24) Try.func36 rfl rfl (Nat.le_of_ble_eq_true rfl) ?_
  refine AWp.seq ?_
  refine AWp.region ?_
  refine AList.c 4 rfl rfl rfl (OpJ.assign rfl rfl) ?_
  refine AList.nil ?_
  refine AWp.seq ?_
  refine AWp.region ?_
  refine AList.c 8 rfl rfl rfl (OpJ.move rfl rfl) ?_
  refine AList.c 9 rfl rfl rfl (OpJ.makeFunc rfl rfl rfl) ?_
  refine AList.c 5 rfl rfl rfl (OpJ.assign rfl rfl) ?_
  refine AList.nil ?_
  refine AWp.seq ?_
  refine AWp.seq ?_
  refine AWp.region ?_
  refine AList.c 10 rfl rfl rfl (OpJ.move rfl rfl) ?_
  refine AList.c 11 rfl rfl rfl (OpJ.rangeMap (enc := PV.int .i64) (gp := PV.int .i64) rfl rfl mp59) ?_
  refine AList.nil ?_
  refine AWp.block ?_
  refine AWp.loopH [4, 6, 7, 12, 13, 14, 15, 16, 17, 18, 19, 20, 21, 22] (fun (g : MG (Int × Int)) => [(4, .p (.int .i64 (g.d.map fun m => ofE s m.1 m.2).sum))]) (fun (g : MG (Int × Int)) => [iterB (PV.int .i64) (PV.int .i64) g.r g.last]) (fun (g : MG (Int × Int)) => MG.ok ms g) (fun (g : MG (Int × Int)) => g.r.length) ⟨[], ms, none⟩ ⟨(fun f => by simp), (fun _ h => by cases h), fun _ h => h⟩ (To.sub (Sub.chd (Sub.cons rfl Sub.nil))) (fun g hg => ?_)
  obtain ⟨d, r, last⟩ := g
  dsimp only
  refine AWp.seq ?_
  refine AWp.region ?_
  refine AList.nextMap 12 rfl rfl rfl rfl rfl rfl ?_ ?_
  · skip
    intro hr
    subst hr
    refine AList.c 13 rfl rfl rfl (OpJ.extract rfl rfl rfl) ?_
    refine AList.nil ?_
    refine AWp.seq ?_
    refine AWp.cond _ rfl (fun hc0 => ?_) (fun hc0 => ?_)
    · skip
      cases hc0
    · skip
      refine AWp.exit ?_
      refine AWp.seq ?_
      refine AWp.region ?_
      refine AList.c 23 rfl rfl rfl (OpJ.move rfl rfl) ?_
      refine AList.c 4 rfl rfl rfl (OpJ.assign rfl rfl) ?_
      refine AList.nil ?_
      refine AWp.ret ?_
      refine Fin.oneE rfl rfl ?_
      have e1 := hg.1 (fun m => ofE s m.1 m.2)
      simp at e1
      rw [← htot, ← e1]
  · skip
    intro j m hj
    have hjl : j < r.length := (List.getElem?_eq_some_iff.1 hj).1
    have hmem : m ∈ ms := hg.2.2 m (List.mem_of_getElem? hj)
    have hmw := hms m hmem
    have hk : m.1 = ((m.1.toNat : Nat) : Int) := by omega
    have hg2 := MG.ok_next hg hj
    have s1 := hg2.1 (fun m => ofE s m.1 m.2)
    dsimp only at s1
    rw [sum_snoc] at s1
    have s4 := sum_nonneg (f := fun m : Int × Int => ofE s m.1 m.2) (r := r.eraseIdx j) (fun x hx => hpos x (hg2.2.2 x hx))
    have s5 := sum_nonneg (f := fun m : Int × Int => ofE s m.1 m.2) (r := d) (fun x hx => hpos x (hg.2.1 x hx))
    have s6 := hpos m hmem
    have s7 : (1 : Nat) ≤ 1 := Nat.le_refl _
    refine AList.c 13 rfl rfl rfl (OpJ.extract rfl rfl rfl) ?_
    refine AList.nil ?_
    refine AWp.seq ?_
    refine AWp.cond _ rfl (fun hc0 => ?_) (fun hc0 => ?_)
    · skip
      refine AWp.skip ?_
      refine AWp.block ?_
      refine AWp.seq ?_
      refine AWp.region ?_
      refine AList.c 14 rfl rfl rfl (OpJ.entry rfl rfl rfl) ?_
      refine AList.c 15 rfl rfl rfl (OpJ.extract rfl rfl rfl) ?_
      refine AList.c 16 rfl rfl rfl (OpJ.extract rfl rfl rfl) ?_
      refine AList.c 6 rfl rfl rfl (OpJ.assign rfl rfl) ?_
      refine AList.c 7 rfl rfl rfl (OpJ.assign rfl rfl) ?_
      refine AList.nil ?_
      refine AWp.seq ?_
      refine AWp.region ?_
      refine AList.c 17 rfl rfl rfl (OpJ.move rfl rfl) ?_
      refine AList.c 18 rfl rfl rfl (OpJ.move rfl rfl) ?_
      refine AList.c 19 rfl rfl rfl (OpJ.callP (meetsZ_ok s m.1 ?_ ?_ ?_) rfl rfl rfl rfl (rf60)) ?_
      · omega
      · omega
      · omega
      refine AList.nil ?_
      refine AWp.cond _ rfl (fun hc1 => ?_) (fun hc1 => ?_)
      · skip
        have e1 : ofE s m.1 m.2 = m.2 := by unfold ofE; rw [if_neg (by rw [Nat.and_comm]; simpa using hc1)]
        refine AWp.region ?_
        refine AList.c 20 rfl rfl rfl (OpJ.move rfl rfl) ?_
        refine AList.c 21 rfl rfl rfl (OpJ.move rfl rfl) ?_
        refine AList.c 22 rfl rfl rfl (OpJ.add rfl rfl rfl (i64ok ?_)) ?_
        · omega
        refine AList.c 4 rfl rfl rfl (OpJ.assign rfl rfl) ?_
        refine AList.nil ?_
        refine ⟨⟨d ++ [m], r.eraseIdx j, some m⟩, ?_, ?_, ?_⟩
        · exact MG.ok_next hg hj
        · show (r.eraseIdx j).length < r.length
          rw [List.length_eraseIdx, if_pos hjl]
          omega
        refine To.done [0] rfl (Sub.cons ?_ (by repeat (first | exact Sub.nil | refine Sub.cons rfl ?_))) rfl
        dsimp only
        rw [sum_snoc, e1]
        first | rfl | (rw [Int.add_zero]; rfl)
      · skip
        have e1 : ofE s m.1 m.2 = 0 := by unfold ofE; rw [if_pos (by rw [Nat.and_comm]; simpa using hc1)]
        refine AWp.skip ?_
        refine ⟨⟨d ++ [m], r.eraseIdx j, some m⟩, ?_, ?_, ?_⟩
        · exact MG.ok_next hg hj
        · show (r.eraseIdx j).length < r.length
          rw [List.length_eraseIdx, if_pos hjl]
          omega
        refine To.done [0] rfl (Sub.cons ?_ (by repeat (first | exact Sub.nil | refine Sub.cons rfl ?_))) rfl
        dsimp only
        rw [sum_snoc, e1]
        first | rfl | (rw [Int.add_zero]; rfl)
    · skip
      cases hc0
end Go.Proofs.Ytpamkihpffoflaa
