/-
  Batches.
-/
import Derived.Test.YtmcejcidbekpkaaSkFacts
import Derived.Test.YtmcejcidbekpkaaSkD
import Derived.Test.YtmcejcidbekpkaaSk1
import Derived.Test.YtmcejcidbekpkaaSk6
set_option linter.unusedVariables false
set_option maxRecDepth 100000
set_option maxHeartbeats 4000000
set_option linter.unusedSimpArgs false
namespace Go.Proofs.Ytmcejcidbekpkaa
open Go.AF
theorem newBatch_ok (l : List Sk) (b : List Tk) (hl : l.length ≤ bigN) (hb : okB b) (ht : okT l.length b) : Pure Try.prog 32 [sacksV l, takesV b] (mapP (PV.int .i64) gpS (buildM l b b.length)) := by
  have hb8 := hb.1
  refine Pure.start (N := 48) Try.func32 rfl rfl (Nat.le_of_ble_eq_true rfl) ?_
  refine AWp.seq ?_
  refine AWp.region ?_
  refine AList.c 4 rfl rfl rfl (OpJ.assign rfl rfl) ?_
  refine AList.nil ?_
  refine AWp.seq ?_
  refine AWp.region ?_
  refine AList.c 9 rfl rfl rfl (OpJ.makeMap (K := Int) (α := Sk × Sp) (enc := PV.int .i64) (g := fun a => .p (gpS a)) rfl) ?_
  refine AList.c 5 rfl rfl rfl (OpJ.assign rfl rfl) ?_
  refine AList.nil ?_
  refine AWp.seq ?_
  refine AWp.seq ?_
  refine AWp.region ?_
  refine AList.c 10 rfl rfl rfl (OpJ.move rfl rfl) ?_
  refine AList.c 11 rfl rfl rfl (OpJ.lenSlice rfl rfl sl23 rfl) ?_
  refine AList.c 12 rfl rfl rfl (OpJ.move rfl rfl) ?_
  refine AList.nil ?_
  refine AWp.block ?_
  refine AWp.loopH [7, 8, 12, 13, 14, 15, 16, 17, 18, 19, 20, 21, 22, 23, 24, 25, 26, 27, 28, 29, 30, 31, 32, 33, 34, 35, 36, 37, 38, 39, 40, 41, 42, 43, 44, 45, 46] (fun g => [(12, .p (.int .i64 ((g : Nat) : Int)))]) (fun g => [mapB (PV.int .i64) (fun a => .p (gpS a)) (buildM l b g)]) (fun g => g ≤ b.length) (fun g => b.length - g) 0 (Nat.zero_le _) (To.sub (Sub.chd (Sub.cons rfl Sub.nil))) (fun i hg => ?_)
  refine AWp.seq ?_
  refine AWp.region ?_
  refine AList.c 13 rfl rfl rfl (OpJ.lss rfl rfl rfl) ?_
  refine AList.nil ?_
  refine AWp.seq ?_
  refine AWp.cond _ rfl (fun hc0 => ?_) (fun hc0 => ?_)
  · skip
    have hk0 : i < b.length := by simp at hc0; omega
    have hti := hb.2 b[i] (List.getElem_mem _)
    have hts := ht b[i] (List.getElem_mem _)
    have hkl : b[i].s.toNat < l.length := by omega
    have hg1 := buildM_get l b b[i].s i hg
    have p1 := loK_B hb b[i].s i hg
    have p2 := hiK_B hb b[i].s i hg
    have e1 : ((mget b[i].s (buildM l b i)).getD zeroSt).2.lo = psum (loK b[i].s) b i := by rw [hg1]
    have e2 : ((mget b[i].s (buildM l b i)).getD zeroSt).2.hi = psum (hiK b[i].s) b i := by rw [hg1]
    refine AWp.skip ?_
    refine AWp.seq ?_
    refine AWp.block ?_
    refine AWp.seq ?_
    refine AWp.region ?_
    refine AList.c 14 rfl rfl rfl (OpJ.indexEl rfl rfl rfl sl23 el23 rfl (fun _ => rfl) (by decide) hk0) ?_
    refine AList.c 15 rfl rfl rfl (OpJ.load rfl rfl ty51 rfl) ?_
    refine AList.c 7 rfl rfl rfl (OpJ.allocOwn rfl zr51 rfl) ?_
    refine AList.c0 rfl rfl (OpJ.store rfl rfl rfl rfl rfl ty51 rfl rfl) ?_
    refine AList.nil ?_
    refine AWp.seq ?_
    refine AWp.region ?_
    refine AList.c 16 rfl rfl rfl (OpJ.move rfl rfl) ?_
    refine AList.c 17 rfl rfl rfl (OpJ.fieldAddr rfl rfl fd51_0 rfl) ?_
    refine AList.c 18 rfl rfl rfl (OpJ.load rfl rfl ty3 rfl) ?_
    refine AList.c 19 rfl rfl rfl (OpJ.lookupOwnD (KeyOk.int .i64 .i64) (gp := gpS) zeroSt rfl rfl rfl rfl mp65 rfl) ?_
    refine AList.c 8 rfl rfl rfl (OpJ.allocOwn rfl zr96 rfl) ?_
    refine AList.c0 rfl rfl (OpJ.store rfl rfl rfl rfl rfl ty96 rfl rfl) ?_
    refine AList.nil ?_
    refine AWp.seq ?_
    refine AWp.region ?_
    refine AList.c 20 rfl rfl rfl (OpJ.move rfl rfl) ?_
    refine AList.c 21 rfl rfl rfl (OpJ.fieldAddr rfl rfl fd51_0 rfl) ?_
    refine AList.c 22 rfl rfl rfl (OpJ.load rfl rfl ty3 rfl) ?_
    refine AList.c 23 rfl rfl rfl (OpJ.indexElI rfl rfl rfl sl22 el22 rfl (fun _ => rfl) (by decide) ?_ ?_) ?_
    · omega
    · omega
    refine AList.c 24 rfl rfl rfl (OpJ.load rfl rfl ty57 rfl) ?_
    refine AList.c 25 rfl rfl rfl (OpJ.fieldAddr rfl rfl fd96_0 rfl) ?_
    refine AList.c0 rfl rfl (OpJ.store rfl rfl rfl rfl rfl ty57 rfl rfl) ?_
    refine AList.nil ?_
    refine AWp.seq ?_
    refine AWp.region ?_
    refine AList.c 26 rfl rfl rfl (OpJ.fieldAddr rfl rfl fd96_1 rfl) ?_
    refine AList.c 27 rfl rfl rfl (OpJ.fieldAddr rfl rfl fd25_0 rfl) ?_
    refine AList.c 28 rfl rfl rfl (OpJ.load rfl rfl ty3 rfl) ?_
    refine AList.c 29 rfl rfl rfl (OpJ.fieldAddr rfl rfl fd51_1 rfl) ?_
    refine AList.c 30 rfl rfl rfl (OpJ.fieldAddr rfl rfl fd25_0 rfl) ?_
    refine AList.c 31 rfl rfl rfl (OpJ.load rfl rfl ty3 rfl) ?_
    refine AList.c 32 rfl rfl rfl (OpJ.add rfl rfl rfl (i64ok ?_)) ?_
    · omega
    refine AList.c 33 rfl rfl rfl (OpJ.fieldAddr rfl rfl fd96_1 rfl) ?_
    refine AList.c 34 rfl rfl rfl (OpJ.fieldAddr rfl rfl fd25_1 rfl) ?_
    refine AList.c 35 rfl rfl rfl (OpJ.load rfl rfl ty3 rfl) ?_
    refine AList.c 36 rfl rfl rfl (OpJ.fieldAddr rfl rfl fd51_1 rfl) ?_
    refine AList.c 37 rfl rfl rfl (OpJ.fieldAddr rfl rfl fd25_1 rfl) ?_
    refine AList.c 38 rfl rfl rfl (OpJ.load rfl rfl ty3 rfl) ?_
    refine AList.c 39 rfl rfl rfl (OpJ.add rfl rfl rfl (i64ok ?_)) ?_
    · omega
    refine AList.c 40 rfl rfl rfl (OpJ.build rfl bd25 rfl rfl) ?_
    refine AList.c 41 rfl rfl rfl (OpJ.fieldAddr rfl rfl fd96_1 rfl) ?_
    refine AList.c0 rfl rfl (OpJ.store rfl rfl rfl rfl rfl ty25 rfl rfl) ?_
    refine AList.nil ?_
    refine AWp.region ?_
    refine AList.c 42 rfl rfl rfl (OpJ.move rfl rfl) ?_
    refine AList.c 43 rfl rfl rfl (OpJ.fieldAddr rfl rfl fd51_0 rfl) ?_
    refine AList.c 44 rfl rfl rfl (OpJ.load rfl rfl ty3 rfl) ?_
    refine AList.c 45 rfl rfl rfl (OpJ.load rfl rfl ty96 rfl) ?_
    refine AList.c0 rfl rfl (OpJ.mapUpdate (KeyOk.int .i64 .i64) (g := fun a => .p (gpS a)) (c := (l[b[i].s.toNat], ⟨_, _⟩)) (.inl rfl) rfl rfl rfl rfl mp65) ?_
    refine AList.nil ?_
    refine AWp.region ?_
    refine AList.c 46 rfl rfl rfl (OpJ.add rfl rfl rfl (i64ok ?_)) ?_
    · omega
    refine AList.c 12 rfl rfl rfl (OpJ.move rfl rfl) ?_
    refine AList.nil ?_
    refine ⟨i + 1, ?_, ?_, ?_⟩
    · simp at hc0; omega
    · simp at hc0; omega
    refine To.done [0] rfl (by repeat (first | exact Sub.nil | refine Sub.cons rfl ?_)) ?_
    show [renB _ (mapB _ (fun a => .p (gpS a)) (mset _ _ _))] = _
    rw [renB_mapB, buildM_succ l b i hk0, buildStep, List.getElem?_eq_getElem hkl]
    rfl
  · skip
    obtain rfl : i = b.length := by simp at hc0; omega
    refine AWp.to (To.freezeMap 0 (gp := gpS) rfl) ?_
    refine AWp.exit ?_
    refine AWp.seq ?_
    refine AWp.region ?_
    refine AList.c 47 rfl rfl rfl (OpJ.move rfl rfl) ?_
    refine AList.c 4 rfl rfl rfl (OpJ.assign rfl rfl) ?_
    refine AList.nil ?_
    refine AWp.ret ?_
    exact Fin.one rfl (rfl)
end Go.Proofs.Ytmcejcidbekpkaa
