/-
  The law ShadeCuts.
-/
import Derived.Test.YthiapodcippnoaaSdFactsM
import Derived.Test.YthiapodcippnoaaSd20
set_option linter.unusedVariables false
set_option maxRecDepth 100000
set_option maxHeartbeats 4000000
set_option linter.unusedSimpArgs false
namespace Go.Proofs.Ythiapodcippnoaa
open Go.AF
theorem rcut_R (c : List Tnt) (ls : List Lds) (s : Scl) (hcb : c.length ≤ bigN) (hb : ls.length ≤ bigN) (hs : ∀ x ∈ ls, x.st.length ≤ bigN) : Pure Try.prog 23 [curV c, ldsV ls, .agg s.cells] (.tuple [intsV (cutR c ls s).1, .int .i64 (cutR c ls s).2.1, .int .i64 (cutR c ls s).2.2]) := by
  have hb2 := hb
  unfold bigN at hb2
  refine Pure.start (N := 196) Try.func23 rfl rfl (Nat.le_of_ble_eq_true rfl) ?_
  refine AWp.seq ?_
  refine AWp.region ?_
  refine AList.c 5 rfl rfl rfl (OpJ.boxImm rfl rfl rfl) ?_
  refine AList.c 6 rfl rfl rfl (OpJ.assign rfl rfl) ?_
  refine AList.c 7 rfl rfl rfl (OpJ.assign rfl rfl) ?_
  refine AList.c 8 rfl rfl rfl (OpJ.assign rfl rfl) ?_
  refine AList.nil ?_
  refine AWp.seq ?_
  refine AWp.seq ?_
  refine AWp.region ?_
  refine AList.c 22 rfl rfl rfl (OpJ.move rfl rfl) ?_
  refine AList.c 23 rfl rfl rfl (OpJ.callP (rcurve_ok c hcb) rfl rfl rfl rfl rf28) ?_
  refine AList.c 24 rfl rfl rfl (OpJ.not_ rfl rfl) ?_
  refine AList.nil ?_
  refine AWp.cond _ rfl (fun hc0 => ?_) (fun hc0 => ?_)
  · skip
    have hC : ¬ okC c := by simpa using hc0
    refine AWp.seq ?_
    refine AWp.region ?_
    refine AList.c 6 rfl rfl rfl (OpJ.assign rfl rfl) ?_
    refine AList.c 7 rfl rfl rfl (OpJ.assign rfl rfl) ?_
    refine AList.c 8 rfl rfl rfl (OpJ.assign rfl rfl) ?_
    refine AList.nil ?_
    refine AWp.to (To.nilIs 6 rfl) ?_
    refine AWp.ret ?_
    have eE : openE c ls 10 (sclB s) = 1 := by rw [openE_eq]; rw [if_neg hC]
    have eR : cutR c ls s = ([], 0, 1) := by unfold cutR cutE; rw [if_neg (by rw [eE]; decide), eE]
    rw [eR]
    exact Fin.many (xs := [intsV [], .int .i64 0, .int .i64 1]) rfl (⟨_, _, rfl, rfl, ⟨_, _, rfl, rfl, ⟨_, _, rfl, rfl, rfl⟩⟩⟩) rfl
  · skip
    have hC : okC c := by simpa using hc0
    refine AWp.skip ?_
    refine AWp.seq ?_
    refine AWp.seq ?_
    refine AWp.region ?_
    refine AList.c 25 rfl rfl rfl (OpJ.move rfl rfl) ?_
    refine AList.c 26 rfl rfl rfl (OpJ.lenSlice rfl rfl sl39 rfl) ?_
    refine AList.c 27 rfl rfl rfl (OpJ.gtr rfl rfl rfl) ?_
    refine AList.nil ?_
    refine AWp.cond _ rfl (fun hc1 => ?_) (fun hc1 => ?_)
    · skip
      have hm : (10 : Int) < ls.length := by have h := of_decide_eq_true hc1; omega
      refine AWp.seq ?_
      refine AWp.region ?_
      refine AList.c 6 rfl rfl rfl (OpJ.assign rfl rfl) ?_
      refine AList.c 7 rfl rfl rfl (OpJ.assign rfl rfl) ?_
      refine AList.c 8 rfl rfl rfl (OpJ.assign rfl rfl) ?_
      refine AList.nil ?_
      refine AWp.to (To.nilIs 6 rfl) ?_
      refine AWp.ret ?_
      have eE : openE c ls 10 (sclB s) = 3 := by rw [openE_eq]; rw [if_pos hC, if_pos hm]
      have eR : cutR c ls s = ([], 0, 3) := by unfold cutR cutE; rw [if_neg (by rw [eE]; decide), eE]
      rw [eR]
      exact Fin.many (xs := [intsV [], .int .i64 0, .int .i64 3]) rfl (⟨_, _, rfl, rfl, ⟨_, _, rfl, rfl, ⟨_, _, rfl, rfl, rfl⟩⟩⟩) rfl
    · skip
      have hm : ¬ (10 : Int) < ls.length := by have h := of_decide_eq_false hc1; omega
      refine AWp.skip ?_
      refine AWp.seq ?_
      refine AWp.seq ?_
      refine AWp.region ?_
      refine AList.c 28 rfl rfl rfl (OpJ.move rfl rfl) ?_
      refine AList.c 29 rfl rfl rfl (OpJ.callP (rall_ok ls hb hs) rfl rfl rfl rfl rf51) ?_
      refine AList.c 30 rfl rfl rfl (OpJ.not_ rfl rfl) ?_
      refine AList.c 31 rfl rfl rfl (OpJ.move rfl rfl) ?_
      refine AList.g 32 31 rfl rfl rfl rfl rfl rfl rfl [(5, _)] (fun h => And.intro (.inl rfl) (trivial)) (fun h => (OpJ.load rfl rfl ty41 rfl)) ?_
      refine AList.g 33 31 rfl rfl rfl rfl rfl rfl rfl [(32, _)] (fun h => And.intro (.inr ⟨_, rfl, h⟩) (trivial)) (fun h => (OpJ.callP (rscale_ok s) rfl rfl rfl rfl rf35)) ?_
      refine AList.g 34 31 rfl rfl rfl rfl rfl rfl rfl [(33, _)] (fun h => And.intro (.inr ⟨_, rfl, h⟩) (trivial)) (fun h => (OpJ.not_ rfl rfl)) ?_
      refine AList.c 35 rfl rfl rfl (OpJ.or_ rfl rfl rfl ?_) ?_
      · first | (intro h; rw [h]; rfl) | (intro h; simp_all)
      refine AList.nil ?_
      refine AWp.cond _ rfl (fun hc2 => ?_) (fun hc2 => ?_)
      · skip
        have hV : (ls.all ldB && sclB s) = false := by rw [← Bool.not_and] at hc2; exact bnT hc2
        refine AWp.seq ?_
        refine AWp.region ?_
        refine AList.c 6 rfl rfl rfl (OpJ.assign rfl rfl) ?_
        refine AList.c 7 rfl rfl rfl (OpJ.assign rfl rfl) ?_
        refine AList.c 8 rfl rfl rfl (OpJ.assign rfl rfl) ?_
        refine AList.nil ?_
        refine AWp.to (To.nilIs 6 rfl) ?_
        refine AWp.ret ?_
        have eE : openE c ls 10 (sclB s) = 2 := by rw [openE_eq]; rw [if_pos hC, if_neg hm, if_neg (by rw [hV]; decide)]
        have eR : cutR c ls s = ([], 0, 2) := by unfold cutR cutE; rw [if_neg (by rw [eE]; decide), eE]
        rw [eR]
        exact Fin.many (xs := [intsV [], .int .i64 0, .int .i64 2]) rfl (⟨_, _, rfl, rfl, ⟨_, _, rfl, rfl, ⟨_, _, rfl, rfl, rfl⟩⟩⟩) rfl
      · skip
        have hV : (ls.all ldB && sclB s) = true := by rw [← Bool.not_and] at hc2; exact bnF hc2
        have hV2 := Bool.and_eq_true_iff.1 hV
        have hL : ∀ x ∈ ls, OkL x := fun x hx => (ldB_iff x).1 (List.all_eq_true.1 hV2.1 x hx)
        have hZ := (sclB_iff s).1 hV2.2
        have hzn := hZ.n
        have hzl := hZ.least
        have hzm := hZ.most
        have hzg := hZ.gap
        refine AWp.skip ?_
        refine AWp.seq ?_
        refine AWp.region ?_
        refine AList.c 37 rfl rfl rfl (OpJ.move rfl rfl) ?_
        refine AList.c 38 rfl rfl rfl (OpJ.move rfl rfl) ?_
        refine AList.c 39 rfl rfl rfl (OpJ.callP (spans_ok c ls hC hL (by omega)) rfl rfl rfl rfl rf53) ?_
        refine AList.c 36 rfl rfl rfl (OpJ.move rfl rfl) ?_
        refine AList.c 40 rfl rfl rfl (OpJ.extract rfl rfl rfl) ?_
        refine AList.c 41 rfl rfl rfl (OpJ.extract rfl rfl rfl) ?_
        refine AList.c 9 rfl rfl rfl (OpJ.assign rfl rfl) ?_
        refine AList.c 10 rfl rfl rfl (OpJ.assign rfl rfl) ?_
        refine AList.nil ?_
        refine AWp.seq ?_
        refine AWp.seq ?_
        refine AWp.region ?_
        refine AList.c 42 rfl rfl rfl (OpJ.move rfl rfl) ?_
        refine AList.c 43 rfl rfl rfl (OpJ.not_ rfl rfl) ?_
        refine AList.nil ?_
        refine AWp.cond _ rfl (fun hc3 => ?_) (fun hc3 => ?_)
        · skip
          have hBk : ls.all (blkB c) = false := bnT hc3
          refine AWp.seq ?_
          refine AWp.region ?_
          refine AList.c 6 rfl rfl rfl (OpJ.assign rfl rfl) ?_
          refine AList.c 7 rfl rfl rfl (OpJ.assign rfl rfl) ?_
          refine AList.c 8 rfl rfl rfl (OpJ.assign rfl rfl) ?_
          refine AList.nil ?_
          refine AWp.to (To.nilIs 6 rfl) ?_
          refine AWp.ret ?_
          have eE : openE c ls 10 (sclB s) = 6 := by rw [openE_eq]; rw [if_pos hC, if_neg hm, if_pos hV, if_neg (by rw [hBk]; decide)]
          have eR : cutR c ls s = ([], 0, 6) := by unfold cutR cutE; rw [if_neg (by rw [eE]; decide), eE]
          rw [eR]
          exact Fin.many (xs := [intsV [], .int .i64 0, .int .i64 6]) rfl (⟨_, _, rfl, rfl, ⟨_, _, rfl, rfl, ⟨_, _, rfl, rfl, rfl⟩⟩⟩) rfl
        · skip
          have hBk : ls.all (blkB c) = true := bnF hc3
          rw [if_pos hBk]
          have eE : openE c ls 10 (sclB s) = 0 := by rw [openE_eq]; rw [if_pos hC, if_neg hm, if_pos hV, if_pos hBk]
          have e2 : cutE c ls s = 0 := eE
          have hB := bok_open (openE_zero.1 eE)
          have hmB := mostF_B hB s
          obtain ⟨N, hN⟩ : ∃ N : Nat, N = s.n.toNat := ⟨_, rfl⟩
          have hsN : s.n = (N : Int) := by omega
          obtain ⟨L, hL2⟩ : ∃ L : Nat, s.least = (L : Int) := ⟨s.least.toNat, by omega⟩
          refine AWp.skip ?_
          refine AWp.seq ?_
          refine AWp.region ?_
          refine AList.c 44 rfl rfl rfl (OpJ.fieldAddr rfl rfl fd41_0 rfl) ?_
          refine AList.c 45 rfl rfl rfl (OpJ.load rfl rfl ty3 rfl) ?_
          refine AList.c 46 rfl rfl rfl (OpJ.add (m := ((s.n.toNat + 1 : Nat) : Int)) rfl rfl rfl ((i64ok ?_).trans ?_)) ?_
          · omega
          · omega
          refine AList.c 47 rfl rfl rfl (OpJ.makeSlice (n := (s.n.toNat + 1)) (c := (s.n.toNat + 1)) rfl rfl rfl slz114 by34 (by decide) (Nat.le_refl _) (by omega)) ?_
          refine AList.c 11 rfl rfl rfl (OpJ.assign rfl rfl) ?_
          refine AList.nil ?_
          refine AWp.seq ?_
          refine AWp.regionDrawG 4 1 [1] [([], false), ([], false), ([], false), ([1], true)] mixed (by kernel_rfl) (by decide) (by kernel_rfl) rfl (by show [Blk.row (renL _ _) _] = _; rw [renL_pure]; rfl) ?_
          refine AQG.cons 48 rfl rfl rfl (fun _ => (OpJ.move rfl rfl)) rfl ?_
          refine AQG.cons 49 rfl rfl rfl (fun _ => (OpJ.fieldAddr rfl rfl fd41_0 rfl)) rfl ?_
          refine AQG.cons 50 rfl rfl rfl (fun _ => (OpJ.load rfl rfl ty3 rfl)) rfl ?_
          refine AQG.lay (v0 := .row 2 _) 51 1 rfl rfl rfl rfl rfl rfl rfl rfl (fun _ => (OpJ.makeSlice (n := 201) (c := 201) rfl rfl rfl slz34 by3 (by decide) (Nat.le_refl _) (by decide))) rfl rfl rfl ?_
          refine AQG.nil ?_
          refine AList.c 52 rfl rfl rfl (OpJ.indexRowI rfl rfl rfl sl114 el114 (by omega) (by omega)) ?_
          refine AList.c0 rfl rfl (OpJ.storeCell (k := s.n.toNat) rfl rfl rfl rfl rfl rfl ty34 rfl rfl (Nat.mul_one _) (by rw [rep_flat, List.length_replicate]; omega)) ?_
          refine AList.nil ?_
          refine AWp.seq ?_
          refine AWp.seq ?_
          rw [oc_start (ls.map (toB c)) s s.n.toNat, zero_row (ls.map (toB c)) s]
          refine AWp.to (To.eqH (H3 := [.row (ocV (ls.map (toB c)) s s.n.toNat s.n.toNat (rowV (ls.map (toB c)) s (s.n.toNat - s.n.toNat))) 34, .dead]) (To.frzB 1 0 (xs := (rowL (ls.map (toB c)) s 0 201).flatMap i1) (by decide) rfl (allP_map _) rfl) (by show [Blk.row (frzL 1 _ (ocV _ _ _ _ _)) _, Blk.dead] = _; rw [ocV_frz, Nat.sub_self]; rfl)) ?_
          refine AWp.region ?_
          refine AList.c 53 rfl rfl rfl (OpJ.fieldAddr rfl rfl fd41_0 rfl) ?_
          refine AList.c 54 rfl rfl rfl (OpJ.load rfl rfl ty3 rfl) ?_
          refine AList.c 55 rfl rfl rfl (OpJ.sub_ (m := (((s.n.toNat : Nat) : Int) - 1)) rfl rfl rfl ((i64ok ?_).trans ?_)) ?_
          · omega
          · omega
          refine AList.c 12 rfl rfl rfl (OpJ.assign rfl rfl) ?_
          refine AList.nil ?_
          refine AWp.block ?_
          refine AWp.loopHL [1, 5, 9, 11, 16, 17, 18, 19, 20, 21, 114, 115, 116, 117, 118, 119, 120, 121, 122, 123, 124, 125, 126, 127, 128, 129, 130, 131, 132, 133, 134, 135, 136, 137, 138, 139, 140, 141, 142, 143, 144, 145, 146, 147, 148, 149, 150, 151, 152, 153, 154, 155, 156, 157, 158, 159, 160, 161, 162, 163, 164, 165, 166, 167, 168, 169, 170, 171, 172, 173, 174, 175, 176, 177, 178, 179, 180, 181, 182, 183, 184, 185, 186, 187, 188, 189, 190, 191, 192, 193, 194, 195] (fun g => [(12, .p (.int .i64 (((g : Nat) : Int) - 1)))]) (fun g => [.row (ocV (ls.map (toB c)) s s.n.toNat g (rowV (ls.map (toB c)) s (s.n.toNat - g))) 34]) (fun g => g ≤ s.n.toNat) (fun g => g) s.n.toNat (Nat.le_refl _) (To.done [0] rfl (by repeat (first | exact Sub.nil | refine Sub.cons rfl ?_)) (by show [Blk.row (renL _ _) _] = _; rw [ocV_ren]; rfl)) (fun q hg => ?_)
          refine AWp.seq ?_
          refine AWp.seq ?_
          refine AWp.region ?_
          refine AList.c 56 rfl rfl rfl (OpJ.move rfl rfl) ?_
          refine AList.c 57 rfl rfl rfl (OpJ.geq rfl rfl rfl) ?_
          refine AList.nil ?_
          refine AWp.cond _ rfl (fun hc4 => ?_) (fun hc4 => ?_)
          · skip
            have hk1 : 1 ≤ q := by have h := of_decide_eq_true hc4; omega
            obtain ⟨k, rfl⟩ : ∃ k, q = k + 1 := ⟨q - 1, by omega⟩
            rw [show (((k + 1 : Nat) : Int) - 1) = ((k : Nat) : Int) by omega]
            refine AWp.skip ?_
            refine AWp.seq ?_
            refine AWp.block ?_
            refine AWp.seq ?_
            refine AWp.region ?_
            refine AList.c 13 rfl rfl rfl (OpJ.assign rfl rfl) ?_
            refine AList.nil ?_
            refine AWp.block ?_
            rw [ocV_next (ls.map (toB c)) s hg]
            refine AWp.loopHL [1, 5, 9, 11, 12, 16, 17, 18, 19, 20, 21, 56, 57, 58, 59, 114, 115, 116, 117, 118, 119, 120, 121, 122, 123, 124, 125, 126, 127, 128, 129, 130, 131, 132, 133, 134, 135, 136, 137, 138, 139, 140, 141, 142, 143, 144, 145, 146, 147, 148, 149, 150, 151, 152, 153, 154, 155, 156, 157, 158, 159, 160, 161, 162, 163, 164, 165, 166, 167, 168, 169, 170, 171, 172, 173, 174, 175, 176, 177, 178, 179, 180, 181, 182, 183, 184, 185, 186, 187, 188, 189, 190, 191, 192, 193, 194, 195] (fun g => [(13, .p (.int .i64 ((g : Nat) : Int)))]) (fun g => [.row (ocV (ls.map (toB c)) s s.n.toNat k (accV 1 g)) 34, accB (((rowL (ls.map (toB c)) s (s.n.toNat - k) g).flatMap i1).map .p) 3 g]) (fun g => g ≤ 201) (fun g => 201 - g) 0 (Nat.zero_le _) (To.pad.trans (To.sub (Sub.chk (Sub.cons rfl Sub.nil)))) (fun f hgf => ?_)
            refine AWp.seq ?_
            refine AWp.seq ?_
            refine AWp.region ?_
            refine AList.c 60 rfl rfl rfl (OpJ.move rfl rfl) ?_
            refine AList.c 61 rfl rfl rfl (OpJ.leq rfl rfl rfl) ?_
            refine AList.nil ?_
            refine AWp.cond _ rfl (fun hc5 => ?_) (fun hc5 => ?_)
            · skip
              have hf0 : f ≤ 200 := by have h := of_decide_eq_true hc5; omega
              refine AWp.skip ?_
              refine AWp.seq ?_
              refine AWp.block ?_
              refine AWp.seq ?_
              refine AWp.region ?_
              refine AList.c 14 rfl rfl rfl (OpJ.assign rfl rfl) ?_
              refine AList.nil ?_
              refine AWp.seq ?_
              refine AWp.seq ?_
              refine AWp.region ?_
              refine AList.c 64 rfl rfl rfl (OpJ.move rfl rfl) ?_
              refine AList.c 65 rfl rfl rfl (OpJ.fieldAddr rfl rfl fd41_1 rfl) ?_
              refine AList.c 66 rfl rfl rfl (OpJ.load rfl rfl ty3 rfl) ?_
              refine AList.c 67 rfl rfl rfl (OpJ.add (m := ((f + L : Nat) : Int)) rfl rfl rfl ((i64ok ?_).trans ?_)) ?_
              · omega
              · omega
              refine AList.c 15 rfl rfl rfl (OpJ.assign rfl rfl) ?_
              refine AList.nil ?_
              refine AWp.block ?_
              refine AWp.loopHL [1, 5, 9, 11, 12, 13, 16, 17, 18, 19, 20, 21, 56, 57, 58, 59, 60, 61, 62, 63, 64, 65, 66, 67, 104, 105, 106, 107, 108, 109, 110, 111, 112, 113, 114, 115, 116, 117, 118, 119, 120, 121, 122, 123, 124, 125, 126, 127, 128, 129, 130, 131, 132, 133, 134, 135, 136, 137, 138, 139, 140, 141, 142, 143, 144, 145, 146, 147, 148, 149, 150, 151, 152, 153, 154, 155, 156, 157, 158, 159, 160, 161, 162, 163, 164, 165, 166, 167, 168, 169, 170, 171, 172, 173, 174, 175, 176, 177, 178, 179, 180, 181, 182, 183, 184, 185, 186, 187, 188, 189, 190, 191, 192, 193, 194, 195] (fun g => [(14, .p (.int .i64 (mxF (rstF (ls.map (toB c)) s (s.n.toNat - (k + 1)) ((f : Nat) : Int)) (f + s.least) g))), (15, .p (.int .i64 ((f + L + g : Nat) : Int)))]) (fun g => [.row (ocV (ls.map (toB c)) s s.n.toNat k (accV 1 f)) 34, accB (((rowL (ls.map (toB c)) s (s.n.toNat - k) f).flatMap i1).map .p) 3 f]) (fun g => g ≤ stepsN s f) (fun g => stepsN s f - g) 0 (Nat.zero_le _) (To.sub (Sub.chk (Sub.cons rfl (Sub.cons rfl (Sub.nil))))) (fun m hgm => ?_)
              refine AWp.seq ?_
              refine AWp.seq ?_
              refine AWp.region ?_
              refine AList.c 68 rfl rfl rfl (OpJ.move rfl rfl) ?_
              refine AList.c 69 rfl rfl rfl (OpJ.move rfl rfl) ?_
              refine AList.c 70 rfl rfl rfl (OpJ.fieldAddr rfl rfl fd41_2 rfl) ?_
              refine AList.c 71 rfl rfl rfl (OpJ.load rfl rfl ty3 rfl) ?_
              refine AList.c 72 rfl rfl rfl (OpJ.add rfl rfl rfl (i64ok ?_)) ?_
              · omega
              refine AList.c 73 rfl rfl rfl (OpJ.min2 rfl rfl rfl) ?_
              refine AList.c 74 rfl rfl rfl (OpJ.leq rfl rfl rfl) ?_
              refine AList.nil ?_
              refine AWp.cond _ rfl (fun hc6 => ?_) (fun hc6 => ?_)
              · skip
                have hmq := of_decide_eq_true hc6
                have hm6 : m < stepsN s f := by unfold stepsN; omega
                have hto : ((f + L + m : Nat) : Int) = (f : Int) + s.least + (m : Int) := by omega
                have hto2 : f + L + m ≤ 200 := by omega
                have hmb := hmB (s.n.toNat - (k + 1)) ((f + L + m : Nat) : Int)
                have hsb := sold_B10 hB s.gap f ((f + L + m : Nat) : Int)
                have hn8 : ((s.n.toNat - (k + 1) : Nat) : Int) ≤ 8 := by omega
                refine AWp.skip ?_
                refine AWp.seq ?_
                refine AWp.block ?_
                refine AWp.seq ?_
                refine AWp.region ?_
                refine AList.c 77 rfl rfl rfl (OpJ.move rfl rfl) ?_
                refine AList.c 78 rfl rfl rfl (OpJ.move rfl rfl) ?_
                refine AList.c 79 rfl rfl rfl (OpJ.add (m := ((k + 1 : Nat) : Int)) rfl rfl rfl ((i64ok ?_).trans ?_)) ?_
                · omega
                · omega
                refine AList.c 80 rfl rfl rfl (OpJ.indexRow (k := (k + 1)) rfl rfl rfl sl114 el114 (by omega)) ?_
                refine AList.c 81 rfl rfl rfl (OpJ.loadCell (k := (k + 1)) (v := (rowV (ls.map (toB c)) s (s.n.toNat - (k + 1)))) rfl rfl ty34 rfl (Nat.mul_one _) (ocV_after (ls.map (toB c)) s _ (Nat.lt_succ_self k) hg)) ?_
                refine AList.c 82 rfl rfl rfl (OpJ.move rfl rfl) ?_
                refine AList.c 83 rfl rfl rfl (OpJ.indexG (g := (fun i => mostF (ls.map (toB c)) s (s.n.toNat - (k + 1)) ((i : Nat) : Int))) (rowL_get (ls.map (toB c)) s (s.n.toNat - (k + 1)) 201) rfl rfl rfl sl34 el34 (rowL_len (ls.map (toB c)) s (s.n.toNat - (k + 1)) 201).symm (fun _ => rfl) (by decide) (by rw [rowL_len]; omega)) ?_
                refine AList.c 84 rfl rfl rfl (OpJ.load rfl rfl ty3 rfl) ?_
                refine AList.c 85 rfl rfl rfl (OpJ.geq rfl rfl rfl) ?_
                refine AList.nil ?_
                refine AWp.cond _ rfl (fun hc7 => ?_) (fun hc7 => ?_)
                · skip
                  have hq7 := of_decide_eq_true hc7
                  have hF : rstF (ls.map (toB c)) s (s.n.toNat - (k + 1)) f ((f : Int) + s.least + m) = mostF (ls.map (toB c)) s (s.n.toNat - (k + 1)) ((f + L + m : Nat) : Int) + soldF (ls.map (toB c)) s.gap f ((f + L + m : Nat) : Int) := by rw [← hto]; unfold rstF; rw [if_neg (by omega)]
                  have eX : mxF (rstF (ls.map (toB c)) s (s.n.toNat - (k + 1)) ((f : Nat) : Int)) (f + s.least) (m + 1) = max (mxF (rstF (ls.map (toB c)) s (s.n.toNat - (k + 1)) ((f : Nat) : Int)) (f + s.least) m) (mostF (ls.map (toB c)) s (s.n.toNat - (k + 1)) ((f + L + m : Nat) : Int) + soldF (ls.map (toB c)) s.gap f ((f + L + m : Nat) : Int)) := by show (if _ then _ else _) = _; rw [hF, if_neg (by omega)]
                  refine AWp.regionDraw 19 mixed (by kernel_rfl) (by decide) ?_
                  refine AQuiet.cons 86 rfl rfl rfl (OpJ.move rfl rfl) ?_
                  refine AQuiet.cons 87 rfl rfl rfl (OpJ.move rfl rfl) ?_
                  refine AQuiet.cons 88 rfl rfl rfl (OpJ.move rfl rfl) ?_
                  refine AQuiet.cons 89 rfl rfl rfl (OpJ.add (m := ((k + 1 : Nat) : Int)) rfl rfl rfl ((i64ok ?_).trans ?_)) ?_
                  · omega
                  · omega
                  refine AQuiet.cons 90 rfl rfl rfl (OpJ.indexRow (k := (k + 1)) rfl rfl rfl sl114 el114 (by omega)) ?_
                  refine AQuiet.cons 91 rfl rfl rfl (OpJ.loadCell (k := (k + 1)) (v := (rowV (ls.map (toB c)) s (s.n.toNat - (k + 1)))) rfl rfl ty34 rfl (Nat.mul_one _) (ocV_after (ls.map (toB c)) s _ (Nat.lt_succ_self k) hg)) ?_
                  refine AQuiet.cons 92 rfl rfl rfl (OpJ.move rfl rfl) ?_
                  refine AQuiet.cons 93 rfl rfl rfl (OpJ.indexG (g := (fun i => mostF (ls.map (toB c)) s (s.n.toNat - (k + 1)) ((i : Nat) : Int))) (rowL_get (ls.map (toB c)) s (s.n.toNat - (k + 1)) 201) rfl rfl rfl sl34 el34 (rowL_len (ls.map (toB c)) s (s.n.toNat - (k + 1)) 201).symm (fun _ => rfl) (by decide) (by rw [rowL_len]; omega)) ?_
                  refine AQuiet.cons 94 rfl rfl rfl (OpJ.load rfl rfl ty3 rfl) ?_
                  refine AQuiet.cons 95 rfl rfl rfl (OpJ.move rfl rfl) ?_
                  refine AQuiet.cons 96 rfl rfl rfl (OpJ.move rfl rfl) ?_
                  refine AQuiet.cons 97 rfl rfl rfl (OpJ.fieldAddr rfl rfl fd41_3 rfl) ?_
                  refine AQuiet.cons 98 rfl rfl rfl (OpJ.load rfl rfl ty3 rfl) ?_
                  refine AQuiet.cons 99 rfl rfl rfl (OpJ.move rfl rfl) ?_
                  refine AQuiet.cons 100 rfl rfl rfl (OpJ.move rfl rfl) ?_
                  refine AQuiet.cons 101 rfl rfl rfl (OpJ.callP (rsold_ok c ls s.gap f ((f + L + m : Nat) : Int) hB (by omega) (by omega)) rfl rfl rfl rfl rf61) ?_
                  refine AQuiet.cons 102 rfl rfl rfl (OpJ.add rfl rfl rfl (i64ok ?_)) ?_
                  · omega
                  refine AQuiet.cons 103 rfl rfl rfl (OpJ.max2 rfl rfl rfl) ?_
                  refine AQuiet.cons 14 rfl rfl rfl (OpJ.assign rfl rfl) ?_
                  refine AQuiet.nil ?_
                  refine AList.nil ?_
                  refine AWp.region ?_
                  refine AList.c 75 rfl rfl rfl (OpJ.move rfl rfl) ?_
                  refine AList.c 76 rfl rfl rfl (OpJ.add (m := ((f + L + m + 1 : Nat) : Int)) rfl rfl rfl ((i64ok ?_).trans ?_)) ?_
                  · omega
                  · omega
                  refine AList.c 15 rfl rfl rfl (OpJ.assign rfl rfl) ?_
                  refine AList.nil ?_
                  refine ⟨m + 1, ?_, ?_, ?_⟩
                  · omega
                  · omega
                  exact To.sub (Sub.cons (by rw [eX]; rfl) (Sub.cons rfl (by repeat (first | exact Sub.nil | refine Sub.cons rfl ?_))))
                · skip
                  have hq7 := of_decide_eq_false hc7
                  have hF : rstF (ls.map (toB c)) s (s.n.toNat - (k + 1)) f ((f : Int) + s.least + m) = -1 := by rw [← hto]; unfold rstF; rw [if_pos (by omega)]
                  have eX : mxF (rstF (ls.map (toB c)) s (s.n.toNat - (k + 1)) ((f : Nat) : Int)) (f + s.least) (m + 1) = mxF (rstF (ls.map (toB c)) s (s.n.toNat - (k + 1)) ((f : Nat) : Int)) (f + s.least) m := if_pos hF
                  refine AWp.skip ?_
                  refine AWp.region ?_
                  refine AList.c 75 rfl rfl rfl (OpJ.move rfl rfl) ?_
                  refine AList.c 76 rfl rfl rfl (OpJ.add (m := ((f + L + m + 1 : Nat) : Int)) rfl rfl rfl ((i64ok ?_).trans ?_)) ?_
                  · omega
                  · omega
                  refine AList.c 15 rfl rfl rfl (OpJ.assign rfl rfl) ?_
                  refine AList.nil ?_
                  refine ⟨m + 1, ?_, ?_, ?_⟩
                  · omega
                  · omega
                  exact To.sub (Sub.cons (by rw [eX]; rfl) (Sub.cons rfl (by repeat (first | exact Sub.nil | refine Sub.cons rfl ?_))))
              · skip
                have hmq := of_decide_eq_false hc6
                have hm7 : stepsN s f ≤ m := by unfold stepsN; omega
                have hm8 : m = stepsN s f := by omega
                rw [hm8, mxF_most hB s, show s.n.toNat - (k + 1) + 1 = s.n.toNat - k by omega]
                refine AWp.exit ?_
                refine AWp.region ?_
                refine AList.c 104 rfl rfl rfl (OpJ.move rfl rfl) ?_
                refine AList.c 105 rfl rfl rfl (OpJ.move rfl rfl) ?_
                refine AList.c 106 rfl rfl rfl (OpJ.move rfl rfl) ?_
                refine AList.c 107 rfl rfl rfl (OpJ.move rfl rfl) ?_
                refine AList.c 108 rfl rfl rfl (OpJ.indexRow (k := k) rfl rfl rfl sl114 el114 (by omega)) ?_
                refine AList.c 109 rfl rfl rfl (OpJ.loadCell (k := k) (v := (accV 1 f)) rfl rfl ty34 rfl (Nat.mul_one _) (ocV_at (ls.map (toB c)) s s.n.toNat k _)) ?_
                refine AList.c 110 rfl rfl rfl (OpJ.move rfl rfl) ?_
                refine AList.c 111 rfl rfl rfl (OpJ.buildImm rfl slz34 (by decide) rfl rfl rfl) ?_
                refine AList.c 112 rfl rfl rfl (OpJ.appendAcc rfl rfl rfl slz34 sl34 rfl ?_ rfl (by decide) rfl by3 (by decide) ?_) ?_
                · rw [List.length_map, flat_len (c := 1) (fun _ => rfl), rowL_len]; rfl
                · show (2 * (f + 1) + 192) * 8 ≤ 281474976710656; omega
                refine AList.c 113 rfl rfl rfl (OpJ.indexRow (k := k) rfl rfl rfl sl114 el114 (by omega)) ?_
                refine AList.c0 rfl rfl (OpJ.storeCell (k := k) rfl rfl rfl rfl rfl rfl ty34 rfl rfl (Nat.mul_one _) (by rw [ocV_len (ls.map (toB c)) s (by omega)]; omega)) ?_
                refine AList.nil ?_
                refine AWp.region ?_
                refine AList.c 62 rfl rfl rfl (OpJ.move rfl rfl) ?_
                refine AList.c 63 rfl rfl rfl (OpJ.add rfl rfl rfl (i64ok ?_)) ?_
                · omega
                refine AList.c 13 rfl rfl rfl (OpJ.assign rfl rfl) ?_
                refine AList.nil ?_
                refine ⟨f + 1, ?_, ?_, ?_⟩
                · omega
                · omega
                refine To.done [0, 2] rfl (by repeat (first | exact Sub.nil | refine Sub.cons rfl ?_)) ?_
                show [Blk.row (renL _ (List.set _ _ _)) _, Blk.row (renL _ (_ ++ _)) _] = [Blk.row _ _, Blk.row _ _]
                rw [ocV_set, ocV_ren, renL_app, renL_pure, rowL_succ, List.flatMap_append, List.map_append]
                rfl
            · skip
              obtain rfl : f = 201 := by have h := of_decide_eq_false hc5; omega
              refine AWp.to (To.eqH (H3 := [.row (ocV (ls.map (toB c)) s s.n.toNat k (rowV (ls.map (toB c)) s (s.n.toNat - k))) 34, .dead]) (To.frzB 1 0 (xs := (rowL (ls.map (toB c)) s (s.n.toNat - k) 201).flatMap i1) (by decide) rfl (allP_map _) rfl) (by show [Blk.row (frzL 1 _ (ocV _ _ _ _ _)) _, Blk.dead] = _; rw [ocV_frz]; rfl)) ?_
              refine AWp.exit ?_
              refine AWp.region ?_
              refine AList.c 58 rfl rfl rfl (OpJ.move rfl rfl) ?_
              refine AList.c 59 rfl rfl rfl (OpJ.sub_ rfl rfl rfl (i64ok ?_)) ?_
              · omega
              refine AList.c 12 rfl rfl rfl (OpJ.assign rfl rfl) ?_
              refine AList.nil ?_
              refine ⟨k, ?_, ?_, ?_⟩
              · omega
              · omega
              exact To.done [0] rfl (by repeat (first | exact Sub.nil | refine Sub.cons rfl ?_)) (by show [Blk.row (renL _ _) _] = _; rw [ocV_ren]; rfl)
          · skip
            have hk0 : q = 0 := by have h := of_decide_eq_false hc4; omega
            subst hk0
            refine AWp.exit ?_
            refine AWp.seq ?_
            refine AWp.region ?_
            refine AList.c 16 rfl rfl rfl (OpJ.assign rfl rfl) ?_
            refine AList.nil ?_
            refine AWp.seq ?_
            refine AWp.seq ?_
            refine AWp.region ?_
            refine AList.c 17 rfl rfl rfl (OpJ.assign rfl rfl) ?_
            refine AList.nil ?_
            refine AWp.block ?_
            refine AWp.loopHL [1, 5, 9, 11, 18, 19, 20, 21, 132, 133, 134, 135, 136, 137, 138, 139, 140, 141, 142, 143, 144, 145, 146, 147, 148, 149, 150, 151, 152, 153, 154, 155, 156, 157, 158, 159, 160, 161, 162, 163, 164, 165, 166, 167, 168, 169, 170, 171, 172, 173, 174, 175, 176, 177, 178, 179, 180, 181, 182, 183, 184, 185, 186, 187, 188, 189, 190, 191, 192, 193, 194, 195] (fun g => [(17, .p (.int .i64 ((g : Nat) : Int))), (16, .p (.int .i64 ((argN (mostF (ls.map (toB c)) s s.n.toNat) g : Nat) : Int)))]) (fun g => [.row (ocV (ls.map (toB c)) s s.n.toNat 0 (rowV (ls.map (toB c)) s (s.n.toNat - 0))) 34]) (fun g => g ≤ 201) (fun g => 201 - g) 0 (Nat.zero_le _) (To.sub (Sub.chk (Sub.cons rfl (Sub.cons rfl (Sub.nil))))) (fun i hg => ?_)
            refine AWp.seq ?_
            refine AWp.seq ?_
            refine AWp.region ?_
            refine AList.c 114 rfl rfl rfl (OpJ.move rfl rfl) ?_
            refine AList.c 115 rfl rfl rfl (OpJ.leq rfl rfl rfl) ?_
            refine AList.nil ?_
            refine AWp.cond _ rfl (fun hc8 => ?_) (fun hc8 => ?_)
            · skip
              have hi2 : i ≤ 200 := by have h := of_decide_eq_true hc8; omega
              have hal := argN_le (mostF (ls.map (toB c)) s s.n.toNat) i
              refine AWp.skip ?_
              refine AWp.seq ?_
              refine AWp.block ?_
              refine AWp.seq ?_
              refine AWp.regionDraw 13 mixed (by kernel_rfl) (by decide) ?_
              refine AQuiet.cons 118 rfl rfl rfl (OpJ.move rfl rfl) ?_
              refine AQuiet.cons 119 rfl rfl rfl (OpJ.indexRow (k := 0) rfl rfl rfl sl114 el114 (by omega)) ?_
              refine AQuiet.cons 120 rfl rfl rfl (OpJ.loadCell (k := 0) (v := (rowV (ls.map (toB c)) s (s.n.toNat - 0))) rfl rfl ty34 rfl (Nat.mul_one _) (ocV_any (ls.map (toB c)) s (Nat.zero_le _))) ?_
              refine AQuiet.cons 121 rfl rfl rfl (OpJ.move rfl rfl) ?_
              refine AQuiet.cons 122 rfl rfl rfl (OpJ.indexG (g := (fun i => mostF (ls.map (toB c)) s (s.n.toNat - 0) ((i : Nat) : Int))) (rowL_get (ls.map (toB c)) s (s.n.toNat - 0) 201) rfl rfl rfl sl34 el34 (rowL_len (ls.map (toB c)) s (s.n.toNat - 0) 201).symm (fun _ => rfl) (by decide) (by rw [rowL_len]; omega)) ?_
              refine AQuiet.cons 123 rfl rfl rfl (OpJ.load rfl rfl ty3 rfl) ?_
              refine AQuiet.cons 124 rfl rfl rfl (OpJ.move rfl rfl) ?_
              refine AQuiet.cons 125 rfl rfl rfl (OpJ.indexRow (k := 0) rfl rfl rfl sl114 el114 (by omega)) ?_
              refine AQuiet.cons 126 rfl rfl rfl (OpJ.loadCell (k := 0) (v := (rowV (ls.map (toB c)) s (s.n.toNat - 0))) rfl rfl ty34 rfl (Nat.mul_one _) (ocV_any (ls.map (toB c)) s (Nat.zero_le _))) ?_
              refine AQuiet.cons 127 rfl rfl rfl (OpJ.move rfl rfl) ?_
              refine AQuiet.cons 128 rfl rfl rfl (OpJ.indexG (g := (fun i => mostF (ls.map (toB c)) s (s.n.toNat - 0) ((i : Nat) : Int))) (rowL_get (ls.map (toB c)) s (s.n.toNat - 0) 201) rfl rfl rfl sl34 el34 (rowL_len (ls.map (toB c)) s (s.n.toNat - 0) 201).symm (fun _ => rfl) (by decide) (by rw [rowL_len]; omega)) ?_
              refine AQuiet.cons 129 rfl rfl rfl (OpJ.load rfl rfl ty3 rfl) ?_
              refine AQuiet.cons 130 rfl rfl rfl (OpJ.gtr rfl rfl rfl) ?_
              refine AQuiet.nil ?_
              refine AList.nil ?_
              refine AWp.cond _ rfl (fun hc9 => ?_) (fun hc9 => ?_)
              · skip
                have eA : argN (mostF (ls.map (toB c)) s s.n.toNat) (i + 1) = i := if_pos (of_decide_eq_true hc9)
                refine AWp.region ?_
                refine AList.c 131 rfl rfl rfl (OpJ.move rfl rfl) ?_
                refine AList.c 16 rfl rfl rfl (OpJ.assign rfl rfl) ?_
                refine AList.nil ?_
                refine AWp.region ?_
                refine AList.c 116 rfl rfl rfl (OpJ.move rfl rfl) ?_
                refine AList.c 117 rfl rfl rfl (OpJ.add rfl rfl rfl (i64ok ?_)) ?_
                · omega
                refine AList.c 17 rfl rfl rfl (OpJ.assign rfl rfl) ?_
                refine AList.nil ?_
                refine ⟨i + 1, ?_, ?_, ?_⟩
                · omega
                · omega
                exact To.sub (Sub.cons rfl (Sub.cons (by rw [eA]; rfl) (by repeat (first | exact Sub.nil | refine Sub.cons rfl ?_))))
              · skip
                have eA : argN (mostF (ls.map (toB c)) s s.n.toNat) (i + 1) = argN (mostF (ls.map (toB c)) s s.n.toNat) i := if_neg (of_decide_eq_false hc9)
                refine AWp.skip ?_
                refine AWp.region ?_
                refine AList.c 116 rfl rfl rfl (OpJ.move rfl rfl) ?_
                refine AList.c 117 rfl rfl rfl (OpJ.add rfl rfl rfl (i64ok ?_)) ?_
                · omega
                refine AList.c 17 rfl rfl rfl (OpJ.assign rfl rfl) ?_
                refine AList.nil ?_
                refine ⟨i + 1, ?_, ?_, ?_⟩
                · omega
                · omega
                exact To.sub (Sub.cons rfl (Sub.cons (by rw [eA]; rfl) (by repeat (first | exact Sub.nil | refine Sub.cons rfl ?_))))
            · skip
              obtain rfl : i = 201 := by have h := of_decide_eq_false hc8; omega
              have hal : argN (mostF (ls.map (toB c)) s s.n.toNat) 201 ≤ 200 := argN_lt (mostF (ls.map (toB c)) s s.n.toNat) 200
              have hac := arg_cut hB s
              refine AWp.exit ?_
              refine AWp.seq ?_
              refine AWp.region ?_
              refine AList.c 132 rfl rfl rfl (OpJ.move rfl rfl) ?_
              refine AList.c 133 rfl rfl rfl (OpJ.indexRow (k := 0) rfl rfl rfl sl114 el114 (by omega)) ?_
              refine AList.c 134 rfl rfl rfl (OpJ.loadCell (k := 0) (v := (rowV (ls.map (toB c)) s (s.n.toNat - 0))) rfl rfl ty34 rfl (Nat.mul_one _) (ocV_any (ls.map (toB c)) s (Nat.zero_le _))) ?_
              refine AList.c 135 rfl rfl rfl (OpJ.move rfl rfl) ?_
              refine AList.c 136 rfl rfl rfl (OpJ.indexG (g := (fun i => mostF (ls.map (toB c)) s (s.n.toNat - 0) ((i : Nat) : Int))) (rowL_get (ls.map (toB c)) s (s.n.toNat - 0) 201) rfl rfl rfl sl34 el34 (rowL_len (ls.map (toB c)) s (s.n.toNat - 0) 201).symm (fun _ => rfl) (by decide) (by rw [rowL_len]; omega)) ?_
              refine AList.c 137 rfl rfl rfl (OpJ.load rfl rfl ty3 rfl) ?_
              refine AList.c 18 rfl rfl rfl (OpJ.assign rfl rfl) ?_
              refine AList.nil ?_
              refine AWp.seq ?_
              refine AWp.seq ?_
              refine AWp.region ?_
              refine AList.c 138 rfl rfl rfl (OpJ.move rfl rfl) ?_
              refine AList.c 139 rfl rfl rfl (OpJ.lss rfl rfl rfl) ?_
              refine AList.nil ?_
              refine AWp.cond _ rfl (fun hc10 => ?_) (fun hc10 => ?_)
              · skip
                have hq10 : mostF (ls.map (toB c)) s s.n.toNat ((argN (mostF (ls.map (toB c)) s s.n.toNat) 201 : Nat) : Int) < 0 := of_decide_eq_true hc10
                have hi : (cutB (ls.map (toB c)) s).2.2 = false := by
                  cases h : (cutB (ls.map (toB c)) s).2.2 with
                  | false => rfl
                  | true =>
                    have h1 := cut_first hB h
                    have h2 := hac.1 h
                    have h3 := hmB s.n.toNat (cutB (ls.map (toB c)) s).2.1
                    omega
                refine AWp.seq ?_
                refine AWp.region ?_
                refine AList.c 6 rfl rfl rfl (OpJ.assign rfl rfl) ?_
                refine AList.c 7 rfl rfl rfl (OpJ.assign rfl rfl) ?_
                refine AList.c 8 rfl rfl rfl (OpJ.assign rfl rfl) ?_
                refine AList.nil ?_
                refine AWp.to (To.nilIs 6 rfl) ?_
                refine AWp.ret ?_
                have eR : cutR c ls s = ([], 0, 4) := by unfold cutR; rw [if_pos e2, if_neg (by rw [hi]; decide)]
                rw [eR]
                exact Fin.many (xs := [intsV [], .int .i64 0, .int .i64 4]) rfl (⟨_, _, rfl, rfl, ⟨_, _, rfl, rfl, ⟨_, _, rfl, rfl, rfl⟩⟩⟩) rfl
              · skip
                have hq10 : ¬ mostF (ls.map (toB c)) s s.n.toNat ((argN (mostF (ls.map (toB c)) s s.n.toNat) 201 : Nat) : Int) < 0 := of_decide_eq_false hc10
                have hi : (cutB (ls.map (toB c)) s).2.2 = true := by
                  cases h : (cutB (ls.map (toB c)) s).2.2 with
                  | true => rfl
                  | false => have := hac.2 h; omega
                have h2 := hac.1 hi
                have hf := cut_first hB hi
                obtain ⟨F0, hF0⟩ : ∃ F0, F0 = (cutB (ls.map (toB c)) s).2.1 := ⟨_, rfl⟩
                have eM : mostF (ls.map (toB c)) s (s.n.toNat - 0) ((argN (mostF (ls.map (toB c)) s s.n.toNat) 201 : Nat) : Int) = (cutB (ls.map (toB c)) s).1 := h2.2.symm
                rw [eM]
                rw [← hF0] at h2 hf
                rw [h2.1]
                have hfN := frN_ok hB hZ hf.1.1 hf.1.2 hf.2.1
                have hfX := fun (k : Nat) (hk : k < s.n.toNat) => frN_next hB hZ hf.1.1 hf.1.2 hf.2.1 hk
                refine AWp.skip ?_
                refine AWp.seq ?_
                refine AWp.region ?_
                refine AList.c 140 rfl rfl rfl (OpJ.move rfl rfl) ?_
                refine AList.c 141 rfl rfl rfl (OpJ.buildOwn rfl slz34 (by decide) rfl rfl) ?_
                refine AList.c 19 rfl rfl rfl (OpJ.assign rfl rfl) ?_
                refine AList.nil ?_
                refine AWp.seq ?_
                refine AWp.seq ?_
                refine AWp.region ?_
                refine AList.c 20 rfl rfl rfl (OpJ.assign rfl rfl) ?_
                refine AList.nil ?_
                refine AWp.block ?_
                refine AWp.loopHL [1, 5, 9, 11, 18, 194, 195] (fun g => [(20, .p (.int .i64 ((g : Nat) : Int))), (16, .p (.int .i64 (frN (ls.map (toB c)) s F0 g))), (19, accV 1 (g + 1))]) (fun g => [.row (ocV (ls.map (toB c)) s s.n.toNat 0 (rowV (ls.map (toB c)) s (s.n.toNat - 0))) 34, accB (((cutL (ls.map (toB c)) s F0 g).flatMap i1).map .p) 3 (g + 1)]) (fun g => g ≤ s.n.toNat) (fun g => s.n.toNat - g) 0 (Nat.zero_le _) (To.sub (Sub.chk (Sub.cons rfl (Sub.cons rfl (Sub.cons rfl (Sub.nil)))))) (fun k hg => ?_)
                have hfn := hfN k hg
                obtain ⟨u, hu⟩ : ∃ u : Nat, (frN (ls.map (toB c)) s F0 k) = (u : Int) := ⟨(frN (ls.map (toB c)) s F0 k).toNat, by omega⟩
                rw [hu]
                refine AWp.seq ?_
                refine AWp.seq ?_
                refine AWp.region ?_
                refine AList.c 142 rfl rfl rfl (OpJ.move rfl rfl) ?_
                refine AList.c 143 rfl rfl rfl (OpJ.fieldAddr rfl rfl fd41_0 rfl) ?_
                refine AList.c 144 rfl rfl rfl (OpJ.load rfl rfl ty3 rfl) ?_
                refine AList.c 145 rfl rfl rfl (OpJ.lss rfl rfl rfl) ?_
                refine AList.nil ?_
                refine AWp.cond _ rfl (fun hc11 => ?_) (fun hc11 => ?_)
                · skip
                  have hk0 : k < s.n.toNat := by have h := of_decide_eq_true hc11; omega
                  have hx := hfX k hk0
                  have hfn2 := hfN (k + 1) (by omega)
                  refine AWp.skip ?_
                  refine AWp.seq ?_
                  refine AWp.block ?_
                  refine AWp.seq ?_
                  refine AWp.region ?_
                  refine AList.c 148 rfl rfl rfl (OpJ.move rfl rfl) ?_
                  refine AList.c 149 rfl rfl rfl (OpJ.fieldAddr rfl rfl fd41_1 rfl) ?_
                  refine AList.c 150 rfl rfl rfl (OpJ.load rfl rfl ty3 rfl) ?_
                  refine AList.c 151 rfl rfl rfl (OpJ.add (m := ((u + L : Nat) : Int)) rfl rfl rfl ((i64ok ?_).trans ?_)) ?_
                  · omega
                  · omega
                  refine AList.c 21 rfl rfl rfl (OpJ.assign rfl rfl) ?_
                  refine AList.nil ?_
                  refine AWp.seq ?_
                  refine AWp.block ?_
                  refine AWp.loopHL [1, 5, 9, 11, 16, 18, 19, 20, 142, 143, 144, 145, 146, 147, 148, 149, 150, 151, 189, 190, 191, 192, 193, 194, 195] (fun g => [(21, .p (.int .i64 ((u + L + g : Nat) : Int)))]) (fun g => [.row (ocV (ls.map (toB c)) s s.n.toNat 0 (rowV (ls.map (toB c)) s (s.n.toNat - 0))) 34, accB (((cutL (ls.map (toB c)) s F0 k).flatMap i1).map .p) 3 (k + 1)]) (fun g => ∀ j : Nat, j < g → mostF (ls.map (toB c)) s (s.n.toNat - (k + 1)) ((frN (ls.map (toB c)) s F0 k) + s.least + j) = -1 ∨ mostF (ls.map (toB c)) s (s.n.toNat - (k + 1)) ((frN (ls.map (toB c)) s F0 k) + s.least + j) + soldF (ls.map (toB c)) s.gap (frN (ls.map (toB c)) s F0 k) ((frN (ls.map (toB c)) s F0 k) + s.least + j) ≠ mostF (ls.map (toB c)) s (s.n.toNat - k) (frN (ls.map (toB c)) s F0 k)) (fun g => 201 - (u + L + g)) 0 (fun j hj => absurd hj (by omega)) (To.sub (Sub.chk (Sub.cons rfl (Sub.nil)))) (fun i hh => ?_)
                  have hnx := next_cut hB hZ hf.1.1 hf.1.2 hf.2.1 hk0 hh
                  have hto : ((u + L + i : Nat) : Int) = (frN (ls.map (toB c)) s F0 k) + s.least + (i : Int) := by omega
                  have hto2 : u + L + i ≤ 200 := by omega
                  have hmb := hmB (s.n.toNat - (k + 1)) ((u + L + i : Nat) : Int)
                  have hsb := sold_B10 hB s.gap u ((u + L + i : Nat) : Int)
                  have hn8 : ((s.n.toNat - (k + 1) : Nat) : Int) ≤ 8 := by omega
                  refine AWp.seq ?_
                  refine AWp.seq ?_
                  refine AWp.regionDraw 35 mixed (by kernel_rfl) (by decide) ?_
                  refine AQuiet.cons 152 rfl rfl rfl (OpJ.move rfl rfl) ?_
                  refine AQuiet.cons 153 rfl rfl rfl (OpJ.move rfl rfl) ?_
                  refine AQuiet.cons 154 rfl rfl rfl (OpJ.add (m := ((k + 1 : Nat) : Int)) rfl rfl rfl ((i64ok ?_).trans ?_)) ?_
                  · omega
                  · omega
                  refine AQuiet.cons 155 rfl rfl rfl (OpJ.indexRow (k := (k + 1)) rfl rfl rfl sl114 el114 (by omega)) ?_
                  refine AQuiet.cons 156 rfl rfl rfl (OpJ.loadCell (k := (k + 1)) (v := (rowV (ls.map (toB c)) s (s.n.toNat - (k + 1)))) rfl rfl ty34 rfl (Nat.mul_one _) (ocV_any (ls.map (toB c)) s hk0)) ?_
                  refine AQuiet.cons 157 rfl rfl rfl (OpJ.move rfl rfl) ?_
                  refine AQuiet.cons 158 rfl rfl rfl (OpJ.indexG (g := (fun i => mostF (ls.map (toB c)) s (s.n.toNat - (k + 1)) ((i : Nat) : Int))) (rowL_get (ls.map (toB c)) s (s.n.toNat - (k + 1)) 201) rfl rfl rfl sl34 el34 (rowL_len (ls.map (toB c)) s (s.n.toNat - (k + 1)) 201).symm (fun _ => rfl) (by decide) (by rw [rowL_len]; omega)) ?_
                  refine AQuiet.cons 159 rfl rfl rfl (OpJ.load rfl rfl ty3 rfl) ?_
                  refine AQuiet.cons 160 rfl rfl rfl (OpJ.lss rfl rfl rfl) ?_
                  refine AQuiet.cons 161 rfl rfl rfl (OpJ.move rfl rfl) ?_
                  refine AQuiet.guard 162 161 rfl rfl rfl rfl rfl rfl rfl [(11, _)] (fun h => And.intro (.inl rfl) (trivial)) (fun h => (OpJ.move rfl rfl)) ?_
                  refine AQuiet.guard 163 161 rfl rfl rfl rfl rfl rfl rfl [(20, _)] (fun h => And.intro (.inl rfl) (trivial)) (fun h => (OpJ.move rfl rfl)) ?_
                  refine AQuiet.guard 164 161 rfl rfl rfl rfl rfl rfl rfl [(163, _)] (fun h => And.intro (.inr ⟨_, rfl, h⟩) (trivial)) (fun h => (OpJ.add (m := ((k + 1 : Nat) : Int)) rfl rfl rfl ((i64ok (by omega)).trans (by omega)))) ?_
                  refine AQuiet.guard 165 161 rfl rfl rfl rfl rfl rfl rfl [(162, _), (164, _)] (fun h => And.intro (.inr ⟨_, rfl, h⟩) (And.intro (.inr ⟨_, rfl, h⟩) (trivial))) (fun h => (OpJ.indexRow (k := (k + 1)) rfl rfl rfl sl114 el114 (by omega))) ?_
                  refine AQuiet.guard 166 161 rfl rfl rfl rfl rfl rfl rfl [(165, _)] (fun h => And.intro (.inr ⟨_, rfl, h⟩) (trivial)) (fun h => (OpJ.loadCell (k := (k + 1)) (v := (rowV (ls.map (toB c)) s (s.n.toNat - (k + 1)))) rfl rfl ty34 rfl (Nat.mul_one _) (ocV_any (ls.map (toB c)) s hk0))) ?_
                  refine AQuiet.guard 167 161 rfl rfl rfl rfl rfl rfl rfl [(21, _)] (fun h => And.intro (.inl rfl) (trivial)) (fun h => (OpJ.move rfl rfl)) ?_
                  refine AQuiet.guard 168 161 rfl rfl rfl rfl rfl rfl rfl [(166, _), (167, _)] (fun h => And.intro (.inr ⟨_, rfl, h⟩) (And.intro (.inr ⟨_, rfl, h⟩) (trivial))) (fun h => (OpJ.indexG (g := (fun i => mostF (ls.map (toB c)) s (s.n.toNat - (k + 1)) ((i : Nat) : Int))) (rowL_get (ls.map (toB c)) s (s.n.toNat - (k + 1)) 201) rfl rfl rfl sl34 el34 (rowL_len (ls.map (toB c)) s (s.n.toNat - (k + 1)) 201).symm (fun _ => rfl) (by decide) (by rw [rowL_len]; omega))) ?_
                  refine AQuiet.guard 169 161 rfl rfl rfl rfl rfl rfl rfl [(168, _)] (fun h => And.intro (.inr ⟨_, rfl, h⟩) (trivial)) (fun h => (OpJ.load rfl rfl ty3 rfl)) ?_
                  refine AQuiet.guard 170 161 rfl rfl rfl rfl rfl rfl rfl [(1, _)] (fun h => And.intro (.inl rfl) (trivial)) (fun h => (OpJ.move rfl rfl)) ?_
                  refine AQuiet.guard 171 161 rfl rfl rfl rfl rfl rfl rfl [(9, _)] (fun h => And.intro (.inl rfl) (trivial)) (fun h => (OpJ.move rfl rfl)) ?_
                  refine AQuiet.guard 172 161 rfl rfl rfl rfl rfl rfl rfl [(5, _)] (fun h => And.intro (.inl rfl) (trivial)) (fun h => (OpJ.fieldAddr rfl rfl fd41_3 rfl)) ?_
                  refine AQuiet.guard 173 161 rfl rfl rfl rfl rfl rfl rfl [(172, _)] (fun h => And.intro (.inr ⟨_, rfl, h⟩) (trivial)) (fun h => (OpJ.load rfl rfl ty3 rfl)) ?_
                  refine AQuiet.guard 174 161 rfl rfl rfl rfl rfl rfl rfl [(16, _)] (fun h => And.intro (.inl rfl) (trivial)) (fun h => (OpJ.move rfl rfl)) ?_
                  refine AQuiet.guard 175 161 rfl rfl rfl rfl rfl rfl rfl [(21, _)] (fun h => And.intro (.inl rfl) (trivial)) (fun h => (OpJ.move rfl rfl)) ?_
                  refine AQuiet.guard 176 161 rfl rfl rfl rfl rfl rfl rfl [(170, _), (171, _), (173, _), (174, _), (175, _)] (fun h => And.intro (.inr ⟨_, rfl, h⟩) (And.intro (.inr ⟨_, rfl, h⟩) (And.intro (.inr ⟨_, rfl, h⟩) (And.intro (.inr ⟨_, rfl, h⟩) (And.intro (.inr ⟨_, rfl, h⟩) (trivial)))))) (fun h => (OpJ.callP (rsold_ok c ls s.gap u ((u + L + i : Nat) : Int) hB (by omega) (by omega)) rfl rfl rfl rfl rf61)) ?_
                  refine AQuiet.guard 177 161 rfl rfl rfl rfl rfl rfl rfl [(169, _), (176, _)] (fun h => And.intro (.inr ⟨_, rfl, h⟩) (And.intro (.inr ⟨_, rfl, h⟩) (trivial))) (fun h => (OpJ.add rfl rfl rfl (i64ok (by omega)))) ?_
                  refine AQuiet.guard 178 161 rfl rfl rfl rfl rfl rfl rfl [(11, _)] (fun h => And.intro (.inl rfl) (trivial)) (fun h => (OpJ.move rfl rfl)) ?_
                  refine AQuiet.guard 179 161 rfl rfl rfl rfl rfl rfl rfl [(20, _)] (fun h => And.intro (.inl rfl) (trivial)) (fun h => (OpJ.move rfl rfl)) ?_
                  refine AQuiet.guard 180 161 rfl rfl rfl rfl rfl rfl rfl [(178, _), (179, _)] (fun h => And.intro (.inr ⟨_, rfl, h⟩) (And.intro (.inr ⟨_, rfl, h⟩) (trivial))) (fun h => (OpJ.indexRow (k := k) rfl rfl rfl sl114 el114 (by omega))) ?_
                  refine AQuiet.guard 181 161 rfl rfl rfl rfl rfl rfl rfl [(180, _)] (fun h => And.intro (.inr ⟨_, rfl, h⟩) (trivial)) (fun h => (OpJ.loadCell (k := k) (v := (rowV (ls.map (toB c)) s (s.n.toNat - k))) rfl rfl ty34 rfl (Nat.mul_one _) (ocV_any (ls.map (toB c)) s (Nat.le_of_lt hk0)))) ?_
                  refine AQuiet.guard 182 161 rfl rfl rfl rfl rfl rfl rfl [(16, _)] (fun h => And.intro (.inl rfl) (trivial)) (fun h => (OpJ.move rfl rfl)) ?_
                  refine AQuiet.guard 183 161 rfl rfl rfl rfl rfl rfl rfl [(181, _), (182, _)] (fun h => And.intro (.inr ⟨_, rfl, h⟩) (And.intro (.inr ⟨_, rfl, h⟩) (trivial))) (fun h => (OpJ.indexG (g := (fun i => mostF (ls.map (toB c)) s (s.n.toNat - k) ((i : Nat) : Int))) (rowL_get (ls.map (toB c)) s (s.n.toNat - k) 201) rfl rfl rfl sl34 el34 (rowL_len (ls.map (toB c)) s (s.n.toNat - k) 201).symm (fun _ => rfl) (by decide) (by rw [rowL_len]; omega))) ?_
                  refine AQuiet.guard 184 161 rfl rfl rfl rfl rfl rfl rfl [(183, _)] (fun h => And.intro (.inr ⟨_, rfl, h⟩) (trivial)) (fun h => (OpJ.load rfl rfl ty3 rfl)) ?_
                  refine AQuiet.guard 185 161 rfl rfl rfl rfl rfl rfl rfl [(177, _), (184, _)] (fun h => And.intro (.inr ⟨_, rfl, h⟩) (And.intro (.inr ⟨_, rfl, h⟩) (trivial))) (fun h => (OpJ.neq rfl rfl rfl)) ?_
                  refine AQuiet.cons 186 rfl rfl rfl (OpJ.or_ rfl rfl rfl ?_) ?_
                  · first | (intro h; rw [h]; rfl) | (intro h; simp_all)
                  refine AQuiet.nil ?_
                  refine AList.nil ?_
                  refine AWp.cond _ rfl (fun hc12 => ?_) (fun hc12 => ?_)
                  · skip
                    have hP : mostF (ls.map (toB c)) s (s.n.toNat - (k + 1)) ((frN (ls.map (toB c)) s F0 k) + s.least + (i : Int)) = -1 ∨ mostF (ls.map (toB c)) s (s.n.toNat - (k + 1)) ((frN (ls.map (toB c)) s F0 k) + s.least + (i : Int)) + soldF (ls.map (toB c)) s.gap (frN (ls.map (toB c)) s F0 k) ((frN (ls.map (toB c)) s F0 k) + s.least + (i : Int)) ≠ mostF (ls.map (toB c)) s (s.n.toNat - k) (frN (ls.map (toB c)) s F0 k) := by
                      rw [← hto, hu]
                      rcases Bool.or_eq_true_iff.1 hc12 with h | h
                      · left; have := of_decide_eq_true h; omega
                      · right; simpa using h
                    refine AWp.skip ?_
                    refine AWp.block ?_
                    refine AWp.region ?_
                    refine AList.c 187 rfl rfl rfl (OpJ.move rfl rfl) ?_
                    refine AList.c 188 rfl rfl rfl (OpJ.add (m := ((u + L + i + 1 : Nat) : Int)) rfl rfl rfl ((i64ok ?_).trans ?_)) ?_
                    · omega
                    · omega
                    refine AList.c 21 rfl rfl rfl (OpJ.assign rfl rfl) ?_
                    refine AList.nil ?_
                    refine ⟨i + 1, ?_, ?_, ?_⟩
                    · intro j hj
                      rcases Nat.lt_succ_iff_lt_or_eq.1 hj with h1 | rfl
                      · exact hh j h1
                      · exact hP
                    · omega
                    exact To.sub (Sub.cons rfl (by repeat (first | exact Sub.nil | refine Sub.cons rfl ?_)))
                  · skip
                    have hP := Bool.or_eq_false_iff.1 hc12
                    have hP1 : ¬ mostF (ls.map (toB c)) s (s.n.toNat - (k + 1)) ((u + L + i : Nat) : Int) < 0 := of_decide_eq_false hP.1
                    have hP2 : mostF (ls.map (toB c)) s (s.n.toNat - (k + 1)) ((u + L + i : Nat) : Int) + soldF (ls.map (toB c)) s.gap u ((u + L + i : Nat) : Int) = mostF (ls.map (toB c)) s (s.n.toNat - k) u := by simpa using hP.2
                    have hnn : (frN (ls.map (toB c)) s F0 (k + 1)) = ((u + L + i : Nat) : Int) := by
                      rw [hto]
                      exact next_is hB hZ hf.1.1 hf.1.2 hf.2.1 hk0 hnx (by rw [← hto]; omega) (by rw [← hto, hu]; exact hP2)
                    refine AWp.exit ?_
                    refine AWp.seq ?_
                    refine AWp.region ?_
                    refine AList.c 189 rfl rfl rfl (OpJ.move rfl rfl) ?_
                    refine AList.c 190 rfl rfl rfl (OpJ.move rfl rfl) ?_
                    refine AList.c 191 rfl rfl rfl (OpJ.buildImm rfl slz34 (by decide) rfl rfl rfl) ?_
                    refine AList.c 192 rfl rfl rfl (OpJ.appendRow rfl rfl rfl slz34 sl34 rfl ?_ rfl rfl by3 (by decide) ?_) ?_
                    · rw [List.length_map, flat_len (c := 1) (fun _ => rfl), cutL_len]; rfl
                    · show (2 * (k + 1 + 1) + 192) * 8 ≤ 281474976710656; omega
                    refine AList.c 19 rfl rfl rfl (OpJ.assign rfl rfl) ?_
                    refine AList.nil ?_
                    refine AWp.region ?_
                    refine AList.c 193 rfl rfl rfl (OpJ.move rfl rfl) ?_
                    refine AList.c 16 rfl rfl rfl (OpJ.assign rfl rfl) ?_
                    refine AList.nil ?_
                    refine AWp.region ?_
                    refine AList.c 146 rfl rfl rfl (OpJ.move rfl rfl) ?_
                    refine AList.c 147 rfl rfl rfl (OpJ.add rfl rfl rfl (i64ok ?_)) ?_
                    · omega
                    refine AList.c 20 rfl rfl rfl (OpJ.assign rfl rfl) ?_
                    refine AList.nil ?_
                    refine ⟨k + 1, ?_, ?_, ?_⟩
                    · omega
                    · omega
                    refine To.done [0, 2] rfl (Sub.cons rfl (Sub.cons (by rw [hnn]; rfl) (Sub.cons rfl (by repeat (first | exact Sub.nil | refine Sub.cons rfl ?_))))) ?_
                    show [Blk.row (renL _ (ocV _ _ _ _ _)) _, Blk.row (renL _ (_ ++ _)) _] = [Blk.row _ _, Blk.row _ _]
                    rw [ocV_ren, renL_app, renL_pure, cutL_succ, hnn, List.flatMap_append, List.map_append]
                    rfl
                · skip
                  obtain rfl : s.n.toNat = k := by have h := of_decide_eq_false hc11; omega
                  refine AWp.to (To.accD 19 1 (s.n.toNat + 1) rfl rfl (fun h => by cases h)) ?_
                  refine AWp.exit ?_
                  refine AWp.seq ?_
                  refine AWp.region ?_
                  refine AList.c 194 rfl rfl rfl (OpJ.move rfl rfl) ?_
                  refine AList.c 195 rfl rfl rfl (OpJ.move rfl rfl) ?_
                  refine AList.c 6 rfl rfl rfl (OpJ.assign rfl rfl) ?_
                  refine AList.c 7 rfl rfl rfl (OpJ.assign rfl rfl) ?_
                  refine AList.c 8 rfl rfl rfl (OpJ.assign rfl rfl) ?_
                  refine AList.nil ?_
                  refine AWp.ret ?_
                  have eR : cutR c ls s = (cutL (ls.map (toB c)) s F0 s.n.toNat, (cutB (ls.map (toB c)) s).1, 0) := by unfold cutR; rw [if_pos e2, if_pos hi, hF0]
                  rw [eR]
                  unfold intsV
                  rw [cutL_len]
                  exact Fin.many (xs := [.is ((cutL (ls.map (toB c)) s F0 s.n.toNat).flatMap i1) (s.n.toNat + 1), .int .i64 (cutB (ls.map (toB c)) s).1, .int .i64 0]) rfl (⟨_, _, rfl, rfl, ⟨_, _, rfl, rfl, ⟨_, _, rfl, rfl, rfl⟩⟩⟩) rfl
theorem shadeCuts_main (c : List Tnt) (ls : List Lds) (nms : List Int) (gap : Int) (s : Scl) (hcb : c.length ≤ bigN) (hb : ls.length ≤ bigN) (hs : ∀ x ∈ ls, x.st.length ≤ bigN) (ha : nms.length ≤ bigN) : Pure Try.prog 4 [curV c, ldsV ls, intsV nms, .int .i64 gap, .agg s.cells] (.bool true) := by
  have hcn : (cutR c ls s).1.length ≤ bigN := by
    unfold cutR bigN
    split
    · rename_i h
      have hz := ((sclB_iff s).1 (openE_zero.1 h).ov).n
      split
      · rw [cutL_len]; omega
      · exact Nat.zero_le _
    · exact Nat.zero_le _
  refine Pure.start (N := 97) Try.func4 rfl rfl (Nat.le_of_ble_eq_true rfl) ?_
  refine AWp.seq ?_
  refine AWp.region ?_
  refine AList.c 9 rfl rfl rfl (OpJ.boxImm rfl rfl rfl) ?_
  refine AList.c 10 rfl rfl rfl (OpJ.assign rfl rfl) ?_
  refine AList.nil ?_
  refine AWp.seq ?_
  refine AWp.seq ?_
  refine AWp.region ?_
  refine AList.c 23 rfl rfl rfl (OpJ.move rfl rfl) ?_
  refine AList.c 24 rfl rfl rfl (OpJ.move rfl rfl) ?_
  refine AList.c 25 rfl rfl rfl (OpJ.callP (great_ok c ls hcb hb hs) rfl rfl rfl rfl rf13) ?_
  refine AList.c 26 rfl rfl rfl (OpJ.move rfl rfl) ?_
  refine AList.g 27 26 rfl rfl rfl rfl rfl rfl rfl [(2, _)] (fun h => And.intro (.inl rfl) (trivial)) (fun h => (OpJ.move rfl rfl)) ?_
  refine AList.g 28 26 rfl rfl rfl rfl rfl rfl rfl [(27, _)] (fun h => And.intro (.inr ⟨_, rfl, h⟩) (trivial)) (fun h => (OpJ.lenSlice rfl rfl sl34 rfl)) ?_
  refine AList.g 29 26 rfl rfl rfl rfl rfl rfl rfl [(28, _)] (fun h => And.intro (.inr ⟨_, rfl, h⟩) (trivial)) (fun h => (OpJ.gtr rfl rfl rfl)) ?_
  refine AList.c 30 rfl rfl rfl (OpJ.or_ rfl rfl rfl ?_) ?_
  · first | (intro h; rw [h]; rfl) | (intro h; simp_all)
  refine AList.nil ?_
  refine AWp.cond _ rfl (fun hc0 => ?_) (fun hc0 => ?_)
  · skip
    refine AWp.seq ?_
    refine AWp.region ?_
    refine AList.c 31 rfl rfl rfl (OpJ.callP (alive_ok) rfl rfl rfl rfl rf14) ?_
    refine AList.c 10 rfl rfl rfl (OpJ.assign rfl rfl) ?_
    refine AList.nil ?_
    refine AWp.ret ?_
    exact Fin.oneE rfl rfl rfl
  · skip
    refine AWp.skip ?_
    refine AWp.seq ?_
    refine AWp.region ?_
    refine AList.c 33 rfl rfl rfl (OpJ.move rfl rfl) ?_
    refine AList.c 34 rfl rfl rfl (OpJ.move rfl rfl) ?_
    refine AList.c 35 rfl rfl rfl (OpJ.move rfl rfl) ?_
    refine AList.c 36 rfl rfl rfl (OpJ.move rfl rfl) ?_
    refine AList.c 37 rfl rfl rfl (OpJ.callP (ordered_R c ls nms gap hcb hb hs ha) rfl rfl rfl rfl rf20) ?_
    refine AList.c 32 rfl rfl rfl (OpJ.move rfl rfl) ?_
    refine AList.c 38 rfl rfl rfl (OpJ.extract rfl rfl rfl) ?_
    refine AList.c 39 rfl rfl rfl (OpJ.extract rfl rfl rfl) ?_
    refine AList.c 40 rfl rfl rfl (OpJ.extract rfl rfl rfl) ?_
    refine AList.c 11 rfl rfl rfl (OpJ.assign rfl rfl) ?_
    refine AList.c 12 rfl rfl rfl (OpJ.assign rfl rfl) ?_
    refine AList.c 13 rfl rfl rfl (OpJ.assign rfl rfl) ?_
    refine AList.nil ?_
    refine AWp.seq ?_
    refine AWp.region ?_
    refine AList.c 42 rfl rfl rfl (OpJ.move rfl rfl) ?_
    refine AList.c 43 rfl rfl rfl (OpJ.move rfl rfl) ?_
    refine AList.c 44 rfl rfl rfl (OpJ.move rfl rfl) ?_
    refine AList.c 45 rfl rfl rfl (OpJ.move rfl rfl) ?_
    refine AList.c 46 rfl rfl rfl (OpJ.callP (rordered_R c ls nms gap hcb hb hs ha) rfl rfl rfl rfl rf21) ?_
    refine AList.c 41 rfl rfl rfl (OpJ.move rfl rfl) ?_
    refine AList.c 47 rfl rfl rfl (OpJ.extract rfl rfl rfl) ?_
    refine AList.c 48 rfl rfl rfl (OpJ.extract rfl rfl rfl) ?_
    refine AList.c 49 rfl rfl rfl (OpJ.extract rfl rfl rfl) ?_
    refine AList.c 14 rfl rfl rfl (OpJ.assign rfl rfl) ?_
    refine AList.c 15 rfl rfl rfl (OpJ.assign rfl rfl) ?_
    refine AList.c 16 rfl rfl rfl (OpJ.assign rfl rfl) ?_
    refine AList.nil ?_
    refine AWp.seq ?_
    refine AWp.region ?_
    refine AList.c 51 rfl rfl rfl (OpJ.move rfl rfl) ?_
    refine AList.c 52 rfl rfl rfl (OpJ.move rfl rfl) ?_
    refine AList.c 53 rfl rfl rfl (OpJ.load (v := .p (.agg s.cells)) rfl rfl ty41 rfl) ?_
    refine AList.c 54 rfl rfl rfl (OpJ.callP (cut_R c ls s hcb hb hs) rfl rfl rfl rfl rf22) ?_
    refine AList.c 50 rfl rfl rfl (OpJ.move rfl rfl) ?_
    refine AList.c 55 rfl rfl rfl (OpJ.extract rfl rfl rfl) ?_
    refine AList.c 56 rfl rfl rfl (OpJ.extract rfl rfl rfl) ?_
    refine AList.c 57 rfl rfl rfl (OpJ.extract rfl rfl rfl) ?_
    refine AList.c 17 rfl rfl rfl (OpJ.assign rfl rfl) ?_
    refine AList.c 18 rfl rfl rfl (OpJ.assign rfl rfl) ?_
    refine AList.c 19 rfl rfl rfl (OpJ.assign rfl rfl) ?_
    refine AList.nil ?_
    refine AWp.seq ?_
    refine AWp.region ?_
    refine AList.c 59 rfl rfl rfl (OpJ.move rfl rfl) ?_
    refine AList.c 60 rfl rfl rfl (OpJ.move rfl rfl) ?_
    refine AList.c 61 rfl rfl rfl (OpJ.load (v := .p (.agg s.cells)) rfl rfl ty41 rfl) ?_
    refine AList.c 62 rfl rfl rfl (OpJ.callP (rcut_R c ls s hcb hb hs) rfl rfl rfl rfl rf23) ?_
    refine AList.c 58 rfl rfl rfl (OpJ.move rfl rfl) ?_
    refine AList.c 63 rfl rfl rfl (OpJ.extract rfl rfl rfl) ?_
    refine AList.c 64 rfl rfl rfl (OpJ.extract rfl rfl rfl) ?_
    refine AList.c 65 rfl rfl rfl (OpJ.extract rfl rfl rfl) ?_
    refine AList.c 20 rfl rfl rfl (OpJ.assign rfl rfl) ?_
    refine AList.c 21 rfl rfl rfl (OpJ.assign rfl rfl) ?_
    refine AList.c 22 rfl rfl rfl (OpJ.assign rfl rfl) ?_
    refine AList.nil ?_
    refine AWp.seq ?_
    refine AWp.region ?_
    refine AList.c 66 rfl rfl rfl (OpJ.move rfl rfl) ?_
    refine AList.c 67 rfl rfl rfl (OpJ.move rfl rfl) ?_
    refine AList.c 68 rfl rfl rfl (OpJ.eql rfl rfl rfl) ?_
    refine AList.c 69 rfl rfl rfl (OpJ.move rfl rfl) ?_
    refine AList.g 70 69 rfl rfl rfl rfl rfl rfl rfl [(12, _)] (fun h => And.intro (.inl rfl) (trivial)) (fun h => (OpJ.move rfl rfl)) ?_
    refine AList.g 71 69 rfl rfl rfl rfl rfl rfl rfl [(15, _)] (fun h => And.intro (.inl rfl) (trivial)) (fun h => (OpJ.move rfl rfl)) ?_
    refine AList.g 72 69 rfl rfl rfl rfl rfl rfl rfl [(70, _), (71, _)] (fun h => And.intro (.inr ⟨_, rfl, h⟩) (And.intro (.inr ⟨_, rfl, h⟩) (trivial))) (fun h => (OpJ.eql rfl rfl rfl)) ?_
    refine AList.c 73 rfl rfl rfl (OpJ.and_ rfl rfl rfl ?_) ?_
    · first | (intro h; rw [h]; rfl) | (intro h; simp_all)
    refine AList.c 74 rfl rfl rfl (OpJ.move rfl rfl) ?_
    refine AList.g 75 74 rfl rfl rfl rfl rfl rfl rfl [(13, _)] (fun h => And.intro (.inl rfl) (trivial)) (fun h => (OpJ.move rfl rfl)) ?_
    refine AList.g 76 74 rfl rfl rfl rfl rfl rfl rfl [(16, _)] (fun h => And.intro (.inl rfl) (trivial)) (fun h => (OpJ.move rfl rfl)) ?_
    refine AList.g 77 74 rfl rfl rfl rfl rfl rfl rfl [(75, _), (76, _)] (fun h => And.intro (.inr ⟨_, rfl, h⟩) (And.intro (.inr ⟨_, rfl, h⟩) (trivial))) (fun h => (OpJ.eql rfl rfl rfl)) ?_
    refine AList.c 78 rfl rfl rfl (OpJ.and_ rfl rfl rfl ?_) ?_
    · first | (intro h; rw [h]; rfl) | (intro h; simp_all)
    refine AList.c 79 rfl rfl rfl (OpJ.move rfl rfl) ?_
    refine AList.g 80 79 rfl rfl rfl rfl rfl rfl rfl [(17, _)] (fun h => And.intro (.inl rfl) (trivial)) (fun h => (OpJ.move rfl rfl)) ?_
    refine AList.g 81 79 rfl rfl rfl rfl rfl rfl rfl [(20, _)] (fun h => And.intro (.inl rfl) (trivial)) (fun h => (OpJ.move rfl rfl)) ?_
    refine AList.g 82 79 rfl rfl rfl rfl rfl rfl rfl [(80, _), (81, _)] (fun h => And.intro (.inr ⟨_, rfl, h⟩) (And.intro (.inr ⟨_, rfl, h⟩) (trivial))) (fun h => (OpJ.callP (ints_ok (cutR c ls s).1 (cutR c ls s).1 hcn hcn) rfl rfl rfl rfl rf19)) ?_
    refine AList.c 83 rfl rfl rfl (OpJ.and_ rfl rfl rfl ?_) ?_
    · first | (intro h; rw [h]; rfl) | (intro h; simp_all)
    refine AList.c 84 rfl rfl rfl (OpJ.move rfl rfl) ?_
    refine AList.g 85 84 rfl rfl rfl rfl rfl rfl rfl [(18, _)] (fun h => And.intro (.inl rfl) (trivial)) (fun h => (OpJ.move rfl rfl)) ?_
    refine AList.g 86 84 rfl rfl rfl rfl rfl rfl rfl [(21, _)] (fun h => And.intro (.inl rfl) (trivial)) (fun h => (OpJ.move rfl rfl)) ?_
    refine AList.g 87 84 rfl rfl rfl rfl rfl rfl rfl [(85, _), (86, _)] (fun h => And.intro (.inr ⟨_, rfl, h⟩) (And.intro (.inr ⟨_, rfl, h⟩) (trivial))) (fun h => (OpJ.eql rfl rfl rfl)) ?_
    refine AList.c 88 rfl rfl rfl (OpJ.and_ rfl rfl rfl ?_) ?_
    · first | (intro h; rw [h]; rfl) | (intro h; simp_all)
    refine AList.c 89 rfl rfl rfl (OpJ.move rfl rfl) ?_
    refine AList.g 90 89 rfl rfl rfl rfl rfl rfl rfl [(19, _)] (fun h => And.intro (.inl rfl) (trivial)) (fun h => (OpJ.move rfl rfl)) ?_
    refine AList.g 91 89 rfl rfl rfl rfl rfl rfl rfl [(22, _)] (fun h => And.intro (.inl rfl) (trivial)) (fun h => (OpJ.move rfl rfl)) ?_
    refine AList.g 92 89 rfl rfl rfl rfl rfl rfl rfl [(90, _), (91, _)] (fun h => And.intro (.inr ⟨_, rfl, h⟩) (And.intro (.inr ⟨_, rfl, h⟩) (trivial))) (fun h => (OpJ.eql rfl rfl rfl)) ?_
    refine AList.c 93 rfl rfl rfl (OpJ.and_ rfl rfl rfl ?_) ?_
    · first | (intro h; rw [h]; rfl) | (intro h; simp_all)
    refine AList.c 94 rfl rfl rfl (OpJ.move rfl rfl) ?_
    refine AList.g 95 94 rfl rfl rfl rfl rfl rfl rfl [] (fun h => trivial) (fun h => (OpJ.callP (alive_ok) rfl rfl rfl rfl rf14)) ?_
    refine AList.c 96 rfl rfl rfl (OpJ.and_ rfl rfl rfl ?_) ?_
    · first | (intro h; rw [h]; rfl) | (intro h; simp_all)
    refine AList.c 10 rfl rfl rfl (OpJ.assign rfl rfl) ?_
    refine AList.nil ?_
    refine AWp.ret ?_
    refine Fin.oneE rfl rfl ?_
    simp
theorem shadeCuts_law {x0 x1 x2 x3 x4 : List PV} (h0 : TyL [.sl [.leaf (.int .i64), .leaf (.int .i64)]] x0) (h1 : TyL [.sl [.leaf (.int .i64), .leaf (.int .i64), .leaf (.int .i64), .leaf (.int .i64), .leaf (.int .i64), .sl [.leaf (.int .i64), .leaf (.int .i64), .leaf (.int .i64), .leaf (.int .i64)], .leaf (.int .i64), .leaf (.int .i64), .leaf (.int .i64), .leaf (.int .i64), .leaf (.int .i64)]] x1) (h2 : TyL [.sl [.leaf (.int .i64)]] x2) (h3 : TyL [.leaf (.int .i64)] x3) (h4 : TyL [.leaf (.int .i64), .leaf (.int .i64), .leaf (.int .i64), .leaf (.int .i64)] x4) : Pure Try.prog 4 [argP false x0, argP false x1, argP false x2, argP false x3, argP true x4] (.bool true) := by
  obtain ⟨c, rfl, hc⟩ := cur_of h0
  obtain ⟨l, rfl, hl, hs⟩ := lds_of h1
  obtain ⟨nms, rfl, hn⟩ := intl_of h2
  obtain ⟨gap, rfl⟩ := int_of h3
  obtain ⟨s, rfl⟩ := scl_of h4
  exact shadeCuts_main c l nms gap s hc hl hs hn
end Go.Proofs.Ythiapodcippnoaa
