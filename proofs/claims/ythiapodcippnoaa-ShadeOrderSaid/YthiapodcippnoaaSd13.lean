/-
  The law ShadeOrder.
-/
import Derived.Test.YthiapodcippnoaaSdFactsE
import Derived.Test.YthiapodcippnoaaSd12
set_option linter.unusedVariables false
set_option maxRecDepth 100000
set_option maxHeartbeats 4000000
set_option linter.unusedSimpArgs false
namespace Go.Proofs.Ythiapodcippnoaa
open Go.AF
theorem wrong1_ok (c : List Tnt) (ls : List Lds) (nms : List Int) (gap : Int) (i k : Nat) {v : Bool} (hO : Opn c ls 10 v) (hV : nms.length = ls.length ∧ 0 ≤ gap ∧ gap ≤ 200) (hi : i < ls.length) (hk : k < ls.length) : Pure Try.prog 37 [.int .i64 (i : Int), .int .i64 (k : Int), .ip [intsV nms] 0, .ip [spsV (ls.map (blk c))] 0, .ip [.int .i64 gap] 0] (.bool (wrongB c ls nms gap i k)) := by
  have hob := hO.ob _ (ld_mem hi)
  have hmB := meets_B (srcs c (ld ls i))
  rw [show meets (srcs c (ld ls i)) = blk c (ld ls i) from rfl] at hmB
  refine Pure.start (N := 32) Try.func37 rfl rfl (Nat.le_of_ble_eq_true rfl) ?_
  refine AWp.seq ?_
  refine AWp.region ?_
  refine AList.c 7 rfl rfl rfl (OpJ.assign rfl rfl) ?_
  refine AList.nil ?_
  refine AWp.seq ?_
  refine AWp.regionDraw 25 mixed (by kernel_rfl) (by decide) ?_
  refine AQuiet.cons 8 rfl rfl rfl (OpJ.load rfl rfl ty34 rfl) ?_
  refine AQuiet.cons 9 rfl rfl rfl (OpJ.move rfl rfl) ?_
  refine AQuiet.cons 10 rfl rfl rfl (OpJ.indexG (g := nt nms) (fun _ h => nt_get h) rfl rfl rfl sl34 el34 rfl (fun _ => rfl) (by decide) (by omega)) ?_
  refine AQuiet.cons 11 rfl rfl rfl (OpJ.load rfl rfl ty3 rfl) ?_
  refine AQuiet.cons 12 rfl rfl rfl (OpJ.load rfl rfl ty34 rfl) ?_
  refine AQuiet.cons 13 rfl rfl rfl (OpJ.move rfl rfl) ?_
  refine AQuiet.cons 14 rfl rfl rfl (OpJ.indexG (g := nt nms) (fun _ h => nt_get h) rfl rfl rfl sl34 el34 rfl (fun _ => rfl) (by decide) (by omega)) ?_
  refine AQuiet.cons 15 rfl rfl rfl (OpJ.load rfl rfl ty3 rfl) ?_
  refine AQuiet.cons 16 rfl rfl rfl (OpJ.lss rfl rfl rfl) ?_
  refine AQuiet.cons 17 rfl rfl rfl (OpJ.move rfl rfl) ?_
  refine AQuiet.guard 18 17 rfl rfl rfl rfl rfl rfl rfl [(3, _)] (fun h => And.intro (.inl rfl) (trivial)) (fun h => (OpJ.load rfl rfl ty57 rfl)) ?_
  refine AQuiet.guard 19 17 rfl rfl rfl rfl rfl rfl rfl [(0, _)] (fun h => And.intro (.inl rfl) (trivial)) (fun h => (OpJ.move rfl rfl)) ?_
  refine AQuiet.guard 20 17 rfl rfl rfl rfl rfl rfl rfl [(18, _), (19, _)] (fun h => And.intro (.inr ⟨_, rfl, h⟩) (And.intro (.inr ⟨_, rfl, h⟩) (trivial))) (fun h => (OpJ.indexG (g := (fun i => blk c (ld ls i))) (blk_get c ls) rfl rfl rfl sl57 el57 rfl (fun _ => rfl) (by decide) (by rw [List.length_map]; omega))) ?_
  refine AQuiet.guard 21 17 rfl rfl rfl rfl rfl rfl rfl [(20, _)] (fun h => And.intro (.inr ⟨_, rfl, h⟩) (trivial)) (fun h => (OpJ.fieldAddr rfl rfl fd25_1 rfl)) ?_
  refine AQuiet.guard 22 17 rfl rfl rfl rfl rfl rfl rfl [(21, _)] (fun h => And.intro (.inr ⟨_, rfl, h⟩) (trivial)) (fun h => (OpJ.load rfl rfl ty3 rfl)) ?_
  refine AQuiet.guard 23 17 rfl rfl rfl rfl rfl rfl rfl [(4, _)] (fun h => And.intro (.inl rfl) (trivial)) (fun h => (OpJ.load rfl rfl ty3 rfl)) ?_
  refine AQuiet.guard 24 17 rfl rfl rfl rfl rfl rfl rfl [(22, _), (23, _)] (fun h => And.intro (.inr ⟨_, rfl, h⟩) (And.intro (.inr ⟨_, rfl, h⟩) (trivial))) (fun h => (OpJ.add rfl rfl rfl (i64ok (by show _ ≤ (blk c (ld ls i)).2 + gap ∧ (blk c (ld ls i)).2 + gap ≤ _; omega)))) ?_
  refine AQuiet.guard 25 17 rfl rfl rfl rfl rfl rfl rfl [(3, _)] (fun h => And.intro (.inl rfl) (trivial)) (fun h => (OpJ.load rfl rfl ty57 rfl)) ?_
  refine AQuiet.guard 26 17 rfl rfl rfl rfl rfl rfl rfl [(1, _)] (fun h => And.intro (.inl rfl) (trivial)) (fun h => (OpJ.move rfl rfl)) ?_
  refine AQuiet.guard 27 17 rfl rfl rfl rfl rfl rfl rfl [(25, _), (26, _)] (fun h => And.intro (.inr ⟨_, rfl, h⟩) (And.intro (.inr ⟨_, rfl, h⟩) (trivial))) (fun h => (OpJ.indexG (g := (fun i => blk c (ld ls i))) (blk_get c ls) rfl rfl rfl sl57 el57 rfl (fun _ => rfl) (by decide) (by rw [List.length_map]; omega))) ?_
  refine AQuiet.guard 28 17 rfl rfl rfl rfl rfl rfl rfl [(27, _)] (fun h => And.intro (.inr ⟨_, rfl, h⟩) (trivial)) (fun h => (OpJ.fieldAddr rfl rfl fd25_0 rfl)) ?_
  refine AQuiet.guard 29 17 rfl rfl rfl rfl rfl rfl rfl [(28, _)] (fun h => And.intro (.inr ⟨_, rfl, h⟩) (trivial)) (fun h => (OpJ.load rfl rfl ty3 rfl)) ?_
  refine AQuiet.guard 30 17 rfl rfl rfl rfl rfl rfl rfl [(24, _), (29, _)] (fun h => And.intro (.inr ⟨_, rfl, h⟩) (And.intro (.inr ⟨_, rfl, h⟩) (trivial))) (fun h => (OpJ.gtr rfl rfl rfl)) ?_
  refine AQuiet.cons 31 rfl rfl rfl (OpJ.and_ rfl rfl rfl ?_) ?_
  · first | (intro h; rw [h]; rfl) | (intro h; simp_all)
  refine AQuiet.cons 7 rfl rfl rfl (OpJ.assign rfl rfl) ?_
  refine AQuiet.nil ?_
  refine AList.nil ?_
  refine AWp.ret ?_
  exact Fin.one rfl (rfl)
theorem wrongF (c : List Tnt) (ls : List Lds) (nms : List Int) (gap : Int) (i k : Nat) {v : Bool} (hO : Opn c ls 10 v) (hV : nms.length = ls.length ∧ 0 ≤ gap ∧ gap ≤ 200) (hi : i < ls.length) (hk : k < ls.length) : FPure Try.prog (.func (.func 37) [] [.ip [intsV nms] 0, .ip [spsV (ls.map (blk c))] 0, .ip [.int .i64 gap] 0]) [.int .i64 (i : Int), .int .i64 (k : Int)] (.bool (wrongB c ls nms gap i k)) := ⟨37, _, rfl, rf37, wrong1_ok c ls nms gap i k hO hV hi hk⟩
theorem shadeOrder_main (c : List Tnt) (ls : List Lds) (nms : List Int) (gap : Int) (a b mo : Nat) (hcb : c.length ≤ bigN) (hb : ls.length ≤ bigN) (hs : ∀ x ∈ ls, x.st.length ≤ bigN) (hnm : nms.length ≤ bigN) (ha : a ≤ 255) (hbb : b ≤ 255) (hmo : mo ≤ 255) : Pure Try.prog 9 [curV c, ldsV ls, intsV nms, .int .i64 gap, .int .u8 (a : Int), .int .u8 (b : Int), .int .u8 (mo : Int)] (.bool true) := by
  refine Pure.start (N := 173) Try.func9 rfl rfl (Nat.le_of_ble_eq_true rfl) ?_
  refine AWp.seq ?_
  refine AWp.region ?_
  refine AList.c 9 rfl rfl rfl (OpJ.boxImm rfl rfl rfl) ?_
  refine AList.c 10 rfl rfl rfl (OpJ.boxImm rfl rfl rfl) ?_
  refine AList.c 14 rfl rfl rfl (OpJ.assign rfl rfl) ?_
  refine AList.nil ?_
  refine AWp.seq ?_
  refine AWp.seq ?_
  refine AWp.region ?_
  refine AList.c 26 rfl rfl rfl (OpJ.move rfl rfl) ?_
  refine AList.c 27 rfl rfl rfl (OpJ.move rfl rfl) ?_
  refine AList.c 28 rfl rfl rfl (OpJ.callP (great_ok c ls hcb hb hs) rfl rfl rfl rfl rf13) ?_
  refine AList.c 29 rfl rfl rfl (OpJ.move rfl rfl) ?_
  refine AList.g 30 29 rfl rfl rfl rfl rfl rfl rfl [(9, _)] (fun h => And.intro (.inl rfl) (trivial)) (fun h => (OpJ.load rfl rfl ty34 rfl)) ?_
  refine AList.g 31 29 rfl rfl rfl rfl rfl rfl rfl [(30, _)] (fun h => And.intro (.inr ⟨_, rfl, h⟩) (trivial)) (fun h => (OpJ.lenSlice rfl rfl sl34 rfl)) ?_
  refine AList.g 32 29 rfl rfl rfl rfl rfl rfl rfl [(31, _)] (fun h => And.intro (.inr ⟨_, rfl, h⟩) (trivial)) (fun h => (OpJ.gtr rfl rfl rfl)) ?_
  refine AList.c 33 rfl rfl rfl (OpJ.or_ rfl rfl rfl ?_) ?_
  · first | (intro h; rw [h]; rfl) | (intro h; simp_all)
  refine AList.nil ?_
  refine AWp.cond _ rfl (fun hc0 => ?_) (fun hc0 => ?_)
  · skip
    refine AWp.seq ?_
    refine AWp.region ?_
    refine AList.c 34 rfl rfl rfl (OpJ.callP (alive_ok) rfl rfl rfl rfl rf14) ?_
    refine AList.c 14 rfl rfl rfl (OpJ.assign rfl rfl) ?_
    refine AList.nil ?_
    refine AWp.ret ?_
    exact Fin.oneE rfl rfl rfl
  · skip
    refine AWp.skip ?_
    refine AWp.seq ?_
    refine AWp.region ?_
    refine AList.c 36 rfl rfl rfl (OpJ.move rfl rfl) ?_
    refine AList.c 37 rfl rfl rfl (OpJ.move rfl rfl) ?_
    refine AList.c 38 rfl rfl rfl (OpJ.load rfl rfl ty34 rfl) ?_
    refine AList.c 39 rfl rfl rfl (OpJ.load rfl rfl ty3 rfl) ?_
    refine AList.c 40 rfl rfl rfl (OpJ.callP (ordered_R c ls nms gap hcb hb hs hnm) rfl rfl rfl rfl rf20) ?_
    refine AList.c 35 rfl rfl rfl (OpJ.move rfl rfl) ?_
    refine AList.c 41 rfl rfl rfl (OpJ.extract rfl rfl rfl) ?_
    refine AList.c 42 rfl rfl rfl (OpJ.extract rfl rfl rfl) ?_
    refine AList.c 43 rfl rfl rfl (OpJ.extract rfl rfl rfl) ?_
    refine AList.c 15 rfl rfl rfl (OpJ.assign rfl rfl) ?_
    refine AList.c 16 rfl rfl rfl (OpJ.assign rfl rfl) ?_
    refine AList.c 17 rfl rfl rfl (OpJ.assign rfl rfl) ?_
    refine AList.nil ?_
    refine AWp.seq ?_
    refine AWp.seq ?_
    refine AWp.region ?_
    refine AList.c 44 rfl rfl rfl (OpJ.move rfl rfl) ?_
    refine AList.c 45 rfl rfl rfl (OpJ.neq rfl rfl rfl) ?_
    refine AList.c 46 rfl rfl rfl (OpJ.move rfl rfl) ?_
    refine AList.g 47 46 rfl rfl rfl rfl rfl rfl rfl [(17, _)] (fun h => And.intro (.inl rfl) (trivial)) (fun h => (OpJ.move rfl rfl)) ?_
    refine AList.g 48 46 rfl rfl rfl rfl rfl rfl rfl [(47, _)] (fun h => And.intro (.inr ⟨_, rfl, h⟩) (trivial)) (fun h => (OpJ.neq rfl rfl rfl)) ?_
    refine AList.c 49 rfl rfl rfl (OpJ.and_ rfl rfl rfl ?_) ?_
    · first | (intro h; rw [h]; rfl) | (intro h; simp_all)
    refine AList.nil ?_
    refine AWp.cond _ rfl (fun hc1 => ?_) (fun hc1 => ?_)
    · skip
      have hE := ord_cases c ls nms gap
      have hR : ordR c ls nms gap = (0, 0, openE c ls 10 (ordV ls nms gap)) := by
        rcases hE with ⟨_, h⟩ | ⟨_, ⟨I, K, h⟩ | ⟨h, _⟩⟩
        · exact h
        · rw [h.e] at hc1; simp at hc1
        · rw [h] at hc1; simp at hc1
      refine AWp.seq ?_
      refine AWp.region ?_
      refine AList.c 50 rfl rfl rfl (OpJ.move rfl rfl) ?_
      refine AList.c 51 rfl rfl rfl (OpJ.eql rfl rfl rfl) ?_
      refine AList.c 52 rfl rfl rfl (OpJ.move rfl rfl) ?_
      refine AList.g 53 52 rfl rfl rfl rfl rfl rfl rfl [(16, _)] (fun h => And.intro (.inl rfl) (trivial)) (fun h => (OpJ.move rfl rfl)) ?_
      refine AList.g 54 52 rfl rfl rfl rfl rfl rfl rfl [(53, _)] (fun h => And.intro (.inr ⟨_, rfl, h⟩) (trivial)) (fun h => (OpJ.eql rfl rfl rfl)) ?_
      refine AList.c 55 rfl rfl rfl (OpJ.and_ rfl rfl rfl ?_) ?_
      · first | (intro h; rw [h]; rfl) | (intro h; simp_all)
      refine AList.c 56 rfl rfl rfl (OpJ.move rfl rfl) ?_
      refine AList.g 57 56 rfl rfl rfl rfl rfl rfl rfl [] (fun h => trivial) (fun h => (OpJ.callP (alive_ok) rfl rfl rfl rfl rf14)) ?_
      refine AList.c 58 rfl rfl rfl (OpJ.and_ rfl rfl rfl ?_) ?_
      · first | (intro h; rw [h]; rfl) | (intro h; simp_all)
      refine AList.c 14 rfl rfl rfl (OpJ.assign rfl rfl) ?_
      refine AList.nil ?_
      refine AWp.ret ?_
      refine Fin.oneE rfl rfl ?_
      rw [hR]; simp
    · skip
      have hE2 : openE c ls 10 (ordV ls nms gap) = 0 := by
        rcases ord_cases c ls nms gap with ⟨h1, h2⟩ | ⟨h, _⟩
        · rw [h2] at hc1; have h4 := openE_ne4 c ls 10 (ordV ls nms gap); simp [h1, h4] at hc1
        · exact h
      have hO := openE_zero.1 hE2
      have hV := ordV_true hO.ov
      have hF : (∃ I K : Nat, OrdOk c ls nms gap I K) ∨ (ordR c ls nms gap = (0, 0, 4) ∧ ∀ x y, x < ls.length → y < ls.length → wrongB c ls nms gap x y = false) := by
        rcases ord_cases c ls nms gap with ⟨h1, _⟩ | ⟨_, h⟩
        · exact absurd hE2 h1
        · exact h
      have hVl : nms.length = ls.length ∧ 0 ≤ gap ∧ gap ≤ 200 := ⟨hV.1, hV.2.1⟩
      have eB := blksB_open hO
      refine AWp.skip ?_
      refine AWp.seq ?_
      refine AWp.region ?_
      refine AList.c 60 rfl rfl rfl (OpJ.move rfl rfl) ?_
      refine AList.c 61 rfl rfl rfl (OpJ.move rfl rfl) ?_
      refine AList.c 62 rfl rfl rfl (OpJ.callP (blacks_ok c ls hcb hb hs (by have := hO.on; omega)) rfl rfl rfl rfl rf34) ?_
      refine AList.c 59 rfl rfl rfl (OpJ.move rfl rfl) ?_
      refine AList.c 63 rfl rfl rfl (OpJ.extract rfl rfl rfl) ?_
      refine AList.c 64 rfl rfl rfl (OpJ.extract rfl rfl rfl) ?_
      refine AList.c 18 rfl rfl rfl (OpJ.allocOwn rfl zr57 rfl) ?_
      refine AList.c0 rfl rfl (OpJ.store rfl rfl rfl rfl rfl ty57 rfl rfl) ?_
      refine AList.c 19 rfl rfl rfl (OpJ.assign rfl rfl) ?_
      refine AList.nil ?_
      refine AWp.seq ?_
      refine AWp.seq ?_
      refine AWp.region ?_
      refine AList.c 65 rfl rfl rfl (OpJ.move rfl rfl) ?_
      refine AList.c 66 rfl rfl rfl (OpJ.not_ rfl rfl) ?_
      refine AList.c 67 rfl rfl rfl (OpJ.move rfl rfl) ?_
      refine AList.g 68 67 rfl rfl rfl rfl rfl rfl rfl [(9, _)] (fun h => And.intro (.inl rfl) (trivial)) (fun h => (OpJ.load rfl rfl ty34 rfl)) ?_
      refine AList.g 69 67 rfl rfl rfl rfl rfl rfl rfl [(68, _)] (fun h => And.intro (.inr ⟨_, rfl, h⟩) (trivial)) (fun h => (OpJ.lenSlice rfl rfl sl34 rfl)) ?_
      refine AList.g 70 67 rfl rfl rfl rfl rfl rfl rfl [(1, _)] (fun h => And.intro (.inl rfl) (trivial)) (fun h => (OpJ.move rfl rfl)) ?_
      refine AList.g 71 67 rfl rfl rfl rfl rfl rfl rfl [(70, _)] (fun h => And.intro (.inr ⟨_, rfl, h⟩) (trivial)) (fun h => (OpJ.lenSlice rfl rfl sl39 rfl)) ?_
      refine AList.g 72 67 rfl rfl rfl rfl rfl rfl rfl [(69, _), (71, _)] (fun h => And.intro (.inr ⟨_, rfl, h⟩) (And.intro (.inr ⟨_, rfl, h⟩) (trivial))) (fun h => (OpJ.neq rfl rfl rfl)) ?_
      refine AList.c 73 rfl rfl rfl (OpJ.or_ rfl rfl rfl ?_) ?_
      · first | (intro h; rw [h]; rfl) | (intro h; simp_all)
      refine AList.c 74 rfl rfl rfl (OpJ.move rfl rfl) ?_
      refine AList.g 75 74 rfl rfl rfl rfl rfl rfl rfl [(10, _)] (fun h => And.intro (.inl rfl) (trivial)) (fun h => (OpJ.load rfl rfl ty3 rfl)) ?_
      refine AList.g 76 74 rfl rfl rfl rfl rfl rfl rfl [(75, _)] (fun h => And.intro (.inr ⟨_, rfl, h⟩) (trivial)) (fun h => (OpJ.lss rfl rfl rfl)) ?_
      refine AList.c 77 rfl rfl rfl (OpJ.or_ rfl rfl rfl ?_) ?_
      · first | (intro h; rw [h]; rfl) | (intro h; simp_all)
      refine AList.c 78 rfl rfl rfl (OpJ.move rfl rfl) ?_
      refine AList.g 79 78 rfl rfl rfl rfl rfl rfl rfl [(10, _)] (fun h => And.intro (.inl rfl) (trivial)) (fun h => (OpJ.load rfl rfl ty3 rfl)) ?_
      refine AList.g 80 78 rfl rfl rfl rfl rfl rfl rfl [(79, _)] (fun h => And.intro (.inr ⟨_, rfl, h⟩) (trivial)) (fun h => (OpJ.gtr rfl rfl rfl)) ?_
      refine AList.c 81 rfl rfl rfl (OpJ.or_ rfl rfl rfl ?_) ?_
      · first | (intro h; rw [h]; rfl) | (intro h; simp_all)
      refine AList.nil ?_
      refine AWp.cond _ rfl (fun hc2 => ?_) (fun hc2 => ?_)
      · skip
        exfalso
        rw [eB] at hc2
        simp at hc2
        omega
      · skip
        rw [eB, if_pos rfl]
        refine AWp.skip ?_
        refine AWp.seq ?_
        refine AWp.freeze 0 rfl rfl ?_
        refine AWp.region ?_
        refine AList.c 82 rfl rfl rfl (OpJ.makeFunc rfl rfl rfl) ?_
        refine AList.c 20 rfl rfl rfl (OpJ.assign rfl rfl) ?_
        refine AList.nil ?_
        refine AWp.seq ?_
        obtain ⟨I, hI⟩ : ∃ I : Nat, (ordR c ls nms gap).1 = (I : Int) := ⟨(ordR c ls nms gap).1.toNat, by rcases hF with ⟨I, K, h⟩ | h; { rw [h.e]; rfl }; { rw [h.1]; rfl }⟩
        obtain ⟨K, hK⟩ : ∃ K : Nat, (ordR c ls nms gap).2.1 = (K : Int) := ⟨(ordR c ls nms gap).2.1.toNat, by rcases hF with ⟨I, K, h⟩ | h; { rw [h.e]; rfl }; { rw [h.1]; rfl }⟩
        rw [hI, hK]
        have hF0 : (ordR c ls nms gap).2.2 = 0 → OrdOk c ls nms gap I K := fun h0 => by
          rcases hF with ⟨I2, K2, h⟩ | h
          · have e1 := hI; have e2 := hK; rw [h.e] at e1 e2; have e3 : I2 = I := Int.ofNat.inj e1; have e4 : K2 = K := Int.ofNat.inj e2; subst e3; subst e4; exact h
          · rw [h.1] at h0; cases h0
        have hF4 : (ordR c ls nms gap).2.2 ≠ 0 → (ordR c ls nms gap).2.2 = 4 ∧ ∀ x y, x < ls.length → y < ls.length → wrongB c ls nms gap x y = false := fun h0 => by
          rcases hF with ⟨I2, K2, h⟩ | h
          · rw [h.e] at h0; exact absurd rfl h0
          · rw [h.1]; exact ⟨rfl, h.2⟩
        have hgr : (ordR c ls nms gap).2.2 = 0 → (ordR c ls nms (min 200 (gap + (mo : Int)))).2.2 = 0 := fun h0 => ord_more hE2 (hF0 h0) (by omega) (by omega)
        refine AWp.region ?_
        refine AList.c 84 rfl rfl rfl (OpJ.move rfl rfl) ?_
        refine AList.c 85 rfl rfl rfl (OpJ.move rfl rfl) ?_
        refine AList.c 86 rfl rfl rfl (OpJ.load rfl rfl ty34 rfl) ?_
        refine AList.c 87 rfl rfl rfl (OpJ.load rfl rfl ty3 rfl) ?_
        refine AList.c 88 rfl rfl rfl (OpJ.move rfl rfl) ?_
        refine AList.c 89 rfl rfl rfl (OpJ.convInt rfl rfl (by rw [un5]; rfl) un3 (i64ok ?_)) ?_
        · omega
        refine AList.c 90 rfl rfl rfl (OpJ.add rfl rfl rfl (i64ok ?_)) ?_
        · omega
        refine AList.c 91 rfl rfl rfl (OpJ.min2 rfl rfl rfl) ?_
        refine AList.c 92 rfl rfl rfl (OpJ.callP (ordered_R c ls nms (min 200 (gap + (mo : Int))) hcb hb hs hnm) rfl rfl rfl rfl rf20) ?_
        refine AList.c 83 rfl rfl rfl (OpJ.move rfl rfl) ?_
        refine AList.c 93 rfl rfl rfl (OpJ.extract rfl rfl rfl) ?_
        refine AList.c 94 rfl rfl rfl (OpJ.extract rfl rfl rfl) ?_
        refine AList.c 95 rfl rfl rfl (OpJ.extract rfl rfl rfl) ?_
        refine AList.c 21 rfl rfl rfl (OpJ.assign rfl rfl) ?_
        refine AList.c 22 rfl rfl rfl (OpJ.assign rfl rfl) ?_
        refine AList.c 23 rfl rfl rfl (OpJ.assign rfl rfl) ?_
        refine AList.nil ?_
        refine AWp.seq ?_
        refine AWp.seq ?_
        refine AWp.region ?_
        refine AList.c 96 rfl rfl rfl (OpJ.move rfl rfl) ?_
        refine AList.c 97 rfl rfl rfl (OpJ.eql rfl rfl rfl) ?_
        refine AList.c 98 rfl rfl rfl (OpJ.move rfl rfl) ?_
        refine AList.g 99 98 rfl rfl rfl rfl rfl rfl rfl [(23, _)] (fun h => And.intro (.inl rfl) (trivial)) (fun h => (OpJ.move rfl rfl)) ?_
        refine AList.g 100 98 rfl rfl rfl rfl rfl rfl rfl [(99, _)] (fun h => And.intro (.inr ⟨_, rfl, h⟩) (trivial)) (fun h => (OpJ.neq rfl rfl rfl)) ?_
        refine AList.g 101 98 rfl rfl rfl rfl rfl rfl rfl [(100, _)] (fun h => And.intro (.inr ⟨_, rfl, h⟩) (trivial)) (fun h => (OpJ.move rfl rfl)) ?_
        refine AList.g 102 101 rfl rfl rfl rfl rfl rfl rfl [(15, _)] (fun h => And.intro (.inl rfl) (trivial)) (fun h => (OpJ.move rfl rfl)) ?_
        refine AList.g 103 101 rfl rfl rfl rfl rfl rfl rfl [(102, _)] (fun h => And.intro (.inr ⟨_, rfl, h⟩) (trivial)) (fun h => (OpJ.lss rfl rfl rfl)) ?_
        refine AList.g 104 98 rfl rfl rfl rfl rfl rfl rfl [(101, _), (103, _)] (fun h => And.intro (.inr ⟨_, rfl, h⟩) (And.intro (.inl rfl) (trivial))) (fun h => (OpJ.or_ rfl rfl rfl ?_)) ?_
        · first | (intro h; rw [h]; rfl) | (intro h; simp_all)
        refine AList.g 105 98 rfl rfl rfl rfl rfl rfl rfl [(104, _)] (fun h => And.intro (.inr ⟨_, rfl, h⟩) (trivial)) (fun h => (OpJ.move rfl rfl)) ?_
        refine AList.g 106 105 rfl rfl rfl rfl rfl rfl rfl [(16, _)] (fun h => And.intro (.inl rfl) (trivial)) (fun h => (OpJ.move rfl rfl)) ?_
        refine AList.g 107 105 rfl rfl rfl rfl rfl rfl rfl [(106, _)] (fun h => And.intro (.inr ⟨_, rfl, h⟩) (trivial)) (fun h => (OpJ.lss rfl rfl rfl)) ?_
        refine AList.g 108 98 rfl rfl rfl rfl rfl rfl rfl [(105, _), (107, _)] (fun h => And.intro (.inr ⟨_, rfl, h⟩) (And.intro (.inl rfl) (trivial))) (fun h => (OpJ.or_ rfl rfl rfl ?_)) ?_
        · first | (intro h; rw [h]; rfl) | (intro h; simp_all)
        refine AList.g 109 98 rfl rfl rfl rfl rfl rfl rfl [(108, _)] (fun h => And.intro (.inr ⟨_, rfl, h⟩) (trivial)) (fun h => (OpJ.move rfl rfl)) ?_
        refine AList.g 110 109 rfl rfl rfl rfl rfl rfl rfl [(15, _)] (fun h => And.intro (.inl rfl) (trivial)) (fun h => (OpJ.move rfl rfl)) ?_
        refine AList.g 111 109 rfl rfl rfl rfl rfl rfl rfl [(1, _)] (fun h => And.intro (.inl rfl) (trivial)) (fun h => (OpJ.move rfl rfl)) ?_
        refine AList.g 112 109 rfl rfl rfl rfl rfl rfl rfl [(111, _)] (fun h => And.intro (.inr ⟨_, rfl, h⟩) (trivial)) (fun h => (OpJ.lenSlice rfl rfl sl39 rfl)) ?_
        refine AList.g 113 109 rfl rfl rfl rfl rfl rfl rfl [(110, _), (112, _)] (fun h => And.intro (.inr ⟨_, rfl, h⟩) (And.intro (.inr ⟨_, rfl, h⟩) (trivial))) (fun h => (OpJ.geq rfl rfl rfl)) ?_
        refine AList.g 114 98 rfl rfl rfl rfl rfl rfl rfl [(109, _), (113, _)] (fun h => And.intro (.inr ⟨_, rfl, h⟩) (And.intro (.inl rfl) (trivial))) (fun h => (OpJ.or_ rfl rfl rfl ?_)) ?_
        · first | (intro h; rw [h]; rfl) | (intro h; simp_all)
        refine AList.g 115 98 rfl rfl rfl rfl rfl rfl rfl [(114, _)] (fun h => And.intro (.inr ⟨_, rfl, h⟩) (trivial)) (fun h => (OpJ.move rfl rfl)) ?_
        refine AList.g 116 115 rfl rfl rfl rfl rfl rfl rfl [(16, _)] (fun h => And.intro (.inl rfl) (trivial)) (fun h => (OpJ.move rfl rfl)) ?_
        refine AList.g 117 115 rfl rfl rfl rfl rfl rfl rfl [(1, _)] (fun h => And.intro (.inl rfl) (trivial)) (fun h => (OpJ.move rfl rfl)) ?_
        refine AList.g 118 115 rfl rfl rfl rfl rfl rfl rfl [(117, _)] (fun h => And.intro (.inr ⟨_, rfl, h⟩) (trivial)) (fun h => (OpJ.lenSlice rfl rfl sl39 rfl)) ?_
        refine AList.g 119 115 rfl rfl rfl rfl rfl rfl rfl [(116, _), (118, _)] (fun h => And.intro (.inr ⟨_, rfl, h⟩) (And.intro (.inr ⟨_, rfl, h⟩) (trivial))) (fun h => (OpJ.geq rfl rfl rfl)) ?_
        refine AList.g 120 98 rfl rfl rfl rfl rfl rfl rfl [(115, _), (119, _)] (fun h => And.intro (.inr ⟨_, rfl, h⟩) (And.intro (.inl rfl) (trivial))) (fun h => (OpJ.or_ rfl rfl rfl ?_)) ?_
        · first | (intro h; rw [h]; rfl) | (intro h; simp_all)
        refine AList.g 121 98 rfl rfl rfl rfl rfl rfl rfl [(120, _)] (fun h => And.intro (.inr ⟨_, rfl, h⟩) (trivial)) (fun h => (OpJ.move rfl rfl)) ?_
        refine AList.g 122 121 rfl rfl rfl rfl rfl rfl rfl [(20, _)] (fun h => And.intro (.inl rfl) (trivial)) (fun h => (OpJ.move rfl rfl)) ?_
        refine AList.g 123 121 rfl rfl rfl rfl rfl rfl rfl [(15, _)] (fun h => And.intro (.inl rfl) (trivial)) (fun h => (OpJ.move rfl rfl)) ?_
        refine AList.g 124 121 rfl rfl rfl rfl rfl rfl rfl [(16, _)] (fun h => And.intro (.inl rfl) (trivial)) (fun h => (OpJ.move rfl rfl)) ?_
        refine AList.g 125 121 rfl rfl rfl rfl rfl rfl rfl [(122, _), (123, _), (124, _)] (fun h => And.intro (.inr ⟨_, rfl, h⟩) (And.intro (.inr ⟨_, rfl, h⟩) (And.intro (.inr ⟨_, rfl, h⟩) (trivial)))) (fun h => (OpJ.callF (wrongF c ls nms gap I K hO hVl (by simp only [Bool.and_eq_true, beq_iff_eq] at h; exact (hF0 (of_decide_eq_true h.1)).i) (by simp only [Bool.and_eq_true, beq_iff_eq] at h; exact (hF0 (of_decide_eq_true h.1)).k)) rfl rfl rfl)) ?_
        refine AList.g 126 121 rfl rfl rfl rfl rfl rfl rfl [(125, _)] (fun h => And.intro (.inr ⟨_, rfl, h⟩) (trivial)) (fun h => (OpJ.not_ rfl rfl)) ?_
        refine AList.g 127 98 rfl rfl rfl rfl rfl rfl rfl [(121, _), (126, _)] (fun h => And.intro (.inr ⟨_, rfl, h⟩) (And.intro (.inl rfl) (trivial))) (fun h => (OpJ.or_ rfl rfl rfl ?_)) ?_
        · first | (intro h; rw [h]; rfl) | (intro h; simp_all)
        refine AList.c 128 rfl rfl rfl (OpJ.and_ rfl rfl rfl ?_) ?_
        · first | (intro h; rw [h]; rfl) | (intro h; simp_all)
        refine AList.nil ?_
        refine AWp.cond _ rfl (fun hc3 => ?_) (fun hc3 => ?_)
        · skip
          exfalso
          by_cases h0 : (ordR c ls nms gap).2.2 = 0
          · have h1 := hF0 h0
            have h2 := h1.i
            have h3 := h1.k
            simp [h0, hgr h0, h1.w] at hc3
            omega
          · simp [h0] at hc3
        · skip
          refine AWp.skip ?_
          refine AWp.seq ?_
          refine AWp.seq ?_
          refine AWp.region ?_
          refine AList.c 129 rfl rfl rfl (OpJ.move rfl rfl) ?_
          refine AList.c 130 rfl rfl rfl (OpJ.lenSlice rfl rfl sl39 rfl) ?_
          refine AList.c 131 rfl rfl rfl (OpJ.eql rfl rfl rfl) ?_
          refine AList.nil ?_
          refine AWp.cond _ rfl (fun hc4 => ?_) (fun hc4 => ?_)
          · skip
            have h0 : (ordR c ls nms gap).2.2 = 4 := by
              have hl : ls.length = 0 := by have h := of_decide_eq_true hc4; omega
              by_cases h0 : (ordR c ls nms gap).2.2 = 0
              · have := (hF0 h0).i; omega
              · exact (hF4 h0).1
            refine AWp.seq ?_
            refine AWp.region ?_
            refine AList.c 132 rfl rfl rfl (OpJ.move rfl rfl) ?_
            refine AList.c 133 rfl rfl rfl (OpJ.eql rfl rfl rfl) ?_
            refine AList.c 134 rfl rfl rfl (OpJ.move rfl rfl) ?_
            refine AList.g 135 134 rfl rfl rfl rfl rfl rfl rfl [] (fun h => trivial) (fun h => (OpJ.callP (alive_ok) rfl rfl rfl rfl rf14)) ?_
            refine AList.c 136 rfl rfl rfl (OpJ.and_ rfl rfl rfl ?_) ?_
            · first | (intro h; rw [h]; rfl) | (intro h; simp_all)
            refine AList.c 14 rfl rfl rfl (OpJ.assign rfl rfl) ?_
            refine AList.nil ?_
            refine AWp.ret ?_
            refine Fin.oneE rfl rfl ?_
            simp [h0]
          · skip
            have hl : 0 < ls.length := by have h := of_decide_eq_false hc4; omega
            have hx := Nat.mod_lt a hl
            have hy := Nat.mod_lt b hl
            refine AWp.skip ?_
            refine AWp.seq ?_
            refine AWp.regionDraw 12 mixed (by kernel_rfl) (by decide) ?_
            refine AQuiet.cons 137 rfl rfl rfl (OpJ.move rfl rfl) ?_
            refine AQuiet.cons 138 rfl rfl rfl (OpJ.convInt rfl rfl (by rw [un5]; rfl) un3 (i64ok ?_)) ?_
            · omega
            refine AQuiet.cons 139 rfl rfl rfl (OpJ.move rfl rfl) ?_
            refine AQuiet.cons 140 rfl rfl rfl (OpJ.lenSlice rfl rfl sl39 rfl) ?_
            refine AQuiet.cons 141 rfl rfl rfl (OpJ.rem (m := ((a % ls.length : Nat) : Int)) rfl rfl rfl ?_ ?_) ?_
            · omega
            · exact tmodN _ _
            refine AQuiet.cons 142 rfl rfl rfl (OpJ.move rfl rfl) ?_
            refine AQuiet.cons 143 rfl rfl rfl (OpJ.convInt rfl rfl (by rw [un5]; rfl) un3 (i64ok ?_)) ?_
            · omega
            refine AQuiet.cons 144 rfl rfl rfl (OpJ.move rfl rfl) ?_
            refine AQuiet.cons 145 rfl rfl rfl (OpJ.lenSlice rfl rfl sl39 rfl) ?_
            refine AQuiet.cons 146 rfl rfl rfl (OpJ.rem (m := ((b % ls.length : Nat) : Int)) rfl rfl rfl ?_ ?_) ?_
            · omega
            · exact tmodN _ _
            refine AQuiet.cons 24 rfl rfl rfl (OpJ.assign rfl rfl) ?_
            refine AQuiet.cons 25 rfl rfl rfl (OpJ.assign rfl rfl) ?_
            refine AQuiet.nil ?_
            refine AList.nil ?_
            refine AWp.seq ?_
            refine AWp.seq ?_
            refine AWp.region ?_
            refine AList.c 147 rfl rfl rfl (OpJ.move rfl rfl) ?_
            refine AList.c 148 rfl rfl rfl (OpJ.move rfl rfl) ?_
            refine AList.c 149 rfl rfl rfl (OpJ.move rfl rfl) ?_
            refine AList.c 150 rfl rfl rfl (OpJ.callF (wrongF c ls nms gap (a % ls.length) (b % ls.length) hO hVl hx hy) rfl rfl rfl) ?_
            refine AList.c 151 rfl rfl rfl (OpJ.not_ rfl rfl) ?_
            refine AList.nil ?_
            refine AWp.cond _ rfl (fun hc5 => ?_) (fun hc5 => ?_)
            · skip
              refine AWp.seq ?_
              refine AWp.region ?_
              refine AList.c 152 rfl rfl rfl (OpJ.callP (alive_ok) rfl rfl rfl rfl rf14) ?_
              refine AList.c 14 rfl rfl rfl (OpJ.assign rfl rfl) ?_
              refine AList.nil ?_
              refine AWp.ret ?_
              exact Fin.oneE rfl rfl rfl
            · skip
              have hw : wrongB c ls nms gap (a % ls.length) (b % ls.length) = true := by simpa using hc5
              have h0 : (ordR c ls nms gap).2.2 = 0 := by
                by_cases h0 : (ordR c ls nms gap).2.2 = 0
                · exact h0
                · rw [(hF4 h0).2 _ _ hx hy] at hw; cases hw
              have hz := (hF0 h0).b _ _ hx hy hw
              refine AWp.skip ?_
              refine AWp.seq ?_
              refine AWp.region ?_
              refine AList.c 153 rfl rfl rfl (OpJ.move rfl rfl) ?_
              refine AList.c 154 rfl rfl rfl (OpJ.eql rfl rfl rfl) ?_
              refine AList.c 155 rfl rfl rfl (OpJ.move rfl rfl) ?_
              refine AList.g 156 155 rfl rfl rfl rfl rfl rfl rfl [(24, _)] (fun h => And.intro (.inl rfl) (trivial)) (fun h => (OpJ.move rfl rfl)) ?_
              refine AList.g 157 155 rfl rfl rfl rfl rfl rfl rfl [(15, _)] (fun h => And.intro (.inl rfl) (trivial)) (fun h => (OpJ.move rfl rfl)) ?_
              refine AList.g 158 155 rfl rfl rfl rfl rfl rfl rfl [(156, _), (157, _)] (fun h => And.intro (.inr ⟨_, rfl, h⟩) (And.intro (.inr ⟨_, rfl, h⟩) (trivial))) (fun h => (OpJ.gtr rfl rfl rfl)) ?_
              refine AList.g 159 155 rfl rfl rfl rfl rfl rfl rfl [(158, _)] (fun h => And.intro (.inr ⟨_, rfl, h⟩) (trivial)) (fun h => (OpJ.move rfl rfl)) ?_
              refine AList.g 160 159 rfl rfl rfl rfl rfl rfl rfl [(24, _)] (fun h => And.intro (.inl rfl) (trivial)) (fun h => (OpJ.move rfl rfl)) ?_
              refine AList.g 161 159 rfl rfl rfl rfl rfl rfl rfl [(15, _)] (fun h => And.intro (.inl rfl) (trivial)) (fun h => (OpJ.move rfl rfl)) ?_
              refine AList.g 162 159 rfl rfl rfl rfl rfl rfl rfl [(160, _), (161, _)] (fun h => And.intro (.inr ⟨_, rfl, h⟩) (And.intro (.inr ⟨_, rfl, h⟩) (trivial))) (fun h => (OpJ.eql rfl rfl rfl)) ?_
              refine AList.g 163 159 rfl rfl rfl rfl rfl rfl rfl [(162, _)] (fun h => And.intro (.inr ⟨_, rfl, h⟩) (trivial)) (fun h => (OpJ.move rfl rfl)) ?_
              refine AList.g 164 163 rfl rfl rfl rfl rfl rfl rfl [(25, _)] (fun h => And.intro (.inl rfl) (trivial)) (fun h => (OpJ.move rfl rfl)) ?_
              refine AList.g 165 163 rfl rfl rfl rfl rfl rfl rfl [(16, _)] (fun h => And.intro (.inl rfl) (trivial)) (fun h => (OpJ.move rfl rfl)) ?_
              refine AList.g 166 163 rfl rfl rfl rfl rfl rfl rfl [(164, _), (165, _)] (fun h => And.intro (.inr ⟨_, rfl, h⟩) (And.intro (.inr ⟨_, rfl, h⟩) (trivial))) (fun h => (OpJ.geq rfl rfl rfl)) ?_
              refine AList.g 167 159 rfl rfl rfl rfl rfl rfl rfl [(163, _), (166, _)] (fun h => And.intro (.inr ⟨_, rfl, h⟩) (And.intro (.inl rfl) (trivial))) (fun h => (OpJ.and_ rfl rfl rfl ?_)) ?_
              · first | (intro h; rw [h]; rfl) | (intro h; simp_all)
              refine AList.g 168 155 rfl rfl rfl rfl rfl rfl rfl [(159, _), (167, _)] (fun h => And.intro (.inr ⟨_, rfl, h⟩) (And.intro (.inl rfl) (trivial))) (fun h => (OpJ.or_ rfl rfl rfl ?_)) ?_
              · first | (intro h; rw [h]; rfl) | (intro h; simp_all)
              refine AList.c 169 rfl rfl rfl (OpJ.and_ rfl rfl rfl ?_) ?_
              · first | (intro h; rw [h]; rfl) | (intro h; simp_all)
              refine AList.c 170 rfl rfl rfl (OpJ.move rfl rfl) ?_
              refine AList.g 171 170 rfl rfl rfl rfl rfl rfl rfl [] (fun h => trivial) (fun h => (OpJ.callP (alive_ok) rfl rfl rfl rfl rf14)) ?_
              refine AList.c 172 rfl rfl rfl (OpJ.and_ rfl rfl rfl ?_) ?_
              · first | (intro h; rw [h]; rfl) | (intro h; simp_all)
              refine AList.c 14 rfl rfl rfl (OpJ.assign rfl rfl) ?_
              refine AList.nil ?_
              refine AWp.ret ?_
              refine Fin.oneE rfl rfl ?_
              simp [h0]
              omega
theorem shadeOrder_law {x0 x1 x2 x3 x4 x5 x6 : List PV} (h0 : TyL [.sl [.leaf (.int .i64), .leaf (.int .i64)]] x0) (h1 : TyL [.sl [.leaf (.int .i64), .leaf (.int .i64), .leaf (.int .i64), .leaf (.int .i64), .leaf (.int .i64), .sl [.leaf (.int .i64), .leaf (.int .i64), .leaf (.int .i64), .leaf (.int .i64)], .leaf (.int .i64), .leaf (.int .i64), .leaf (.int .i64), .leaf (.int .i64), .leaf (.int .i64)]] x1) (h2 : TyL [.sl [.leaf (.int .i64)]] x2) (h3 : TyL [.leaf (.int .i64)] x3) (h4 : TyL [.leaf (.int .u8)] x4) (h5 : TyL [.leaf (.int .u8)] x5) (h6 : TyL [.leaf (.int .u8)] x6) : Pure Try.prog 9 [argP false x0, argP false x1, argP false x2, argP false x3, argP false x4, argP false x5, argP false x6] (.bool true) := by
  obtain ⟨c, rfl, hc⟩ := cur_of h0
  obtain ⟨l, rfl, hl, hs⟩ := lds_of h1
  obtain ⟨nms, rfl, hn⟩ := intl_of h2
  obtain ⟨gap, rfl⟩ := int_of h3
  obtain ⟨a, rfl, ha⟩ := u8_of h4
  obtain ⟨b, rfl, hb⟩ := u8_of h5
  obtain ⟨m, rfl, hm⟩ := u8_of h6
  exact shadeOrder_main c l nms gap a b m hc hl hs hn ha hb hm
end Go.Proofs.Ythiapodcippnoaa
