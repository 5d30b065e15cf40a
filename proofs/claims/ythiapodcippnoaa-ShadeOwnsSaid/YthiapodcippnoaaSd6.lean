/-
  Leads in order.
-/
import Derived.Test.YthiapodcippnoaaSd5
import Derived.Test.YthiapodcippnoaaSdR
set_option linter.unusedVariables false
set_option maxRecDepth 100000
set_option maxHeartbeats 4000000
set_option linter.unusedSimpArgs false
namespace Go.Proofs.Ythiapodcippnoaa
open Go.AF
theorem pairs_seq (n : Nat) (hn : n ≤ 1000000) : ASeq Try.prog 71 (fun y => [y, .p (.ip [.int .i64 (n : Int)] 0)]) (pairX n) := by
  intro l κ nn inv fin hκ hnn hfin hb h0 hi0
  refine ACallsK.of_body (N := 20) Try.func71 rfl rfl (Nat.le_of_ble_eq_true rfl) ?_
  refine AWp.seq ?_
  refine AWp.region ?_
  refine AList.c 5 rfl rfl rfl (OpJ.load rfl rfl ty3 rfl) ?_
  refine AList.c 6 rfl rfl rfl (OpJ.move rfl rfl) ?_
  refine AList.nil ?_
  refine AWp.block ?_
  refine AWp.loopH [3, 4, 6, 7, 8, 9, 10, 11, 12, 13, 14, 15, 16, 17, 18, 19] (fun g => [(6, .p (.int .i64 ((g.1 : Nat) : Int)))]) (fun g => g.2) (fun g => g.1 ≤ n ∧ inv (g.1 * n) g.2) (fun g => n - g.1) (0, h0) ⟨Nat.zero_le _, by rw [Nat.zero_mul]; exact hi0⟩ (To.sub (Sub.chd (Sub.cons rfl (Sub.nil)))) (fun g hg => ?_)
  obtain ⟨i, hcur⟩ := g
  obtain ⟨hle, hinv⟩ := hg
  dsimp only at hle hinv ⊢
  refine AWp.seq ?_
  refine AWp.region ?_
  refine AList.c 7 rfl rfl rfl (OpJ.lss rfl rfl rfl) ?_
  refine AList.nil ?_
  refine AWp.seq ?_
  refine AWp.cond _ rfl (fun hc0 => ?_) (fun hc0 => ?_)
  · skip
    have hi0 : i < n := by have h := of_decide_eq_true hc0; omega
    refine AWp.skip ?_
    refine AWp.seq ?_
    refine AWp.block ?_
    refine AWp.seq ?_
    refine AWp.region ?_
    refine AList.c 8 rfl rfl rfl (OpJ.move rfl rfl) ?_
    refine AList.c 3 rfl rfl rfl (OpJ.assign rfl rfl) ?_
    refine AList.nil ?_
    refine AWp.seq ?_
    refine AWp.region ?_
    refine AList.c 9 rfl rfl rfl (OpJ.load rfl rfl ty3 rfl) ?_
    refine AList.c 10 rfl rfl rfl (OpJ.move rfl rfl) ?_
    refine AList.nil ?_
    refine AWp.block ?_
    refine AWp.loopH [4, 10, 11, 12, 13, 14, 15, 16, 17, 18] (fun g => [(10, .p (.int .i64 ((g.1 : Nat) : Int)))]) (fun g => g.2) (fun g => g.1 ≤ n ∧ inv (i * n + g.1) g.2) (fun g => n - g.1) (0, hcur) ⟨Nat.zero_le _, hinv⟩ (To.sub (Sub.chd (Sub.cons rfl (Sub.nil)))) (fun g hh => ?_)
    obtain ⟨k, hcur2⟩ := g
    obtain ⟨hle2, hinv2⟩ := hh
    dsimp only at hle2 hinv2 ⊢
    refine AWp.seq ?_
    refine AWp.region ?_
    refine AList.c 11 rfl rfl rfl (OpJ.lss rfl rfl rfl) ?_
    refine AList.nil ?_
    refine AWp.seq ?_
    refine AWp.cond _ rfl (fun hc1 => ?_) (fun hc1 => ?_)
    · skip
      have hk0 : k < n := by have h := of_decide_eq_true hc1; omega
      refine AWp.skip ?_
      refine AWp.seq ?_
      refine AWp.block ?_
      refine AWp.seq ?_
      refine AWp.region ?_
      refine AList.c 12 rfl rfl rfl (OpJ.move rfl rfl) ?_
      refine AList.c 4 rfl rfl rfl (OpJ.assign rfl rfl) ?_
      refine AList.nil ?_
      refine AWp.seq ?_
      refine AWp.region ?_
      refine AList.c 13 rfl rfl rfl (OpJ.move rfl rfl) ?_
      refine AList.c 14 rfl rfl rfl (OpJ.move rfl rfl) ?_
      refine AList.c 15 rfl rfl rfl (OpJ.move rfl rfl) ?_
      refine AList.yield 16 rfl rfl rfl rfl rfl rfl (hb _ _ _ hinv2 (pairX_get hi0 hk0)) ?_
      intro b2 h2 hq2
      refine AList.c 17 rfl rfl rfl (OpJ.not_ rfl rfl) ?_
      refine AList.nil ?_
      refine AWp.cond _ rfl (fun hc2 => ?_) (fun hc2 => ?_)
      · skip
        have hb2 : b2 = false := by simpa using hc2
        subst hb2
        refine AWp.ret ?_
        exact ⟨.inr rfl, _, resV.none_ rfl, .inr hq2⟩
      · skip
        have hb2 : b2 = true := by simpa using hc2
        subst hb2
        refine AWp.skip ?_
        refine AWp.region ?_
        refine AList.c 18 rfl rfl rfl (OpJ.add rfl rfl rfl (i64ok ?_)) ?_
        · omega
        refine AList.c 10 rfl rfl rfl (OpJ.move rfl rfl) ?_
        refine AList.nil ?_
        refine ⟨(k + 1, h2), ?_, ?_, ?_⟩
        · exact ⟨by dsimp only; omega, hq2⟩
        · show n - (k + 1) < n - k
          omega
        exact To.sub (by repeat (first | exact Sub.nil | refine Sub.cons rfl ?_))
    · skip
      obtain rfl : n = k := by have h := of_decide_eq_false hc1; omega
      refine AWp.exit ?_
      refine AWp.region ?_
      refine AList.c 19 rfl rfl rfl (OpJ.add rfl rfl rfl (i64ok ?_)) ?_
      · omega
      refine AList.c 6 rfl rfl rfl (OpJ.move rfl rfl) ?_
      refine AList.nil ?_
      refine ⟨(i + 1, hcur2), ?_, ?_, ?_⟩
      · exact ⟨by dsimp only; omega, by dsimp only; rw [Nat.succ_mul]; exact hinv2⟩
      · show n - (i + 1) < n - i
        omega
      exact To.sub (by repeat (first | exact Sub.nil | refine Sub.cons rfl ?_))
  · skip
    obtain rfl : n = i := by have h := of_decide_eq_false hc0; omega
    refine AWp.exit ?_
    exact ⟨.inl rfl, _, resV.none_ rfl, .inl (by rw [pairX_len]; exact hinv)⟩
theorem pairs_ok (n : Nat) : Pure Try.prog 50 [.int .i64 (n : Int)] (.func (.func 71) [] [.ip [.int .i64 (n : Int)] 0]) := by
  refine Pure.start (N := 4) Try.func50 rfl rfl (Nat.le_of_ble_eq_true rfl) ?_
  refine AWp.seq ?_
  refine AWp.region ?_
  refine AList.c 1 rfl rfl rfl (OpJ.boxImm rfl rfl rfl) ?_
  refine AList.c 2 rfl rfl rfl (OpJ.assign rfl rfl) ?_
  refine AList.nil ?_
  refine AWp.seq ?_
  refine AWp.region ?_
  refine AList.c 3 rfl rfl rfl (OpJ.makeFunc rfl rfl rfl) ?_
  refine AList.c 2 rfl rfl rfl (OpJ.assign rfl rfl) ?_
  refine AList.nil ?_
  refine AWp.ret ?_
  exact Fin.one rfl (rfl)
theorem ordered_R (c : List Tnt) (ls : List Lds) (nms : List Int) (gap : Int) (hcb : c.length ≤ bigN) (hb : ls.length ≤ bigN) (hs : ∀ x ∈ ls, x.st.length ≤ bigN) (ha : nms.length ≤ bigN) : Pure Try.prog 20 [curV c, ldsV ls, intsV nms, .int .i64 gap] (.tuple [.int .i64 (ordR c ls nms gap).1, .int .i64 (ordR c ls nms gap).2.1, .int .i64 (ordR c ls nms gap).2.2]) := by
  have hb2 := hb
  have ha2 := ha
  unfold bigN at hb2 ha2
  refine Pure.start (N := 74) Try.func20 rfl rfl (Nat.le_of_ble_eq_true rfl) ?_
  refine AWp.seq ?_
  refine AWp.region ?_
  refine AList.c 6 rfl rfl rfl (OpJ.boxImm rfl rfl rfl) ?_
  refine AList.c 7 rfl rfl rfl (OpJ.boxImm rfl rfl rfl) ?_
  refine AList.c 8 rfl rfl rfl (OpJ.allocOwn rfl zr3 rfl) ?_
  refine AList.c 9 rfl rfl rfl (OpJ.allocOwn rfl zr3 rfl) ?_
  refine AList.c 10 rfl rfl rfl (OpJ.allocOwn rfl zr31 rfl) ?_
  refine AList.nil ?_
  refine AWp.seq ?_
  refine AWp.region ?_
  refine AList.c 11 rfl rfl rfl (OpJ.assign rfl rfl) ?_
  refine AList.nil ?_
  refine AWp.seq ?_
  refine AWp.region ?_
  refine AList.c 16 rfl rfl rfl (OpJ.load rfl rfl ty34 rfl) ?_
  refine AList.c 17 rfl rfl rfl (OpJ.lenSlice rfl rfl sl34 rfl) ?_
  refine AList.c 18 rfl rfl rfl (OpJ.move rfl rfl) ?_
  refine AList.c 19 rfl rfl rfl (OpJ.lenSlice rfl rfl sl39 rfl) ?_
  refine AList.c 20 rfl rfl rfl (OpJ.eql rfl rfl rfl) ?_
  refine AList.c 21 rfl rfl rfl (OpJ.move rfl rfl) ?_
  refine AList.g 22 21 rfl rfl rfl rfl rfl rfl rfl [(7, _)] (fun h => And.intro (.inl rfl) (trivial)) (fun h => (OpJ.load rfl rfl ty3 rfl)) ?_
  refine AList.g 23 21 rfl rfl rfl rfl rfl rfl rfl [(22, _)] (fun h => And.intro (.inr ⟨_, rfl, h⟩) (trivial)) (fun h => (OpJ.callP (within_ok _ _ _) rfl rfl rfl rfl rf48)) ?_
  refine AList.c 24 rfl rfl rfl (OpJ.and_ rfl rfl rfl ?_) ?_
  · first | (intro h; rw [h]; rfl) | (intro h; simp_all)
  refine AList.c 25 rfl rfl rfl (OpJ.move rfl rfl) ?_
  refine AList.g 26 25 rfl rfl rfl rfl rfl rfl rfl [(6, _)] (fun h => And.intro (.inl rfl) (trivial)) (fun h => (OpJ.load rfl rfl ty34 rfl)) ?_
  refine AList.g 27 25 rfl rfl rfl rfl rfl rfl rfl [(11, _)] (fun h => And.intro (.inl rfl) (trivial)) (fun h => (OpJ.move rfl rfl)) ?_
  refine AList.g 28 25 rfl rfl rfl rfl rfl rfl rfl [(26, _), (27, _)] (fun h => And.intro (.inr ⟨_, rfl, h⟩) (And.intro (.inr ⟨_, rfl, h⟩) (trivial))) (fun h => (OpJ.callP (containsFI_ok nms _ (fun n => !inB n 0 7) ha (fun x hx => ⟨47, [.int .i64 x], rfl, rf47, ordered1_ok x⟩)) rfl rfl rfl rfl rf49)) ?_
  refine AList.g 29 25 rfl rfl rfl rfl rfl rfl rfl [(28, _)] (fun h => And.intro (.inr ⟨_, rfl, h⟩) (trivial)) (fun h => (OpJ.not_ rfl rfl)) ?_
  refine AList.c 30 rfl rfl rfl (OpJ.and_ rfl rfl rfl ?_) ?_
  · first | (intro h; rw [h]; rfl) | (intro h; simp_all)
  refine AList.c 12 rfl rfl rfl (OpJ.assign rfl rfl) ?_
  refine AList.nil ?_
  refine AWp.seq ?_
  refine AWp.region ?_
  refine AList.c 32 rfl rfl rfl (OpJ.move rfl rfl) ?_
  refine AList.c 33 rfl rfl rfl (OpJ.move rfl rfl) ?_
  refine AList.c 34 rfl rfl rfl (OpJ.move rfl rfl) ?_
  refine AList.c 35 rfl rfl rfl (OpJ.callP (open_ok c ls 10 (decide ((nms.length : Int) = (ls.length : Int)) && inB gap 0 200 && !(nms.any fun n => !inB n 0 7)) (by omega) hcb hb hs) rfl rfl rfl rfl rf38) ?_
  refine AList.c 31 rfl rfl rfl (OpJ.move rfl rfl) ?_
  refine AList.c 36 rfl rfl rfl (OpJ.extract rfl rfl rfl) ?_
  refine AList.c 37 rfl rfl rfl (OpJ.extract rfl rfl rfl) ?_
  refine AList.c 13 rfl rfl rfl (OpJ.allocOwn rfl zr86 rfl) ?_
  refine AList.c0 rfl rfl (OpJ.store rfl rfl rfl rfl rfl ty86 rfl rfl) ?_
  refine AList.c0 rfl rfl (OpJ.store rfl rfl rfl rfl rfl ty31 rfl rfl) ?_
  refine AList.nil ?_
  refine AWp.seq ?_
  refine AWp.seq ?_
  refine AWp.region ?_
  refine AList.c 38 rfl rfl rfl (OpJ.load rfl rfl ty31 rfl) ?_
  refine AList.c 39 rfl rfl rfl (OpJ.neq rfl rfl rfl) ?_
  refine AList.nil ?_
  refine AWp.cond _ rfl (fun hc0 => ?_) (fun hc0 => ?_)
  · skip
    have e : openE c ls 10 (ordV ls nms gap) ≠ 0 := by rw [ordV_eq] at hc0; simpa using hc0
    refine AWp.seq ?_
    refine AWp.regionDrawG 3 0 [0, 1] [([], false), ([0], true), ([1], true)] mixed (by kernel_rfl) (by decide) (by kernel_rfl) rfl rfl ?_
    refine AQG.cons 40 rfl rfl rfl (fun _ => (OpJ.load rfl rfl ty31 rfl)) rfl ?_
    refine AQG.put 0 rfl rfl rfl rfl (fun _ => (OpJ.store rfl rfl rfl rfl rfl ty3 rfl rfl)) rfl rfl ?_
    refine AQG.put 1 rfl rfl rfl rfl (fun _ => (OpJ.store rfl rfl rfl rfl rfl ty3 rfl rfl)) rfl rfl ?_
    refine AQG.nil ?_
    refine AList.c0 rfl rfl (OpJ.store rfl rfl rfl rfl rfl ty31 rfl rfl) ?_
    refine AList.nil ?_
    refine AWp.ret ?_
    have eR : ordR c ls nms gap = (0, 0, openE c ls 10 (ordV ls nms gap)) := by unfold ordR; rw [if_neg e]
    rw [eR, ordV_eq]
    exact Fin.many (xs := [.int .i64 0, .int .i64 0, .int .i64 (openE c ls 10 (ordV ls nms gap))]) rfl (⟨_, _, rfl, ⟨_, _, _, rfl, ty3, rfl⟩, ⟨_, _, rfl, ⟨_, _, _, rfl, ty3, rfl⟩, ⟨_, _, rfl, ⟨_, _, _, rfl, ty31, rfl⟩, rfl⟩⟩⟩) rfl
  · skip
    have e : openE c ls 10 (ordV ls nms gap) = 0 := by rw [ordV_eq] at hc0; simpa using hc0
    rw [ordV_eq, openL_zero e, e]
    have hO := openE_zero.1 e
    have hV := ordV_true hO.ov
    have hn10 := hO.on
    refine AWp.skip ?_
    refine AWp.seq ?_
    refine AWp.seq ?_
    refine AWp.region ?_
    refine AList.c 41 rfl rfl rfl (OpJ.move rfl rfl) ?_
    refine AList.c 42 rfl rfl rfl (OpJ.lenSlice rfl rfl sl39 rfl) ?_
    refine AList.c 43 rfl rfl rfl (OpJ.callP (pairs_ok ls.length) rfl rfl rfl rfl rf50) ?_
    refine AList.nil ?_
    refine AWp.block ?_
    refine AWp.rangeFunc 0 rfl (fun _ => rfl) rf71 (pairs_seq ls.length (by omega)) (Nat.le_refl _) (Nat.zero_le _) (fun _ h => by cases h) (fun x hx => by unfold pairX at hx; simp at hx; obtain ⟨j, _, rfl⟩ := hx; rfl) rfl (fun k h => fstN (wrongJ c ls nms gap) k = none ∧ h = [.cells [.p (.int .i64 0)] 3, .cells [.p (.int .i64 0)] 3, .cells [.p (.int .i64 0)] 31, .cells [.p (bchV (ls.map (toB c)))] 86]) (fun c2 h => c2 = Code.ret ∧ ∃ j, fstN (wrongJ c ls nms gap) (ls.length * ls.length) = some j ∧ h = [.cells [.p (.int .i64 ((j / ls.length : Nat) : Int))] 3, .cells [.p (.int .i64 ((j % ls.length : Nat) : Int))] 3, .cells [.p (.int .i64 0)] 31, .cells [.p (bchV (ls.map (toB c)))] 86]) (fun _ _ h => by rw [h.2]; rfl) (fun _ _ h => by obtain ⟨_, j, _, h⟩ := h; rw [h]; rfl) ⟨rfl, rfl⟩ ?_ ?_ ?_
    · skip
      intro lx tmps k h x hJ hx
      obtain ⟨hpf, rfl⟩ := hJ
      have hk : k < ls.length * ls.length := by have := (List.getElem?_eq_some_iff.1 hx).1; rwa [pairX_len] at this
      obtain rfl := pairX_at hk hx
      have hn0 : 0 < ls.length := by rcases Nat.eq_zero_or_pos ls.length with h | h; { rw [h] at hk; omega }; { exact h }
      have hk1 : k / ls.length < ls.length := Nat.div_lt_of_lt_mul hk
      have hk2 : k % ls.length < ls.length := Nat.mod_lt _ hn0
      have hob := hO.ob _ (ld_mem hk1)
      have hmB := meets_B (srcs c (ld ls (k / ls.length)))
      rw [show meets (srcs c (ld ls (k / ls.length))) = blk c (ld ls (k / ls.length)) from rfl] at hmB
      refine AWp.seq ?_
      refine AWp.region ?_
      refine AList.c 14 rfl rfl rfl (OpJ.assign rfl rfl) ?_
      refine AList.nil ?_
      refine AWp.region ?_
      refine AList.c 15 rfl rfl rfl (OpJ.assign rfl rfl) ?_
      refine AList.nil ?_
      refine ⟨rfl, rfl, ?_⟩
      refine AWp.block ?_
      refine AWp.seq ?_
      refine AWp.regionDraw 26 mixed (by kernel_rfl) (by decide) ?_
      refine AQuiet.cons 46 rfl rfl rfl (OpJ.load rfl rfl ty34 rfl) ?_
      refine AQuiet.cons 47 rfl rfl rfl (OpJ.move rfl rfl) ?_
      refine AQuiet.cons 48 rfl rfl rfl (OpJ.indexG (g := nt nms) (fun _ h => nt_get h) rfl rfl rfl sl34 el34 rfl (fun _ => rfl) (by decide) (by omega)) ?_
      refine AQuiet.cons 49 rfl rfl rfl (OpJ.load rfl rfl ty3 rfl) ?_
      refine AQuiet.cons 50 rfl rfl rfl (OpJ.load rfl rfl ty34 rfl) ?_
      refine AQuiet.cons 51 rfl rfl rfl (OpJ.move rfl rfl) ?_
      refine AQuiet.cons 52 rfl rfl rfl (OpJ.indexG (g := nt nms) (fun _ h => nt_get h) rfl rfl rfl sl34 el34 rfl (fun _ => rfl) (by decide) (by omega)) ?_
      refine AQuiet.cons 53 rfl rfl rfl (OpJ.load rfl rfl ty3 rfl) ?_
      refine AQuiet.cons 54 rfl rfl rfl (OpJ.lss rfl rfl rfl) ?_
      refine AQuiet.cons 55 rfl rfl rfl (OpJ.move rfl rfl) ?_
      refine AQuiet.guard 56 55 rfl rfl rfl rfl rfl rfl rfl [(13, _)] (fun h => And.intro (.inl rfl) (trivial)) (fun h => (OpJ.load rfl rfl ty86 rfl)) ?_
      refine AQuiet.guard 57 55 rfl rfl rfl rfl rfl rfl rfl [(14, _)] (fun h => And.intro (.inl rfl) (trivial)) (fun h => (OpJ.move rfl rfl)) ?_
      refine AQuiet.guard 58 55 rfl rfl rfl rfl rfl rfl rfl [(56, _), (57, _)] (fun h => And.intro (.inr ⟨_, rfl, h⟩) (And.intro (.inr ⟨_, rfl, h⟩) (trivial))) (fun h => (OpJ.indexG (g := (fun i => toB c (ld ls i))) (toB_get c ls) rfl rfl rfl sl86 el86 rfl (fun _ => rfl) (by decide) (by rw [List.length_map]; omega))) ?_
      refine AQuiet.guard 59 55 rfl rfl rfl rfl rfl rfl rfl [(58, _)] (fun h => And.intro (.inr ⟨_, rfl, h⟩) (trivial)) (fun h => (OpJ.fieldAddr rfl rfl fd90_1 rfl)) ?_
      refine AQuiet.guard 60 55 rfl rfl rfl rfl rfl rfl rfl [(59, _)] (fun h => And.intro (.inr ⟨_, rfl, h⟩) (trivial)) (fun h => (OpJ.fieldAddr rfl rfl fd25_1 rfl)) ?_
      refine AQuiet.guard 61 55 rfl rfl rfl rfl rfl rfl rfl [(60, _)] (fun h => And.intro (.inr ⟨_, rfl, h⟩) (trivial)) (fun h => (OpJ.load rfl rfl ty3 rfl)) ?_
      refine AQuiet.guard 62 55 rfl rfl rfl rfl rfl rfl rfl [(7, _)] (fun h => And.intro (.inl rfl) (trivial)) (fun h => (OpJ.load rfl rfl ty3 rfl)) ?_
      refine AQuiet.guard 63 55 rfl rfl rfl rfl rfl rfl rfl [(61, _), (62, _)] (fun h => And.intro (.inr ⟨_, rfl, h⟩) (And.intro (.inr ⟨_, rfl, h⟩) (trivial))) (fun h => (OpJ.add rfl rfl rfl (i64ok (by show _ ≤ (blk c (ld ls (k / ls.length))).2 + gap ∧ (blk c (ld ls (k / ls.length))).2 + gap ≤ _; omega)))) ?_
      refine AQuiet.guard 64 55 rfl rfl rfl rfl rfl rfl rfl [(13, _)] (fun h => And.intro (.inl rfl) (trivial)) (fun h => (OpJ.load rfl rfl ty86 rfl)) ?_
      refine AQuiet.guard 65 55 rfl rfl rfl rfl rfl rfl rfl [(15, _)] (fun h => And.intro (.inl rfl) (trivial)) (fun h => (OpJ.move rfl rfl)) ?_
      refine AQuiet.guard 66 55 rfl rfl rfl rfl rfl rfl rfl [(64, _), (65, _)] (fun h => And.intro (.inr ⟨_, rfl, h⟩) (And.intro (.inr ⟨_, rfl, h⟩) (trivial))) (fun h => (OpJ.indexG (g := (fun i => toB c (ld ls i))) (toB_get c ls) rfl rfl rfl sl86 el86 rfl (fun _ => rfl) (by decide) (by rw [List.length_map]; omega))) ?_
      refine AQuiet.guard 67 55 rfl rfl rfl rfl rfl rfl rfl [(66, _)] (fun h => And.intro (.inr ⟨_, rfl, h⟩) (trivial)) (fun h => (OpJ.fieldAddr rfl rfl fd90_1 rfl)) ?_
      refine AQuiet.guard 68 55 rfl rfl rfl rfl rfl rfl rfl [(67, _)] (fun h => And.intro (.inr ⟨_, rfl, h⟩) (trivial)) (fun h => (OpJ.fieldAddr rfl rfl fd25_0 rfl)) ?_
      refine AQuiet.guard 69 55 rfl rfl rfl rfl rfl rfl rfl [(68, _)] (fun h => And.intro (.inr ⟨_, rfl, h⟩) (trivial)) (fun h => (OpJ.load rfl rfl ty3 rfl)) ?_
      refine AQuiet.guard 70 55 rfl rfl rfl rfl rfl rfl rfl [(63, _), (69, _)] (fun h => And.intro (.inr ⟨_, rfl, h⟩) (And.intro (.inr ⟨_, rfl, h⟩) (trivial))) (fun h => (OpJ.gtr rfl rfl rfl)) ?_
      refine AQuiet.cons 71 rfl rfl rfl (OpJ.and_ rfl rfl rfl ?_) ?_
      · first | (intro h; rw [h]; rfl) | (intro h; simp_all)
      refine AQuiet.nil ?_
      refine AList.nil ?_
      refine AWp.cond _ rfl (fun hc1 => ?_) (fun hc1 => ?_)
      · skip
        have hw : wrongB c ls nms gap (k / ls.length) (k % ls.length) = true := hc1
        refine AWp.seq ?_
        refine AWp.region ?_
        refine AList.c 72 rfl rfl rfl (OpJ.move rfl rfl) ?_
        refine AList.c 73 rfl rfl rfl (OpJ.move rfl rfl) ?_
        refine AList.c0 rfl rfl (OpJ.store rfl rfl rfl rfl rfl ty3 rfl rfl) ?_
        refine AList.c0 rfl rfl (OpJ.store rfl rfl rfl rfl rfl ty3 rfl rfl) ?_
        refine AList.c0 rfl rfl (OpJ.store rfl rfl rfl rfl rfl ty31 rfl rfl) ?_
        refine AList.nil ?_
        refine AWp.ret ?_
        exact ⟨_, ⟨rfl, k, fstN_some (fstN_at hpf (by unfold wrongJ; exact hw)) (by omega), rfl⟩, To.done [0, 1, 2, 3, 4] rfl Sub.nil rfl⟩
      · skip
        have hw : wrongB c ls nms gap (k / ls.length) (k % ls.length) = false := hc1
        refine AWp.skip ?_
        exact ⟨_, ⟨by rw [fstN_none hpf]; exact if_neg (by unfold wrongJ; rw [hw]; decide), rfl⟩, To.done [0, 1, 2, 3, 4] rfl Sub.nil rfl⟩
    · skip
      intro h hJ
      obtain ⟨hpf, rfl⟩ := hJ
      rw [pairX_len] at hpf
      refine AWp.seq ?_
      refine AWp.region ?_
      refine AList.c0 rfl rfl (OpJ.store rfl rfl rfl rfl rfl ty3 rfl rfl) ?_
      refine AList.c0 rfl rfl (OpJ.store rfl rfl rfl rfl rfl ty3 rfl rfl) ?_
      refine AList.c0 rfl rfl (OpJ.store rfl rfl rfl rfl rfl ty31 rfl rfl) ?_
      refine AList.nil ?_
      refine AWp.ret ?_
      have eR : ordR c ls nms gap = (0, 0, 4) := by unfold ordR; rw [if_pos e, hpf]
      rw [eR]
      exact Fin.many (xs := [.int .i64 0, .int .i64 0, .int .i64 4]) rfl (⟨_, _, rfl, ⟨_, _, _, rfl, ty3, rfl⟩, ⟨_, _, rfl, ⟨_, _, _, rfl, ty3, rfl⟩, ⟨_, _, rfl, ⟨_, _, _, rfl, ty31, rfl⟩, rfl⟩⟩⟩) rfl
    · skip
      intro c2 h hx
      obtain ⟨rfl, j, hj, rfl⟩ := hx
      refine AWp.ret ?_
      have eR : ordR c ls nms gap = (((j / ls.length : Nat) : Int), ((j % ls.length : Nat) : Int), 0) := by unfold ordR; rw [if_pos e, hj]
      rw [eR]
      exact Fin.many (xs := [.int .i64 ((j / ls.length : Nat) : Int), .int .i64 ((j % ls.length : Nat) : Int), .int .i64 0]) rfl (⟨_, _, rfl, ⟨_, _, _, rfl, ty3, rfl⟩, ⟨_, _, rfl, ⟨_, _, _, rfl, ty3, rfl⟩, ⟨_, _, rfl, ⟨_, _, _, rfl, ty31, rfl⟩, rfl⟩⟩⟩) rfl
end Go.Proofs.Ythiapodcippnoaa
