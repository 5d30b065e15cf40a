/-
  The best cuts.
-/
import Derived.Test.YthiapodcippnoaaSd6
import Derived.Test.YthiapodcippnoaaSdC
set_option linter.unusedVariables false
set_option maxRecDepth 100000
set_option maxHeartbeats 4000000
set_option linter.unusedSimpArgs false
namespace Go.Proofs.Ythiapodcippnoaa
open Go.AF
def tblB (t : List Cho) : Blk := .cells ((t.flatMap Cho.cells).map .p) 108
def sP (s : Scl) : PV := .ip s.cells 0
def bP (b : List Bch) : PV := .ip [bchV b] 0
def sameP : PV := .ip [.func (.func 55) [] []] 0
def capV (b : List Bch) (s : Scl) : List V := [.p (sP s), .ptr 0 0, .ptr 1 0, .p (bP b), .p sameP]
def aftB (b : List Bch) (s : Scl) : Blk := .cells [.func (.func 56) [] (capV b s)] 109
def HH (b : List Bch) (s : Scl) (t : List Cho) : List Blk := [tblB t, aftB b s]
def AfterOk (b : List Bch) (s : Scl) (k : Nat) : Prop := ∀ f : Nat, f ≤ 200 → ∀ t, MemoOk b s t → ACalls Try.prog 56 (.p (.int .i64 (k : Int)) :: .p (.int .i64 (f : Int)) :: capV b s) (HH b s t) fun v H' => v = .p (.int .i64 (mostF b s (s.n.toNat - k) f)) ∧ ∃ t', H' = HH b s t' ∧ MemoOk b s t' ∧ LeT t t' ∧ (k < s.n.toNat → (cho t' (ix k f)).known = true)
theorem zr108c : zeroI Try.prog 108 = some (.agg (tb0.flatMap Cho.cells)) := by kernel_rfl
theorem cut1_ok (x : Int) : Pure Try.prog 55 [.int .i64 x] (.int .i64 x) := by
  refine Pure.start (N := 4) Try.func55 rfl rfl (Nat.le_of_ble_eq_true rfl) ?_
  refine AWp.seq ?_
  refine AWp.region ?_
  refine AList.c 2 rfl rfl rfl (OpJ.assign rfl rfl) ?_
  refine AList.nil ?_
  refine AWp.seq ?_
  refine AWp.region ?_
  refine AList.c 3 rfl rfl rfl (OpJ.move rfl rfl) ?_
  refine AList.c 2 rfl rfl rfl (OpJ.assign rfl rfl) ?_
  refine AList.nil ?_
  refine AWp.ret ?_
  exact Fin.one rfl (rfl)
theorem sold_ok (b : List Bch) (gap fr to : Int) (hb : BOk b) (g0 : 0 ≤ gap) (g1 : gap ≤ 200) : Pure Try.prog 59 [bchV b, .int .i64 gap, .int .i64 fr, .int .i64 to] (.int .i64 (soldF b gap fr to)) := by
  have hn := hb.n
  refine Pure.start (N := 38) Try.func59 rfl rfl (Nat.le_of_ble_eq_true rfl) ?_
  refine AWp.seq ?_
  refine AWp.region ?_
  refine AList.c 8 rfl rfl rfl (OpJ.assign rfl rfl) ?_
  refine AList.nil ?_
  refine AWp.scope ?_
  refine AWp.seq ?_
  refine AWp.label ?_
  refine AWp.seq ?_
  refine AWp.seq ?_
  refine AWp.region ?_
  refine AList.c 11 rfl rfl rfl (OpJ.move rfl rfl) ?_
  refine AList.c 12 rfl rfl rfl (OpJ.lenSlice rfl rfl sl86 rfl) ?_
  refine AList.c 13 rfl rfl rfl (OpJ.move rfl rfl) ?_
  refine AList.nil ?_
  refine AWp.block ?_
  refine AWp.loopHL [1, 2, 3, 11, 12, 37] (fun g => [(13, .p (.int .i64 ((g : Nat) : Int))), (8, .p (.int .i64 (soldF (b.take g) gap fr to)))]) (fun g => []) (fun g => g ≤ b.length) (fun g => b.length - g) 0 (Nat.zero_le _) (To.sub (Sub.chk (Sub.cons rfl (Sub.cons rfl (Sub.nil))))) (fun i hg => ?_)
  refine AWp.seq ?_
  refine AWp.region ?_
  refine AList.c 14 rfl rfl rfl (OpJ.lss rfl rfl rfl) ?_
  refine AList.nil ?_
  refine AWp.seq ?_
  refine AWp.cond _ rfl (fun hc0 => ?_) (fun hc0 => ?_)
  · skip
    have hk0 : i < b.length := by have h := of_decide_eq_true hc0; omega
    have hx := hb.x _ (bc_mem hk0)
    have hB := sold_takeB hb gap fr to i
    have hT := sold_take (gap := gap) (fr := fr) (to := to) hk0
    refine AWp.skip ?_
    refine AWp.seq ?_
    refine AWp.block ?_
    refine AWp.seq ?_
    refine AWp.region ?_
    refine AList.c 15 rfl rfl rfl (OpJ.indexG (g := bc b) (fun _ h => bc_get h) rfl rfl rfl sl86 el86 rfl (fun _ => rfl) (by decide) hk0) ?_
    refine AList.c 16 rfl rfl rfl (OpJ.load (v := .p (.agg (bc b i).cells)) rfl rfl ty90 rfl) ?_
    refine AList.c 10 rfl rfl rfl (OpJ.allocOwn rfl zr90 rfl) ?_
    refine AList.c0 rfl rfl (OpJ.store (H' := [.cells ((bc b i).cells.map .p) 90]) rfl rfl rfl rfl rfl ty90 rfl rfl) ?_
    refine AList.nil ?_
    refine AWp.seq ?_
    refine AWp.seq ?_
    refine AWp.region ?_
    refine AList.c 17 rfl rfl rfl (OpJ.fieldAddr rfl rfl fd90_1 rfl) ?_
    refine AList.c 18 rfl rfl rfl (OpJ.fieldAddr rfl rfl fd25_0 rfl) ?_
    refine AList.c 19 rfl rfl rfl (OpJ.load rfl rfl ty3 rfl) ?_
    refine AList.c 20 rfl rfl rfl (OpJ.move rfl rfl) ?_
    refine AList.c 21 rfl rfl rfl (OpJ.lss rfl rfl rfl) ?_
    refine AList.c 22 rfl rfl rfl (OpJ.move rfl rfl) ?_
    refine AList.g 23 22 rfl rfl rfl rfl rfl rfl rfl [(10, _)] (fun h => And.intro (.inl rfl) (trivial)) (fun h => (OpJ.fieldAddr rfl rfl fd90_1 rfl)) ?_
    refine AList.g 24 22 rfl rfl rfl rfl rfl rfl rfl [(23, _)] (fun h => And.intro (.inr ⟨_, rfl, h⟩) (trivial)) (fun h => (OpJ.fieldAddr rfl rfl fd25_1 rfl)) ?_
    refine AList.g 25 22 rfl rfl rfl rfl rfl rfl rfl [(24, _)] (fun h => And.intro (.inr ⟨_, rfl, h⟩) (trivial)) (fun h => (OpJ.load rfl rfl ty3 rfl)) ?_
    refine AList.g 26 22 rfl rfl rfl rfl rfl rfl rfl [(1, _)] (fun h => And.intro (.inl rfl) (trivial)) (fun h => (OpJ.move rfl rfl)) ?_
    refine AList.g 27 22 rfl rfl rfl rfl rfl rfl rfl [(25, _), (26, _)] (fun h => And.intro (.inr ⟨_, rfl, h⟩) (And.intro (.inr ⟨_, rfl, h⟩) (trivial))) (fun h => (OpJ.add rfl rfl rfl (i64ok (by omega)))) ?_
    refine AList.g 28 22 rfl rfl rfl rfl rfl rfl rfl [(3, _)] (fun h => And.intro (.inl rfl) (trivial)) (fun h => (OpJ.move rfl rfl)) ?_
    refine AList.g 29 22 rfl rfl rfl rfl rfl rfl rfl [(27, _), (28, _)] (fun h => And.intro (.inr ⟨_, rfl, h⟩) (And.intro (.inr ⟨_, rfl, h⟩) (trivial))) (fun h => (OpJ.gtr rfl rfl rfl)) ?_
    refine AList.c 30 rfl rfl rfl (OpJ.or_ rfl rfl rfl ?_) ?_
    · first | (intro h; rw [h]; rfl) | (intro h; simp_all)
    refine AList.nil ?_
    refine AWp.cond _ rfl (fun hc1 => ?_) (fun hc1 => ?_)
    · skip
      have hX : soldX gap fr to (bc b i) = 0 := if_pos (by simp at hc1; omega)
      refine AWp.exit ?_
      refine AWp.region ?_
      refine AList.c 36 rfl rfl rfl (OpJ.add rfl rfl rfl (i64ok ?_)) ?_
      · omega
      refine AList.c 13 rfl rfl rfl (OpJ.move rfl rfl) ?_
      refine AList.nil ?_
      refine ⟨i + 1, ?_, ?_, ?_⟩
      · omega
      · omega
      refine To.done [] rfl (Sub.cons rfl (Sub.cons (by rw [hT, hX, Int.add_zero]; rfl) (by repeat (first | exact Sub.nil | refine Sub.cons rfl ?_)))) rfl
    · skip
      have hX : soldX gap fr to (bc b i) = (bc b i).l.many := if_neg (by simp at hc1; omega)
      refine AWp.skip ?_
      refine AWp.region ?_
      refine AList.c 31 rfl rfl rfl (OpJ.move rfl rfl) ?_
      refine AList.c 32 rfl rfl rfl (OpJ.fieldAddr rfl rfl fd90_0 rfl) ?_
      refine AList.c 33 rfl rfl rfl (OpJ.fieldAddr rfl rfl fd28_6 rfl) ?_
      refine AList.c 34 rfl rfl rfl (OpJ.load rfl rfl ty3 rfl) ?_
      refine AList.c 35 rfl rfl rfl (OpJ.add rfl rfl rfl (i64ok ?_)) ?_
      · omega
      refine AList.c 8 rfl rfl rfl (OpJ.assign rfl rfl) ?_
      refine AList.nil ?_
      refine AWp.region ?_
      refine AList.c 36 rfl rfl rfl (OpJ.add rfl rfl rfl (i64ok ?_)) ?_
      · omega
      refine AList.c 13 rfl rfl rfl (OpJ.move rfl rfl) ?_
      refine AList.nil ?_
      refine ⟨i + 1, ?_, ?_, ?_⟩
      · omega
      · omega
      refine To.done [] rfl (Sub.cons rfl (Sub.cons (by rw [hT, hX]; rfl) (by repeat (first | exact Sub.nil | refine Sub.cons rfl ?_)))) rfl
  · skip
    obtain rfl : i = b.length := by have h := of_decide_eq_false hc0; omega
    rw [List.take_length]
    refine AWp.exit ?_
    refine AWp.seq ?_
    refine AWp.region ?_
    refine AList.c 37 rfl rfl rfl (OpJ.move rfl rfl) ?_
    refine AList.c 8 rfl rfl rfl (OpJ.assign rfl rfl) ?_
    refine AList.nil ?_
    refine AWp.ret ?_
    exact Fin.one rfl (rfl)
theorem best_ok (a z : Int) (of : V) (many : PV) (F : Int → Int) (J : Nat → List Blk → Prop) (m : Nat) (hm : m = (z + 1 - a).toNat) (a0 : -1000 ≤ a) (a1 : a ≤ 1000) (z0 : -1000 ≤ z) (z1 : z ≤ 1000) (hof : ∀ (i : Nat) (H : List Blk), i < m → J i H → FX Try.prog of [.p (.int .i64 (a + i))] H fun v H' => v = .p (.int .i64 (F (a + i))) ∧ J (i + 1) H') (hmany : ∀ x : Int, FPure Try.prog many [.int .i64 x] (.int .i64 x)) (H : List Blk) (h0 : J 0 H) : ACalls Try.prog 57 [.p (.int .i64 a), .p (.int .i64 z), of, .p many] H fun v H' => v = .p (.tuple [.int .i64 (bstF F a m).1, .int .i64 (bstF F a m).2.1, .bool (bstF F a m).2.2]) ∧ J m H' := by
  refine ACalls.start (N := 44) Try.func57 rfl rfl (Nat.le_of_ble_eq_true rfl) ?_
  refine AWp.seq ?_
  refine AWp.region ?_
  refine AList.c 8 rfl rfl rfl (OpJ.assign rfl rfl) ?_
  refine AList.c 9 rfl rfl rfl (OpJ.assign rfl rfl) ?_
  refine AList.c 10 rfl rfl rfl (OpJ.assign rfl rfl) ?_
  refine AList.nil ?_
  refine AWp.seq ?_
  refine AWp.seq ?_
  refine AWp.region ?_
  refine AList.c 13 rfl rfl rfl (OpJ.move rfl rfl) ?_
  refine AList.c 11 rfl rfl rfl (OpJ.assign rfl rfl) ?_
  refine AList.nil ?_
  refine AWp.block ?_
  refine AWp.loopHL [1, 2, 3, 41, 42, 43] (fun g => [(11, .p (.int .i64 (a + (g.1 : Nat)))), (8, .p (.int .i64 (bstF F a g.1).1)), (9, .p (.int .i64 (bstF F a g.1).2.1)), (10, .p (.bool (bstF F a g.1).2.2))]) (fun g => g.2) (fun g => g.1 ≤ m ∧ J g.1 g.2) (fun g => m - g.1) (0, H) ⟨Nat.zero_le _, h0⟩ (To.sub (Sub.chk (Sub.cons (by show _ = some (V.p (.int .i64 (a + 0))); rw [Int.add_zero]; rfl) (Sub.cons rfl (Sub.cons rfl (Sub.cons rfl Sub.nil)))))) (fun g hg => ?_)
  obtain ⟨i, hcur⟩ := g
  obtain ⟨hle, hJ⟩ := hg
  dsimp only at hle hJ ⊢
  refine AWp.seq ?_
  refine AWp.seq ?_
  refine AWp.region ?_
  refine AList.c 14 rfl rfl rfl (OpJ.move rfl rfl) ?_
  refine AList.c 15 rfl rfl rfl (OpJ.move rfl rfl) ?_
  refine AList.c 16 rfl rfl rfl (OpJ.leq rfl rfl rfl) ?_
  refine AList.nil ?_
  refine AWp.cond _ rfl (fun hc0 => ?_) (fun hc0 => ?_)
  · skip
    have him : i < m := by have h := of_decide_eq_true hc0; omega
    refine AWp.skip ?_
    refine AWp.seq ?_
    refine AWp.block ?_
    refine AWp.seq ?_
    refine AWp.region ?_
    refine AList.c 19 rfl rfl rfl (OpJ.move rfl rfl) ?_
    refine AList.c 20 rfl rfl rfl (OpJ.move rfl rfl) ?_
    refine AList.callFX 21 (hof i hcur him hJ) rfl rfl rfl rfl rfl rfl (fun v H2 hQ2 => ?_)
    obtain ⟨rfl, hJ2⟩ := hQ2
    refine AList.c 12 rfl rfl rfl (OpJ.assign rfl rfl) ?_
    refine AList.nil ?_
    refine AWp.seq ?_
    refine AWp.region ?_
    refine AList.c 22 rfl rfl rfl (OpJ.move rfl rfl) ?_
    refine AList.c 23 rfl rfl rfl (OpJ.move rfl rfl) ?_
    refine AList.c 24 rfl rfl rfl (OpJ.callF (hmany _) rfl rfl rfl) ?_
    refine AList.c 25 rfl rfl rfl (OpJ.neq rfl rfl rfl) ?_
    refine AList.c 26 rfl rfl rfl (OpJ.move rfl rfl) ?_
    refine AList.g 27 26 rfl rfl rfl rfl rfl rfl rfl [(10, _)] (fun h => And.intro (.inl rfl) (trivial)) (fun h => (OpJ.move rfl rfl)) ?_
    refine AList.g 28 26 rfl rfl rfl rfl rfl rfl rfl [(27, _)] (fun h => And.intro (.inr ⟨_, rfl, h⟩) (trivial)) (fun h => (OpJ.not_ rfl rfl)) ?_
    refine AList.g 29 26 rfl rfl rfl rfl rfl rfl rfl [(28, _)] (fun h => And.intro (.inr ⟨_, rfl, h⟩) (trivial)) (fun h => (OpJ.move rfl rfl)) ?_
    refine AList.g 30 29 rfl rfl rfl rfl rfl rfl rfl [(3, _)] (fun h => And.intro (.inl rfl) (trivial)) (fun h => (OpJ.move rfl rfl)) ?_
    refine AList.g 31 29 rfl rfl rfl rfl rfl rfl rfl [(12, _)] (fun h => And.intro (.inl rfl) (trivial)) (fun h => (OpJ.move rfl rfl)) ?_
    refine AList.g 32 29 rfl rfl rfl rfl rfl rfl rfl [(30, _), (31, _)] (fun h => And.intro (.inr ⟨_, rfl, h⟩) (And.intro (.inr ⟨_, rfl, h⟩) (trivial))) (fun h => (OpJ.callF (hmany _) rfl rfl rfl)) ?_
    refine AList.g 33 29 rfl rfl rfl rfl rfl rfl rfl [(3, _)] (fun h => And.intro (.inl rfl) (trivial)) (fun h => (OpJ.move rfl rfl)) ?_
    refine AList.g 34 29 rfl rfl rfl rfl rfl rfl rfl [(8, _)] (fun h => And.intro (.inl rfl) (trivial)) (fun h => (OpJ.move rfl rfl)) ?_
    refine AList.g 35 29 rfl rfl rfl rfl rfl rfl rfl [(33, _), (34, _)] (fun h => And.intro (.inr ⟨_, rfl, h⟩) (And.intro (.inr ⟨_, rfl, h⟩) (trivial))) (fun h => (OpJ.callF (hmany _) rfl rfl rfl)) ?_
    refine AList.g 36 29 rfl rfl rfl rfl rfl rfl rfl [(32, _), (35, _)] (fun h => And.intro (.inr ⟨_, rfl, h⟩) (And.intro (.inr ⟨_, rfl, h⟩) (trivial))) (fun h => (OpJ.gtr rfl rfl rfl)) ?_
    refine AList.g 37 26 rfl rfl rfl rfl rfl rfl rfl [(29, _), (36, _)] (fun h => And.intro (.inr ⟨_, rfl, h⟩) (And.intro (.inl rfl) (trivial))) (fun h => (OpJ.or_ rfl rfl rfl (fun e => by simp_all))) ?_
    refine AList.c 38 rfl rfl rfl (OpJ.and_ rfl rfl rfl (fun e => by simp_all)) ?_
    refine AList.nil ?_
    refine AWp.cond _ rfl (fun hc1 => ?_) (fun hc1 => ?_)
    · skip
      have hb : F (a + i) ≠ -1 ∧ ((bstF F a i).2.2 = false ∨ (bstF F a i).1 < F (a + i)) := by simpa using hc1
      have hB : bstF F a (i + 1) = (F (a + i), a + i, true) := if_pos hb
      refine AWp.region ?_
      refine AList.c 39 rfl rfl rfl (OpJ.move rfl rfl) ?_
      refine AList.c 40 rfl rfl rfl (OpJ.move rfl rfl) ?_
      refine AList.c 8 rfl rfl rfl (OpJ.assign rfl rfl) ?_
      refine AList.c 9 rfl rfl rfl (OpJ.assign rfl rfl) ?_
      refine AList.c 10 rfl rfl rfl (OpJ.assign rfl rfl) ?_
      refine AList.nil ?_
      refine AWp.region ?_
      refine AList.c 17 rfl rfl rfl (OpJ.move rfl rfl) ?_
      refine AList.c 18 rfl rfl rfl (OpJ.add (m := (a + ((i + 1 : Nat) : Int))) rfl rfl rfl ((i64ok ?_).trans ?_)) ?_
      · omega
      · omega
      refine AList.c 11 rfl rfl rfl (OpJ.assign rfl rfl) ?_
      refine AList.nil ?_
      refine ⟨(i + 1, H2), ?_, ?_, ?_⟩
      · exact ⟨by dsimp only; omega, hJ2⟩
      · show m - (i + 1) < m - i
        omega
      exact To.sub (Sub.cons rfl (Sub.cons (by dsimp only; rw [hB]; rfl) (Sub.cons (by dsimp only; rw [hB]; rfl) (Sub.cons (by dsimp only; rw [hB]; rfl) (by repeat (first | exact Sub.nil | refine Sub.cons rfl ?_))))))
    · skip
      have hb : ¬ (F (a + i) ≠ -1 ∧ ((bstF F a i).2.2 = false ∨ (bstF F a i).1 < F (a + i))) := by
        intro h
        rw [Bool.and_eq_false_iff] at hc1
        rcases hc1 with h1 | h1
        · simp at h1; exact h.1 h1
        · rcases h.2 with h2 | h2
          · rw [h2] at h1; simp at h1
          · rw [decide_eq_true (show F (a + i) > (bstF F a i).1 from h2)] at h1; simp at h1
      have hB : bstF F a (i + 1) = bstF F a i := if_neg hb
      refine AWp.skip ?_
      refine AWp.region ?_
      refine AList.c 17 rfl rfl rfl (OpJ.move rfl rfl) ?_
      refine AList.c 18 rfl rfl rfl (OpJ.add (m := (a + ((i + 1 : Nat) : Int))) rfl rfl rfl ((i64ok ?_).trans ?_)) ?_
      · omega
      · omega
      refine AList.c 11 rfl rfl rfl (OpJ.assign rfl rfl) ?_
      refine AList.nil ?_
      refine ⟨(i + 1, H2), ?_, ?_, ?_⟩
      · exact ⟨by dsimp only; omega, hJ2⟩
      · show m - (i + 1) < m - i
        omega
      exact To.sub (Sub.cons rfl (Sub.cons (by dsimp only; rw [hB]; rfl) (Sub.cons (by dsimp only; rw [hB]; rfl) (Sub.cons (by dsimp only; rw [hB]; rfl) (by repeat (first | exact Sub.nil | refine Sub.cons rfl ?_))))))
  · skip
    obtain rfl : i = m := by have h := of_decide_eq_false hc0; omega
    refine AWp.exit ?_
    refine AWp.seq ?_
    refine AWp.region ?_
    refine AList.c 41 rfl rfl rfl (OpJ.move rfl rfl) ?_
    refine AList.c 42 rfl rfl rfl (OpJ.move rfl rfl) ?_
    refine AList.c 43 rfl rfl rfl (OpJ.move rfl rfl) ?_
    refine AList.c 8 rfl rfl rfl (OpJ.assign rfl rfl) ?_
    refine AList.c 9 rfl rfl rfl (OpJ.assign rfl rfl) ?_
    refine AList.c 10 rfl rfl rfl (OpJ.assign rfl rfl) ?_
    refine AList.nil ?_
    refine AWp.ret ?_
    exact FinO.many (xs := [.int .i64 (bstF F a i).1, .int .i64 (bstF F a i).2.1, .bool (bstF F a i).2.2]) rfl ⟨_, _, rfl, rfl, ⟨_, _, rfl, rfl, ⟨_, _, rfl, rfl, rfl⟩⟩⟩ rfl ⟨rfl, hJ⟩
theorem cut21_ok (b : List Bch) (s : Scl) (hb : BOk b) (hs : OkZ s) (k f : Nat) (hk : k < s.n.toNat) (IH : AfterOk b s (k + 1)) (g : Nat) (hg : g ≤ 200) (t : List Cho) (hM : MemoOk b s t) : ACalls Try.prog 58 [.p (.int .i64 (g : Int)), .ptr 1 0, .p (.ip [.int .i64 (k : Int)] 0), .p (bP b), .p (sP s), .p (.ip [.int .i64 (f : Int)] 0)] (HH b s t) fun v H' => v = .p (.int .i64 (rstF b s (s.n.toNat - k - 1) f g)) ∧ ∃ t', H' = HH b s t' ∧ MemoOk b s t' ∧ LeT t t' ∧ (k + 1 < s.n.toNat → (cho t' (ix (k + 1) g)).known = true) := by
  refine ACalls.start (N := 24) Try.func58 rfl rfl (Nat.le_of_ble_eq_true rfl) ?_
  have hsn := hs.n
  have en : s.n.toNat - (k + 1) = s.n.toNat - k - 1 := by omega
  have hgap := hs.gap
  have hleast := hs.least
  have hmost := hs.most
  refine AWp.seq ?_
  refine AWp.region ?_
  refine AList.c 7 rfl rfl rfl (OpJ.assign rfl rfl) ?_
  refine AList.nil ?_
  refine AWp.seq ?_
  refine AWp.region ?_
  refine AList.c 9 rfl rfl rfl (OpJ.load rfl rfl ty109 rfl) ?_
  refine AList.c 10 rfl rfl rfl (OpJ.load rfl rfl ty3 rfl) ?_
  refine AList.c 11 rfl rfl rfl (OpJ.add (m := ((k + 1 : Nat) : Int)) rfl rfl rfl ((i64ok ?_).trans ?_)) ?_
  · omega
  · omega
  refine AList.c 12 rfl rfl rfl (OpJ.move rfl rfl) ?_
  refine AList.callX 13 (IH g hg t hM) rfl rfl rfl rfl rfl rfl rfl rf56 (fun v H2 hQ2 => ?_)
  obtain ⟨rfl, t1, rfl, hM1, hL1, hK1⟩ := hQ2
  rw [en]
  have hB := mostF_B hb s (s.n.toNat - k - 1) g
  have hS := sold_B10 hb s.gap f g
  have hnn : ((s.n.toNat - k - 1 : Nat) : Int) ≤ 8 := by omega
  refine AList.c 8 rfl rfl rfl (OpJ.assign rfl rfl) ?_
  refine AList.nil ?_
  refine AWp.seq ?_
  refine AWp.seq ?_
  refine AWp.region ?_
  refine AList.c 14 rfl rfl rfl (OpJ.move rfl rfl) ?_
  refine AList.c 15 rfl rfl rfl (OpJ.eql rfl rfl rfl) ?_
  refine AList.nil ?_
  refine AWp.cond _ rfl (fun hc0 => ?_) (fun hc0 => ?_)
  · skip
    have hq : mostF b s (s.n.toNat - k - 1) g = -1 := of_decide_eq_true hc0
    refine AWp.seq ?_
    refine AWp.region ?_
    refine AList.c 7 rfl rfl rfl (OpJ.assign rfl rfl) ?_
    refine AList.nil ?_
    refine AWp.ret ?_
    have eR : rstF b s (s.n.toNat - k - 1) f g = -1 := by unfold rstF; rw [if_pos hq]
    rw [eR]
    exact ⟨.inr rfl, .p (.int .i64 (-1)), resV.one rfl rfl, rfl, t1, rfl, hM1, hL1, hK1⟩
  · skip
    have hq : ¬ mostF b s (s.n.toNat - k - 1) g = -1 := of_decide_eq_false hc0
    refine AWp.skip ?_
    refine AWp.seq ?_
    refine AWp.region ?_
    refine AList.c 16 rfl rfl rfl (OpJ.move rfl rfl) ?_
    refine AList.c 17 rfl rfl rfl (OpJ.load rfl rfl ty86 rfl) ?_
    refine AList.c 18 rfl rfl rfl (OpJ.fieldAddr rfl rfl fd41_3 rfl) ?_
    refine AList.c 19 rfl rfl rfl (OpJ.load rfl rfl ty3 rfl) ?_
    refine AList.c 20 rfl rfl rfl (OpJ.load rfl rfl ty3 rfl) ?_
    refine AList.c 21 rfl rfl rfl (OpJ.move rfl rfl) ?_
    refine AList.c 22 rfl rfl rfl (OpJ.callP (sold_ok b s.gap f g hb (by omega) (by omega)) rfl rfl rfl rfl rf59) ?_
    refine AList.c 23 rfl rfl rfl (OpJ.add rfl rfl rfl (i64ok ?_)) ?_
    · omega
    refine AList.c 7 rfl rfl rfl (OpJ.assign rfl rfl) ?_
    refine AList.nil ?_
    refine AWp.ret ?_
    have eR : rstF b s (s.n.toNat - k - 1) f g = mostF b s (s.n.toNat - k - 1) g + soldF b s.gap f g := by unfold rstF; rw [if_neg hq]
    rw [eR]
    exact ⟨.inr rfl, _, resV.one rfl rfl, rfl, t1, rfl, hM1, hL1, hK1⟩
theorem same_F : ∀ x : Int, FPure Try.prog (.func (.func 55) [] []) [.int .i64 x] (.int .i64 x) := fun x => ⟨55, [.int .i64 x], rfl, rf55, cut1_ok x⟩
theorem after_hof (b : List Bch) (s : Scl) (hb : BOk b) (hs : OkZ s) (k f : Nat) (hk : k < s.n.toNat) (hf : f ≤ 200) (IH : AfterOk b s (k + 1)) (t : List Cho) : ∀ (i : Nat) (H : List Blk), i < stepsN s f → (fun i H => ∃ t1, H = HH b s t1 ∧ MemoOk b s t1 ∧ LeT t t1 ∧ (k + 1 < s.n.toNat → ∀ g : Nat, (f : Int) + s.least ≤ g → (g : Int) < f + s.least + i → (cho t1 (ix (k + 1) g)).known = true)) i H →
    FX Try.prog (.func (.func 58) [] [.ptr 1 0, .p (.ip [.int .i64 (k : Int)] 0), .p (bP b), .p (sP s), .p (.ip [.int .i64 (f : Int)] 0)]) [.p (.int .i64 ((f : Int) + s.least + i))] H fun v H' => v = .p (.int .i64 (rstF b s (s.n.toNat - k - 1) f ((f : Int) + s.least + i))) ∧ (fun i H => ∃ t1, H = HH b s t1 ∧ MemoOk b s t1 ∧ LeT t t1 ∧ (k + 1 < s.n.toNat → ∀ g : Nat, (f : Int) + s.least ≤ g → (g : Int) < f + s.least + i → (cho t1 (ix (k + 1) g)).known = true)) (i + 1) H' := by
  intro i H hi ⟨t1, hH, hM1, hL1, hK1⟩
  subst hH
  unfold stepsN at hi
  have hleast := hs.least
  obtain ⟨g, hg⟩ : ∃ g : Nat, (f : Int) + s.least + i = (g : Int) := ⟨((f : Int) + s.least + i).toNat, by omega⟩
  rw [hg]
  refine ⟨58, _, rfl, rf58, (cut21_ok b s hb hs k f hk IH g (by omega) t1 hM1).mono fun v H' ⟨h1, t2, h2, h3, h4, h5⟩ => ⟨h1, t2, h2, h3, hL1.trans h4, fun h6 g' h7 h8 => ?_⟩⟩
  rcases Int.lt_or_le g' ((f : Int) + s.least + i) with h9 | h9
  · exact h4 _ (hK1 h6 g' h7 h9)
  · obtain rfl : g = g' := by omega
    exact h5 h6
theorem after_step (b : List Bch) (s : Scl) (hb : BOk b) (hs : OkZ s) (k : Nat) (hk : k ≤ s.n.toNat) (IH : k < s.n.toNat → AfterOk b s (k + 1)) : AfterOk b s k := by
  intro f hf t hM
  refine ACalls.start (N := 57) Try.func56 rfl rfl (Nat.le_of_ble_eq_true rfl) ?_
  have hsn := hs.n
  have hgap := hs.gap
  have hleast := hs.least
  have hmost := hs.most
  refine AWp.seq ?_
  refine AWp.region ?_
  refine AList.c 7 rfl rfl rfl (OpJ.boxImm rfl rfl rfl) ?_
  refine AList.c 8 rfl rfl rfl (OpJ.boxImm rfl rfl rfl) ?_
  refine AList.c 9 rfl rfl rfl (OpJ.assign rfl rfl) ?_
  refine AList.nil ?_
  refine AWp.seq ?_
  refine AWp.seq ?_
  refine AWp.region ?_
  refine AList.c 14 rfl rfl rfl (OpJ.load rfl rfl ty3 rfl) ?_
  refine AList.c 15 rfl rfl rfl (OpJ.fieldAddr rfl rfl fd41_0 rfl) ?_
  refine AList.c 16 rfl rfl rfl (OpJ.load rfl rfl ty3 rfl) ?_
  refine AList.c 17 rfl rfl rfl (OpJ.eql rfl rfl rfl) ?_
  refine AList.nil ?_
  refine AWp.cond _ rfl (fun hc0 => ?_) (fun hc0 => ?_)
  · skip
    have hkn : s.n.toNat - k = 0 := by have h := of_decide_eq_true hc0; omega
    refine AWp.seq ?_
    refine AWp.region ?_
    refine AList.c 9 rfl rfl rfl (OpJ.assign rfl rfl) ?_
    refine AList.nil ?_
    refine AWp.ret ?_
    have e0 : mostF b s (s.n.toNat - k) f = 0 := by rw [hkn]; rfl
    rw [e0]
    exact ⟨.inr rfl, .p (.int .i64 0), resV.one rfl rfl, rfl, t, rfl, hM, LeT.refl t, fun h => by omega⟩
  · skip
    have hkn : k < s.n.toNat := by have h := of_decide_eq_false hc0; omega
    have hlt : ix k f < t.length := by rw [hM.len]; unfold ix; omega
    refine AWp.skip ?_
    refine AWp.seq ?_
    refine AWp.regionDraw 5 mixed (by kernel_rfl) (by decide) ?_
    refine AQuiet.cons 18 rfl rfl rfl (OpJ.load rfl rfl ty3 rfl) ?_
    refine AQuiet.cons 19 rfl rfl rfl (OpJ.load rfl rfl ty3 rfl) ?_
    refine AQuiet.cons 20 rfl rfl rfl (OpJ.indexArrI rfl rfl rfl ar108 el108 (by omega)) ?_
    refine AQuiet.cons 21 rfl rfl rfl (OpJ.indexArrI rfl rfl rfl ar107 el107 (by omega)) ?_
    refine AQuiet.cons 10 rfl rfl rfl (OpJ.assign rfl rfl) ?_
    refine AQuiet.nil ?_
    refine AList.nil ?_
    refine AWp.join (fun (g : List Cho) => [(10, .ptr 0 (0 + k * 603 + f * 3))]) (fun (g : List Cho) => HH b s g) (fun (g : List Cho) => MemoOk b s g ∧ LeT t g ∧ (cho g (ix k f)).known = true) ?_ (fun t3 hh => ?_)
    · skip
      refine AWp.seq ?_
      refine AWp.region ?_
      refine AList.c 22 rfl rfl rfl (OpJ.move rfl rfl) ?_
      refine AList.c 23 rfl rfl rfl (OpJ.nilCheck rfl rfl) ?_
      refine AList.c 24 rfl rfl rfl (OpJ.fieldAddr rfl rfl fd106_2 rfl) ?_
      refine AList.c 25 rfl rfl rfl (OpJ.loadFlat (f := Cho.cells) (c := 3) (k := (ix k f)) (j := 2) (xs := t) rfl rfl ty4 rfl rfl (by unfold ix; omega) (fun _ => rfl) hlt (by decide) (show _ = PV.bool (cho t (ix k f)).known from by rw [cho_get]; rfl)) ?_
      refine AList.c 26 rfl rfl rfl (OpJ.not_ rfl rfl) ?_
      refine AList.nil ?_
      refine AWp.cond _ rfl (fun hc1 => ?_) (fun hc1 => ?_)
      · skip
        have hun : (cho t (ix k f)).known = false := by simpa using hc1
        refine AWp.seq ?_
        refine AWp.region ?_
        refine AList.c 28 rfl rfl rfl (OpJ.load rfl rfl ty3 rfl) ?_
        refine AList.c 29 rfl rfl rfl (OpJ.fieldAddr rfl rfl fd41_1 rfl) ?_
        refine AList.c 30 rfl rfl rfl (OpJ.load rfl rfl ty3 rfl) ?_
        refine AList.c 31 rfl rfl rfl (OpJ.add rfl rfl rfl (i64ok ?_)) ?_
        · omega
        refine AList.c 32 rfl rfl rfl (OpJ.load rfl rfl ty3 rfl) ?_
        refine AList.c 33 rfl rfl rfl (OpJ.fieldAddr rfl rfl fd41_2 rfl) ?_
        refine AList.c 34 rfl rfl rfl (OpJ.load rfl rfl ty3 rfl) ?_
        refine AList.c 35 rfl rfl rfl (OpJ.add rfl rfl rfl (i64ok ?_)) ?_
        · omega
        refine AList.c 36 rfl rfl rfl (OpJ.min2 rfl rfl rfl) ?_
        refine AList.c 37 rfl rfl rfl (OpJ.makeFunc rfl rfl rfl) ?_
        refine AList.c 38 rfl rfl rfl (OpJ.load rfl rfl ty104 rfl) ?_
        refine AList.callX 39 (best_ok (f + s.least) (min 200 (f + s.most)) (.func (.func 58) [] [.ptr 1 0, .p (.ip [.int .i64 (k : Int)] 0), .p (bP b), .p (sP s), .p (.ip [.int .i64 (f : Int)] 0)]) (.func (.func 55) [] []) (rstF b s (s.n.toNat - k - 1) f) (fun i H => ∃ t1, H = HH b s t1 ∧ MemoOk b s t1 ∧ LeT t t1 ∧ (k + 1 < s.n.toNat → ∀ g : Nat, (f : Int) + s.least ≤ g → (g : Int) < f + s.least + i → (cho t1 (ix (k + 1) g)).known = true)) (stepsN s f) rfl (by omega) (by omega) (by omega) (by omega) (after_hof b s hb hs k f hkn hf (IH hkn) t) same_F (HH b s t) ⟨t, rfl, hM, LeT.refl t, fun _ g h1 h2 => by omega⟩) rfl rfl rfl rfl rfl rfl rfl rf57 (fun v H2 hQ2 => ?_)
        obtain ⟨rfl, t2, rfl, hM2, hL2, hK2⟩ := hQ2
        have hl2 : ix k f < t2.length := by rw [hM2.len]; unfold ix; omega
        have hset := memo_set hM2 hs hkn hf (fun h1 g h2 h3 => hK2 h1 g h2 (by unfold stepsN; omega))
        refine AList.c 27 rfl rfl rfl (OpJ.move rfl rfl) ?_
        refine AList.c 40 rfl rfl rfl (OpJ.extract rfl rfl rfl) ?_
        refine AList.c 41 rfl rfl rfl (OpJ.extract rfl rfl rfl) ?_
        refine AList.c 42 rfl rfl rfl (OpJ.extract rfl rfl rfl) ?_
        refine AList.c 11 rfl rfl rfl (OpJ.assign rfl rfl) ?_
        refine AList.c 12 rfl rfl rfl (OpJ.assign rfl rfl) ?_
        refine AList.c 13 rfl rfl rfl (OpJ.assign rfl rfl) ?_
        refine AList.nil ?_
        refine AWp.seq ?_
        refine AWp.region ?_
        refine AList.c 43 rfl rfl rfl (OpJ.move rfl rfl) ?_
        refine AList.c 44 rfl rfl rfl (OpJ.move rfl rfl) ?_
        refine AList.c 45 rfl rfl rfl (OpJ.move rfl rfl) ?_
        refine AList.c 46 rfl rfl rfl (OpJ.build rfl bd106 rfl rfl) ?_
        refine AList.c 47 rfl rfl rfl (OpJ.nilCheck rfl rfl) ?_
        refine AList.c0 rfl rfl (OpJ.storeCells (f := Cho.cells) (c := 3) (k := (ix k f)) (j := 0) (xs := t2) (z := ⟨(bestR b s (s.n.toNat - k - 1) f).1, (bestR b s (s.n.toNat - k - 1) f).2.1, true⟩) (ws := [.int .i64 (bestR b s (s.n.toNat - k - 1) f).1, .int .i64 (bestR b s (s.n.toNat - k - 1) f).2.1, .bool true]) rfl rfl rfl rfl rfl ty106 rfl rfl rfl (by unfold ix; omega) (fun _ => rfl) hl2 (Nat.le_of_ble_eq_true rfl) rfl) ?_
        refine AList.nil ?_
        refine AWp.seq ?_
        refine AWp.region ?_
        refine AList.c 48 rfl rfl rfl (OpJ.move rfl rfl) ?_
        refine AList.c 49 rfl rfl rfl (OpJ.not_ rfl rfl) ?_
        refine AList.nil ?_
        refine AWp.cond _ rfl (fun hc2 => ?_) (fun hc2 => ?_)
        · skip
          have hz : (bestR b s (s.n.toNat - k - 1) f).2.2 = false := by simpa [bestR] using hc2
          have hm : mostF b s (s.n.toNat - k) f = -1 := by rw [mostF_pred b f hkn, if_neg (by rw [hz]; decide)]
          refine AWp.region ?_
          refine AList.c 50 rfl rfl rfl (OpJ.move rfl rfl) ?_
          refine AList.c 51 rfl rfl rfl (OpJ.nilCheck rfl rfl) ?_
          refine AList.c 52 rfl rfl rfl (OpJ.fieldAddr rfl rfl fd106_0 rfl) ?_
          refine AList.c0 rfl rfl (OpJ.storeCells (f := Cho.cells) (c := 3) (k := (ix k f)) (j := 0) (xs := (t2.set (ix k f) ⟨(bestR b s (s.n.toNat - k - 1) f).1, (bestR b s (s.n.toNat - k - 1) f).2.1, true⟩)) (z := ⟨-1, (bestR b s (s.n.toNat - k - 1) f).2.1, true⟩) (ws := [.int .i64 (-1)]) rfl rfl rfl rfl rfl ty3 rfl rfl rfl (by unfold ix; omega) (fun _ => rfl) (by rw [List.length_set]; exact hl2) (Nat.le_of_ble_eq_true rfl) (by rw [List.getElem_set_self]; rfl)) ?_
          refine AList.nil ?_
          rw [hm] at hset
          exact ⟨_, ⟨hset.1, hL2.trans hset.2.1, hset.2.2⟩, To.done [0, 1] rfl (by repeat (first | exact Sub.nil | refine Sub.cons rfl ?_)) (by show [Blk.cells (renL _ (List.map _ _)) _, _] = _; rw [renL_pure, List.set_set]; rfl)⟩
        · skip
          have hz : (bestR b s (s.n.toNat - k - 1) f).2.2 = true := by simpa [bestR] using hc2
          have hm : mostF b s (s.n.toNat - k) f = (bestR b s (s.n.toNat - k - 1) f).1 := by rw [mostF_pred b f hkn, if_pos hz]
          refine AWp.skip ?_
          rw [hm] at hset
          exact ⟨_, ⟨hset.1, hL2.trans hset.2.1, hset.2.2⟩, To.done [0, 1] rfl (by repeat (first | exact Sub.nil | refine Sub.cons rfl ?_)) (by show [Blk.cells (renL _ (List.map _ _)) _, _] = _; rw [renL_pure]; rfl)⟩
      · skip
        have hun : (cho t (ix k f)).known = true := by simpa using hc1
        refine AWp.skip ?_
        exact ⟨t, ⟨hM, LeT.refl t, hun⟩, To.done [0, 1] rfl (by repeat (first | exact Sub.nil | refine Sub.cons rfl ?_)) (by show [Blk.cells (renL _ (List.map _ _)) _, _] = _; rw [renL_pure]; rfl)⟩
    · skip
      obtain ⟨hM3, hL3, hK3⟩ := hh
      refine AWp.seq ?_
      refine AWp.region ?_
      refine AList.c 53 rfl rfl rfl (OpJ.move rfl rfl) ?_
      refine AList.c 54 rfl rfl rfl (OpJ.nilCheck rfl rfl) ?_
      refine AList.c 55 rfl rfl rfl (OpJ.fieldAddr rfl rfl fd106_0 rfl) ?_
      refine AList.c 56 rfl rfl rfl (OpJ.loadFlat (f := Cho.cells) (c := 3) (k := (ix k f)) (j := 0) (xs := t3) rfl rfl ty3 rfl rfl (by unfold ix; omega) (fun _ => rfl) (by rw [hM3.len]; unfold ix; omega) (by decide) (show _ = PV.int .i64 (mostF b s (s.n.toNat - k) f) from by rw [cho_get]; exact congrArg (PV.int .i64) (hM3.val k f hkn hf hK3).1)) ?_
      refine AList.c 9 rfl rfl rfl (OpJ.assign rfl rfl) ?_
      refine AList.nil ?_
      refine AWp.ret ?_
      exact ⟨.inr rfl, _, resV.one rfl rfl, rfl, t3, rfl, hM3, hL3, fun _ => hK3⟩
end Go.Proofs.Ythiapodcippnoaa
