/-
  Chapter 6: the truths, one after the other. No program in sight.
-/
import Derived.Test.YtofenmailjdehaaDoorXrP
set_option linter.unusedVariables false
set_option linter.unusedSimpArgs false
namespace Go.Proofs.YtofenmailjdehaaDoor
open Go.AF
theorem split_at {α : Type} {l : List α} {k : Nat} {a : α} (h : l[k]? = some a) : l = l.take k ++ a :: l.drop (k + 1) := by
  obtain ⟨h1, h2⟩ := List.getElem?_eq_some_iff.1 h
  rw [← h2, ← List.drop_eq_getElem_cons h1, List.take_append_drop]
theorem flat_at {α β : Type} {F : α → List β} {l : List α} {k m : Nat} {a : α} {t : β} (h : l[k]? = some a) (hm : (F a)[m]? = some t) : (l.flatMap F)[((l.take k).flatMap F).length + m]? = some t := by
  have e := split_at h
  have e2 : l.flatMap F = (l.take k).flatMap F ++ (F a ++ (l.drop (k + 1)).flatMap F) := by
    rw [← List.flatMap_cons, ← List.flatMap_append, ← e]
  rw [e2, List.getElem?_append_right (Nat.le_add_right _ _), Nat.add_sub_cancel_left, List.getElem?_append_left (List.getElem?_eq_some_iff.1 hm).1]
  exact hm
theorem filter_at {α : Type} {p : α → Bool} {l : List α} {k : Nat} {a : α} (h : l[k]? = some a) (hp : p a = true) : (l.filter p)[((l.take k).filter p).length]? = some a := by
  have e := split_at h
  have e2 : l.filter p = (l.take k).filter p ++ (a :: (l.drop (k + 1)).filter p) := by
    have := congrArg (List.filter p) e
    rw [List.filter_append, List.filter_cons, if_pos hp] at this
    exact this
  rw [e2, List.getElem?_append_right (Nat.le_refl _), Nat.sub_self]
  rfl
def truP (c : Crt) (l : List Lk) (a : Nat) : List (Nat × Nat) := (fitL c l a).map fun b => (a, b)
def outO (c : Crt) (l : List Lk) (k : Nat) : Nat := (((setsL c.rows.length c.clamps).take k).flatMap (truP c l)).length
def inI (c : Crt) (l : List Lk) (a k : Nat) : Nat := (((setsL c.cols.toNat c.dies).take k).filter fun b => l.all (fitB a b)).length
def truC (t : Nat × Nat) : List PV := [.int .i64 (t.1 : Int), .int .i64 (t.2 : Int)]
def truX (c : Crt) (l : List Lk) : List (List V) := (truL c l).map fun t => [V.p (.agg (truC t))]
theorem tru_at {c : Crt} {l : List Lk} {a b k k2 : Nat} (h : (setsL c.rows.length c.clamps)[k]? = some a) (h2 : (setsL c.cols.toNat c.dies)[k2]? = some b) (hf : l.all (fitB a b) = true) : (truX c l)[outO c l k + inI c l a k2]? = some [V.p (.agg (truC (a, b)))] := by
  unfold truX
  rw [List.getElem?_map]
  have h3 : (truL c l)[outO c l k + inI c l a k2]? = some (a, b) := by
    refine flat_at (F := truP c l) h ?_
    unfold truP
    rw [List.getElem?_map]
    have : (fitL c l a)[inI c l a k2]? = some b := filter_at h2 hf
    rw [this]; rfl
  rw [h3]; rfl
theorem in_T {c : Crt} {l : List Lk} {a b k : Nat} (h2 : (setsL c.cols.toNat c.dies)[k]? = some b) (hf : l.all (fitB a b) = true) : inI c l a (k + 1) = inI c l a k + 1 := by
  unfold inI
  rw [take_snoc h2, List.filter_append, List.filter_cons, if_pos hf, List.length_append]
  rfl
theorem in_F {c : Crt} {l : List Lk} {a b k : Nat} (h2 : (setsL c.cols.toNat c.dies)[k]? = some b) (hf : l.all (fitB a b) = false) : inI c l a (k + 1) = inI c l a k := by
  unfold inI
  rw [take_snoc h2, List.filter_append, List.filter_cons, if_neg (by rw [hf]; decide), List.filter_nil, List.append_nil]
theorem out_S {c : Crt} {l : List Lk} {a k : Nat} (h : (setsL c.rows.length c.clamps)[k]? = some a) : outO c l (k + 1) = outO c l k + inI c l a (setX (setsL c.cols.toNat c.dies)).length := by
  unfold outO inI
  rw [take_snoc h, List.flatMap_append, List.length_append, setX_len, List.take_length]
  simp [truP, fitL]
theorem out_all (c : Crt) (l : List Lk) : outO c l (setX (setsL c.rows.length c.clamps)).length = (truX c l).length := by
  unfold outO truX truL
  rw [setX_len, List.take_length, List.length_map]
  rfl
theorem tru_B {c : Crt} (hc : crB c = true) {l : List Lk} : ∀ t ∈ truL c l, t.1 < 256 ∧ t.2 < 256 := by
  intro t ht
  obtain ⟨⟨_, h1⟩, ⟨_, h2⟩, _⟩ := crB_of hc
  unfold truL fitL at ht
  simp only [List.mem_flatMap, List.mem_map, List.mem_filter] at ht
  obtain ⟨a, ha, b, ⟨hb, _⟩, rfl⟩ := ht
  have p1 := Nat.pow_le_pow_right (show 0 < 2 by omega) h1
  have p2 := Nat.pow_le_pow_right (show 0 < 2 by omega) (show c.cols.toNat ≤ 8 by omega)
  have := (sets_mem.1 ha).1
  have := (sets_mem.1 hb).1
  dsimp only
  omega
theorem tru_len {c : Crt} (hc : crB c = true) (l : List Lk) : (truL c l).length ≤ 65536 := by
  obtain ⟨⟨_, h1⟩, ⟨_, h2⟩, _⟩ := crB_of hc
  have p1 := Nat.pow_le_pow_right (show 0 < 2 by omega) h1
  have p2 := Nat.pow_le_pow_right (show 0 < 2 by omega) (show c.cols.toNat ≤ 8 by omega)
  have s1 := sets_len c.rows.length c.clamps
  have s2 := sets_len c.cols.toNat c.dies
  have : ∀ L : List Nat, (L.flatMap fun a => (fitL c l a).map fun b => (a, b)).length ≤ L.length * 256 := by
    intro L
    induction L with
    | nil => simp
    | cons a L ih =>
      rw [List.flatMap_cons, List.length_append, List.length_map, List.length_cons]
      have : (fitL c l a).length ≤ 256 := Nat.le_trans (List.length_filter_le _ _) (by omega)
      omega
  have h := this (setsL c.rows.length c.clamps)
  unfold truL
  omega
/-! ### Ends -/
def minK (n : Int) (l : List Int) (k : Nat) : Int := (l.take k).foldl min n
def maxK (n : Int) (l : List Int) (k : Nat) : Int := (l.take k).foldl max n
theorem minK_S {n : Int} {l : List Int} {k : Nat} (h : k < l.length) : minK n l (k + 1) = min (minK n l k) (nt l k) := by
  unfold minK
  rw [List.take_succ_eq_append_getElem h, List.foldl_append, nt_get k h]; rfl
theorem maxK_S {n : Int} {l : List Int} {k : Nat} (h : k < l.length) : maxK n l (k + 1) = max (maxK n l k) (nt l k) := by
  unfold maxK
  rw [List.take_succ_eq_append_getElem h, List.foldl_append, nt_get k h]; rfl
theorem len3 {α : Type} {h : List α} (e : h.length = 3) : ∃ a b c, h = [a, b, c] := by
  match h, e with
  | [a, b, c], _ => exact ⟨a, b, c, rfl⟩
end Go.Proofs.YtofenmailjdehaaDoor
