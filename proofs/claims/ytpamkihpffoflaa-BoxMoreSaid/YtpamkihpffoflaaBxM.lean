/-
  A stock: how many pencils each set has, as a map.
-/
import Derived.Test.YtpamkihpffoflaaBxD
set_option linter.unusedVariables false
set_option linter.unusedSimpArgs false
namespace Go.Proofs.Ytpamkihpffoflaa
open Go.AF
variable {α : Type}
theorem sum_snoc {α : Type} (f : α → Int) (d : List α) (m : α) : ((d ++ [m]).map f).sum = (d.map f).sum + f m := by simp
theorem sum_erase {α : Type} (f : α → Int) : ∀ (r : List α) (j : Nat) (m : α), r[j]? = some m → (r.map f).sum = f m + ((r.eraseIdx j).map f).sum
  | [], j, m, h => by simp at h
  | x :: r, 0, m, h => by simp at h; subst h; simp
  | x :: r, j + 1, m, h => by
    have ih := sum_erase f r j m (by simpa using h)
    simp only [List.map_cons, List.sum_cons, List.eraseIdx_cons_succ, ih]
    omega
theorem sum_nonneg {α : Type} {f : α → Int} : ∀ {r : List α}, (∀ m ∈ r, 0 ≤ f m) → 0 ≤ (r.map f).sum
  | [], _ => by simp
  | x :: r, h => by
    have h1 := h x (by simp)
    have h2 := sum_nonneg (f := f) (r := r) (fun m hm => h m (by simp [hm]))
    simp only [List.map_cons, List.sum_cons]
    omega
theorem mem_le_sum {α : Type} {f : α → Int} : ∀ {r : List α} {x : α}, (∀ m ∈ r, 0 ≤ f m) → x ∈ r → f x ≤ (r.map f).sum
  | [], _, _, h => by cases h
  | y :: r, x, h, hx => by
    have h1 := h y (by simp)
    have h2 := sum_nonneg (f := f) (r := r) (fun m hm => h m (by simp [hm]))
    simp only [List.map_cons, List.sum_cons]
    rcases List.mem_cons.1 hx with rfl | hx
    · omega
    · have := mem_le_sum (f := f) (fun m hm => h m (by simp [hm])) hx
      omega
theorem mget_mem {K α : Type} [DecidableEq K] {k : K} {v : α} : ∀ {ms : List (K × α)}, mget k ms = some v → (k, v) ∈ ms
  | [], h => by simp [mget] at h
  | m :: r, h => by
    simp only [mget] at h
    split at h
    · rename_i hk
      simp at h
      subst h; subst hk
      simp
    · exact List.mem_cons_of_mem _ (mget_mem h)
theorem mem_mset {K α : Type} [DecidableEq K] {k : K} {a : α} {x : K × α} : ∀ {ms : List (K × α)}, x ∈ mset k a ms → x = (k, a) ∨ x ∈ ms
  | [], h => by simp [mset] at h; exact .inl h
  | m :: r, h => by
    simp only [mset] at h
    split at h
    · rcases List.mem_cons.1 h with h | h
      · exact .inl h
      · exact .inr (List.mem_cons_of_mem _ h)
    · rcases List.mem_cons.1 h with h | h
      · exact .inr (by simp [h])
      · rcases mem_mset h with h | h
        · exact .inl h
        · exact .inr (List.mem_cons_of_mem _ h)

/-- What a walk over a map has behind it, and before it. -/
structure MG (β : Type) where
  d : List β
  r : List β
  last : Option β
def MG.ok {β : Type} (ms : List β) (g : MG β) : Prop := (∀ f : β → Int, (g.d.map f).sum + (g.r.map f).sum = (ms.map f).sum) ∧ (∀ m ∈ g.d, m ∈ ms) ∧ (∀ m ∈ g.r, m ∈ ms)
theorem MG.ok_next {β : Type} {ms d r : List β} {l : Option β} {j : Nat} {m : β} (h : MG.ok ms ⟨d, r, l⟩) (hj : r[j]? = some m) : MG.ok ms ⟨d ++ [m], r.eraseIdx j, some m⟩ := by
  obtain ⟨h1, h2, h3⟩ := h
  refine ⟨fun f => ?_, fun x hx => ?_, fun x hx => h3 x (List.mem_of_mem_eraseIdx hx)⟩
  · have := h1 f
    have e := sum_erase f r j m hj
    simp only at this ⊢
    rw [sum_snoc]
    omega
  · rcases List.mem_append.1 hx with hx | hx
    · exact h2 x hx
    · simp at hx; subst hx; exact h3 x (List.mem_of_getElem? hj)
abbrev Stk := List (Int × Int)
def stkStep (ms : Stk) (p : Pl) : Stk := mset (p.s : Int) ((mget (p.s : Int) ms).getD 0 + p.m) ms
/-- The stock of the first piles. -/
def stkM (l : List Pl) (i : Nat) : Stk := (l.take i).foldl stkStep []
theorem stkM_succ (l : List Pl) (i : Nat) (h : i < l.length) : stkM l (i + 1) = stkStep (stkM l i) l[i] := by
  unfold stkM
  rw [← List.take_append_getElem h, List.foldl_append]
  rfl
def stkV (ms : Stk) : PV := mapP (PV.int .i64) (PV.int .i64) ms
theorem mset_sum (g : Int → Int → Int) (h0 : ∀ k, g k 0 = 0) (ha : ∀ k a b, g k (a + b) = g k a + g k b) (k b : Int) : ∀ ms : Stk, ((mset k ((mget k ms).getD 0 + b) ms).map fun m => g m.1 m.2).sum = (ms.map fun m => g m.1 m.2).sum + g k b
  | [] => by simp [mset, mget]
  | m :: r => by
    have ih := mset_sum g h0 ha k b r
    simp only [mset, mget]
    split
    · rename_i e
      subst e
      simp only [Option.getD_some, List.map_cons, List.sum_cons, ha]
      omega
    · simp only [List.map_cons, List.sum_cons, ih]
      omega
/-- What an entry has for a set. -/
def ofE (s : Nat) (k m : Int) : Int := if k.toNat &&& s = 0 then 0 else m
theorem stkM_of (l : List Pl) (s : Nat) : ∀ i, i ≤ l.length → ((stkM l i).map fun m => ofE s m.1 m.2).sum = ofP (l.take i) s
  | 0, _ => by simp [stkM, ofP]
  | i + 1, hi => by
    have ih := stkM_of l s i (by omega)
    rw [stkM_succ l i hi, stkStep, mset_sum (ofE s) (fun k => by unfold ofE; split <;> rfl) (fun k a b => by unfold ofE; split <;> omega), ih, ofP_take hi]
    unfold ofE
    rw [Int.toNat_natCast]
/-- The keys are sets, the numbers are not below 0. -/
def okM (n : Nat) (ms : Stk) : Prop := ∀ m ∈ ms, (0 ≤ m.1 ∧ m.1.toNat < 2 ^ n) ∧ 0 ≤ m.2
theorem stkM_B {n : Nat} {l : List Pl} (h : okP n l) : ∀ i, i ≤ l.length → ∀ m ∈ stkM l i, ((0 ≤ m.1 ∧ m.1.toNat < 2 ^ n) ∧ 0 ≤ m.2) ∧ m.2 ≤ 1048576 * (i : Int)
  | 0, _ => fun m hm => by simp [stkM] at hm
  | i + 1, hi => by
    intro m hm
    have ih := stkM_B h i (by omega)
    have hp := h.2 l[i] (List.getElem_mem _)
    rw [stkM_succ l i hi, stkStep] at hm
    rcases mem_mset hm with e | hm
    · subst e
      dsimp only
      rw [Int.toNat_natCast]
      cases e : mget (l[i].s : Int) (stkM l i) with
      | none =>
        rw [Option.getD_none]
        have : (0 : Int) ≤ i := by omega
        refine ⟨⟨⟨by omega, hp.1⟩, by omega⟩, by omega⟩
      | some v =>
        have := ih _ (mget_mem e)
        rw [Option.getD_some]
        dsimp only at this
        refine ⟨⟨⟨by omega, hp.1⟩, by omega⟩, by omega⟩
    · have := ih m hm
      exact ⟨this.1, by omega⟩
theorem stkM_get {n : Nat} {l : List Pl} (h : okP n l) (k : Int) (i : Nat) (hi : i ≤ l.length) : 0 ≤ (mget k (stkM l i)).getD 0 ∧ (mget k (stkM l i)).getD 0 ≤ 8388608 := by
  have := h.1
  cases e : mget k (stkM l i) with
  | none => rw [Option.getD_none]; omega
  | some v =>
    have := stkM_B h i hi _ (mget_mem e)
    rw [Option.getD_some]
    dsimp only at this
    omega
theorem stkM_ok {n : Nat} {l : List Pl} (h : okP n l) : okM n (stkM l l.length) := fun m hm => (stkM_B h _ (Nat.le_refl _) m hm).1
theorem stkM_ofP (l : List Pl) (s : Nat) : ((stkM l l.length).map fun m => ofE s m.1 m.2).sum = ofP l s := by
  rw [stkM_of l s _ (Nat.le_refl _), List.take_length]
end Go.Proofs.Ytpamkihpffoflaa
