/-
  Steps of the world as the layer AF sees them: new blocks, draws, writes into own blocks, freezing. No condition; generic over any program.
-/
import Derived.Test.YtmcejcidbekpkaaAf1
set_option linter.unusedVariables false
set_option linter.unusedSimpArgs false
namespace Go.AF
section
variable {P : Program} {w w' : World} {I : Nat → Prop} {ρ : List Nat} {H : List Blk}

theorem shape_of_block {b : Nat} (h : w'.heap[b]? = w.heap[b]?) : w'.shape? b = w.shape? b := by simp only [World.shape?, h]
theorem heap_alloc_old (w : World) (o : Obj) {b : Nat} (h : b < w.heap.size) : (w.alloc o).heap[b]? = w.heap[b]? := by
  show (w.heap.push o)[b]? = _
  rw [Array.getElem?_push, if_neg (by omega)]
theorem heap_alloc_new (w : World) (o : Obj) : (w.alloc o).heap[w.heap.size]? = some o := by
  show (w.heap.push o)[w.heap.size]? = _
  simp
theorem shape_lt {b : Nat} {s : TypeId × Nat} (h : w.shape? b = some s) : b < w.heap.size := by
  unfold World.shape? at h
  rcases Nat.lt_or_ge b w.heap.size with h' | h'
  · exact h'
  · simp [Array.getElem?_eq_none h'] at h

theorem Ext.drew : Ext w I ρ w.drew I ρ :=
  ⟨⟨rfl, rfl, rfl, Nat.le_refl _, fun _ _ _ => rfl, fun _ _ h => h, fun _ h => h, fun _ _ => rfl, fun _ h => .inl h, fun _ h => h, fun _ _ h => h, fun _ h => .inl h⟩, List.prefix_refl _⟩

theorem RelB.dead_of {x : Blk} {b : Nat} (h : x.live = false) : RelB P w I ρ x b := by
  cases x <;> first | trivial | cases h

theorem Inv.same {I' : Nat → Prop} (hi : Inv P w I ρ H) (he : Ext w I ρ w' I' ρ) (hib : ∀ b, I' b → b < w'.heap.size) (hn : ∀ b, b < w.heap.size → I' b → I b) (hb : ∀ b, b < w.heap.size → w'.heap[b]? = w.heap[b]?) : Inv P w' I' ρ H where
  len := hi.len
  bnd i b blk h1 h2 h3 := Nat.lt_of_lt_of_le (hi.bnd i b blk h1 h2 h3) he.w.size
  ib := hib
  live i b blk h1 h2 h3 h4 := hi.live i b blk h1 h2 h3 (hn b (hi.bnd i b blk h1 h2 h3) h4)
  dist := hi.dist
  rel i b blk h1 h2 := by
    cases hl : blk.live with
    | false => exact RelB.dead_of hl
    | true => exact RelB.ext he hi h1 h2 (hb b (hi.bnd i b blk h1 h2 hl))

theorem Inv.drew (hi : Inv P w I ρ H) : Inv P w.drew I ρ H := hi.same Ext.drew (fun b h => hi.ib b h) (fun _ _ h => h) (fun _ _ => rfl)

theorem def_alloc (o : Obj) {b : Nat} (h : w.heap[b]? = some (Obj.deferred (some []))) : (w.alloc o).heap[b]? = some (Obj.deferred (some [])) :=
  (heap_alloc_old w o (Array.getElem?_eq_some_iff.1 h).1).trans h

/-- A new block that nobody will write. -/
theorem Ext.allocImm (hi : Inv P w I ρ H) (o : Obj) : Ext w I ρ (w.alloc o) (fun b => I b ∨ b = w.heap.size) ρ :=
  ⟨⟨rfl, rfl, rfl, by simp, fun b hb _ => heap_alloc_old w o hb, fun b s h => (shape_of_block (heap_alloc_old w o (shape_lt h))).trans h, fun _ h => .inl h, fun b h => heap_alloc_old w o (hi.ib b h),
    fun b h => by rcases h with h | h; exact .inl h; exact .inr (.inr (by omega)), fun b h => def_alloc o h, fun b h h2 => by
      rcases h2 with h2 | h2
      · exact h2
      · have := (Array.getElem?_eq_some_iff.1 h).1; omega, fun _ h => .inl h⟩, List.prefix_refl _⟩
theorem Inv.allocImm (hi : Inv P w I ρ H) (o : Obj) : Inv P (w.alloc o) (fun b => I b ∨ b = w.heap.size) ρ H :=
  hi.same (Ext.allocImm hi o) (fun b h => by rcases h with h | h; have := hi.ib b h; simp; omega; simp; omega) (fun b hb h => by rcases h with h | h; exact h; omega)
    (fun b hb => heap_alloc_old w o hb)
/-- A new block of which nothing is known. -/
theorem Ext.allocJunk (hi : Inv P w I ρ H) (o : Obj) : Ext w I ρ (w.alloc o) I ρ :=
  ⟨⟨rfl, rfl, rfl, by simp, fun b hb _ => heap_alloc_old w o hb, fun b s h => (shape_of_block (heap_alloc_old w o (shape_lt h))).trans h, fun _ h => h, fun b h => heap_alloc_old w o (hi.ib b h),
    fun b h => .inl h, fun b h => def_alloc o h, fun _ _ h => h, fun _ h => .inl h⟩, List.prefix_refl _⟩
theorem Inv.allocJunk (hi : Inv P w I ρ H) (o : Obj) : Inv P (w.alloc o) I ρ H :=
  hi.same (Ext.allocJunk hi o) (fun b h => by have := hi.ib b h; simp; omega) (fun b _ h => h) (fun b hb => heap_alloc_old w o hb)

/-- A new own block. -/
theorem Ext.allocOwn (hi : Inv P w I ρ H) (o : Obj) : Ext w I ρ (w.alloc o) I (ρ ++ [w.heap.size]) :=
  ⟨⟨rfl, rfl, rfl, by simp, fun b hb _ => heap_alloc_old w o hb, fun b s h => (shape_of_block (heap_alloc_old w o (shape_lt h))).trans h, fun _ h => h, fun b h => heap_alloc_old w o (hi.ib b h),
    fun b h => .inl h, fun b h => def_alloc o h, fun _ _ h => h, fun b h => by
      rcases List.mem_append.1 h with h | h
      · exact .inl h
      · simp at h; exact .inr (by omega)⟩, ⟨_, rfl⟩⟩
theorem get_append_one {α : Type} {l : List α} {x y : α} {i : Nat} (h : (l ++ [x])[i]? = some y) : (i < l.length ∧ l[i]? = some y) ∨ (i = l.length ∧ y = x) := by
  rcases Nat.lt_trichotomy i l.length with h1 | h1 | h1
  · rw [List.getElem?_append_left h1] at h; exact .inl ⟨h1, h⟩
  · subst h1; simp at h; exact .inr ⟨rfl, h.symm⟩
  · rw [List.getElem?_eq_none (by simp; omega)] at h; cases h
theorem Inv.allocOwn (hi : Inv P w I ρ H) (o : Obj) {blk : Blk} (hr : RelB P (w.alloc o) I (ρ ++ [w.heap.size]) blk w.heap.size) : Inv P (w.alloc o) I (ρ ++ [w.heap.size]) (H ++ [blk]) where
  len := by simp [hi.len]
  bnd i b x h1 h2 h3 := by
    rcases get_append_one h1 with ⟨h5, h6⟩ | ⟨h5, h6⟩
    · rw [List.getElem?_append_left (by rw [← hi.len]; exact h5)] at h2
      have := hi.bnd i b x h6 h2 h3; simp; omega
    · simp; omega
  ib b h := by have := hi.ib b h; simp; omega
  live i b x h1 h2 h3 h4 := by
    rcases get_append_one h1 with ⟨h5, h6⟩ | ⟨h5, h6⟩
    · rw [List.getElem?_append_left (by rw [← hi.len]; exact h5)] at h2
      exact hi.live i b x h6 h2 h3 h4
    · have := hi.ib b h4; omega
  dist i j b x y h1 h2 h3 h4 h5 h6 := by
    rcases get_append_one h1 with ⟨h7, h8⟩ | ⟨h7, h8⟩ <;> rcases get_append_one h2 with ⟨h9, h10⟩ | ⟨h9, h10⟩
    · rw [List.getElem?_append_left (by rw [← hi.len]; exact h7)] at h3
      rw [List.getElem?_append_left (by rw [← hi.len]; exact h9)] at h4
      exact hi.dist i j b x y h8 h10 h3 h4 h5 h6
    · rw [List.getElem?_append_left (by rw [← hi.len]; exact h7)] at h3
      have := hi.bnd i b x h8 h3 h5; omega
    · rw [List.getElem?_append_left (by rw [← hi.len]; exact h9)] at h4
      have := hi.bnd j b y h10 h4 h6; omega
    · omega
  rel i b x h1 h2 := by
    rcases get_append_one h1 with ⟨h5, h6⟩ | ⟨h5, h6⟩
    · rw [List.getElem?_append_left (by rw [← hi.len]; exact h5)] at h2
      cases hl : x.live with
      | false => exact RelB.dead_of hl
      | true => exact RelB.ext (Ext.allocOwn hi o) hi h6 h2 (heap_alloc_old w o (hi.bnd i b x h6 h2 hl))
    · subst h6
      have : i = H.length := by rw [← hi.len]; exact h5
      subst this
      simp at h2
      subst h2
      exact hr

theorem not_def (hi : Inv P w I ρ H) {i b : Nat} {old : Blk} (hb : ρ[i]? = some b) (hH : H[i]? = some old) (hl : old.live = true) : w.heap[b]? ≠ some (Obj.deferred (some [])) := by
  intro h
  have := hi.rel i b old hb hH
  cases old with
  | cells cs e => obtain ⟨arr, h1, _⟩ := this; rw [h] at h1; cases h1
  | row cs e => obtain ⟨arr, h1, _⟩ := this; rw [h] at h1; cases h1
  | map ks vs => obtain ⟨es, c, h1, _⟩ := this; rw [h] at h1; cases h1
  | strIter s p => have h1 : w.heap[b]? = _ := this; rw [h] at h1; cases h1
  | mapIter ks vs last =>
    rcases this with ⟨_, _, _, h1⟩ | ⟨r, es, c, seen, h1, _⟩ <;> (rw [h] at h1; cases h1)
  | loop r st pe => obtain ⟨_, ⟨fn, d, h1⟩, _⟩ := this; rw [h] at h1; cases h1
  | dead => cases hl

/-- A write into an own block. -/
theorem Ext.write (hi : Inv P w I ρ H) {i b : Nat} {old : Blk} (hb : ρ[i]? = some b) (hH : H[i]? = some old) (hl : old.live = true) (hos : w'.os = w.os) (htape : w'.tape = w.tape) (hout : w'.output = w.output)
    (hsz : w'.heap.size = w.heap.size) (hother : ∀ k, k ≠ b → w'.heap[k]? = w.heap[k]?) (hsh : ∀ s, w.shape? b = some s → w'.shape? b = some s) : Ext w I ρ w' I ρ :=
  ⟨⟨hos, htape, hout, by omega, fun k _ hn => hother k (fun e => hn (e ▸ List.mem_of_getElem? hb)),
    fun k s h => by
      by_cases e : k = b
      · subst e; exact hsh s h
      · exact (shape_of_block (hother k e)).trans h,
    fun _ h => h, fun k h => hother k (fun e => hi.live i b old hb hH hl (e ▸ h)), fun _ h => .inl h, fun k h => (hother k (fun e => not_def hi hb hH hl (e ▸ h))).trans h, fun _ _ h => h, fun _ h => .inl h⟩, List.prefix_refl _⟩
theorem Inv.write (hi : Inv P w I ρ H) {i b : Nat} {old new : Blk} (hb : ρ[i]? = some b) (hH : H[i]? = some old) (hl : old.live = true) (he : Ext w I ρ w' I ρ)
    (hsz : w'.heap.size = w.heap.size) (hother : ∀ k, k ≠ b → w'.heap[k]? = w.heap[k]?) (hr : RelB P w' I ρ new b) : Inv P w' I ρ (H.set i new) where
  len := by simp [hi.len]
  bnd j k x h1 h2 h3 := by
    by_cases e : i = j
    · subst e
      rw [hb] at h1; cases h1
      have := hi.bnd i b old hb hH hl; omega
    · rw [List.getElem?_set_ne e] at h2
      have := hi.bnd j k x h1 h2 h3; omega
  ib k h := by have := hi.ib k h; omega
  live j k x h1 h2 h3 h4 := by
    by_cases e : i = j
    · subst e
      rw [hb] at h1; cases h1
      exact hi.live i b old hb hH hl h4
    · rw [List.getElem?_set_ne e] at h2
      exact hi.live j k x h1 h2 h3 h4
  dist j j' k x y h1 h2 h3 h4 h5 h6 := by
    by_cases e : i = j <;> by_cases e' : i = j'
    · omega
    · subst e
      rw [List.getElem?_set_ne e'] at h4
      exact hi.dist i j' k old y h1 h2 hH h4 hl h6
    · subst e'
      rw [List.getElem?_set_ne e] at h3
      exact hi.dist j i k x old h1 h2 h3 hH h5 hl
    · rw [List.getElem?_set_ne e] at h3
      rw [List.getElem?_set_ne e'] at h4
      exact hi.dist j j' k x y h1 h2 h3 h4 h5 h6
  rel j k x h1 h2 := by
    by_cases e : i = j
    · subst e
      rw [hb] at h1; cases h1
      have : i < H.length := (List.getElem?_eq_some_iff.1 hH).1
      simp [this] at h2
      subst h2
      exact hr
    · rw [List.getElem?_set_ne e] at h2
      by_cases hd : x.live = true
      · have hk : k ≠ b := fun ek => e (hi.dist i j b old x hb (ek ▸ h1) hH h2 hl hd)
        exact RelB.ext he hi h1 h2 (hother k hk)
      · cases x <;> first | trivial | (exact absurd rfl hd)

/-- An own block that nobody will write any more. -/
theorem Ext.freeze (hi : Inv P w I ρ H) {i b : Nat} {old : Blk} (hb : ρ[i]? = some b) (hH : H[i]? = some old) (hl : old.live = true) : Ext w I ρ w (fun k => I k ∨ k = b) ρ :=
  ⟨⟨rfl, rfl, rfl, Nat.le_refl _, fun _ _ _ => rfl, fun _ _ h => h, fun _ h => .inl h, fun _ _ => rfl, fun k h => by
    rcases h with h | h
    · exact .inl h
    · exact .inr (.inl (h ▸ List.mem_of_getElem? hb)), fun _ h => h, fun k h h2 => by
    rcases h2 with h2 | h2
    · exact h2
    · exact absurd h (h2 ▸ not_def hi hb hH hl), fun _ h => .inl h⟩, List.prefix_refl _⟩
theorem Inv.freeze (hi : Inv P w I ρ H) {i b : Nat} {old : Blk} (hb : ρ[i]? = some b) (hH : H[i]? = some old) (hl : old.live = true) : Inv P w (fun k => I k ∨ k = b) ρ (H.set i .dead) where
  len := by simp [hi.len]
  bnd j k x h1 h2 h3 := by
    by_cases e : i = j
    · subst e
      rw [hb] at h1; cases h1
      exact hi.bnd i b old hb hH hl
    · rw [List.getElem?_set_ne e] at h2
      exact hi.bnd j k x h1 h2 h3
  ib k h := by
    rcases h with h | h
    · exact hi.ib k h
    · subst h; exact hi.bnd i _ old hb hH hl
  live j k x h1 h2 h3 h4 := by
    by_cases e : i = j
    · subst e
      have : i < H.length := (List.getElem?_eq_some_iff.1 hH).1
      simp [this] at h2
      subst h2
      cases h3
    · rw [List.getElem?_set_ne e] at h2
      rcases h4 with h4 | h4
      · exact hi.live j k x h1 h2 h3 h4
      · subst h4
        exact e (hi.dist i j k old x hb h1 hH h2 hl h3)
  dist j j' k x y h1 h2 h3 h4 h5 h6 := by
    by_cases e : i = j
    · subst e
      have : i < H.length := (List.getElem?_eq_some_iff.1 hH).1
      simp [this] at h3
      subst h3
      cases h5
    · by_cases e' : i = j'
      · subst e'
        have : i < H.length := (List.getElem?_eq_some_iff.1 hH).1
        simp [this] at h4
        subst h4
        cases h6
      · rw [List.getElem?_set_ne e] at h3
        rw [List.getElem?_set_ne e'] at h4
        exact hi.dist j j' k x y h1 h2 h3 h4 h5 h6
  rel j k x h1 h2 := by
    by_cases e : i = j
    · subst e
      have : i < H.length := (List.getElem?_eq_some_iff.1 hH).1
      simp [this] at h2
      subst h2
      trivial
    · rw [List.getElem?_set_ne e] at h2
      exact RelB.ext (Ext.freeze hi hb hH hl) hi h1 h2 rfl

/-- Own blocks that are forgotten. -/
theorem Inv.nothing (hi : Inv P w I ρ H) : Inv P w I [] [] :=
  ⟨rfl, (fun _ _ _ h => by simp at h), hi.ib, (fun _ _ _ h => by simp at h), (fun _ _ _ _ _ h => by simp at h), (fun _ _ _ h => by simp at h)⟩
/-- A call that knew of no own block. -/
theorem Inv.frame {I' : Nat → Prop} (hi : Inv P w I ρ H) (he : Ext w I [] w' I' []) (hi' : Inv P w' I' [] []) : Ext w I ρ w' I' ρ ∧ Inv P w' I' ρ H := by
  have hk : ∀ b, b < w.heap.size → w'.heap[b]? = w.heap[b]? := fun b hb => he.w.keep b hb (by simp)
  have hn : ∀ b, b < w.heap.size → I' b → I b := fun b hb h => by
    rcases he.w.immNew b h with h | h | h
    · exact h
    · cases h
    · omega
  have hE : Ext w I ρ w' I' ρ := ⟨⟨he.w.os, he.w.tape, he.w.output, he.w.size, fun b hb _ => hk b hb, he.w.shape, he.w.imm, he.w.immKeep, fun b h => by
    rcases he.w.immNew b h with h | h | h
    · exact .inl h
    · cases h
    · exact .inr (.inr h), he.w.defKeep, he.w.defI, fun _ h => .inl h⟩, List.prefix_refl _⟩
  exact ⟨hE, hi.same hE hi'.ib hn hk⟩
end
end Go.AF
