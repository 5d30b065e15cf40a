/-
  Results of a function, and regions that draw their order, over abstract states. No condition; generic over any program.
-/
import Derived.Test.YtmcejcidbekpkaaAf6
set_option linter.unusedVariables false
set_option linter.unusedSimpArgs false
namespace Go.AF
section
variable {P : Program} {R : Option Nat} {N κ : Nat} {Q Q' : Post} {T T' : Tm} {H : List Blk} {o : Oper}

def tupOf (vs : List V) : V := match allP vs with
  | some xs => .p (.tuple xs)
  | none => .tuple vs
theorem RelV.tupOf {w : World} {I : Nat → Prop} {ρ : List Nat} {vs : List V} {us : Array Value} (h : RelVL P w I ρ vs us.toList) : RelV P w I ρ (tupOf vs) (.tuple us) := by
  unfold AF.tupOf
  cases hp : allP vs with
  | none => exact ⟨us, rfl, h⟩
  | some xs => rw [allP_some hp] at h; exact ⟨us, rfl, RelVL.pure.1 h⟩

def resF (a : Array Value) : ResultVar → Sem Value
  | .tmp t => pure (a.getD t undef)
  | .cell ad t => do loadVar t (← asAddr (a.getD ad undef))
theorem results_eq (fn : Func) (a : Array Value) : results fn a = fn.results.mapM (resF a) >>= fun vs => pure (if h : vs.size = 1 then vs[0] else .tuple vs) := by
  unfold results
  congr 1
def ress (P : Program) (T : Tm) (H : List Blk) : List ResultVar → List V → Prop
  | [], vs => vs = []
  | r :: rs, vs => ∃ v vs', vs = v :: vs' ∧ resOne P T H r v ∧ ress P T H rs vs'

theorem run_ress {w : World} {I : Nat → Prop} {ρ : List Nat} {a : Array Value} (hi : Inv P w I ρ H) (ht : TRel P w I ρ N T a) : ∀ {rs : List ResultVar} {vs : List V}, ress P T H rs vs →
    ∃ us, (rs.mapM (resF a)).run P w = .ok us w ∧ RelVL P w I ρ vs us
  | [], vs, h => ⟨[], by simp, by simp [ress] at h; subst h; rfl⟩
  | r :: rs, vs, h => by
    obtain ⟨v, vs', rfl, h1, h2⟩ := h
    obtain ⟨u, h3, h4⟩ := run_resOne hi ht h1
    obtain ⟨us, h5, h6⟩ := run_ress hi ht h2
    refine ⟨u :: us, ?_, u, us, rfl, h4, h6⟩
    simp only [List.mapM_cons, Sem.run_bind]
    have h7 : (resF a r).run P w = .ok u w := by cases r <;> exact h3
    rw [h7]
    simp only [Result.andThen, h5]
    rfl

theorem resV.one {fn : Func} {r : ResultVar} {v : V} (h : fn.results = #[r]) (hr : resOne P T H r v) : resV P N fn T H v := by
  intro w I ρ a hi ht
  obtain ⟨us, h1, h2⟩ := run_ress hi ht (rs := [r]) (vs := [v]) ⟨v, [], rfl, hr, rfl⟩
  obtain ⟨u, rfl, h3⟩ := RelVL.p_one h2
  refine ⟨u, ?_, h3⟩
  simp only [results_eq, h, Array.mapM_eq_mapM_toList, Sem.run_bind, Sem.run_map, Result.andThen]
  rw [h1]
  rfl
theorem resV.many {fn : Func} {r1 r2 : ResultVar} {rs : List ResultVar} {vs : List V} (h : fn.results = (r1 :: r2 :: rs).toArray) (hr : ress P T H (r1 :: r2 :: rs) vs) : resV P N fn T H (tupOf vs) := by
  intro w I ρ a hi ht
  obtain ⟨us, h1, h2⟩ := run_ress hi ht hr
  refine ⟨.tuple us.toArray, ?_, RelV.tupOf (by simpa using h2)⟩
  have hl : us.length = rs.length + 2 := by
    have h3 := RelVL.length h2
    have : ∀ {rs : List ResultVar} {vs : List V}, ress P T H rs vs → vs.length = rs.length := by
      intro rs
      induction rs with
      | nil => intro vs h; simp [ress] at h; simp [h]
      | cons r rs ih => intro vs h; obtain ⟨v, vs', rfl, _, h⟩ := h; simp [ih h]
    rw [h3, this hr]; simp
  simp only [results_eq, h, Array.mapM_eq_mapM_toList, Sem.run_bind, Sem.run_map, Result.andThen]
  rw [h1]
  simp only [Sem.run_pure]
  rw [dif_neg (by simp; omega)]
end
end Go.AF
