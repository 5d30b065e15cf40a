/-
  Chapter 14: more facts on types and functions, by the kernel.
  Chapter 14: of two different lists the files differ.
  The law on what is written, and read again.
-/
import Derived.Test.YtidmbdmommjlnaaDoorBqI
import Derived.Test.YtidmbdmommjlnaaDoorFaC
section
set_option maxRecDepth 100000
namespace Go.Proofs.YtidmbdmommjlnaaDoor
open Go.AF
end Go.Proofs.YtidmbdmommjlnaaDoor
end

section
set_option linter.unusedVariables false
set_option linter.unusedSimpArgs false
namespace Go.Proofs.YtidmbdmommjlnaaDoor
open Go Go.AF
theorem oneAll {α : Type} {f : α → List PV} (h : ∀ x, (((f x).map V.p).all oneV) = true) (l : List α) : (((l.flatMap f).map V.p).all oneV) = true := by
  rw [List.all_eq_true]
  intro v hv
  rw [List.map_flatMap, List.mem_flatMap] at hv
  obtain ⟨x, _, hx⟩ := hv
  exact List.all_eq_true.1 (h x) v hx
theorem wrap_ne (n : Int) : IntKind.i64.wrap (n + 1) ≠ n := by
  rw [IntKind.wrap_i64]
  omega
theorem set_ne {α : Type} (d : α) {l : List α} {k : Nat} (hk : k < l.length) {x : α} (h : x ≠ gt d l k) : l.set k x ≠ l := fun e => h (by
  have h1 : (l.set k x)[k]? = some x := by rw [List.getElem?_set_self hk]
  rw [e, List.getElem?_eq_getElem hk, gt_get d k hk] at h1
  exact (Option.some.inj h1).symm)
theorem wrR_inj {a b : List Rpt} {s : Bs} (h1 : wrR a = (s, 0)) (h2 : wrR b = (s, 0)) : a = b := by
  obtain ⟨l1, v1, e1, _⟩ := wrR_ok (l := a) (by rw [h1])
  obtain ⟨l2, v2, e2, _⟩ := wrR_ok (l := b) (by rw [h2])
  rw [h1] at e1
  rw [h2] at e2
  have a1 := rpts_back l1 v1
  have a2 := rpts_back l2 v2
  rw [← e1] at a1
  rw [← e2] at a2
  exact Option.some.inj (a1.symm.trans a2)
theorem wrC_inj {a b : List Crd} {s : Bs} (h1 : wrC a = (s, 0)) (h2 : wrC b = (s, 0)) : a = b := by
  obtain ⟨l1, v1, e1, _⟩ := wrC_ok (l := a) (by rw [h1])
  obtain ⟨l2, v2, e2, _⟩ := wrC_ok (l := b) (by rw [h2])
  rw [h1] at e1
  rw [h2] at e2
  have a1 := crds_back (sumB (crdsTT a)) l1 v1
  have a2 := crds_back (sumB (crdsTT b)) l2 v2
  rw [← e1] at a1
  rw [← e2] at a2
  exact Option.some.inj (a1.symm.trans a2)
theorem wrP_inj {a b : List Pck} {s : Bs} (h1 : wrP a = (s, 0)) (h2 : wrP b = (s, 0)) : a = b := by
  obtain ⟨l1, v1, e1, _⟩ := wrP_ok (l := a) (by rw [h1])
  obtain ⟨l2, v2, e2, _⟩ := wrP_ok (l := b) (by rw [h2])
  rw [h1] at e1
  rw [h2] at e2
  have a1 := pcks_back l1 v1
  have a2 := pcks_back l2 v2
  rw [← e1] at a1
  rw [← e2] at a2
  exact Option.some.inj (a1.symm.trans a2)
/-- The lists with one number more. -/
def otR (r : List Rpt) (k : Nat) : List Rpt := r.set k ⟨(gt Rpt.d r k).batch, (gt Rpt.d r k).strokes, (gt Rpt.d r k).strength, ⟨(gt Rpt.d r k).wear.lo, IntKind.i64.wrap ((gt Rpt.d r k).wear.hi + 1)⟩⟩
def otC (c : List Crd) (k : Nat) : List Crd := c.set k ⟨(gt Crd.d c k).number, (gt Crd.d c k).hour, (gt Crd.d c k).shade, (gt Crd.d c k).places, IntKind.i64.wrap ((gt Crd.d c k).many + 1)⟩
def otI (l : List Int) : List Int := l.set (l.length - 1) (IntKind.i64.wrap (gt 0 l (l.length - 1) + 1))
def otP (p : List Pck) (k : Nat) : List Pck := p.set k ⟨(gt Pck.d p k).box, otI (gt Pck.d p k).colours⟩
theorem otR_ne {r : List Rpt} {k : Nat} (hk : k < r.length) : otR r k ≠ r := set_ne Rpt.d hk fun e => wrap_ne _ (congrArg (fun x : Rpt => x.wear.hi) e)
theorem otC_ne {c : List Crd} {k : Nat} (hk : k < c.length) : otC c k ≠ c := set_ne Crd.d hk fun e => wrap_ne _ (congrArg Crd.many e)
theorem otI_ne {l : List Int} (h : 0 < l.length) : otI l ≠ l := set_ne 0 (show l.length - 1 < l.length by omega) (wrap_ne _)
theorem otI_len (l : List Int) : (otI l).length = l.length := List.length_set
theorem otP_ne {p : List Pck} {k : Nat} (hk : k < p.length) (h : 0 < (gt Pck.d p k).colours.length) : otP p k ≠ p := set_ne Pck.d hk fun e => otI_ne h (congrArg Pck.colours e)
theorem otR_len (r : List Rpt) (k : Nat) : (otR r k).length = r.length := List.length_set
theorem otC_len (r : List Crd) (k : Nat) : (otC r k).length = r.length := List.length_set
theorem otP_len (r : List Pck) (k : Nat) : (otP r k).length = r.length := List.length_set
theorem otR_n {r : List Rpt} {k : Nat} (hk : k < r.length) (h : ∀ x ∈ r, x.strokes.length ≤ bigN) : ∀ x ∈ otR r k, x.strokes.length ≤ bigN := fun x hx => by
  rcases List.mem_or_eq_of_mem_set hx with hx | rfl
  · exact h x hx
  · exact (h (gt Rpt.d r k) (gt_mem Rpt.d hk) : _)
theorem otP_n {r : List Pck} {k : Nat} (hk : k < r.length) (h : ∀ x ∈ r, x.colours.length ≤ bigN) : ∀ x ∈ otP r k, x.colours.length ≤ bigN := fun x hx => by
  rcases List.mem_or_eq_of_mem_set hx with hx | rfl
  · exact h x hx
  · show (otI _).length ≤ _; rw [otI_len]; exact h _ (gt_mem Pck.d hk)
end Go.Proofs.YtidmbdmommjlnaaDoor
end

section
set_option linter.unusedVariables false
set_option maxRecDepth 100000
set_option maxHeartbeats 4000000
set_option linter.unusedSimpArgs false
namespace Go.Proofs.YtidmbdmommjlnaaDoor
open Go.AF
theorem writeR_ot {l : List Rpt} {k : Nat} (hk : k < l.length) (hl : l.length ≤ bigN) (hs : ∀ r ∈ l, r.strokes.length ≤ bigN) {s : Bs} {e : Int} (h : wrR (otR l k) = (s, e)) : Pure Tryd.prog 10 [.is ((otR l k).flatMap Rpt.cells) (0 + l.length)] (.tuple [.str (sB s), .int .i64 e]) := by
  have h2 := writeReports_eq (l := otR l k) (by rw [otR_len]; exact hl) (otR_n hk hs) h
  unfold rptsV at h2
  rwa [otR_len, ← Nat.zero_add l.length] at h2
theorem writeC_ot {l : List Crd} {k : Nat} (hl : l.length ≤ bigN) {s : Bs} {e : Int} (h : wrC (otC l k) = (s, e)) : Pure Tryd.prog 11 [.is ((otC l k).flatMap Crd.cells) (0 + l.length)] (.tuple [.str (sB s), .int .i64 e]) := by
  have h2 := writeCards_eq (l := otC l k) (by rw [otC_len]; exact hl) h
  unfold crdsV at h2
  rwa [otC_len, ← Nat.zero_add l.length] at h2
theorem writeP_ot {l : List Pck} {k : Nat} (hk : k < l.length) (hl : l.length ≤ bigN) (hs : ∀ r ∈ l, r.colours.length ≤ bigN) {s : Bs} {e : Int} (h : wrP (otP l k) = (s, e)) : Pure Tryd.prog 12 [.is ((otP l k).flatMap Pck.cells) (0 + l.length)] (.tuple [.str (sB s), .int .i64 e]) := by
  have h2 := writePacks_eq (l := otP l k) (by rw [otP_len]; exact hl) (otP_n hk hs) h
  unfold pcksV at h2
  rwa [otP_len, ← Nat.zero_add l.length] at h2
theorem bookBack_ok (r : List Rpt) (c : List Crd) (p : List Pck) (hr : r.length ≤ bigN) (hrs : ∀ x ∈ r, x.strokes.length ≤ bigN) (hc : c.length ≤ bigN) (hp : p.length ≤ bigN) (hps : ∀ x ∈ p, x.colours.length ≤ bigN) (y : UInt8) : Pure Tryd.prog 3 [rptsV r, crdsV c, pcksV p, .int .u8 (y.toNat : Int)] (.bool true) := by
  have hy := y.toNat_lt
  have hr2 := hr
  have hp2 := hp
  have hcc2 := hc
  unfold bigN at hr2 hp2 hcc2
  refine Pure.start (N := 234) Tryd.func3 rfl rfl (Nat.le_of_ble_eq_true rfl) ?_
  refine AWp.seq ?_
  refine AWp.region ?_
  refine AList.c 8 rfl rfl rfl (OpJ.assign rfl rfl) ?_
  refine AList.nil ?_
  refine AWp.seq ?_
  refine AWp.seq ?_
  refine AWp.region ?_
  refine AList.c 34 rfl rfl rfl (OpJ.move rfl rfl) ?_
  refine AList.c 35 rfl rfl rfl (OpJ.move rfl rfl) ?_
  refine AList.c 36 rfl rfl rfl (OpJ.move rfl rfl) ?_
  refine AList.c 37 rfl rfl rfl (OpJ.callP (many_ok r c p hr hp) rfl rfl rfl rfl rf8) ?_
  refine AList.nil ?_
  refine AWp.cond _ rfl (fun hc0 => ?_) (fun hc0 => ?_)
  · skip
    refine AWp.seq ?_
    refine AWp.region ?_
    refine AList.c 38 rfl rfl rfl (OpJ.callP (alive_ok) rfl rfl rfl rfl rf9) ?_
    refine AList.c 8 rfl rfl rfl (OpJ.assign rfl rfl) ?_
    refine AList.nil ?_
    refine AWp.ret ?_
    exact Fin.oneE rfl rfl rfl
  · skip
    refine AWp.skip ?_
    refine AWp.seq ?_
    have hmm := many_not hc0
    obtain ⟨s, e, hwr⟩ : ∃ s w, wrR r = (s, w) := ⟨_, _, rfl⟩
    obtain ⟨t, f, hwc⟩ : ∃ s w, wrC c = (s, w) := ⟨_, _, rfl⟩
    obtain ⟨u, w3, hwp⟩ : ∃ s w, wrP p = (s, w) := ⟨_, _, rfl⟩
    have hse := wrR_e (l := r)
    have hte := wrC_e (l := c)
    have hue := wrP_e (l := p)
    rw [hwr] at hse
    rw [hwc] at hte
    rw [hwp] at hue
    dsimp only at hse hte hue
    refine AWp.region ?_
    refine AList.c 40 rfl rfl rfl (OpJ.move rfl rfl) ?_
    refine AList.c 41 rfl rfl rfl (OpJ.callP (writeReports_eq hr hrs hwr) rfl rfl rfl rfl rf10) ?_
    refine AList.c 39 rfl rfl rfl (OpJ.move rfl rfl) ?_
    refine AList.c 42 rfl rfl rfl (OpJ.extract rfl rfl rfl) ?_
    refine AList.c 43 rfl rfl rfl (OpJ.extract rfl rfl rfl) ?_
    refine AList.c 9 rfl rfl rfl (OpJ.assign rfl rfl) ?_
    refine AList.c 10 rfl rfl rfl (OpJ.assign rfl rfl) ?_
    refine AList.nil ?_
    refine AWp.seq ?_
    refine AWp.region ?_
    refine AList.c 45 rfl rfl rfl (OpJ.move rfl rfl) ?_
    refine AList.c 46 rfl rfl rfl (OpJ.callP (writeCards_eq hc hwc) rfl rfl rfl rfl rf11) ?_
    refine AList.c 44 rfl rfl rfl (OpJ.move rfl rfl) ?_
    refine AList.c 47 rfl rfl rfl (OpJ.extract rfl rfl rfl) ?_
    refine AList.c 48 rfl rfl rfl (OpJ.extract rfl rfl rfl) ?_
    refine AList.c 11 rfl rfl rfl (OpJ.assign rfl rfl) ?_
    refine AList.c 12 rfl rfl rfl (OpJ.assign rfl rfl) ?_
    refine AList.nil ?_
    refine AWp.seq ?_
    refine AWp.region ?_
    refine AList.c 50 rfl rfl rfl (OpJ.move rfl rfl) ?_
    refine AList.c 51 rfl rfl rfl (OpJ.callP (writePacks_eq hp hps hwp) rfl rfl rfl rfl rf12) ?_
    refine AList.c 49 rfl rfl rfl (OpJ.move rfl rfl) ?_
    refine AList.c 52 rfl rfl rfl (OpJ.extract rfl rfl rfl) ?_
    refine AList.c 53 rfl rfl rfl (OpJ.extract rfl rfl rfl) ?_
    refine AList.c 13 rfl rfl rfl (OpJ.assign rfl rfl) ?_
    refine AList.c 14 rfl rfl rfl (OpJ.assign rfl rfl) ?_
    refine AList.nil ?_
    refine AWp.join (fun (g0 : Unit) => [(0, .p (rptsV r)), (1, .p (crdsV c)), (2, .p (pcksV p)), (3, .p (.int .u8 (y.toNat : Int))), (9, .p (.str (sB s))), (10, .p (.int .i64 e)), (11, .p (.str (sB t))), (12, .p (.int .i64 f)), (13, .p (.str (sB u))), (14, .p (.int .i64 w3))]) (fun (g0 : Unit) => []) (fun (g0 : Unit) => True) ?_ (fun g hg => ?_)
    · skip
      refine AWp.seq ?_
      refine AWp.region ?_
      refine AList.c 54 rfl rfl rfl (OpJ.move rfl rfl) ?_
      refine AList.c 55 rfl rfl rfl (OpJ.eql rfl rfl rfl) ?_
      refine AList.nil ?_
      refine AWp.cond _ rfl (fun hc1 => ?_) (fun hc1 => ?_)
      · skip
        have hz : e = 0 := by simpa using hc1
        subst hz
        obtain ⟨_, _, eT, _, hrd⟩ := wrR_ok (l := r) (by rw [hwr])
        rw [hwr] at eT
        rw [← eT] at hrd
        refine AWp.seq ?_
        refine AWp.region ?_
        refine AList.c 57 rfl rfl rfl (OpJ.move rfl rfl) ?_
        refine AList.c 58 rfl rfl rfl (OpJ.callP (readReports_eq hrd) rfl rfl rfl rfl rf13) ?_
        refine AList.c 56 rfl rfl rfl (OpJ.move rfl rfl) ?_
        refine AList.c 59 rfl rfl rfl (OpJ.extract rfl rfl rfl) ?_
        refine AList.c 60 rfl rfl rfl (OpJ.extract rfl rfl rfl) ?_
        refine AList.c 15 rfl rfl rfl (OpJ.assign rfl rfl) ?_
        refine AList.c 16 rfl rfl rfl (OpJ.assign rfl rfl) ?_
        refine AList.nil ?_
        refine AWp.seq ?_
        refine AWp.seq ?_
        refine AWp.region ?_
        refine AList.c 61 rfl rfl rfl (OpJ.move rfl rfl) ?_
        refine AList.c 62 rfl rfl rfl (OpJ.neq rfl rfl rfl) ?_
        refine AList.c 63 rfl rfl rfl (OpJ.move rfl rfl) ?_
        refine AList.g 64 63 rfl rfl rfl rfl rfl rfl rfl [(15, _)] (fun h => And.intro (.inl rfl) (trivial)) (fun h => (OpJ.move rfl rfl)) ?_
        refine AList.g 65 63 rfl rfl rfl rfl rfl rfl rfl [(0, _)] (fun h => And.intro (.inl rfl) (trivial)) (fun h => (OpJ.move rfl rfl)) ?_
        refine AList.g 66 63 rfl rfl rfl rfl rfl rfl rfl [(64, _), (65, _)] (fun h => And.intro (.inr ⟨_, rfl, h⟩) (And.intro (.inr ⟨_, rfl, h⟩) (trivial))) (fun h => (OpJ.callP (sameR_ok r r hr hr hrs hrs) rfl rfl rfl rfl rf14)) ?_
        refine AList.g 67 63 rfl rfl rfl rfl rfl rfl rfl [(66, _)] (fun h => And.intro (.inr ⟨_, rfl, h⟩) (trivial)) (fun h => (OpJ.not_ rfl rfl)) ?_
        refine AList.c 68 rfl rfl rfl (OpJ.or_ rfl rfl rfl ?_) ?_
        · first | (intro h; rw [h]; rfl) | (intro h; simp_all)
        refine AList.nil ?_
        refine AWp.cond _ rfl (fun hc2 => ?_) (fun hc2 => ?_)
        · skip
          exfalso
          simp at hc2
        · skip
          refine AWp.skip ?_
          refine AWp.seq ?_
          refine AWp.region ?_
          refine AList.c 69 rfl rfl rfl (OpJ.move rfl rfl) ?_
          refine AList.c 70 rfl rfl rfl (OpJ.lenSlice rfl rfl sl22 rfl) ?_
          refine AList.c 71 rfl rfl rfl (OpJ.gtr rfl rfl rfl) ?_
          refine AList.nil ?_
          refine AWp.cond _ rfl (fun hc3 => ?_) (fun hc3 => ?_)
          · skip
            obtain ⟨k, hk⟩ : ∃ k, k = y.toNat % r.length := ⟨_, rfl⟩
            have hl0 : 0 < r.length := by simpa using hc3
            have hkl : k < r.length := by rw [hk]; exact Nat.mod_lt _ hl0
            refine AWp.seq ?_
            refine AWp.region ?_
            refine AList.c 72 rfl rfl rfl (OpJ.buildOwn rfl slz22 (by decide) rfl rfl) ?_
            refine AList.c 73 rfl rfl rfl (OpJ.move rfl rfl) ?_
            refine AList.c 74 rfl rfl rfl (OpJ.appendRow (i := 0) (len := 0) (cs := []) rfl rfl rfl slz22 sl22 rfl ?_ (asrc_is (xs := r.flatMap Rpt.cells) (n := r.length) (sz := 6) (AF.flat_len (c := 6) (fun _ => rfl) r)) (oneAll (fun _ => rfl) r) by39 (by decide) ?_) ?_
            · rfl
            · show (2 * (0 + r.length) + 192) * 64 ≤ 281474976710656; omega
            refine AList.c 17 rfl rfl rfl (OpJ.assign rfl rfl) ?_
            refine AList.nil ?_
            refine AWp.seq ?_
            refine AWp.region ?_
            refine AList.c 75 rfl rfl rfl (OpJ.move rfl rfl) ?_
            refine AList.c 76 rfl rfl rfl (OpJ.convInt rfl rfl (by rw [un5]; rfl) un3 (i64ok ?_)) ?_
            · omega
            refine AList.c 77 rfl rfl rfl (OpJ.move rfl rfl) ?_
            refine AList.c 78 rfl rfl rfl (OpJ.lenSlice rfl rfl sl22 rfl) ?_
            refine AList.c 79 rfl rfl rfl (OpJ.rem (m := (k : Int)) rfl rfl rfl ?_ ?_) ?_
            · omega
            · rw [hk]; exact tmodN _ _
            refine AList.c 18 rfl rfl rfl (OpJ.assign rfl rfl) ?_
            refine AList.nil ?_
            refine AWp.seq ?_
            refine AWp.region ?_
            refine AList.c 80 rfl rfl rfl (OpJ.move rfl rfl) ?_
            refine AList.c 81 rfl rfl rfl (OpJ.move rfl rfl) ?_
            refine AList.c 82 rfl rfl rfl (OpJ.indexRow rfl rfl rfl sl22 el22 (by omega)) ?_
            refine AList.c 83 rfl rfl rfl (OpJ.fieldAddr rfl rfl fd39_3 rfl) ?_
            refine AList.c 84 rfl rfl rfl (OpJ.fieldAddr rfl rfl fd36_1 rfl) ?_
            refine AList.c 85 rfl rfl rfl (OpJ.loadFlat (f := Rpt.cells) (c := 6) (k := k) (j := 5) (xs := r) (v := .int .i64 (gt Rpt.d r k).wear.hi) rfl rfl ty3 rfl rfl (by omega) (fun _ => rfl) (by omega) (by decide) (by rw [gt_get Rpt.d _ (by omega)]; rfl)) ?_
            refine AList.c 86 rfl rfl rfl (OpJ.add (m := (IntKind.i64.wrap ((gt Rpt.d r k).wear.hi + 1))) rfl rfl rfl ?_) ?_
            · rfl
            refine AList.c 87 rfl rfl rfl (OpJ.indexRow rfl rfl rfl sl22 el22 (by omega)) ?_
            refine AList.c 88 rfl rfl rfl (OpJ.fieldAddr rfl rfl fd39_3 rfl) ?_
            refine AList.c 89 rfl rfl rfl (OpJ.fieldAddr rfl rfl fd36_1 rfl) ?_
            refine AList.c0 rfl rfl (OpJ.storeRow (f := Rpt.cells) (c := 6) (k := k) (j := 5) (xs := r) (z := ⟨(gt Rpt.d r k).batch, (gt Rpt.d r k).strokes, (gt Rpt.d r k).strength, ⟨(gt Rpt.d r k).wear.lo, (IntKind.i64.wrap ((gt Rpt.d r k).wear.hi + 1))⟩⟩) (ws := [.int .i64 (IntKind.i64.wrap ((gt Rpt.d r k).wear.hi + 1))]) rfl rfl rfl rfl rfl ty3 rfl rfl rfl (by omega) (fun _ => rfl) hkl (by show 5 + 1 ≤ 6; decide) (by rw [gt_get Rpt.d _ hkl]; rfl)) ?_
            refine AList.nil ?_
            refine AWp.seq ?_
            refine AWp.freeze 1 rfl (allP_map _) ?_
            obtain ⟨s2, e2, hw2⟩ : ∃ s w, wrR (otR r k) = (s, w) := ⟨_, _, rfl⟩
            refine AWp.region ?_
            refine AList.c 91 rfl rfl rfl (OpJ.move rfl rfl) ?_
            refine AList.c 92 rfl rfl rfl (OpJ.callP (writeR_ot hkl hr hrs hw2) rfl rfl rfl rfl rf10) ?_
            refine AList.c 90 rfl rfl rfl (OpJ.move rfl rfl) ?_
            refine AList.c 93 rfl rfl rfl (OpJ.extract rfl rfl rfl) ?_
            refine AList.c 94 rfl rfl rfl (OpJ.extract rfl rfl rfl) ?_
            refine AList.c 19 rfl rfl rfl (OpJ.assign rfl rfl) ?_
            refine AList.c 20 rfl rfl rfl (OpJ.assign rfl rfl) ?_
            refine AList.nil ?_
            refine AWp.seq ?_
            refine AWp.region ?_
            refine AList.c 95 rfl rfl rfl (OpJ.move rfl rfl) ?_
            refine AList.c 96 rfl rfl rfl (OpJ.eql rfl rfl rfl) ?_
            refine AList.c 97 rfl rfl rfl (OpJ.move rfl rfl) ?_
            refine AList.g 98 97 rfl rfl rfl rfl rfl rfl rfl [(19, _)] (fun h => And.intro (.inl rfl) (trivial)) (fun h => (OpJ.move rfl rfl)) ?_
            refine AList.g 99 97 rfl rfl rfl rfl rfl rfl rfl [(9, _)] (fun h => And.intro (.inl rfl) (trivial)) (fun h => (OpJ.move rfl rfl)) ?_
            refine AList.g 100 97 rfl rfl rfl rfl rfl rfl rfl [(98, _), (99, _)] (fun h => And.intro (.inr ⟨_, rfl, h⟩) (And.intro (.inr ⟨_, rfl, h⟩) (trivial))) (fun h => (OpJ.strEq s2 s rfl rfl rfl)) ?_
            refine AList.c 101 rfl rfl rfl (OpJ.and_ rfl rfl rfl ?_) ?_
            · first | (intro h; rw [h]; rfl) | (intro h; simp_all)
            refine AList.nil ?_
            refine AWp.cond _ rfl (fun hc4 => ?_) (fun hc4 => ?_)
            · skip
              exfalso
              simp only [Bool.and_eq_true, decide_eq_true_eq] at hc4
              obtain ⟨rfl, rfl⟩ := hc4
              exact otR_ne hkl (wrR_inj hw2 hwr)
            · skip
              refine AWp.skip ?_
              exact ⟨(), trivial, To.done [] rfl (by repeat (first | exact Sub.nil | refine Sub.cons rfl ?_)) rfl⟩
          · skip
            refine AWp.skip ?_
            exact ⟨(), trivial, To.done [] rfl (by repeat (first | exact Sub.nil | refine Sub.cons rfl ?_)) rfl⟩
      · skip
        refine AWp.skip ?_
        exact ⟨(), trivial, To.done [] rfl (by repeat (first | exact Sub.nil | refine Sub.cons rfl ?_)) rfl⟩
    · skip
      refine AWp.join (fun (g0 : Unit) => [(0, .p (rptsV r)), (1, .p (crdsV c)), (2, .p (pcksV p)), (3, .p (.int .u8 (y.toNat : Int))), (9, .p (.str (sB s))), (10, .p (.int .i64 e)), (11, .p (.str (sB t))), (12, .p (.int .i64 f)), (13, .p (.str (sB u))), (14, .p (.int .i64 w3))]) (fun (g0 : Unit) => []) (fun (g0 : Unit) => True) ?_ (fun g hg => ?_)
      · skip
        refine AWp.seq ?_
        refine AWp.region ?_
        refine AList.c 102 rfl rfl rfl (OpJ.move rfl rfl) ?_
        refine AList.c 103 rfl rfl rfl (OpJ.eql rfl rfl rfl) ?_
        refine AList.nil ?_
        refine AWp.cond _ rfl (fun hc5 => ?_) (fun hc5 => ?_)
        · skip
          have hz : f = 0 := by simpa using hc5
          subst hz
          obtain ⟨_, _, eT, _, hrd⟩ := wrC_ok (l := c) (by rw [hwc])
          rw [hwc] at eT
          rw [← eT] at hrd
          refine AWp.seq ?_
          refine AWp.region ?_
          refine AList.c 105 rfl rfl rfl (OpJ.move rfl rfl) ?_
          refine AList.c 106 rfl rfl rfl (OpJ.callP (readCards_eq hrd) rfl rfl rfl rfl rf15) ?_
          refine AList.c 104 rfl rfl rfl (OpJ.move rfl rfl) ?_
          refine AList.c 107 rfl rfl rfl (OpJ.extract rfl rfl rfl) ?_
          refine AList.c 108 rfl rfl rfl (OpJ.extract rfl rfl rfl) ?_
          refine AList.c 21 rfl rfl rfl (OpJ.assign rfl rfl) ?_
          refine AList.c 22 rfl rfl rfl (OpJ.assign rfl rfl) ?_
          refine AList.nil ?_
          refine AWp.seq ?_
          refine AWp.seq ?_
          refine AWp.region ?_
          refine AList.c 109 rfl rfl rfl (OpJ.move rfl rfl) ?_
          refine AList.c 110 rfl rfl rfl (OpJ.neq rfl rfl rfl) ?_
          refine AList.c 111 rfl rfl rfl (OpJ.move rfl rfl) ?_
          refine AList.g 112 111 rfl rfl rfl rfl rfl rfl rfl [(21, _)] (fun h => And.intro (.inl rfl) (trivial)) (fun h => (OpJ.move rfl rfl)) ?_
          refine AList.g 113 111 rfl rfl rfl rfl rfl rfl rfl [(1, _)] (fun h => And.intro (.inl rfl) (trivial)) (fun h => (OpJ.move rfl rfl)) ?_
          refine AList.g 114 111 rfl rfl rfl rfl rfl rfl rfl [(112, _), (113, _)] (fun h => And.intro (.inr ⟨_, rfl, h⟩) (And.intro (.inr ⟨_, rfl, h⟩) (trivial))) (fun h => (OpJ.callP (sameC_ok c c hc hc) rfl rfl rfl rfl rf16)) ?_
          refine AList.g 115 111 rfl rfl rfl rfl rfl rfl rfl [(114, _)] (fun h => And.intro (.inr ⟨_, rfl, h⟩) (trivial)) (fun h => (OpJ.not_ rfl rfl)) ?_
          refine AList.c 116 rfl rfl rfl (OpJ.or_ rfl rfl rfl ?_) ?_
          · first | (intro h; rw [h]; rfl) | (intro h; simp_all)
          refine AList.nil ?_
          refine AWp.cond _ rfl (fun hc6 => ?_) (fun hc6 => ?_)
          · skip
            exfalso
            simp at hc6
          · skip
            refine AWp.skip ?_
            refine AWp.seq ?_
            refine AWp.region ?_
            refine AList.c 117 rfl rfl rfl (OpJ.move rfl rfl) ?_
            refine AList.c 118 rfl rfl rfl (OpJ.lenSlice rfl rfl sl23 rfl) ?_
            refine AList.c 119 rfl rfl rfl (OpJ.gtr rfl rfl rfl) ?_
            refine AList.nil ?_
            refine AWp.cond _ rfl (fun hc7 => ?_) (fun hc7 => ?_)
            · skip
              obtain ⟨k, hk⟩ : ∃ k, k = y.toNat % c.length := ⟨_, rfl⟩
              have hl0 : 0 < c.length := by simpa using hc7
              have hkl : k < c.length := by rw [hk]; exact Nat.mod_lt _ hl0
              refine AWp.seq ?_
              refine AWp.region ?_
              refine AList.c 120 rfl rfl rfl (OpJ.buildOwn rfl slz23 (by decide) rfl rfl) ?_
              refine AList.c 121 rfl rfl rfl (OpJ.move rfl rfl) ?_
              refine AList.c 122 rfl rfl rfl (OpJ.appendRow (i := 0) (len := 0) (cs := []) rfl rfl rfl slz23 sl23 rfl ?_ (asrc_is (xs := c.flatMap Crd.cells) (n := c.length) (sz := 5) (AF.flat_len (c := 5) (fun _ => rfl) c)) (oneAll (fun _ => rfl) c) by44 (by decide) ?_) ?_
              · rfl
              · show (2 * (0 + c.length) + 192) * 40 ≤ 281474976710656; omega
              refine AList.c 23 rfl rfl rfl (OpJ.assign rfl rfl) ?_
              refine AList.nil ?_
              refine AWp.seq ?_
              refine AWp.region ?_
              refine AList.c 123 rfl rfl rfl (OpJ.move rfl rfl) ?_
              refine AList.c 124 rfl rfl rfl (OpJ.convInt rfl rfl (by rw [un5]; rfl) un3 (i64ok ?_)) ?_
              · omega
              refine AList.c 125 rfl rfl rfl (OpJ.move rfl rfl) ?_
              refine AList.c 126 rfl rfl rfl (OpJ.lenSlice rfl rfl sl23 rfl) ?_
              refine AList.c 127 rfl rfl rfl (OpJ.rem (m := (k : Int)) rfl rfl rfl ?_ ?_) ?_
              · omega
              · rw [hk]; exact tmodN _ _
              refine AList.c 24 rfl rfl rfl (OpJ.assign rfl rfl) ?_
              refine AList.nil ?_
              refine AWp.seq ?_
              refine AWp.region ?_
              refine AList.c 128 rfl rfl rfl (OpJ.move rfl rfl) ?_
              refine AList.c 129 rfl rfl rfl (OpJ.move rfl rfl) ?_
              refine AList.c 130 rfl rfl rfl (OpJ.indexRow rfl rfl rfl sl23 el23 (by omega)) ?_
              refine AList.c 131 rfl rfl rfl (OpJ.fieldAddr rfl rfl fd44_4 rfl) ?_
              refine AList.c 132 rfl rfl rfl (OpJ.loadFlat (f := Crd.cells) (c := 5) (k := k) (j := 4) (xs := c) (v := .int .i64 (gt Crd.d c k).many) rfl rfl ty3 rfl rfl (by omega) (fun _ => rfl) (by omega) (by decide) (by rw [gt_get Crd.d _ (by omega)]; rfl)) ?_
              refine AList.c 133 rfl rfl rfl (OpJ.add (m := (IntKind.i64.wrap ((gt Crd.d c k).many + 1))) rfl rfl rfl ?_) ?_
              · rfl
              refine AList.c 134 rfl rfl rfl (OpJ.indexRow rfl rfl rfl sl23 el23 (by omega)) ?_
              refine AList.c 135 rfl rfl rfl (OpJ.fieldAddr rfl rfl fd44_4 rfl) ?_
              refine AList.c0 rfl rfl (OpJ.storeRow (f := Crd.cells) (c := 5) (k := k) (j := 4) (xs := c) (z := ⟨(gt Crd.d c k).number, (gt Crd.d c k).hour, (gt Crd.d c k).shade, (gt Crd.d c k).places, (IntKind.i64.wrap ((gt Crd.d c k).many + 1))⟩) (ws := [.int .i64 (IntKind.i64.wrap ((gt Crd.d c k).many + 1))]) rfl rfl rfl rfl rfl ty3 rfl rfl rfl (by omega) (fun _ => rfl) hkl (by show 4 + 1 ≤ 5; decide) (by rw [gt_get Crd.d _ hkl]; rfl)) ?_
              refine AList.nil ?_
              refine AWp.seq ?_
              refine AWp.freeze 1 rfl (allP_map _) ?_
              obtain ⟨s2, e2, hw2⟩ : ∃ s w, wrC (otC c k) = (s, w) := ⟨_, _, rfl⟩
              refine AWp.region ?_
              refine AList.c 137 rfl rfl rfl (OpJ.move rfl rfl) ?_
              refine AList.c 138 rfl rfl rfl (OpJ.callP (writeC_ot hc hw2) rfl rfl rfl rfl rf11) ?_
              refine AList.c 136 rfl rfl rfl (OpJ.move rfl rfl) ?_
              refine AList.c 139 rfl rfl rfl (OpJ.extract rfl rfl rfl) ?_
              refine AList.c 140 rfl rfl rfl (OpJ.extract rfl rfl rfl) ?_
              refine AList.c 25 rfl rfl rfl (OpJ.assign rfl rfl) ?_
              refine AList.c 26 rfl rfl rfl (OpJ.assign rfl rfl) ?_
              refine AList.nil ?_
              refine AWp.seq ?_
              refine AWp.region ?_
              refine AList.c 141 rfl rfl rfl (OpJ.move rfl rfl) ?_
              refine AList.c 142 rfl rfl rfl (OpJ.eql rfl rfl rfl) ?_
              refine AList.c 143 rfl rfl rfl (OpJ.move rfl rfl) ?_
              refine AList.g 144 143 rfl rfl rfl rfl rfl rfl rfl [(25, _)] (fun h => And.intro (.inl rfl) (trivial)) (fun h => (OpJ.move rfl rfl)) ?_
              refine AList.g 145 143 rfl rfl rfl rfl rfl rfl rfl [(11, _)] (fun h => And.intro (.inl rfl) (trivial)) (fun h => (OpJ.move rfl rfl)) ?_
              refine AList.g 146 143 rfl rfl rfl rfl rfl rfl rfl [(144, _), (145, _)] (fun h => And.intro (.inr ⟨_, rfl, h⟩) (And.intro (.inr ⟨_, rfl, h⟩) (trivial))) (fun h => (OpJ.strEq s2 t rfl rfl rfl)) ?_
              refine AList.c 147 rfl rfl rfl (OpJ.and_ rfl rfl rfl ?_) ?_
              · first | (intro h; rw [h]; rfl) | (intro h; simp_all)
              refine AList.nil ?_
              refine AWp.cond _ rfl (fun hc8 => ?_) (fun hc8 => ?_)
              · skip
                exfalso
                simp only [Bool.and_eq_true, decide_eq_true_eq] at hc8
                obtain ⟨rfl, rfl⟩ := hc8
                exact otC_ne hkl (wrC_inj hw2 hwc)
              · skip
                refine AWp.skip ?_
                exact ⟨(), trivial, To.done [] rfl (by repeat (first | exact Sub.nil | refine Sub.cons rfl ?_)) rfl⟩
            · skip
              refine AWp.skip ?_
              exact ⟨(), trivial, To.done [] rfl (by repeat (first | exact Sub.nil | refine Sub.cons rfl ?_)) rfl⟩
        · skip
          refine AWp.skip ?_
          exact ⟨(), trivial, To.done [] rfl (by repeat (first | exact Sub.nil | refine Sub.cons rfl ?_)) rfl⟩
      · skip
        refine AWp.join (fun (g0 : Unit) => [(0, .p (rptsV r)), (1, .p (crdsV c)), (2, .p (pcksV p)), (3, .p (.int .u8 (y.toNat : Int))), (9, .p (.str (sB s))), (10, .p (.int .i64 e)), (11, .p (.str (sB t))), (12, .p (.int .i64 f)), (13, .p (.str (sB u))), (14, .p (.int .i64 w3))]) (fun (g0 : Unit) => []) (fun (g0 : Unit) => True) ?_ (fun g hg => ?_)
        · skip
          refine AWp.seq ?_
          refine AWp.region ?_
          refine AList.c 148 rfl rfl rfl (OpJ.move rfl rfl) ?_
          refine AList.c 149 rfl rfl rfl (OpJ.eql rfl rfl rfl) ?_
          refine AList.nil ?_
          refine AWp.cond _ rfl (fun hc9 => ?_) (fun hc9 => ?_)
          · skip
            have hz : w3 = 0 := by simpa using hc9
            subst hz
            obtain ⟨_, hvp, eT, _, hrd⟩ := wrP_ok (l := p) (by rw [hwp])
            rw [hwp] at eT
            rw [← eT] at hrd
            refine AWp.seq ?_
            refine AWp.region ?_
            refine AList.c 151 rfl rfl rfl (OpJ.move rfl rfl) ?_
            refine AList.c 152 rfl rfl rfl (OpJ.callP (readPacks_eq hrd) rfl rfl rfl rfl rf17) ?_
            refine AList.c 150 rfl rfl rfl (OpJ.move rfl rfl) ?_
            refine AList.c 153 rfl rfl rfl (OpJ.extract rfl rfl rfl) ?_
            refine AList.c 154 rfl rfl rfl (OpJ.extract rfl rfl rfl) ?_
            refine AList.c 27 rfl rfl rfl (OpJ.assign rfl rfl) ?_
            refine AList.c 28 rfl rfl rfl (OpJ.assign rfl rfl) ?_
            refine AList.nil ?_
            refine AWp.seq ?_
            refine AWp.seq ?_
            refine AWp.region ?_
            refine AList.c 155 rfl rfl rfl (OpJ.move rfl rfl) ?_
            refine AList.c 156 rfl rfl rfl (OpJ.neq rfl rfl rfl) ?_
            refine AList.c 157 rfl rfl rfl (OpJ.move rfl rfl) ?_
            refine AList.g 158 157 rfl rfl rfl rfl rfl rfl rfl [(27, _)] (fun h => And.intro (.inl rfl) (trivial)) (fun h => (OpJ.move rfl rfl)) ?_
            refine AList.g 159 157 rfl rfl rfl rfl rfl rfl rfl [(2, _)] (fun h => And.intro (.inl rfl) (trivial)) (fun h => (OpJ.move rfl rfl)) ?_
            refine AList.g 160 157 rfl rfl rfl rfl rfl rfl rfl [(158, _), (159, _)] (fun h => And.intro (.inr ⟨_, rfl, h⟩) (And.intro (.inr ⟨_, rfl, h⟩) (trivial))) (fun h => (OpJ.callP (sameP_ok p p hp hp hps hps) rfl rfl rfl rfl rf18)) ?_
            refine AList.g 161 157 rfl rfl rfl rfl rfl rfl rfl [(160, _)] (fun h => And.intro (.inr ⟨_, rfl, h⟩) (trivial)) (fun h => (OpJ.not_ rfl rfl)) ?_
            refine AList.c 162 rfl rfl rfl (OpJ.or_ rfl rfl rfl ?_) ?_
            · first | (intro h; rw [h]; rfl) | (intro h; simp_all)
            refine AList.nil ?_
            refine AWp.cond _ rfl (fun hc10 => ?_) (fun hc10 => ?_)
            · skip
              exfalso
              simp at hc10
            · skip
              refine AWp.skip ?_
              refine AWp.seq ?_
              refine AWp.region ?_
              refine AList.c 163 rfl rfl rfl (OpJ.move rfl rfl) ?_
              refine AList.c 164 rfl rfl rfl (OpJ.lenSlice rfl rfl sl24 rfl) ?_
              refine AList.c 165 rfl rfl rfl (OpJ.gtr rfl rfl rfl) ?_
              refine AList.nil ?_
              refine AWp.cond _ rfl (fun hc11 => ?_) (fun hc11 => ?_)
              · skip
                obtain ⟨k, hk⟩ : ∃ k, k = y.toNat % p.length := ⟨_, rfl⟩
                have hl0 : 0 < p.length := by simpa using hc11
                have hkl : k < p.length := by rw [hk]; exact Nat.mod_lt _ hl0
                have hm0 := (pckB_some (pcks_R hvp _ (gt_mem Pck.d hkl)).2.2).2.1
                have hm48 := (pckB_some (pcks_R hvp _ (gt_mem Pck.d hkl)).2.2).2.2
                refine AWp.seq ?_
                refine AWp.region ?_
                refine AList.c 166 rfl rfl rfl (OpJ.buildOwn rfl slz24 (by decide) rfl rfl) ?_
                refine AList.c 167 rfl rfl rfl (OpJ.move rfl rfl) ?_
                refine AList.c 168 rfl rfl rfl (OpJ.appendRow (i := 0) (len := 0) (cs := []) rfl rfl rfl slz24 sl24 rfl ?_ (asrc_is (xs := p.flatMap Pck.cells) (n := p.length) (sz := 2) (AF.flat_len (c := 2) (fun _ => rfl) p)) (oneAll (fun _ => rfl) p) by50 (by decide) ?_) ?_
                · rfl
                · show (2 * (0 + p.length) + 192) * 32 ≤ 281474976710656; omega
                refine AList.c 29 rfl rfl rfl (OpJ.assign rfl rfl) ?_
                refine AList.nil ?_
                refine AWp.seq ?_
                refine AWp.region ?_
                refine AList.c 169 rfl rfl rfl (OpJ.move rfl rfl) ?_
                refine AList.c 170 rfl rfl rfl (OpJ.convInt rfl rfl (by rw [un5]; rfl) un3 (i64ok ?_)) ?_
                · omega
                refine AList.c 171 rfl rfl rfl (OpJ.move rfl rfl) ?_
                refine AList.c 172 rfl rfl rfl (OpJ.lenSlice rfl rfl sl24 rfl) ?_
                refine AList.c 173 rfl rfl rfl (OpJ.rem (m := (k : Int)) rfl rfl rfl ?_ ?_) ?_
                · omega
                · rw [hk]; exact tmodN _ _
                refine AList.c 30 rfl rfl rfl (OpJ.assign rfl rfl) ?_
                refine AList.nil ?_
                refine AWp.seq ?_
                refine AWp.region ?_
                refine AList.c 174 rfl rfl rfl (OpJ.buildOwn rfl slz48 (by decide) rfl rfl) ?_
                refine AList.c 175 rfl rfl rfl (OpJ.move rfl rfl) ?_
                refine AList.c 176 rfl rfl rfl (OpJ.move rfl rfl) ?_
                refine AList.c 177 rfl rfl rfl (OpJ.indexG (g := gt Pck.d p) (gt_get _) rfl rfl rfl sl24 el24 rfl (fun _ => rfl) (by decide) hkl) ?_
                refine AList.c 178 rfl rfl rfl (OpJ.fieldAddr rfl rfl fd50_1 rfl) ?_
                refine AList.c 179 rfl rfl rfl (OpJ.load (v := .p (intsV (gt Pck.d p k).colours)) rfl rfl ty48 rfl) ?_
                refine AList.c 180 rfl rfl rfl (OpJ.appendRow (i := 2) (len := 0) (cs := []) rfl rfl rfl slz48 sl48 rfl ?_ (asrc_is (xs := (gt Pck.d p k).colours.flatMap intC) (n := (gt Pck.d p k).colours.length) (sz := 1) (AF.flat_len (c := 1) (fun _ => rfl) (gt Pck.d p k).colours)) (oneAll (fun _ => rfl) (gt Pck.d p k).colours) by3 (by decide) ?_) ?_
                · rfl
                · show (2 * (0 + (gt Pck.d p k).colours.length) + 192) * 8 ≤ 281474976710656; omega
                refine AList.c 31 rfl rfl rfl (OpJ.assign rfl rfl) ?_
                refine AList.nil ?_
                refine AWp.seq ?_
                refine AWp.seq ?_
                refine AWp.region ?_
                refine AList.c 181 rfl rfl rfl (OpJ.move rfl rfl) ?_
                refine AList.c 182 rfl rfl rfl (OpJ.lenSlice rfl rfl sl48 rfl) ?_
                refine AList.c 183 rfl rfl rfl (OpJ.gtr rfl rfl rfl) ?_
                refine AList.nil ?_
                refine AWp.cond _ rfl (fun hc12 => ?_) (fun hc12 => ?_)
                · skip
                  refine AWp.region ?_
                  refine AList.c 184 rfl rfl rfl (OpJ.move rfl rfl) ?_
                  refine AList.c 185 rfl rfl rfl (OpJ.move rfl rfl) ?_
                  refine AList.c 186 rfl rfl rfl (OpJ.lenSlice rfl rfl sl48 rfl) ?_
                  refine AList.c 187 rfl rfl rfl (OpJ.sub_ (m := (((gt Pck.d p k).colours.length - 1 : Nat) : Int)) rfl rfl rfl ((i64ok ?_).trans ?_)) ?_
                  · omega
                  · omega
                  refine AList.c 188 rfl rfl rfl (OpJ.indexRow rfl rfl rfl sl48 el48 (by omega)) ?_
                  refine AList.c 189 rfl rfl rfl (OpJ.loadFlat (f := intC) (c := 1) (k := ((gt Pck.d p k).colours.length - 1)) (j := 0) (xs := (gt Pck.d p k).colours) (v := .int .i64 (gt 0 (gt Pck.d p k).colours ((gt Pck.d p k).colours.length - 1))) rfl rfl ty3 rfl rfl (by omega) (fun _ => rfl) (by omega) (by decide) (by rw [gt_get 0 _ (by omega)]; rfl)) ?_
                  refine AList.c 190 rfl rfl rfl (OpJ.add (m := (IntKind.i64.wrap (gt 0 (gt Pck.d p k).colours ((gt Pck.d p k).colours.length - 1) + 1))) rfl rfl rfl ?_) ?_
                  · rfl
                  refine AList.c 191 rfl rfl rfl (OpJ.indexRow rfl rfl rfl sl48 el48 (by omega)) ?_
                  refine AList.c0 rfl rfl (OpJ.storeRow (f := intC) (c := 1) (k := ((gt Pck.d p k).colours.length - 1)) (j := 0) (xs := (gt Pck.d p k).colours) (z := (IntKind.i64.wrap (gt 0 (gt Pck.d p k).colours ((gt Pck.d p k).colours.length - 1) + 1))) (ws := [.int .i64 (IntKind.i64.wrap (gt 0 (gt Pck.d p k).colours ((gt Pck.d p k).colours.length - 1) + 1))]) rfl rfl rfl rfl rfl ty3 rfl rfl rfl (by omega) (fun _ => rfl) (by omega) (by show 0 + 1 ≤ 1; decide) rfl) ?_
                  refine AList.nil ?_
                  refine AWp.seq ?_
                  refine AWp.freeze 3 rfl (allP_map _) ?_
                  refine AWp.region ?_
                  refine AList.c 192 rfl rfl rfl (OpJ.move rfl rfl) ?_
                  refine AList.c 193 rfl rfl rfl (OpJ.move rfl rfl) ?_
                  refine AList.c 194 rfl rfl rfl (OpJ.move rfl rfl) ?_
                  refine AList.c 195 rfl rfl rfl (OpJ.indexRow rfl rfl rfl sl24 el24 (by omega)) ?_
                  refine AList.c 196 rfl rfl rfl (OpJ.fieldAddr rfl rfl fd50_1 rfl) ?_
                  refine AList.c0 rfl rfl (OpJ.storeRow (f := Pck.cells) (c := 2) (k := k) (j := 1) (xs := p) (z := ⟨(gt Pck.d p k).box, otI (gt Pck.d p k).colours⟩) (ws := [.is ((otI (gt Pck.d p k).colours).flatMap intC) (0 + (gt Pck.d p k).colours.length)]) rfl rfl rfl rfl rfl ty48 rfl rfl rfl (by omega) (fun _ => rfl) hkl (by show 1 + 1 ≤ 2; decide) (by rw [gt_get Pck.d _ hkl]; show [_, PV.is _ _] = [_, PV.is _ _]; rw [otI_len, Nat.zero_add])) ?_
                  refine AList.nil ?_
                  refine AWp.seq ?_
                  refine AWp.freeze 1 rfl (allP_map _) ?_
                  obtain ⟨s2, e2, hw2⟩ : ∃ s w, wrP (otP p k) = (s, w) := ⟨_, _, rfl⟩
                  refine AWp.region ?_
                  refine AList.c 198 rfl rfl rfl (OpJ.move rfl rfl) ?_
                  refine AList.c 199 rfl rfl rfl (OpJ.callP (writeP_ot hkl hp hps hw2) rfl rfl rfl rfl rf12) ?_
                  refine AList.c 197 rfl rfl rfl (OpJ.move rfl rfl) ?_
                  refine AList.c 200 rfl rfl rfl (OpJ.extract rfl rfl rfl) ?_
                  refine AList.c 201 rfl rfl rfl (OpJ.extract rfl rfl rfl) ?_
                  refine AList.c 32 rfl rfl rfl (OpJ.assign rfl rfl) ?_
                  refine AList.c 33 rfl rfl rfl (OpJ.assign rfl rfl) ?_
                  refine AList.nil ?_
                  refine AWp.seq ?_
                  refine AWp.region ?_
                  refine AList.c 202 rfl rfl rfl (OpJ.move rfl rfl) ?_
                  refine AList.c 203 rfl rfl rfl (OpJ.eql rfl rfl rfl) ?_
                  refine AList.c 204 rfl rfl rfl (OpJ.move rfl rfl) ?_
                  refine AList.g 205 204 rfl rfl rfl rfl rfl rfl rfl [(32, _)] (fun h => And.intro (.inl rfl) (trivial)) (fun h => (OpJ.move rfl rfl)) ?_
                  refine AList.g 206 204 rfl rfl rfl rfl rfl rfl rfl [(13, _)] (fun h => And.intro (.inl rfl) (trivial)) (fun h => (OpJ.move rfl rfl)) ?_
                  refine AList.g 207 204 rfl rfl rfl rfl rfl rfl rfl [(205, _), (206, _)] (fun h => And.intro (.inr ⟨_, rfl, h⟩) (And.intro (.inr ⟨_, rfl, h⟩) (trivial))) (fun h => (OpJ.strEq s2 u rfl rfl rfl)) ?_
                  refine AList.c 208 rfl rfl rfl (OpJ.and_ rfl rfl rfl ?_) ?_
                  · first | (intro h; rw [h]; rfl) | (intro h; simp_all)
                  refine AList.nil ?_
                  refine AWp.cond _ rfl (fun hc13 => ?_) (fun hc13 => ?_)
                  · skip
                    exfalso
                    simp only [Bool.and_eq_true, decide_eq_true_eq] at hc13
                    obtain ⟨rfl, rfl⟩ := hc13
                    exact otP_ne hkl hm0 (wrP_inj hw2 hwp)
                  · skip
                    refine AWp.skip ?_
                    exact ⟨(), trivial, To.done [] rfl (by repeat (first | exact Sub.nil | refine Sub.cons rfl ?_)) rfl⟩
                · skip
                  exfalso
                  have h := of_decide_eq_false hc12
                  omega
              · skip
                refine AWp.skip ?_
                exact ⟨(), trivial, To.done [] rfl (by repeat (first | exact Sub.nil | refine Sub.cons rfl ?_)) rfl⟩
          · skip
            refine AWp.skip ?_
            exact ⟨(), trivial, To.done [] rfl (by repeat (first | exact Sub.nil | refine Sub.cons rfl ?_)) rfl⟩
        · skip
          refine AWp.seq ?_
          refine AWp.region ?_
          refine AList.c 209 rfl rfl rfl (OpJ.move rfl rfl) ?_
          refine AList.c 210 rfl rfl rfl (OpJ.eql rfl rfl rfl) ?_
          refine AList.c 211 rfl rfl rfl (OpJ.move rfl rfl) ?_
          refine AList.g 212 211 rfl rfl rfl rfl rfl rfl rfl [(9, _)] (fun h => And.intro (.inl rfl) (trivial)) (fun h => (OpJ.move rfl rfl)) ?_
          refine AList.g 213 211 rfl rfl rfl rfl rfl rfl rfl [(212, _)] (fun h => And.intro (.inr ⟨_, rfl, h⟩) (trivial)) (fun h => (OpJ.strEq s [] rfl rfl rfl)) ?_
          refine AList.c 214 rfl rfl rfl (OpJ.or_ rfl rfl rfl ?_) ?_
          · first | (intro h; rw [h]; rfl) | (intro h; simp_all)
          refine AList.c 215 rfl rfl rfl (OpJ.move rfl rfl) ?_
          refine AList.g 216 215 rfl rfl rfl rfl rfl rfl rfl [(12, _)] (fun h => And.intro (.inl rfl) (trivial)) (fun h => (OpJ.move rfl rfl)) ?_
          refine AList.g 217 215 rfl rfl rfl rfl rfl rfl rfl [(216, _)] (fun h => And.intro (.inr ⟨_, rfl, h⟩) (trivial)) (fun h => (OpJ.eql rfl rfl rfl)) ?_
          refine AList.g 218 215 rfl rfl rfl rfl rfl rfl rfl [(217, _)] (fun h => And.intro (.inr ⟨_, rfl, h⟩) (trivial)) (fun h => (OpJ.move rfl rfl)) ?_
          refine AList.g 219 218 rfl rfl rfl rfl rfl rfl rfl [(11, _)] (fun h => And.intro (.inl rfl) (trivial)) (fun h => (OpJ.move rfl rfl)) ?_
          refine AList.g 220 218 rfl rfl rfl rfl rfl rfl rfl [(219, _)] (fun h => And.intro (.inr ⟨_, rfl, h⟩) (trivial)) (fun h => (OpJ.strEq t [] rfl rfl rfl)) ?_
          refine AList.g 221 215 rfl rfl rfl rfl rfl rfl rfl [(218, _), (220, _)] (fun h => And.intro (.inr ⟨_, rfl, h⟩) (And.intro (.inl rfl) (trivial))) (fun h => (OpJ.or_ rfl rfl rfl ?_)) ?_
          · first | (intro h; rw [h]; rfl) | (intro h; simp_all)
          refine AList.c 222 rfl rfl rfl (OpJ.and_ rfl rfl rfl ?_) ?_
          · first | (intro h; rw [h]; rfl) | (intro h; simp_all)
          refine AList.c 223 rfl rfl rfl (OpJ.move rfl rfl) ?_
          refine AList.g 224 223 rfl rfl rfl rfl rfl rfl rfl [(14, _)] (fun h => And.intro (.inl rfl) (trivial)) (fun h => (OpJ.move rfl rfl)) ?_
          refine AList.g 225 223 rfl rfl rfl rfl rfl rfl rfl [(224, _)] (fun h => And.intro (.inr ⟨_, rfl, h⟩) (trivial)) (fun h => (OpJ.eql rfl rfl rfl)) ?_
          refine AList.g 226 223 rfl rfl rfl rfl rfl rfl rfl [(225, _)] (fun h => And.intro (.inr ⟨_, rfl, h⟩) (trivial)) (fun h => (OpJ.move rfl rfl)) ?_
          refine AList.g 227 226 rfl rfl rfl rfl rfl rfl rfl [(13, _)] (fun h => And.intro (.inl rfl) (trivial)) (fun h => (OpJ.move rfl rfl)) ?_
          refine AList.g 228 226 rfl rfl rfl rfl rfl rfl rfl [(227, _)] (fun h => And.intro (.inr ⟨_, rfl, h⟩) (trivial)) (fun h => (OpJ.strEq u [] rfl rfl rfl)) ?_
          refine AList.g 229 223 rfl rfl rfl rfl rfl rfl rfl [(226, _), (228, _)] (fun h => And.intro (.inr ⟨_, rfl, h⟩) (And.intro (.inl rfl) (trivial))) (fun h => (OpJ.or_ rfl rfl rfl ?_)) ?_
          · first | (intro h; rw [h]; rfl) | (intro h; simp_all)
          refine AList.c 230 rfl rfl rfl (OpJ.and_ rfl rfl rfl ?_) ?_
          · first | (intro h; rw [h]; rfl) | (intro h; simp_all)
          refine AList.c 231 rfl rfl rfl (OpJ.move rfl rfl) ?_
          refine AList.g 232 231 rfl rfl rfl rfl rfl rfl rfl [] (fun h => trivial) (fun h => (OpJ.callP (alive_ok) rfl rfl rfl rfl rf9)) ?_
          refine AList.c 233 rfl rfl rfl (OpJ.and_ rfl rfl rfl ?_) ?_
          · first | (intro h; rw [h]; rfl) | (intro h; simp_all)
          refine AList.c 8 rfl rfl rfl (OpJ.assign rfl rfl) ?_
          refine AList.nil ?_
          refine AWp.ret ?_
          refine Fin.oneE rfl rfl ?_
          have k1 : (decide (e = 0) || decide (s = [])) = true := by by_cases h : e = 0 <;> simp [h, hse]
          have k2 : (decide (f = 0) || decide (t = [])) = true := by by_cases h : f = 0 <;> simp [h, hte]
          have k3 : (decide (w3 = 0) || decide (u = [])) = true := by by_cases h : w3 = 0 <;> simp [h, hue]
          rw [k1, k2, k3]
          rfl
theorem bookBack_law {x0 x1 x2 x3 : List PV} (h0 : TyL [.sl shR] x0) (h1 : TyL [.sl shC] x1) (h2 : TyL [.sl shP] x2) (h3 : TyL [.leaf (.int .u8)] x3) : Pure Tryd.prog 3 [argP false x0, argP false x1, argP false x2, argP false x3] (.bool true) := by
  obtain ⟨r, rfl, hr, hrs⟩ := rpts_of h0
  obtain ⟨c, rfl, hc⟩ := crds_of h1
  obtain ⟨p, rfl, hp, hps⟩ := pcks_of h2
  obtain ⟨y, rfl⟩ := u8_of h3
  exact bookBack_ok r c p hr hrs hc hp hps y
end Go.Proofs.YtidmbdmommjlnaaDoor
end
