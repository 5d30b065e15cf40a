/-
  Chapter 14: reports, cards and packs as plain data; what is valid; what is written.
  Chapter 14: what is written, as plain functions; how long it is.
  Chapter 14: the items of colours.
  Chapter 14: what is read, strictly, as plain functions.
  Chapter 14: what is read, strictly: reports, cards, packs, as plain functions.
  Chapter 14: what open answers, as plain functions.
  Chapter 14: sameness of reports, plain.
  Chapter 14: what is written is read as what it was, and the other way round: numbers, spans, reports, cards.
  Chapter 14: packs that are written are read as what they were.
-/
import Derived.Test.YtplofbjppcbchaaDoorFaVE
import Derived.Test.YtplofbjppcbchaaDoorPmV
import Derived.Lib.ItoaNum
section
set_option linter.unusedVariables false
set_option linter.unusedSimpArgs false
namespace Go.Proofs.YtplofbjppcbchaaDoor
open Go.AF
abbrev Bs := List UInt8
def bigN : Nat := 9223372036854775807
structure Spn where
  lo : Int
  hi : Int
  deriving DecidableEq
def Spn.cells (s : Spn) : List PV := [.int .i64 s.lo, .int .i64 s.hi]
structure Stk where
  read : Spn
  paper : Spn
  deriving DecidableEq
def Stk.cells (s : Stk) : List PV := [.int .i64 s.read.lo, .int .i64 s.read.hi, .int .i64 s.paper.lo, .int .i64 s.paper.hi]
def stksV (l : List Stk) : PV := .is (l.flatMap Stk.cells) l.length
structure Rpt where
  batch : Int
  strokes : List Stk
  strength : Spn
  wear : Spn
  deriving DecidableEq
def Rpt.cells (r : Rpt) : List PV := [.int .i64 r.batch, stksV r.strokes, .int .i64 r.strength.lo, .int .i64 r.strength.hi, .int .i64 r.wear.lo, .int .i64 r.wear.hi]
def rptsV (l : List Rpt) : PV := .is (l.flatMap Rpt.cells) l.length
structure Crd where
  number : Int
  hour : Int
  shade : Int
  places : Int
  many : Int
  deriving DecidableEq
def Crd.cells (c : Crd) : List PV := [.int .i64 c.number, .int .i64 c.hour, .int .i64 c.shade, .int .i64 c.places, .int .i64 c.many]
def crdsV (l : List Crd) : PV := .is (l.flatMap Crd.cells) l.length
def intC (n : Int) : List PV := [.int .i64 n]
def intsV (l : List Int) : PV := .is (l.flatMap intC) l.length
/-- The element at a place. -/
def gt {α : Type} (d : α) (l : List α) (k : Nat) : α := l.getD k d
theorem gt_get {α : Type} (d : α) {l : List α} : ∀ k (h : k < l.length), l[k] = gt d l k := fun k h => by
  unfold gt
  rw [List.getD_eq_getElem?_getD, List.getElem?_eq_getElem h]; rfl
theorem gt_mem {α : Type} (d : α) {l : List α} {k : Nat} (h : k < l.length) : gt d l k ∈ l := by rw [← gt_get d k h]; exact List.getElem_mem _
theorem gt_step {α : Type} (d : α) (f : α → Bs) (l : List α) (i : Nat) (h : i < l.length) : (l.take i).flatMap f ++ f (gt d l i) = (l.take (i + 1)).flatMap f := by
  rw [List.take_succ_eq_append_getElem h, List.flatMap_append, gt_get d i h]
  simp
theorem take_len {α : Type} (f : α → Bs) (l : List α) (i : Nat) : ((l.take i).flatMap f).length ≤ (l.flatMap f).length := by
  conv => rhs; rw [← List.take_append_drop i l, List.flatMap_append, List.length_append]
  omega
structure Pck where
  box : Int
  colours : List Int
  deriving DecidableEq
def Pck.cells (p : Pck) : List PV := [.int .i64 p.box, intsV p.colours]
def pcksV (l : List Pck) : PV := .is (l.flatMap Pck.cells) l.length
theorem asrc_b {H : List Blk} (s : Bs) : asrc H 1 (.p (.is (bP s) s.length)) = some (bV s, s.length) := by
  unfold asrc
  dsimp only
  rw [if_pos (by rw [bP_length, Nat.mul_one])]
  rfl
/-! ### What is valid -/
def inB (n lo hi : Int) : Bool := decide (lo ≤ n) && decide (n ≤ hi)
def spnB (s : Spn) (lo hi : Int) : Bool := decide (lo ≤ s.lo) && decide (s.lo ≤ s.hi) && decide (s.hi ≤ hi)
def stkN (s : Stk) : Bool := !spnB s.read 0 1000 || !spnB s.paper 1 4000
def rptB (r : Rpt) : Bool := decide ((r.strokes.length : Int) ≤ 6) && !(r.strokes.any stkN) && spnB r.strength 0 10000 && spnB r.wear 0 10000
def riseB {α : Type} (num : α → Int) (right : α → Bool) : Int → List α → Bool
  | _, [] => true
  | last, x :: xs => inB (num x) (last + 1) 1000000 && right x && riseB num right (num x) xs
def lastR {α : Type} (num : α → Int) (d : α) (l : List α) : Nat → Int
  | 0 => -1
  | g + 1 => num (gt d l g)
theorem drop_gt {α : Type} (d : α) (l : List α) (i : Nat) (h : i < l.length) : l.drop i = gt d l i :: l.drop (i + 1) := by
  rw [List.drop_eq_getElem_cons h, gt_get d i h]
theorem rise_step {α : Type} (num : α → Int) (right : α → Bool) (last : Int) (d : α) (l : List α) (i : Nat) (h : i < l.length) : riseB num right last (l.drop i) = (inB (num (gt d l i)) (last + 1) 1000000 && right (gt d l i) && riseB num right (num (gt d l i)) (l.drop (i + 1))) := by
  rw [drop_gt d l i h, riseB]
def rptsB (l : List Rpt) : Bool := riseB Rpt.batch rptB (-1) l
def crdB (c : Crd) : Bool := inB c.hour 0 1048576 && inB c.shade 0 7 && inB c.places 0 255 && inB c.many 0 1048576
def crdsB (l : List Crd) : Bool := riseB Crd.number crdB (-1) l
def colsB : Int → List Int → Bool
  | _, [] => true
  | last, c :: cs => inB c last 99 && colsB c cs
def pckB (p : Pck) : Bool := colsB 0 p.colours && inB (p.colours.length : Int) 1 48
def pcksB (l : List Pck) : Bool := riseB Pck.box pckB (-1) l
def chkN (many most : Int) (valid : Bool) : Int := if many > most then 3 else if valid then 0 else 1
def Stk.d : Stk := ⟨⟨0, 0⟩, ⟨0, 0⟩⟩
def Rpt.d : Rpt := ⟨0, [], ⟨0, 0⟩, ⟨0, 0⟩⟩
def Crd.d : Crd := ⟨0, 0, 0, 0, 0⟩
def Pck.d : Pck := ⟨0, []⟩
theorem cols_step (last : Int) (l : List Int) (i : Nat) (h : i < l.length) : colsB last (l.drop i) = (inB (gt 0 l i) last 99 && colsB (gt 0 l i) (l.drop (i + 1))) := by
  rw [drop_gt 0 l i h, colsB]
def lastC (l : List Int) : Nat → Int
  | 0 => 0
  | g + 1 => gt 0 l g
/-! ### What is written -/
inductive Prt where
  | tx (l : Bs)
  | nu (i : Int)
  | sp (s : Spn)
def Prt.t : Prt → Bs
  | .tx l => l
  | .nu i => Lib.itoa i
  | .sp s => Lib.itoa s.lo ++ (if s.hi = s.lo then [] else [46, 46] ++ Lib.itoa s.hi)
def Prt.ok : Prt → Prop
  | .tx l => 0 < l.length
  | .nu i => 0 ≤ i ∧ i ≤ 1099511627776
  | .sp s => 0 ≤ s.lo ∧ s.lo ≤ 1099511627776 ∧ 0 ≤ s.hi ∧ s.hi ≤ 1099511627776
def prtsT (l : List Prt) : Bs := l.flatMap Prt.t
def Prt.isS : Prt → Bool
  | .tx _ => true
  | _ => false
def Prt.isN : Prt → Bool
  | .nu _ => true
  | _ => false
def Prt.isP : Prt → Bool
  | .sp _ => true
  | _ => false
def Prt.gS : Prt → Bs
  | .tx l => l
  | _ => []
def Prt.gN : Prt → Int
  | .nu i => i
  | _ => 0
def Prt.d : Prt := .nu 0
def Prt.gP : Prt → Spn
  | .sp s => s
  | _ => ⟨0, 0⟩
def stkT (s : Stk) : Bs := prtsT [.tx [115, 116, 114, 111, 107, 101, 32], .sp s.read, .tx [32, 111, 110, 32], .sp s.paper, .tx [10]]
def rptH (r : Rpt) : Bs := prtsT [.tx [98, 97, 116, 99, 104, 32], .nu r.batch, .tx [10, 115, 116, 114, 101, 110, 103, 116, 104, 32], .sp r.strength, .tx [10, 119, 101, 97, 114, 32], .sp r.wear, .tx [10]]
def rptT (r : Rpt) : Bs := rptH r ++ r.strokes.flatMap stkT
def rptsT (l : List Rpt) : Bs := l.flatMap rptT
theorem itoa_pos (n : Int) : 0 < (Lib.itoa n).length := by
  unfold Lib.itoa
  split
  · simp
  · unfold Lib.decDigits
    split <;> simp
theorem dec_len : ∀ (k n : Nat), n < 10 ^ (k + 1) → (Lib.decDigits n).length ≤ k + 1
  | 0, n, h => by
    unfold Lib.decDigits
    rw [dif_pos (by simpa using h)]
    simp
  | k + 1, n, h => by
    unfold Lib.decDigits
    split
    · simp
    · have := dec_len k (n / 10) (by
        rw [Nat.pow_succ] at h
        exact Nat.div_lt_of_lt_mul (by omega))
      simp
      omega
theorem itoa_len {n : Int} (h0 : 0 ≤ n) (h1 : n ≤ 1099511627776) : (Lib.itoa n).length ≤ 13 := by
  unfold Lib.itoa
  rw [if_neg (by omega)]
  exact dec_len 12 n.toNat (by
    have : (10 : Nat) ^ (12 + 1) = 10000000000000 := by decide
    omega)
theorem prt_len {p : Prt} (h : p.ok) (hs : p.gS.length ≤ 16) : p.t.length ≤ 30 := by
  cases p with
  | tx l => have : l.length ≤ 16 := hs; show l.length ≤ 30; omega
  | nu i => have := itoa_len h.1 h.2; show (Lib.itoa i).length ≤ 30; omega
  | sp s =>
    have h1 := itoa_len h.1 h.2.1
    have h2 := itoa_len h.2.2.1 h.2.2.2
    simp only [Prt.t, List.length_append]
    split
    · simp; omega
    · simp; omega
theorem prtsT_cons (p : Prt) (l : List Prt) : prtsT (p :: l) = p.t ++ prtsT l := by simp [prtsT]
theorem prtsT_len : ∀ (l : List Prt), (∀ p ∈ l, p.ok ∧ p.gS.length ≤ 16) → (prtsT l).length ≤ 30 * l.length
  | [], _ => by simp [prtsT]
  | p :: l, h => by
    have h1 := prtsT_len l fun q hq => h q (by simp [hq])
    have h2 := prt_len (h p (by simp)).1 (h p (by simp)).2
    rw [prtsT_cons, List.length_append, List.length_cons]
    omega
/-! ### Parts -/
theorem no_other (p : Prt) (h1 : p.isS = false) (h2 : p.isN = false) (h3 : p.isP = false) : False := by cases p with
  | tx l => cases h1
  | nu i => cases h2
  | sp s => cases h3
theorem t_s {p : Prt} (h : p.isS = true) : p.t = p.gS := by cases p <;> first | rfl | cases h
theorem t_n {p : Prt} (h : p.isN = true) : p.t = Lib.itoa p.gN := by cases p <;> first | rfl | cases h
theorem t_p {p : Prt} (h : p.isP = true) : p.t = Lib.itoa p.gP.lo ++ (if p.gP.hi = p.gP.lo then [] else [46, 46] ++ Lib.itoa p.gP.hi) := by cases p <;> first | rfl | cases h
theorem ok_s {p : Prt} (h : p.isS = true) (hp : p.ok) : 0 < p.gS.length := by cases p <;> first | exact hp | cases h
theorem ok_n {p : Prt} (h : p.isN = true) (hp : p.ok) : 0 ≤ p.gN ∧ p.gN ≤ 1099511627776 := by cases p <;> first | exact hp | cases h
theorem ok_p {p : Prt} (h : p.isP = true) (hp : p.ok) : 0 ≤ p.gP.lo ∧ p.gP.lo ≤ 1099511627776 ∧ 0 ≤ p.gP.hi ∧ p.gP.hi ≤ 1099511627776 := by cases p <;> first | exact hp | cases h
theorem put_zero (l : Bs) (ps : List Prt) : l ++ prtsT (ps.take 0) = l := by simp [prtsT]
theorem put_step (l : Bs) (ps : List Prt) (i : Nat) (h : i < ps.length) : (l ++ prtsT (ps.take i)) ++ (gt Prt.d ps i).t = l ++ prtsT (ps.take (i + 1)) := by
  rw [List.append_assoc]
  unfold prtsT
  rw [gt_step Prt.d Prt.t ps i h]
theorem put_len (l : Bs) (ps : List Prt) (i : Nat) {B : Nat} (h : (l ++ prtsT ps).length ≤ B) : (l ++ prtsT (ps.take i)).length ≤ B := by
  have := take_len Prt.t ps i
  rw [List.length_append] at h ⊢
  unfold prtsT at h ⊢
  omega
theorem prts_one (i : Int) : prtsT [.nu i] = Lib.itoa i := by simp [prtsT, Prt.t]
theorem prts_dots (i : Int) : prtsT [.tx [46, 46], .nu i] = [46, 46] ++ Lib.itoa i := by simp [prtsT, Prt.t]
theorem put_b1 {p : Prt} {a b : Bs} {B : Nat} (et : p.t = Lib.itoa p.gP.lo ++ (if p.gP.hi = p.gP.lo then [] else [46, 46] ++ Lib.itoa p.gP.hi)) (h : a ++ p.t = b) (hb : b.length ≤ B) : (a ++ Lib.itoa p.gP.lo).length ≤ B := by
  rw [← h, et, List.length_append, List.length_append] at hb
  rw [List.length_append]
  omega
theorem put_b2 {p : Prt} {a b : Bs} (et : p.t = Lib.itoa p.gP.lo ++ (if p.gP.hi = p.gP.lo then [] else [46, 46] ++ Lib.itoa p.gP.hi)) (hne : ¬ p.gP.hi = p.gP.lo) (h : a ++ p.t = b) : a ++ Lib.itoa p.gP.lo ++ ([46, 46] ++ Lib.itoa p.gP.hi) = b := by
  rw [← h, et, if_neg hne, List.append_assoc]
theorem put_b3 {p : Prt} {a b : Bs} (et : p.t = Lib.itoa p.gP.lo ++ (if p.gP.hi = p.gP.lo then [] else [46, 46] ++ Lib.itoa p.gP.hi)) (hne : p.gP.hi = p.gP.lo) (h : a ++ p.t = b) : a ++ Lib.itoa p.gP.lo = b := by
  rw [← h, et, if_pos hne, List.append_nil]
end Go.Proofs.YtplofbjppcbchaaDoor
end

section
set_option linter.unusedVariables false
set_option linter.unusedSimpArgs false
namespace Go.Proofs.YtplofbjppcbchaaDoor
open Go.AF
theorem rise_all {α : Type} {num : α → Int} {right : α → Bool} : ∀ {l : List α} {last : Int}, riseB num right last l = true → -1 ≤ last → ∀ x ∈ l, last < num x ∧ 0 ≤ num x ∧ num x ≤ 1000000 ∧ right x = true
  | [], _, _, _, x, hx => by cases hx
  | y :: l, last, h, h0, x, hx => by
    simp only [riseB, Bool.and_eq_true, inB, decide_eq_true_eq] at h
    obtain ⟨⟨⟨h1, h2⟩, h3⟩, h4⟩ := h
    rcases List.mem_cons.1 hx with rfl | hx
    · exact ⟨by omega, by omega, h2, h3⟩
    · obtain ⟨k1, k2⟩ := rise_all h4 (by omega) x hx
      exact ⟨by omega, k2⟩
theorem chk_zero {n m : Int} {v : Bool} (h : chkN n m v = 0) : n ≤ m ∧ v = true := by
  unfold chkN at h
  split at h
  · cases h
  · split at h
    · rename_i h1 h2; exact ⟨by omega, h2⟩
    · cases h
theorem chk_ok {n m : Int} {v : Bool} (h1 : n ≤ m) (h2 : v = true) : chkN n m v = 0 := by
  unfold chkN
  rw [if_neg (by omega), if_pos h2]
theorem spnB_some {s : Spn} {lo hi : Int} (h : spnB s lo hi = true) : lo ≤ s.lo ∧ s.lo ≤ s.hi ∧ s.hi ≤ hi := by
  simp only [spnB, Bool.and_eq_true, decide_eq_true_eq] at h
  exact ⟨h.1.1, h.1.2, h.2⟩
theorem inB_some {n lo hi : Int} (h : inB n lo hi = true) : lo ≤ n ∧ n ≤ hi := by
  simpa only [inB, Bool.and_eq_true, decide_eq_true_eq] using h
theorem stkN_some {s : Stk} (h : stkN s = false) : spnB s.read 0 1000 = true ∧ spnB s.paper 1 4000 = true := by
  simpa only [stkN, Bool.or_eq_false_iff, Bool.not_eq_false'] using h
theorem rptB_some {r : Rpt} (h : rptB r = true) : r.strokes.length ≤ 6 ∧ (∀ s ∈ r.strokes, stkN s = false) ∧ spnB r.strength 0 10000 = true ∧ spnB r.wear 0 10000 = true := by
  simp only [rptB, Bool.and_eq_true, decide_eq_true_eq, Bool.not_eq_true', List.any_eq_false] at h
  exact ⟨by omega, fun s hs => by have := h.1.1.2 s hs; simpa using this, h.1.2, h.2⟩
/-! ### Reports -/
def stkP (s : Stk) : List Prt := [.tx [115, 116, 114, 111, 107, 101, 32], .sp s.read, .tx [32, 111, 110, 32], .sp s.paper, .tx [10]]
def rptP (r : Rpt) : List Prt := [.tx [98, 97, 116, 99, 104, 32], .nu r.batch, .tx [10, 115, 116, 114, 101, 110, 103, 116, 104, 32], .sp r.strength, .tx [10, 119, 101, 97, 114, 32], .sp r.wear, .tx [10]]
theorem sp_ok {s : Spn} {lo hi : Int} (h : spnB s lo hi = true) (h0 : 0 ≤ lo) (h1 : hi ≤ 10000) : Prt.ok (.sp s) := by
  obtain ⟨a, b, c⟩ := spnB_some h
  exact ⟨by omega, by omega, by omega, by omega⟩
theorem stkP_ok {s : Stk} (h : stkN s = false) : ∀ p ∈ stkP s, p.ok ∧ p.gS.length ≤ 16 := by
  obtain ⟨h1, h2⟩ := stkN_some h
  intro p hp
  simp only [stkP, List.mem_cons, List.not_mem_nil, or_false] at hp
  rcases hp with rfl | rfl | rfl | rfl | rfl
  · exact ⟨by show 0 < 7; decide, by show 7 ≤ 16; decide⟩
  · exact ⟨sp_ok h1 (by decide) (by decide), by show 0 ≤ 16; decide⟩
  · exact ⟨by show 0 < 4; decide, by show 4 ≤ 16; decide⟩
  · exact ⟨sp_ok h2 (by decide) (by decide), by show 0 ≤ 16; decide⟩
  · exact ⟨by show 0 < 1; decide, by show 1 ≤ 16; decide⟩
theorem rptP_ok {r : Rpt} (h : rptB r = true) (h0 : 0 ≤ r.batch) (h1 : r.batch ≤ 1000000) : ∀ p ∈ rptP r, p.ok ∧ p.gS.length ≤ 16 := by
  obtain ⟨_, _, h3, h4⟩ := rptB_some h
  intro p hp
  simp only [rptP, List.mem_cons, List.not_mem_nil, or_false] at hp
  rcases hp with rfl | rfl | rfl | rfl | rfl | rfl | rfl
  · exact ⟨by show 0 < 6; decide, by show 6 ≤ 16; decide⟩
  · exact ⟨⟨h0, by omega⟩, by show 0 ≤ 16; decide⟩
  · exact ⟨by show 0 < 10; decide, by show 10 ≤ 16; decide⟩
  · exact ⟨sp_ok h3 (by decide) (by decide), by show 0 ≤ 16; decide⟩
  · exact ⟨by show 0 < 6; decide, by show 6 ≤ 16; decide⟩
  · exact ⟨sp_ok h4 (by decide) (by decide), by show 0 ≤ 16; decide⟩
  · exact ⟨by show 0 < 1; decide, by show 1 ≤ 16; decide⟩
theorem flat_len {α : Type} (f : α → Bs) (k : Nat) : ∀ (l : List α), (∀ x ∈ l, (f x).length ≤ k) → (l.flatMap f).length ≤ k * l.length
  | [], _ => by simp
  | x :: l, h => by
    have h1 := flat_len f k l fun y hy => h y (by simp [hy])
    have h2 := h x (by simp)
    rw [List.flatMap_cons, List.length_append, List.length_cons, Nat.mul_succ]
    omega
theorem stkT_len {s : Stk} (h : stkN s = false) : (stkT s).length ≤ 150 := prtsT_len (stkP s) (stkP_ok h)
theorem rptT_len {r : Rpt} (h : rptB r = true) (h0 : 0 ≤ r.batch) (h1 : r.batch ≤ 1000000) : (rptT r).length ≤ 1110 := by
  have a : (rptH r).length ≤ 210 := prtsT_len (rptP r) (rptP_ok h h0 h1)
  obtain ⟨h2, h3, _⟩ := rptB_some h
  have b := flat_len stkT 150 r.strokes fun s hs => stkT_len (h3 s hs)
  unfold rptT
  rw [List.length_append]
  omega
theorem rptsT_len {l : List Rpt} (h : rptsB l = true) (hl : l.length ≤ 20) : (rptsT l).length ≤ 22200 := by
  have := flat_len rptT 1110 l fun r hr => by
    obtain ⟨_, h1, h2, h3⟩ := rise_all h (by decide) r hr
    exact rptT_len h3 h1 h2
  unfold rptsT
  omega
def wrR (l : List Rpt) : Bs × Int := if chkN l.length 20 (rptsB l) = 0 then (rptsT l, 0) else ([], chkN l.length 20 (rptsB l))
theorem wrR_no {l : List Rpt} (h : ¬ chkN l.length 20 (rptsB l) = 0) : wrR l = ([], chkN l.length 20 (rptsB l)) := by unfold wrR; rw [if_neg h]
theorem wrR_yes {l : List Rpt} (h : chkN l.length 20 (rptsB l) = 0) : wrR l = (rptsT l, 0) := by unfold wrR; rw [if_pos h]
theorem txt_le {α : Type} (f : α → Bs) (l : List α) (i : Nat) {B : Nat} (h : (l.flatMap f).length ≤ B) : ((l.take i).flatMap f).length ≤ B := Nat.le_trans (take_len f l i) h
theorem txt_pre {a b c : Bs} {B : Nat} (h : (a ++ (b ++ c)).length ≤ B) : (a ++ b).length ≤ B := by
  simp only [List.length_append] at h ⊢
  omega
/-! ### Cards -/
def longT (n : Nat) : Bs := if h : n < 128 then [UInt8.ofNat n] else UInt8.ofNat (128 + n % 128) :: longT (n / 128)
termination_by n
decreasing_by omega
theorem longT_low {n : Nat} (h : n < 128) : longT n = [UInt8.ofNat n] := by rw [longT, dif_pos h]
theorem longT_high {n : Nat} (h : 128 ≤ n) : longT n = UInt8.ofNat (128 + n % 128) :: longT (n / 128) := by rw [longT, dif_neg (by omega)]
theorem longT_pos (n : Nat) : 0 < (longT n).length := by
  rw [longT]
  split <;> simp
theorem longT_len : ∀ (k n : Nat), n < 128 ^ (k + 1) → (longT n).length ≤ k + 1
  | 0, n, h => by rw [longT_low (by simpa using h)]; simp
  | k + 1, n, h => by
    by_cases h2 : n < 128
    · rw [longT_low h2]; simp
    · rw [longT_high (by omega)]
      have := longT_len k (n / 128) (by
        rw [Nat.pow_succ] at h
        exact Nat.div_lt_of_lt_mul (by omega))
      simp
      omega
theorem long_len {n : Int} (h1 : n ≤ 1048576) : (longT n.toNat).length ≤ 4 := longT_len 3 n.toNat (by
  have : (128 : Nat) ^ (3 + 1) = 268435456 := by decide
  omega)
def sumB (s : Bs) : UInt8 := s.foldl (· + ·) 0
theorem sumB_app (a : Bs) (b : UInt8) : sumB (a ++ [b]) = sumB a + b := by simp [sumB]
theorem sum_step (s : Bs) (i : Nat) (h : i < s.length) : sumB (s.take (i + 1)) = sumB (s.take i) + gt 0 s i := by
  rw [List.take_succ_eq_append_getElem h, sumB_app, gt_get 0 i h]
theorem u8_conv (n : Nat) : IntKind.u8.wrap (n : Int) = ((UInt8.ofNat n).toNat : Int) := by
  rw [IntKind.wrap_u8]
  rw [UInt8.toNat_ofNat']
  omega
theorem u8_convI {n : Int} (h : 0 ≤ n) : IntKind.u8.wrap n = ((UInt8.ofNat n.toNat).toNat : Int) := by
  have := u8_conv n.toNat
  rwa [Int.toNat_of_nonneg h] at this
theorem u8_add (a b : UInt8) : IntKind.u8.wrap ((a.toNat : Int) + (b.toNat : Int)) = ((a + b).toNat : Int) := by
  rw [IntKind.wrap_u8]
  rw [UInt8.toNat_add]
  omega
theorem or128f : ∀ x : Fin 256, (x.val ||| 128) = 128 + x.val % 128 := by decide +kernel
theorem or128 (x : Nat) (h : x < 256) : x ||| 128 = 128 + x % 128 := or128f ⟨x, h⟩
theorem or128u (n : Nat) : (((n % 256 : Nat) ||| 128 : Nat) : Int) = ((UInt8.ofNat (128 + n % 128)).toNat : Int) := by
  rw [or128 _ (Nat.mod_lt _ (by decide)), UInt8.toNat_ofNat']
  omega
def byC (b : UInt8) : List PV := [.int .u8 b.toNat]
theorem bP_flat : ∀ s : Bs, bP s = s.flatMap byC
  | [] => rfl
  | b :: s => by
    rw [List.flatMap_cons, ← bP_flat s]
    rfl
def crdT (next : Int) (c : Crd) : Bs := longT (c.number - next).toNat ++ longT c.hour.toNat ++ [UInt8.ofNat c.shade.toNat] ++ [UInt8.ofNat c.places.toNat] ++ longT c.many.toNat
def crdsT : Int → List Crd → Bs
  | _, [] => []
  | next, c :: cs => crdT next c ++ crdsT (c.number + 1) cs
def nxtC (l : List Crd) : Nat → Int
  | 0 => 0
  | g + 1 => (gt Crd.d l g).number + 1
theorem crdsT_app (c : Crd) : ∀ (l : List Crd) (next : Int), crdsT next (l ++ [c]) = crdsT next l ++ crdT (match l.getLast? with | none => next | some x => x.number + 1) c
  | [], next => by simp [crdsT]
  | x :: l, next => by
    rw [List.cons_append, crdsT, crdsT_app c l, crdsT, List.append_assoc]
    cases l with
    | nil => rfl
    | cons y l =>
      rw [List.getLast?_cons_cons]
      cases h : (y :: l).getLast? with
      | none => simp at h
      | some z => rfl
theorem crds_step (l : List Crd) (i : Nat) (h : i < l.length) : crdsT 0 (l.take (i + 1)) = crdsT 0 (l.take i) ++ crdT (nxtC l i) (gt Crd.d l i) := by
  rw [List.take_succ_eq_append_getElem h, crdsT_app, gt_get Crd.d i h]
  congr 2
  cases i with
  | zero => rfl
  | succ i =>
    have h2 : i < l.length := by omega
    rw [List.take_succ_eq_append_getElem h2, List.getLast?_append]
    simp only [List.getLast?_singleton, Option.some_or]
    rw [gt_get Crd.d i h2]
    rfl
theorem crdB_some {c : Crd} (h : crdB c = true) : (0 ≤ c.hour ∧ c.hour ≤ 1048576) ∧ (0 ≤ c.shade ∧ c.shade ≤ 7) ∧ (0 ≤ c.places ∧ c.places ≤ 255) ∧ (0 ≤ c.many ∧ c.many ≤ 1048576) := by
  simp only [crdB, Bool.and_eq_true] at h
  exact ⟨inB_some h.1.1.1, inB_some h.1.1.2, inB_some h.1.2, inB_some h.2⟩
theorem crdT_len {next : Int} {c : Crd} (h : crdB c = true) (h0 : 0 ≤ next) (h1 : c.number ≤ 1000000) : (crdT next c).length ≤ 14 := by
  obtain ⟨a, b, d, e⟩ := crdB_some h
  have k1 := long_len (n := c.number - next) (by omega)
  have k2 := long_len a.2
  have k3 := long_len e.2
  simp only [crdT, List.length_append, List.length_singleton]
  omega
theorem crdsT_len : ∀ (l : List Crd) (next : Int), 0 ≤ next → (∀ c ∈ l, crdB c = true ∧ 0 ≤ c.number ∧ c.number ≤ 1000000) → (crdsT next l).length ≤ 14 * l.length
  | [], _, _, _ => by simp [crdsT]
  | c :: l, next, h0, h => by
    have h1 := h c (by simp)
    have h2 := crdsT_len l (c.number + 1) (by omega) fun x hx => h x (by simp [hx])
    have h3 := crdT_len (next := next) h1.1 h0 h1.2.2
    rw [crdsT, List.length_append, List.length_cons, Nat.mul_succ]
    omega
theorem rise_nxt {l : List Crd} (h : crdsB l = true) : ∀ (i : Nat), i < l.length → 0 ≤ nxtC l i ∧ nxtC l i ≤ (gt Crd.d l i).number := by
  have key : ∀ (l : List Crd) (last : Int), riseB Crd.number crdB last l = true → ∀ i, i + 1 < l.length → (gt Crd.d l i).number < (gt Crd.d l (i + 1)).number := by
    intro l
    induction l with
    | nil => intro last _ i h; cases h
    | cons x l ih =>
      intro last h i hi
      simp only [riseB, Bool.and_eq_true] at h
      cases i with
      | zero =>
        match l, h.2, hi with
        | y :: l, h2, _ =>
          simp only [riseB, Bool.and_eq_true] at h2
          have := inB_some h2.1.1
          show x.number < y.number
          omega
      | succ i =>
        have := ih _ h.2 i (by simpa using hi)
        simpa [gt] using this
  intro i hi
  have hall := rise_all h (by decide)
  cases i with
  | zero => exact ⟨Int.le_refl _, (hall _ (gt_mem Crd.d hi)).2.1⟩
  | succ i =>
    have h1 := key l (-1) h i hi
    have h2 := hall _ (gt_mem Crd.d (show i < l.length by omega))
    exact ⟨by show 0 ≤ (gt Crd.d l i).number + 1; omega, by show (gt Crd.d l i).number + 1 ≤ _; omega⟩
def crdH (l : List Crd) : Bs := [80, 67, 1] ++ [UInt8.ofNat l.length]
def crdsTT (l : List Crd) : Bs := crdH l ++ crdsT 0 l
def wrC (l : List Crd) : Bs × Int := if chkN l.length 40 (crdsB l) = 0 then (crdsTT l ++ [sumB (crdsTT l)], 0) else ([], chkN l.length 40 (crdsB l))
theorem wrC_no {l : List Crd} (h : ¬ chkN l.length 40 (crdsB l) = 0) : wrC l = ([], chkN l.length 40 (crdsB l)) := by unfold wrC; rw [if_neg h]
theorem wrC_yes {l : List Crd} (h : chkN l.length 40 (crdsB l) = 0) : wrC l = (crdsTT l ++ [sumB (crdsTT l)], 0) := by unfold wrC; rw [if_pos h]
end Go.Proofs.YtplofbjppcbchaaDoor
end

section
set_option linter.unusedVariables false
set_option linter.unusedSimpArgs false
namespace Go.Proofs.YtplofbjppcbchaaDoor
open Go.AF
structure Itm where
  fr : Int
  to : Int
  many : Nat
  deriving DecidableEq
def Itm.cells (x : Itm) : List PV := [.int .i64 x.fr, .int .i64 x.to, .int .i64 (x.many : Int)]
def Itm.d : Itm := ⟨0, 0, 0⟩
def itmsV (l : List Itm) : PV := .is (l.flatMap Itm.cells) l.length
theorem itm_len (l : List Itm) : (l.flatMap Itm.cells).length = l.length * 3 := AF.flat_len (f := Itm.cells) (c := 3) (fun _ => rfl) l
/-- One colour more. -/
def addC (A : List Itm) (c : Int) : List Itm := if 0 < A.length ∧ (gt Itm.d A (A.length - 1)).fr = c then A.set (A.length - 1) ⟨(gt Itm.d A (A.length - 1)).fr, (gt Itm.d A (A.length - 1)).to, (gt Itm.d A (A.length - 1)).many + 1⟩ else A ++ [⟨c, c, 1⟩]
def grp (l : List Int) : List Itm := l.foldl addC []
theorem grp_step (l : List Int) (i : Nat) (h : i < l.length) : grp (l.take (i + 1)) = addC (grp (l.take i)) (gt 0 l i) := by
  unfold grp
  rw [List.take_succ_eq_append_getElem h, List.foldl_append, gt_get 0 i h]
  rfl
theorem addC_yes {A : List Itm} {c : Int} (h0 : 0 < A.length) (h : (gt Itm.d A (A.length - 1)).fr = c) : addC A c = A.set (A.length - 1) ⟨(gt Itm.d A (A.length - 1)).fr, (gt Itm.d A (A.length - 1)).to, (gt Itm.d A (A.length - 1)).many + 1⟩ := by
  unfold addC; rw [if_pos ⟨h0, h⟩]
theorem addC_no {A : List Itm} {c : Int} (h : ¬ (0 < A.length ∧ (gt Itm.d A (A.length - 1)).fr = c)) : addC A c = A ++ [⟨c, c, 1⟩] := by
  unfold addC; rw [if_neg h]
theorem addC_len (A : List Itm) (c : Int) : (addC A c).length ≤ A.length + 1 := by
  unfold addC
  split
  · rw [List.length_set]; omega
  · simp
/-- What holds of all that is gathered. -/
def ItmOk (n : Nat) (x : Itm) : Prop := 0 ≤ x.fr ∧ x.fr ≤ 99 ∧ x.to = x.fr ∧ x.many ≤ n
theorem grp_ok : ∀ (l : List Int) (i : Nat), i ≤ l.length → (∀ c ∈ l, 0 ≤ c ∧ c ≤ 99) → (grp (l.take i)).length ≤ i ∧ ∀ x ∈ grp (l.take i), ItmOk i x
  | l, 0, _, _ => by simp [grp]
  | l, i + 1, h, hc => by
    obtain ⟨h1, h2⟩ := grp_ok l i (by omega) hc
    rw [grp_step l i (by omega)]
    have hgc := hc _ (gt_mem 0 (show i < l.length by omega))
    refine ⟨Nat.le_trans (addC_len _ _) (by omega), fun x hx => ?_⟩
    have wk : ∀ y ∈ grp (l.take i), ItmOk (i + 1) y := fun y hy => let ⟨a, b, c, d⟩ := h2 y hy; ⟨a, b, c, by omega⟩
    by_cases hq : 0 < (grp (l.take i)).length ∧ (gt Itm.d (grp (l.take i)) ((grp (l.take i)).length - 1)).fr = gt 0 l i
    · rw [addC_yes hq.1 hq.2] at hx
      rcases List.mem_or_eq_of_mem_set hx with hx | rfl
      · exact wk x hx
      · obtain ⟨a, b, c, d⟩ := h2 _ (gt_mem Itm.d (show (grp (l.take i)).length - 1 < (grp (l.take i)).length by omega))
        exact ⟨a, b, c, by show _ + 1 ≤ i + 1; omega⟩
    · rw [addC_no hq] at hx
      rcases List.mem_append.1 hx with hx | hx
      · exact wk x hx
      · rw [List.mem_singleton.1 hx]
        exact ⟨hgc.1, hgc.2, rfl, by show 1 ≤ i + 1; omega⟩
/-- How many follow, one after the other. -/
def runL : Int → List Itm → Nat
  | _, [] => 0
  | c, y :: r => if y = ⟨c + 1, c + 1, 1⟩ then runL (c + 1) r + 1 else 0
theorem runL_le : ∀ (r : List Itm) (c : Int), runL c r ≤ r.length
  | [], _ => Nat.le_refl _
  | y :: r, c => by
    rw [runL]
    split
    · have := runL_le r (c + 1); rw [List.length_cons]; omega
    · exact Nat.zero_le _
def runK (x : Itm) (r : List Itm) : Nat := if x.many = 1 then runL x.fr r else 0
theorem runK_le (x : Itm) (r : List Itm) : runK x r ≤ r.length := by
  unfold runK
  split
  · exact runL_le _ _
  · exact Nat.zero_le _
def itm : List Itm → List Itm
  | [] => []
  | x :: r => if 2 ≤ runK x r then ⟨x.fr, x.fr + runK x r, 1⟩ :: itm (r.drop (runK x r)) else x :: itm r
termination_by l => l.length
decreasing_by all_goals simp <;> omega
theorem runL_char : ∀ (m : Nat) (c : Int) (r : List Itm), (∀ j, j < m → r[j]? = some ⟨c + 1 + j, c + 1 + j, 1⟩) → r[m]? ≠ some ⟨c + 1 + m, c + 1 + m, 1⟩ → runL c r = m
  | 0, c, [], _, _ => rfl
  | 0, c, y :: r, _, h => by
    rw [runL, if_neg]
    intro e
    apply h
    rw [e]
    simp
  | m + 1, c, [], h, _ => by have := h 0 (by omega); cases this
  | m + 1, c, y :: r, h, h2 => by
    have h0 := h 0 (by omega)
    simp only [List.getElem?_cons_zero, Option.some.injEq] at h0
    rw [runL, if_pos (by rw [h0]; simp), runL_char m (c + 1) r (fun j hj => by
      have := h (j + 1) (by omega)
      rw [List.getElem?_cons_succ] at this
      rw [this]
      simp only [Option.some.injEq, Itm.mk.injEq, and_true]
      constructor <;> (push_cast; omega)) (fun e => by
      apply h2
      rw [List.getElem?_cons_succ, e]
      simp only [Option.some.injEq, Itm.mk.injEq, and_true]
      constructor <;> (push_cast; omega))]
theorem itm_eq (x : Itm) (r : List Itm) : itm (x :: r) = if 2 ≤ runK x r then ⟨x.fr, x.fr + runK x r, 1⟩ :: itm (r.drop (runK x r)) else x :: itm r := by rw [itm]
theorem drop_cons_at {α : Type} {l : List α} {n : Nat} {x : α} {r : List α} (h : l.drop n = x :: r) : l[n]? = some x ∧ r = l.drop (n + 1) := by
  have h1 : n < l.length := by
    rcases Nat.lt_or_ge n l.length with h2 | h2
    · exact h2
    · rw [List.drop_eq_nil_of_le h2] at h; cases h
  rw [List.drop_eq_getElem_cons h1] at h
  cases h
  exact ⟨List.getElem?_eq_getElem h1, rfl⟩
theorem itm_short {G : List Itm} {i e dn : Nat} (hi : i < G.length) (hk : runK (gt Itm.d G i) (G.drop (i + 1)) = e - (i + 1)) (h3 : e < i + 3) (hdr : itm (G.drop i) = (itm G).drop dn) : (itm G)[dn]? = some (gt Itm.d G i) ∧ itm (G.drop (i + 1)) = (itm G).drop (dn + 1) := by
  rw [drop_gt Itm.d G i hi, itm_eq, if_neg (by omega)] at hdr
  exact drop_cons_at hdr.symm
theorem itm_long {G : List Itm} {i e dn : Nat} (hi : i < G.length) (hk : runK (gt Itm.d G i) (G.drop (i + 1)) = e - (i + 1)) (h3 : i + 3 ≤ e) (hdr : itm (G.drop i) = (itm G).drop dn) : (itm G)[dn]? = some ⟨(gt Itm.d G i).fr, (gt Itm.d G i).fr + ((e - (i + 1) : Nat) : Int), 1⟩ ∧ itm (G.drop e) = (itm G).drop (dn + 1) := by
  rw [drop_gt Itm.d G i hi, itm_eq, if_pos (by omega), hk, List.drop_drop, show i + 1 + (e - (i + 1)) = e by omega] at hdr
  exact drop_cons_at hdr.symm
theorem run_end {G : List Itm} {i e : Nat} (h1 : i + 1 ≤ e) (he : e ≤ G.length) (hm : (gt Itm.d G i).many = 1 ∨ e = i + 1) (hr : ∀ j, i + 1 ≤ j → j < e → gt Itm.d G j = ⟨(gt Itm.d G i).fr + (j : Int) - (i : Int), (gt Itm.d G i).fr + (j : Int) - (i : Int), 1⟩)
    (hx : ¬ ((gt Itm.d G i).many = 1 ∧ e < G.length ∧ gt Itm.d G e = ⟨(gt Itm.d G i).fr + (e : Int) - (i : Int), (gt Itm.d G i).fr + (e : Int) - (i : Int), 1⟩)) : runK (gt Itm.d G i) (G.drop (i + 1)) = e - (i + 1) := by
  unfold runK
  have hat : ∀ j, (G.drop (i + 1))[j]? = if i + 1 + j < G.length then some (gt Itm.d G (i + 1 + j)) else none := fun j => by
    rw [List.getElem?_drop]
    split
    · rename_i h
      rw [List.getElem?_eq_getElem h, gt_get Itm.d _ h]
    · rename_i h
      rw [List.getElem?_eq_none (by omega)]
  by_cases h2 : (gt Itm.d G i).many = 1
  · rw [if_pos h2]
    refine runL_char _ _ _ (fun j hj => ?_) (fun h => ?_)
    · rw [hat, if_pos (by omega), hr (i + 1 + j) (by omega) (by omega)]
      simp only [Option.some.injEq, Itm.mk.injEq, and_true]
      constructor <;> (push_cast; omega)
    · rw [hat] at h
      split at h
      · rename_i h4
        rw [show i + 1 + (e - (i + 1)) = e by omega] at h h4
        apply hx
        refine ⟨h2, h4, ?_⟩
        rw [Option.some.inj h]
        simp only [Itm.mk.injEq, and_true]
        constructor <;> (push_cast [Nat.sub_add_cancel]; omega)
      · cases h
  · rw [if_neg h2]
    rcases hm with hm | hm
    · exact absurd hm h2
    · omega
def itmX (G : List Itm) : List (List V) := (itm G).map fun x => [V.p (.agg x.cells)]
theorem itmX_at {G : List Itm} {n : Nat} {x : Itm} (h : (itm G)[n]? = some x) : (itmX G)[n]? = some [V.p (.agg x.cells)] := by
  unfold itmX
  rw [List.getElem?_map, h]
  rfl
theorem itmX_len (G : List Itm) : (itmX G).length = (itm G).length := by simp [itmX]
theorem itmX_get {G : List Itm} {k : Nat} {x : List V} (h : (itmX G)[k]? = some x) : ∃ y, (itm G)[k]? = some y ∧ x = [V.p (.agg y.cells)] := by
  unfold itmX at h
  rw [List.getElem?_map, Option.map_eq_some_iff] at h
  obtain ⟨y, h1, rfl⟩ := h
  exact ⟨y, h1, rfl⟩
theorem itm_end {G : List Itm} {dn : Nat} (h : itm (G.drop G.length) = (itm G).drop dn) (inv : Nat → Prop) (hi : inv dn) (hle : dn ≤ (itm G).length) : inv (itmX G).length := by
  rw [List.drop_length, show itm [] = [] by rw [itm]] at h
  have := congrArg List.length h
  rw [List.length_drop, List.length_nil] at this
  rw [itmX_len, show (itm G).length = dn by omega]
  exact hi
theorem alen_acc (i n : Nat) : alen (accV i n) = some n := by cases n <;> rfl
theorem acc_blk {cs : List V} {e : TypeId} {n : Nat} (h : 0 < n) : blkCells (some (accB cs e n)) = some cs := by rw [accB_pos h]; rfl
theorem accB_ren {σ : Nat → Option Nat} {xs : List PV} {e : TypeId} {n : Nat} : renB σ (accB (xs.map .p) e n) = accB (xs.map .p) e n := by
  cases n with
  | zero => rfl
  | succ n => simp only [accB, renB, renL_pure]
theorem aload_last {h : List Blk} {vs : List V} {e : TypeId} {k : Nat} {v : V} (hv : vs[k]? = some v) : aload (h ++ [.cells vs e]) false 1 (.ptr h.length k) = some v := by
  unfold aload
  have h1 : (h ++ [Blk.cells vs e])[h.length]? = some (.cells vs e) := by simp
  simp only [h1, blkCells]
  simpa using hv
theorem astore_to {h : List Blk} {a b c v : V} {e : TypeId} : astore (h ++ [.cells [a, b, c] e]) h.length 1 [v] = some (h ++ [.cells [a, v, c] e]) := by
  unfold astore
  have h1 : (h ++ [Blk.cells [a, b, c] e])[h.length]? = some (.cells [a, b, c] e) := by simp
  rw [h1]
  simp [setAt]
theorem accV_renI {σ : Nat → Option Nat} {i j n : Nat} (h : σ i = some j) : renV σ (accV i n) = accV j n := by
  cases n with
  | zero => rfl
  | succ n => simp only [accV, renV, h]
theorem items_row2 (A : List Itm) (x : Itm) {σ : Nat → Option Nat} {e : TypeId} : [Blk.row (renL σ ((A.flatMap Itm.cells).map V.p ++ x.cells.map V.p)) e] = [accB (((A ++ [x]).flatMap Itm.cells).map V.p) e (A.length + 1)] := by
  rw [← List.map_append, renL_pure, List.flatMap_append]
  simp [accB]
theorem itm_c3 {x y : Itm} {e i n : Nat} (h : ((decide (((x.many : Nat) : Int) = 1) && decide (((e : Nat) : Int) < (n : Int))) && (y.fr == x.fr + (e : Int) - (i : Int) && (y.to == x.fr + (e : Int) - (i : Int) && ((((y.many : Nat) : Int) == 1) && true)))) = true) : x.many = 1 ∧ e < n ∧ y = ⟨x.fr + (e : Int) - (i : Int), x.fr + (e : Int) - (i : Int), 1⟩ := by
  simp only [Bool.and_eq_true, decide_eq_true_eq, beq_iff_eq, and_true] at h
  refine ⟨by omega, by omega, ?_⟩
  cases y
  simp only [Itm.mk.injEq]
  exact ⟨h.2.1, h.2.2.1, by have := h.2.2.2; simp only at this; omega⟩
theorem itm_c3n {x y : Itm} {e i n : Nat} (h : ((decide (((x.many : Nat) : Int) = 1) && decide (((e : Nat) : Int) < (n : Int))) && (y.fr == x.fr + (e : Int) - (i : Int) && (y.to == x.fr + (e : Int) - (i : Int) && ((((y.many : Nat) : Int) == 1) && true)))) = false) (h2 : x.many = 1 ∧ e < n ∧ y = ⟨x.fr + (e : Int) - (i : Int), x.fr + (e : Int) - (i : Int), 1⟩) : False := by
  obtain ⟨h3, h4, h5⟩ := h2
  subst h5
  rw [h3] at h
  simp [h4] at h
def itmT (x : Itm) : Bs := [32] ++ Lib.itoa x.fr ++ (if 1 < x.many then [120] ++ Lib.itoa (x.many : Int) else if x.fr < x.to then [45] ++ Lib.itoa x.to else [])
def itmsT (l : List Int) : Bs := (itm (grp l)).flatMap itmT
theorem it_m {y : Itm} (h : decide (((y.many : Nat) : Int) > 1) = true) : itmT y = [32] ++ Lib.itoa y.fr ++ ([120] ++ Lib.itoa ((y.many : Nat) : Int)) := by
  have h := of_decide_eq_true h
  unfold itmT
  rw [if_pos (by omega)]
theorem it_t {y : Itm} (h : decide (((y.many : Nat) : Int) > 1) = false) (h2 : decide (y.to > y.fr) = true) : itmT y = [32] ++ Lib.itoa y.fr ++ ([45] ++ Lib.itoa y.to) := by
  have h := of_decide_eq_false h
  have h2 := of_decide_eq_true h2
  unfold itmT
  rw [if_neg (by omega), if_pos (by omega)]
theorem it_n {y : Itm} (h : decide (((y.many : Nat) : Int) > 1) = false) (h2 : decide (y.to > y.fr) = false) : itmT y = [32] ++ Lib.itoa y.fr ++ [] := by
  have h := of_decide_eq_false h
  have h2 := of_decide_eq_false h2
  unfold itmT
  rw [if_neg (by omega), if_neg (by omega)]
theorem gt_stepI {α : Type} {f : α → Bs} {l : List α} {k : Nat} {y : α} (h : l[k]? = some y) : (l.take k).flatMap f ++ f y = (l.take (k + 1)).flatMap f := by
  obtain ⟨h1, h2⟩ := List.getElem?_eq_some_iff.1 h
  rw [List.take_succ_eq_append_getElem h1, List.flatMap_append, h2]
  simp
def pckT (p : Pck) : Bs := Lib.itoa p.box ++ [58] ++ itmsT p.colours ++ [10]
def pcksT (l : List Pck) : Bs := l.flatMap pckT
theorem itm_le : ∀ (n : Nat) (G : List Itm), G.length ≤ n → (itm G).length ≤ G.length
  | n, [], _ => by rw [itm]; exact Nat.le_refl _
  | 0, x :: r, h => by simp at h
  | n + 1, x :: r, h => by
    rw [itm_eq]
    have hr := runK_le x r
    split
    · have := itm_le n (r.drop (runK x r)) (by simp at h ⊢; omega)
      simp at this ⊢
      omega
    · have := itm_le n r (by simpa using h)
      simpa using this
theorem itm_ok {m : Nat} : ∀ (n : Nat) (G : List Itm), G.length ≤ n → (∀ x ∈ G, ItmOk m x) → ∀ y ∈ itm G, 0 ≤ y.fr ∧ y.fr ≤ 99 ∧ 0 ≤ y.to ∧ y.to ≤ 99 + n ∧ y.many ≤ max m 1
  | n, [], _, _, y, hy => by rw [itm] at hy; cases hy
  | 0, x :: r, h, _, _, _ => by simp at h
  | n + 1, x :: r, h, hx, y, hy => by
    rw [itm_eq] at hy
    have hr := runK_le x r
    have h0 := hx x (by simp)
    simp only [List.length_cons] at h
    split at hy
    · rcases List.mem_cons.1 hy with rfl | hy
      · exact ⟨h0.1, h0.2.1, by show 0 ≤ x.fr + _; have := h0.1; omega, by show x.fr + _ ≤ _; have := h0.2.1; omega, by show 1 ≤ _; omega⟩
      · obtain ⟨a, b, c, d, e⟩ := itm_ok n (r.drop (runK x r)) (by rw [List.length_drop]; omega) (fun z hz => hx z (by simp [List.mem_of_mem_drop hz])) y hy
        exact ⟨a, b, c, by omega, e⟩
    · rcases List.mem_cons.1 hy with rfl | hy
      · obtain ⟨a, b, c, d⟩ := h0
        exact ⟨a, b, by omega, by omega, by omega⟩
      · obtain ⟨a, b, c, d, e⟩ := itm_ok n r (by omega) (fun z hz => hx z (by simp [hz])) y hy
        exact ⟨a, b, c, by omega, e⟩
theorem prts_tn (a : Bs) (i : Int) : prtsT [.tx a, .nu i] = a ++ Lib.itoa i := by simp [prtsT, Prt.t]
theorem prts_nt (a : Bs) (i : Int) : prtsT [.nu i, .tx a] = Lib.itoa i ++ a := by simp [prtsT, Prt.t]
theorem prts_t (a : Bs) : prtsT [.tx a] = a := by simp [prtsT, Prt.t]
theorem itmT_len {x : Itm} (h0 : 0 ≤ x.fr) (h1 : x.fr ≤ 99) (h2 : 0 ≤ x.to) (h3 : x.to ≤ 2000) (h4 : x.many ≤ 1001) : (itmT x).length ≤ 28 := by
  have a := itoa_len h0 (by omega)
  have b := itoa_len h2 (by omega)
  have c := itoa_len (n := (x.many : Int)) (by omega) (by omega)
  unfold itmT
  simp only [List.length_append, List.length_singleton]
  split
  · simp only [List.length_append, List.length_singleton]; omega
  · split
    · simp only [List.length_append, List.length_singleton]; omega
    · simp; omega
theorem pckB_some {p : Pck} (h : pckB p = true) : (∀ c ∈ p.colours, 0 ≤ c ∧ c ≤ 99) ∧ 1 ≤ p.colours.length ∧ p.colours.length ≤ 48 := by
  simp only [pckB, Bool.and_eq_true] at h
  have key : ∀ (l : List Int) (last : Int), 0 ≤ last → colsB last l = true → ∀ c ∈ l, 0 ≤ c ∧ c ≤ 99 := by
    intro l
    induction l with
    | nil => intro _ _ _ c hc; cases hc
    | cons x l ih =>
      intro last h0 h c hc
      simp only [colsB, Bool.and_eq_true] at h
      have h1 := inB_some h.1
      rcases List.mem_cons.1 hc with rfl | hc
      · omega
      · exact ih x (by omega) h.2 c hc
  have := inB_some h.2
  exact ⟨key _ 0 (Int.le_refl _) h.1, by omega, by omega⟩
theorem grp_all {l : List Int} (hc : ∀ c ∈ l, 0 ≤ c ∧ c ≤ 99) : (grp l).length ≤ l.length ∧ ∀ x ∈ grp l, ItmOk l.length x := by
  have := grp_ok l l.length (Nat.le_refl _) hc
  rwa [List.take_length] at this
theorem itms_ok {l : List Int} (hc : ∀ c ∈ l, 0 ≤ c ∧ c ≤ 99) (hl : l.length ≤ 1000) : (itm (grp l)).length ≤ l.length ∧ ∀ y ∈ itm (grp l), 0 ≤ y.fr ∧ y.fr ≤ 99 ∧ 0 ≤ y.to ∧ y.to ≤ 2000 ∧ y.many ≤ 1001 := by
  obtain ⟨h1, h2⟩ := grp_all hc
  refine ⟨Nat.le_trans (itm_le _ _ (Nat.le_refl _)) h1, fun y hy => ?_⟩
  obtain ⟨a, b, c, d, e⟩ := itm_ok (grp l).length (grp l) (Nat.le_refl _) h2 y hy
  exact ⟨a, b, c, by omega, by omega⟩
theorem pckT_len {p : Pck} (h : pckB p = true) (h0 : 0 ≤ p.box) (h1 : p.box ≤ 1000000) : (pckT p).length ≤ 1359 := by
  obtain ⟨a, b, c⟩ := pckB_some h
  obtain ⟨d, e⟩ := itms_ok a (by omega)
  have k1 := itoa_len h0 (by omega)
  have k2 := flat_len itmT 28 (itm (grp p.colours)) fun y hy => by
    obtain ⟨e1, e2, e3, e4, e5⟩ := e y hy
    exact itmT_len e1 e2 e3 e4 e5
  unfold pckT itmsT
  simp only [List.length_append, List.length_singleton]
  omega
theorem pcksT_len {l : List Pck} (h : pcksB l = true) (hl : l.length ≤ 30) : (pcksT l).length ≤ 40770 := by
  have := flat_len pckT 1359 l fun p hp => by
    obtain ⟨_, h1, h2, h3⟩ := rise_all h (by decide) p hp
    exact pckT_len h3 h1 h2
  unfold pcksT
  omega
def wrP (l : List Pck) : Bs × Int := if chkN l.length 30 (pcksB l) = 0 then (pcksT l, 0) else ([], chkN l.length 30 (pcksB l))
theorem wrP_no {l : List Pck} (h : ¬ chkN l.length 30 (pcksB l) = 0) : wrP l = ([], chkN l.length 30 (pcksB l)) := by unfold wrP; rw [if_neg h]
theorem wrP_yes {l : List Pck} (h : chkN l.length 30 (pcksB l) = 0) : wrP l = (pcksT l, 0) := by unfold wrP; rw [if_pos h]
end Go.Proofs.YtplofbjppcbchaaDoor
end

section
set_option linter.unusedVariables false
set_option linter.unusedSimpArgs false
namespace Go.Proofs.YtplofbjppcbchaaDoor
open Go.AF
/-- Is a text at the head? -/
def preB (s r : Bs) : Bool := decide (r.take s.length = s) && decide (s.length ≤ r.length)
def isP (s r : Bs) : Bool × Bs := if preB s r then (true, r.drop s.length) else (false, r)
def wantP (s r : Bs) : Option Bs := if preB s r then some (r.drop s.length) else none
def digB (b : UInt8) : Bool := decide (48 ≤ b.toNat) && decide (b.toNat ≤ 57)
/-- How many digits a text begins with. -/
def digN : Bs → Nat
  | [] => 0
  | b :: r => if digB b then digN r + 1 else 0
theorem digN_le : ∀ r : Bs, digN r ≤ r.length
  | [] => Nat.le_refl _
  | b :: r => by
    rw [digN]
    split
    · have := digN_le r; rw [List.length_cons]; omega
    · exact Nat.zero_le _
theorem digN_at : ∀ (r : Bs) (i : Nat), i < digN r → ∃ b, r[i]? = some b ∧ digB b = true
  | [], i, h => by cases h
  | b :: r, i, h => by
    rw [digN] at h
    split at h
    · rename_i hb
      cases i with
      | zero => exact ⟨b, rfl, hb⟩
      | succ i => exact digN_at r i (by omega)
    · cases h
theorem digN_end : ∀ (r : Bs) (b : UInt8), r[digN r]? = some b → digB b = false
  | [], b, h => by cases h
  | c :: r, b, h => by
    rw [digN] at h
    split at h
    · exact digN_end r b h
    · rename_i hc
      cases h
      simpa using hc
theorem digN_char (r : Bs) (i : Nat) (h : ∀ j, j < i → ∃ b, r[j]? = some b ∧ digB b = true) (h2 : ∀ b, r[i]? = some b → digB b = false) : digN r = i := by
  rcases Nat.lt_trichotomy (digN r) i with h3 | h3 | h3
  · obtain ⟨b, h4, h5⟩ := h _ h3
    rw [digN_end r b h4] at h5
    cases h5
  · exact h3
  · obtain ⟨b, h4, h5⟩ := digN_at r i h3
    rw [h2 b h4] at h5
    cases h5
/-- The number that digits tell. -/
def valD (s : Bs) : Nat := s.foldl (fun n b => 10 * n + (b.toNat - 48)) 0
theorem valD_app (s : Bs) (b : UInt8) : valD (s ++ [b]) = 10 * valD s + (b.toNat - 48) := by simp [valD]
def numBad (r : Bs) : Bool := decide (digN r = 0) || decide (digN r > 9) || (decide (digN r > 1) && decide (r[0]? = some 48))
def numP (r : Bs) : Option (Int × Bs) := if numBad r then none else some ((valD (r.take (digN r)) : Nat), r.drop (digN r))
def spanP (r : Bs) : Option (Spn × Bs) := match numP r with
  | none => none
  | some (lo, r1) => if preB [46, 46] r1 then (match numP (r1.drop 2) with
    | none => none
    | some (hi, r2) => if hi = lo then none else some (⟨lo, hi⟩, r2)) else some (⟨lo, lo⟩, r1)
def octP : Bs → Option (Int × Bs)
  | [] => none
  | b :: r => some ((b.toNat : Int), r)
/-- A long number: k bytes more can come, the first of them counts 'by'. -/
def longG : Nat → Nat → Nat → Bs → Option (Nat × Bs)
  | 0, _, _, _ => none
  | _ + 1, _, _, [] => none
  | k + 1, by_, n, b :: r => if b.toNat < 128 then (if b.toNat = 0 ∧ 1 < by_ then none else some (n + b.toNat * by_, r)) else longG k (by_ * 128) (n + (b.toNat - 128) * by_) r
def longP (r : Bs) : Option (Int × Bs) := (longG 4 1 0 r).map fun x => ((x.1 : Int), x.2)
theorem preB_iff {s r : Bs} : preB s r = true ↔ r.take s.length = s ∧ s.length ≤ r.length := by
  simp only [preB, Bool.and_eq_true, decide_eq_true_eq]
theorem isP_yes {s r : Bs} (h : preB s r = true) : isP s r = (true, r.drop s.length) := by unfold isP; rw [if_pos h]
theorem isP_no {s r : Bs} (h : preB s r = false) : isP s r = (false, r) := by unfold isP; rw [if_neg (by rw [h]; decide)]
theorem isP_1 (s r : Bs) : (isP s r).1 = preB s r := by
  cases h : preB s r with
  | true => rw [isP_yes h]
  | false => rw [isP_no h]
theorem num_none {r : Bs} (h : numBad r = true) : numP r = none := by unfold numP; rw [if_pos h]
theorem num_some {r : Bs} (h : numBad r = false) : numP r = some (((valD (r.take (digN r)) : Nat) : Int), r.drop (digN r)) := by unfold numP; rw [if_neg (by rw [h]; decide)]
theorem num_at0 {r : Bs} (h : 0 < digN r) : (r.take (digN r))[0]? = some (gt 0 r 0) := by
  have h2 := digN_le r
  rw [List.getElem?_take_of_lt h, List.getElem?_eq_getElem (by omega), gt_get 0 0 (by omega)]
theorem numBad_of {r : Bs} {b : Bool} (h : ((decide (((digN r : Nat) : Int) = 0) || decide (((digN r : Nat) : Int) > 9)) || (decide (((digN r : Nat) : Int) > 1) && decide (((gt 0 r 0).toNat : Int) = 48))) = b) : numBad r = b := by
  rw [← h]
  unfold numBad
  have hle := digN_le r
  congr 1
  · congr 1
    · exact decide_eq_decide.2 (by omega)
    · exact decide_eq_decide.2 (by omega)
  · by_cases h1 : digN r > 1
    · rw [decide_eq_true h1, decide_eq_true (show ((digN r : Nat) : Int) > 1 by omega), Bool.true_and, Bool.true_and]
      rw [List.getElem?_eq_getElem (by omega), gt_get 0 0 (by omega)]
      refine decide_eq_decide.2 ⟨fun e => ?_, fun e => ?_⟩
      · rw [Option.some.inj e]; rfl
      · have h3 : (gt 0 r 0).toNat = 48 := by omega
        rw [show gt 0 r 0 = 48 from UInt8.toNat_inj.1 h3]
    · rw [decide_eq_false h1, decide_eq_false (show ¬ ((digN r : Nat) : Int) > 1 by omega)]
      rfl
theorem valD_lt : ∀ (n : Nat) (s : Bs), s.length ≤ n → (∀ b ∈ s, digB b = true) → valD s < 10 ^ s.length
  | n, s, hn, h => by
    rcases List.eq_nil_or_concat s with rfl | ⟨t, b, rfl⟩
    · decide
    · cases n with
      | zero => simp at hn
      | succ n =>
        rw [List.concat_eq_append] at h hn ⊢
        rw [valD_app, List.length_append]
        have h1 := valD_lt n t (by simp at hn; omega) fun x hx => h x (by simp [hx])
        have h2 := h b (by simp)
        simp only [digB, Bool.and_eq_true, decide_eq_true_eq] at h2
        show _ < 10 ^ (t.length + 1)
        rw [Nat.pow_succ]
        omega
theorem dig_all (r : Bs) (i : Nat) (h : i ≤ digN r) : ∀ b ∈ r.take i, digB b = true := fun b hb => by
  obtain ⟨k, hk⟩ := List.getElem?_of_mem hb
  rw [List.getElem?_take] at hk
  split at hk
  · obtain ⟨c, h1, h2⟩ := digN_at r k (by omega)
    rw [h1] at hk
    cases hk
    exact h2
  · cases hk
theorem val_lt {r : Bs} {i : Nat} (h : i ≤ digN r) (h9 : digN r ≤ 9) : valD (r.take i) < 1000000000 := by
  have h1 := valD_lt _ (r.take i) (Nat.le_refl _) (dig_all r i h)
  have h2 : (r.take i).length ≤ 9 := by rw [List.length_take]; omega
  have h3 : (10 : Nat) ^ (r.take i).length ≤ 10 ^ 9 := Nat.pow_le_pow_right (by decide) h2
  have h4 : (10 : Nat) ^ 9 = 1000000000 := by decide
  omega
theorem val_step {r : Bs} {i : Nat} {b : UInt8} (h : r[i]? = some b) : valD (r.take (i + 1)) = 10 * valD (r.take i) + (b.toNat - 48) := by
  obtain ⟨h1, h2⟩ := List.getElem?_eq_some_iff.1 h
  rw [List.take_succ_eq_append_getElem h1, valD_app, h2]
theorem and127 : ∀ x : Fin 256, (x.val &&& 127) = x.val % 128 := by decide +kernel
theorem or_sh {n a k : Nat} (h : n < 2 ^ k) : n ||| (a * 2 ^ k) = n + a * 2 ^ k := by
  have := Nat.shiftLeft_add_eq_or_of_lt h a
  rw [Nat.shiftLeft_eq] at this
  rw [Nat.or_comm, ← this, Nat.add_comm]
theorem num_c {b : UInt8} {c wd : Nat} (h : (decide ((c : Int) < 48) || decide ((c : Int) > 57)) = true) (hlo : b.toNat < 128 → c = b.toNat ∧ wd = 1) (hhi : 128 ≤ b.toNat → 128 ≤ c) : digB b = false := by
  simp only [Bool.or_eq_true, decide_eq_true_eq] at h
  unfold digB
  by_cases h1 : b.toNat < 128
  · have := hlo h1
    simp
    omega
  · simp
    omega
theorem num_cn {b : UInt8} {c wd : Nat} (h : (decide ((c : Int) < 48) || decide ((c : Int) > 57)) = false) (hlo : b.toNat < 128 → c = b.toNat ∧ wd = 1) (hhi : 128 ≤ b.toNat → 128 ≤ c) : digB b = true ∧ c = b.toNat ∧ wd = 1 := by
  simp only [Bool.or_eq_false_iff, decide_eq_false_iff_not] at h
  by_cases h1 : b.toNat < 128
  · obtain ⟨h2, h3⟩ := hlo h1
    refine ⟨?_, h2, h3⟩
    unfold digB
    simp
    omega
  · have := hhi (by omega)
    omega
theorem oct_some {q r1 : Bs} {c0 : Int} (h : octP q = some (c0, r1)) : ∃ c : Nat, c0 = (c : Int) ∧ c < 256 ∧ q = UInt8.ofNat c :: r1 := by
  cases q with
  | nil => cases h
  | cons b t =>
    cases h
    exact ⟨b.toNat, rfl, b.toNat_lt, by rw [UInt8.ofNat_toNat]⟩
theorem pow7 {j : Nat} (h : j < 4) : 2 ^ (7 * j) ≤ 2097152 := by
  have : (2 : Nat) ^ 21 = 2097152 := by decide
  rw [← this]
  exact Nat.pow_le_pow_right (by decide) (by omega)
theorem shl_fit {c j : Nat} (h : j < 4) : ((c % 128 * 2 ^ (7 * j) : Nat) : Int) ≤ 9223372036854775807 := by
  have h1 := pow7 h
  have h2 : c % 128 ≤ 127 := by omega
  have h3 := Nat.mul_le_mul h2 h1
  omega
theorem or_fit {n c j : Nat} (h : j < 4) (hn : n < 2 ^ (7 * j)) : ((n + c % 128 * 2 ^ (7 * j) : Nat) : Int) ≤ 9223372036854775807 := by
  have h1 := pow7 h
  have h2 : c % 128 ≤ 127 := by omega
  have h3 := Nat.mul_le_mul h2 h1
  omega
theorem pow_next (j : Nat) : 2 ^ (7 * (j + 1)) = 2 ^ (7 * j) * 128 := by
  rw [show 7 * (j + 1) = 7 * j + 7 by omega, Nat.pow_add]
theorem lg_lt {n c j : Nat} (hc : c < 256) (h : 128 ≤ c) (hn : n < 2 ^ (7 * j)) : n + (c - 128) * 2 ^ (7 * j) < 2 ^ (7 * (j + 1)) := by
  rw [pow_next]
  have : (c - 128) * 2 ^ (7 * j) ≤ 127 * 2 ^ (7 * j) := Nat.mul_le_mul_right _ (by omega)
  omega
theorem toNat_of {c : Nat} (h : c < 256) : (UInt8.ofNat c).toNat = c := by
  rw [UInt8.toNat_ofNat']; omega
theorem lg_more {n c j : Nat} {r1 : Bs} (hj : j < 4) (h : 128 ≤ c) (hc : c < 256 := by assumption) : longG (4 - j) (2 ^ (7 * j)) n (UInt8.ofNat c :: r1) = longG (4 - (j + 1)) (2 ^ (7 * (j + 1))) (n + (c - 128) * 2 ^ (7 * j)) r1 := by
  obtain ⟨k, hk⟩ : ∃ k, 4 - j = k + 1 := ⟨3 - j, by omega⟩
  rw [hk, longG, toNat_of hc, if_neg (by omega), pow_next, show 4 - (j + 1) = k by omega]
theorem lg_none {n j : Nat} {r q : Bs} (hj : j < 4) (hl : longG 4 1 0 r = longG (4 - j) (2 ^ (7 * j)) n q) (h : octP q = none) : ((longP r).map fun x => (PV.int .i64 x.1, x.2)) = none := by
  have hq : q = [] := by
    cases q with
    | nil => rfl
    | cons b t => cases h
  subst hq
  obtain ⟨k, hk⟩ : ∃ k, 4 - j = k + 1 := ⟨3 - j, by omega⟩
  unfold longP
  rw [hl, hk, longG]
  rfl
theorem lg_end {n j : Nat} {r q : Bs} (hj : j ≤ 4) (h4 : 4 ≤ j) (hl : longG 4 1 0 r = longG (4 - j) (2 ^ (7 * j)) n q) : ((longP r).map fun x => (PV.int .i64 x.1, x.2)) = none := by
  unfold longP
  rw [hl, show 4 - j = 0 by omega, longG]
  rfl
theorem lg_z {c j : Nat} {b : Bool} (h : (decide ((c : Int) = 0) && decide (((7 * j : Nat) : Int) > 0)) = b) : decide (c = 0 ∧ 1 < 2 ^ (7 * j)) = b := by
  rw [← h]
  have e : 1 < 2 ^ (7 * j) ↔ ((7 * j : Nat) : Int) > 0 := by
    constructor
    · intro h2
      rcases Nat.eq_zero_or_pos j with rfl | h3
      · simp at h2
      · omega
    · intro h2
      have := Nat.pow_lt_pow_right (a := 2) (by decide) (show 0 < 7 * j by omega)
      simpa using this
  by_cases h1 : c = 0
  · subst h1
    simp only [true_and, Int.natCast_zero, decide_true, Bool.true_and]
    exact decide_eq_decide.2 e
  · rw [decide_eq_false (fun h => h1 h.1), decide_eq_false (by omega)]
    rfl
theorem lg_zero {n c j : Nat} {r r1 : Bs} (hj : j < 4) (h : c < 128) (hc : c < 256) (hl : longG 4 1 0 r = longG (4 - j) (2 ^ (7 * j)) n (UInt8.ofNat c :: r1)) (hz : (decide ((c : Int) = 0) && decide (((7 * j : Nat) : Int) > 0)) = true) : ((longP r).map fun x => (PV.int .i64 x.1, x.2)) = none := by
  obtain ⟨k, hk⟩ : ∃ k, 4 - j = k + 1 := ⟨3 - j, by omega⟩
  unfold longP
  rw [hl, hk, longG, toNat_of hc, if_pos h, if_pos (of_decide_eq_true (lg_z hz))]
  rfl
theorem lg_done {n c j : Nat} {r r1 : Bs} (hj : j < 4) (h : c < 128) (hc : c < 256) (hl : longG 4 1 0 r = longG (4 - j) (2 ^ (7 * j)) n (UInt8.ofNat c :: r1)) (hz : (decide ((c : Int) = 0) && decide (((7 * j : Nat) : Int) > 0)) = false) : ((longP r).map fun x => (PV.int .i64 x.1, x.2)) = some (.int .i64 ((n + c * 2 ^ (7 * j) : Nat) : Int), r1) := by
  obtain ⟨k, hk⟩ : ∃ k, 4 - j = k + 1 := ⟨3 - j, by omega⟩
  unfold longP
  rw [hl, hk, longG, toNat_of hc, if_pos h, if_neg (of_decide_eq_false (lg_z hz))]
  rfl
/-! ### Repeating -/
def repC (c : Int) (m n : Nat) : List V := List.replicate n (V.p (.int .i64 c)) ++ List.replicate (m - n) (V.p (.int .i64 0))
theorem repC_len (c : Int) (m n : Nat) (h : n ≤ m) : (repC c m n).length = m := by simp [repC]; omega
theorem rep_zero (c : Int) (m : Nat) : (List.replicate m [PV.int .i64 0]).flatten.map V.p = repC c m 0 := by
  unfold repC
  rw [List.replicate_zero, List.nil_append, Nat.sub_zero]
  induction m with
  | zero => rfl
  | succ m ih => rw [List.replicate_succ, List.flatten_cons, List.map_append, ih, List.replicate_succ]; rfl
theorem setAt_win : ∀ (vs ts pre post : List V), ts.length = vs.length → setAt (pre ++ ts ++ post) pre.length vs = pre ++ vs ++ post
  | [], ts, pre, post, h => by
    have : ts = [] := by simpa using h
    subst this
    rfl
  | v :: vs, [], pre, post, h => by simp at h
  | v :: vs, t :: ts, pre, post, h => by
    simp only [setAt]
    have e1 : (pre ++ t :: ts ++ post).set pre.length v = (pre ++ [v]) ++ ts ++ post := by simp
    rw [e1]
    have := setAt_win vs ts (pre ++ [v]) post (by simpa using h)
    rw [List.length_append, List.length_singleton] at this
    rw [this]
    simp
theorem rep_setk {c : Int} {m n k : Nat} (h : n + k ≤ m) : setAt (repC c m n) n (List.replicate k (V.p (.int .i64 c))) = repC c m (n + k) := by
  have e : repC c m n = List.replicate n (V.p (.int .i64 c)) ++ List.replicate k (V.p (.int .i64 0)) ++ List.replicate (m - (n + k)) (V.p (.int .i64 0)) := by
    unfold repC
    rw [List.append_assoc, List.replicate_append_replicate, show k + (m - (n + k)) = m - n by omega]
  have := setAt_win (List.replicate k (V.p (.int .i64 c))) (List.replicate k (V.p (.int .i64 0))) (List.replicate n (V.p (.int .i64 c))) (List.replicate (m - (n + k)) (V.p (.int .i64 0))) (by simp)
  rw [List.length_replicate] at this
  rw [e, this]
  unfold repC
  rw [List.replicate_append_replicate]
theorem rep_set {c : Int} {m n : Nat} (h : n ≤ m) : setAt (repC c m n) n (((repC c m n).take n).take (min n (m - n))) = repC c m (n + min n (m - n)) := by
  have e : ((repC c m n).take n).take (min n (m - n)) = List.replicate (min n (m - n)) (V.p (.int .i64 c)) := by
    unfold repC
    have h1 : (List.replicate n (V.p (.int .i64 c)) ++ List.replicate (m - n) (V.p (.int .i64 0))).take n = List.replicate n (V.p (.int .i64 c)) := by
      rw [List.take_append_of_le_length (by simp), List.take_of_length_le (by simp)]
    rw [h1, List.take_replicate, Nat.min_eq_left (Nat.min_le_left _ _)]
  rw [e, rep_setk (by omega)]
theorem rep_first {c : Int} {m : Nat} : setAt (repC c m 0) 0 ([V.p (.int .i64 c)].take (min 1 m)) = repC c m (min 1 m) := by
  have e : [V.p (.int .i64 c)].take (min 1 m) = List.replicate (min 1 m) (V.p (.int .i64 c)) := by
    rcases Nat.eq_zero_or_pos m with rfl | h
    · rfl
    · rw [Nat.min_eq_left h]; rfl
  rw [e, rep_setk (by omega), Nat.zero_add]
theorem rep_src {c : Int} {m n : Nat} {e : TypeId} (h : n ≤ m) : asrc [Blk.row (repC c m n) e] 1 (.row 0 n) = some ((repC c m n).take (n * 1), n) := by
  unfold asrc
  show (if n * 1 ≤ (repC c m n).length then _ else _) = _
  rw [if_pos (by rw [repC_len c m n h]; omega)]
theorem rep_one (c : Int) (m n : Nat) : ((repC c m n).take (n * 1)).all oneV = true := by
  rw [List.all_eq_true]
  intro x hx
  have := List.mem_of_mem_take hx
  unfold repC at this
  rcases List.mem_append.1 this with h | h
  · rw [(List.mem_replicate.1 h).2]; rfl
  · rw [(List.mem_replicate.1 h).2]; rfl
theorem repC_ren {c : Int} {m n : Nat} {σ : Nat → Option Nat} : renL σ (repC c m n) = repC c m n := by
  have e : repC c m n = (List.replicate n (PV.int .i64 c) ++ List.replicate (m - n) (PV.int .i64 0)).map V.p := by simp [repC]
  rw [e, renL_pure]
theorem rep_all (c : Int) (m : Nat) : allP (repC c m m) = some ((List.replicate m c).flatMap intC) := by
  have e : repC c m m = ((List.replicate m c).flatMap intC).map V.p := by
    unfold repC
    rw [Nat.sub_self, List.replicate_zero, List.append_nil]
    induction m with
    | zero => rfl
    | succ m ih => rw [List.replicate_succ, List.replicate_succ, List.flatMap_cons, List.map_append, ← ih]; rfl
  rw [e, allP_map]
theorem mul_no {m : Nat} (hm : m ≤ 1000) (h : (decide (((1 * m / 18446744073709551616 : Nat) : Int) > 0) || decide (((1 * m % 18446744073709551616 : Nat) : Int) > 9223372036854775807)) = true) : False := by
  simp only [Bool.or_eq_true, decide_eq_true_eq] at h
  omega
end Go.Proofs.YtplofbjppcbchaaDoor
end

section
set_option linter.unusedVariables false
set_option linter.unusedSimpArgs false
namespace Go.Proofs.YtplofbjppcbchaaDoor
open Go Go.AF
/-! ### Lengths -/
theorem want_len {s r q : Bs} (h : wantP s r = some q) : q.length + s.length = r.length := by
  unfold wantP at h
  split at h
  · rename_i hp
    have := (preB_iff.1 hp).2
    cases h
    rw [List.length_drop]; omega
  · cases h
theorem num_len {r q : Bs} {x : Int} (h : numP r = some (x, q)) : q.length < r.length := by
  unfold numP at h
  split at h
  · cases h
  · rename_i hb
    have hle := digN_le r
    have h0 : digN r ≠ 0 := by
      intro e
      apply hb
      unfold numBad
      rw [decide_eq_true e]
      rfl
    cases h
    rw [List.length_drop]; omega
theorem span_len {r q : Bs} {x : Spn} (h : spanP r = some (x, q)) : q.length < r.length := by
  unfold spanP at h
  cases hn : numP r with
  | none => rw [hn] at h; cases h
  | some y =>
    obtain ⟨lo, r1⟩ := y
    rw [hn] at h
    have h1 := num_len hn
    simp only at h
    split at h
    · cases hn2 : numP (r1.drop 2) with
      | none => rw [hn2] at h; cases h
      | some z =>
        obtain ⟨hi, r2⟩ := z
        rw [hn2] at h
        have h2 := num_len hn2
        rw [List.length_drop] at h2
        simp only at h
        split at h
        · cases h
        · cases h; omega
    · cases h; exact h1
/-! ### Reports -/
def stkR (r : Bs) : Option (Stk × Bs) := (spanP r).bind fun a => (wantP [32, 111, 110, 32] a.2).bind fun r2 => (spanP r2).bind fun b => (wantP [10] b.2).map fun r4 => (⟨a.1, b.1⟩, r4)
theorem stkR_some {r r1 r2 r3 r4 : Bs} {a b : Spn} (h1 : spanP r = some (a, r1)) (h2 : wantP [32, 111, 110, 32] r1 = some r2) (h3 : spanP r2 = some (b, r3)) (h4 : wantP [10] r3 = some r4) : stkR r = some (⟨a, b⟩, r4) := by
  unfold stkR; simp only [h1, h2, h3, h4, Option.bind_some, Option.map_some]
theorem stkR_len {r q : Bs} {x : Stk} (h : stkR r = some (x, q)) : q.length < r.length := by
  unfold stkR at h
  simp only [Option.bind_eq_some_iff, Option.map_eq_some_iff] at h
  obtain ⟨⟨a, r1⟩, h1, r2, h2, ⟨b, r3⟩, h3, r4, h4, h5⟩ := h
  cases h5
  have := span_len h1
  have := want_len h2
  have := span_len h3
  have := want_len h4
  simp only [List.length_cons, List.length_nil] at *
  omega
def skT : Bs := [115, 116, 114, 111, 107, 101, 32]
def stksG : Nat → Bs → Option (List Stk × Bs)
  | 0, _ => none
  | n + 1, r => if preB skT r then (stkR (r.drop 7)).bind fun x => (stksG n x.2).map fun y => (x.1 :: y.1, y.2) else some ([], r)
def stksP (r : Bs) : Option (List Stk × Bs) := stksG (r.length + 1) r
theorem stksG_ext : ∀ (n m : Nat) (r : Bs), r.length < n → r.length < m → stksG n r = stksG m r
  | 0, _, _, h, _ => absurd h (Nat.not_lt_zero _)
  | _, 0, _, _, h => absurd h (Nat.not_lt_zero _)
  | n + 1, m + 1, r, h1, h2 => by
    rw [stksG, stksG]
    split
    · cases hx : stkR (r.drop 7) with
      | none => rfl
      | some x =>
        obtain ⟨x, q⟩ := x
        have := stkR_len hx
        rw [List.length_drop] at this
        simp only [Option.bind_some]
        rw [stksG_ext n m q (by omega) (by omega)]
    · rfl
theorem stksP_yes {r : Bs} (h : preB skT r = true) : stksP r = (stkR (r.drop 7)).bind fun x => (stksP x.2).map fun y => (x.1 :: y.1, y.2) := by
  unfold stksP
  rw [stksG, if_pos h]
  cases hx : stkR (r.drop 7) with
  | none => rfl
  | some x =>
    obtain ⟨x, q⟩ := x
    have := stkR_len hx
    rw [List.length_drop] at this
    simp only [Option.bind_some]
    rw [stksG_ext r.length (q.length + 1) q (by omega) (by omega)]
theorem stksP_no {r : Bs} (h : preB skT r = false) : stksP r = some ([], r) := by
  unfold stksP
  rw [stksG, if_neg (by rw [h]; decide)]
def batT : Bs := [98, 97, 116, 99, 104, 32]
def strT : Bs := [10, 115, 116, 114, 101, 110, 103, 116, 104, 32]
def weaT : Bs := [10, 119, 101, 97, 114, 32]
def rptR (r : Bs) : Option (Rpt × Bs) := (wantP batT r).bind fun r1 => (numP r1).bind fun b => (wantP strT b.2).bind fun r3 => (spanP r3).bind fun st => (wantP weaT st.2).bind fun r5 => (spanP r5).bind fun we => (wantP [10] we.2).bind fun r7 => (stksP r7).map fun y => (⟨b.1, y.1, st.1, we.1⟩, y.2)
/-- Where the strokes are read: what is taken so far, and what is left. -/
def RptI (r : Bs) (b : Int) (st we : Spn) (acc : List Stk) (q : Bs) : Prop := rptR r = (stksP q).map fun y => (⟨b, acc ++ y.1, st, we⟩, y.2)
theorem rptI_0 {r r1 r2 r3 r4 r5 r6 r7 : Bs} {b : Int} {st we : Spn} (h1 : wantP batT r = some r1) (h2 : numP r1 = some (b, r2)) (h3 : wantP strT r2 = some r3) (h4 : spanP r3 = some (st, r4)) (h5 : wantP weaT r4 = some r5) (h6 : spanP r5 = some (we, r6)) (h7 : wantP [10] r6 = some r7) : RptI r b st we [] r7 := by
  unfold RptI rptR
  simp only [h1, h2, h3, h4, h5, h6, h7, Option.bind_some, List.nil_append]
theorem rptI_fail {r q : Bs} {b : Int} {st we : Spn} {acc : List Stk} {f : Rpt × Bs → PV × Bs} (h : RptI r b st we acc q) (hp : preB skT q = true) (hs : stkR (q.drop 7) = none) : (rptR r).map f = none := by
  unfold RptI at h
  rw [h, stksP_yes hp, hs]
  rfl
theorem rptI_step {r q q2 : Bs} {b : Int} {st we : Spn} {acc : List Stk} {x : Stk} (h : RptI r b st we acc q) (hp : preB skT q = true) (hs : stkR (q.drop 7) = some (x, q2)) : RptI r b st we (acc ++ [x]) q2 := by
  unfold RptI at h ⊢
  rw [h, stksP_yes hp, hs, Option.bind_some, Option.map_map]
  congr 1
  funext y
  simp
theorem rptI_end {r q : Bs} {b : Int} {st we : Spn} {acc : List Stk} {f : Rpt × Bs → PV × Bs} (h : RptI r b st we acc q) (hp : preB skT q = false) : (rptR r).map f = some (f (⟨b, acc, st, we⟩, q)) := by
  unfold RptI at h
  rw [h, stksP_no hp, Option.map_some, Option.map_some, List.append_nil]
/-! ### Cards -/
theorem longG_spec : ∀ (k by_ n : Nat) (r q : Bs) (x : Nat), longG k by_ n r = some (x, q) → n < by_ → x < by_ * 128 ^ k ∧ q.length < r.length
  | 0, _, _, _, _, _, h, _ => by rw [longG] at h; cases h
  | _ + 1, _, _, [], _, _, h, _ => by rw [longG] at h; cases h
  | k + 1, by_, n, b :: r, q, x, h, hn => by
    have hb := b.toNat_lt
    rw [longG] at h
    split at h
    · rename_i h1
      split at h
      · cases h
      · cases h
        refine ⟨?_, by simp⟩
        have h2 : b.toNat * by_ ≤ 127 * by_ := Nat.mul_le_mul_right _ (by omega)
        have h3 : by_ * 128 ≤ by_ * 128 ^ (k + 1) := Nat.mul_le_mul_left _ (by rw [Nat.pow_succ]; exact Nat.le_mul_of_pos_left _ (Nat.pow_pos (by decide)))
        omega
    · have h2 : (b.toNat - 128) * by_ ≤ 127 * by_ := Nat.mul_le_mul_right _ (by omega)
      have := longG_spec k (by_ * 128) _ r q x h (by omega)
      refine ⟨?_, by simp; omega⟩
      rw [Nat.pow_succ, Nat.mul_comm (128 ^ k) 128, ← Nat.mul_assoc]
      exact this.1
theorem longP_spec {r q : Bs} {x : Int} (h : longP r = some (x, q)) : ∃ n : Nat, x = n ∧ n < 268435456 ∧ q.length < r.length := by
  unfold longP at h
  rw [Option.map_eq_some_iff] at h
  obtain ⟨⟨n, q2⟩, h1, h2⟩ := h
  cases h2
  have := longG_spec 4 1 0 r q2 n h1 (by decide)
  exact ⟨n, rfl, by simpa using this.1, this.2⟩
theorem octP_spec {r q : Bs} {x : Int} (h : octP r = some (x, q)) : ∃ b : UInt8, x = b.toNat ∧ r = b :: q := by
  cases r with
  | nil => cases h
  | cons b t => cases h; exact ⟨b, rfl, rfl⟩
theorem oct_some2 {r q : Bs} {x : Int} (h : octP r = some (x, q)) : ∃ n : Nat, x = n ∧ n < 256 ∧ q.length + 1 = r.length := by
  obtain ⟨b, rfl, rfl⟩ := octP_spec h
  exact ⟨b.toNat, rfl, b.toNat_lt, rfl⟩
def crdR (next : Int) (r : Bs) : Option (Crd × Bs) := (longP r).bind fun a => (longP a.2).bind fun h => (octP h.2).bind fun sh => (octP sh.2).bind fun pl => (longP pl.2).map fun m => (⟨next + a.1, h.1, sh.1, pl.1, m.1⟩, m.2)
theorem crdR_some {next a h sh pl m : Int} {r r1 r2 r3 r4 r5 : Bs} (h1 : longP r = some (a, r1)) (h2 : longP r1 = some (h, r2)) (h3 : octP r2 = some (sh, r3)) (h4 : octP r3 = some (pl, r4)) (h5 : longP r4 = some (m, r5)) : crdR next r = some (⟨next + a, h, sh, pl, m⟩, r5) := by
  unfold crdR; simp only [h1, h2, h3, h4, h5, Option.bind_some, Option.map_some]
def crdsG : Nat → Int → Bs → Option (List Crd × Bs)
  | 0, _, r => some ([], r)
  | n + 1, next, r => (crdR next r).bind fun x => (crdsG n (x.1.number + 1) x.2).map fun y => (x.1 :: y.1, y.2)
def crdHd (a b c : Int) : Bool := decide (a = 80) && decide (b = 67) && decide (c = 1)
def crdsE (y : List Crd × Bs) : Option (List Crd × Bs) := (octP y.2).bind fun z => if z.2 = [] then some (y.1, []) else none
def crdsR (r : Bs) : Option (List Crd × Bs) := (octP r).bind fun a => (octP a.2).bind fun b => (octP b.2).bind fun c => (octP c.2).bind fun m => if crdHd a.1 b.1 c.1 = true ∧ m.1 ≤ 40 then (crdsG m.1.toNat 0 m.2).bind crdsE else none
/-- Where the cards are read. -/
def CrdI (r : Bs) (m : Nat) (next : Int) (acc : List Crd) (q : Bs) : Prop := crdsR r = (crdsG (m - acc.length) next q).bind fun y => crdsE (acc ++ y.1, y.2)
theorem crdI_0 {r r1 r2 r3 r4 : Bs} {a b c : Int} {m : Nat} (h1 : octP r = some (a, r1)) (h2 : octP r1 = some (b, r2)) (h3 : octP r2 = some (c, r3)) (h4 : octP r3 = some ((m : Int), r4)) (hh : crdHd a b c = true) (hm : m ≤ 40) : CrdI r m 0 [] r4 := by
  unfold CrdI crdsR
  simp only [h1, h2, h3, h4, Option.bind_some, List.nil_append]
  rw [if_pos ⟨hh, by omega⟩]
  rfl
theorem crdI_fail {r q : Bs} {m : Nat} {next : Int} {acc : List Crd} {f : List Crd × Bs → PV × Bs} (h : CrdI r m next acc q) (hm : acc.length < m) (hs : crdR next q = none) : (crdsR r).map f = none := by
  unfold CrdI at h
  obtain ⟨k, hk⟩ : ∃ k, m - acc.length = k + 1 := ⟨m - acc.length - 1, by omega⟩
  rw [h, hk, crdsG, hs]
  rfl
theorem crdI_step {r q q2 : Bs} {m : Nat} {next : Int} {acc : List Crd} {x : Crd} (h : CrdI r m next acc q) (hm : acc.length < m) (hs : crdR next q = some (x, q2)) : CrdI r m (x.number + 1) (acc ++ [x]) q2 := by
  unfold CrdI at h ⊢
  obtain ⟨k, hk⟩ : ∃ k, m - acc.length = k + 1 := ⟨m - acc.length - 1, by omega⟩
  rw [h, hk, crdsG, hs, Option.bind_some, show m - (acc ++ [x]).length = k by rw [List.length_append]; simp; omega]
  cases crdsG k (x.number + 1) q2 with
  | none => rfl
  | some y => simp
theorem crdI_end {r q : Bs} {m : Nat} {next : Int} {acc : List Crd} (h : CrdI r m next acc q) (hm : acc.length = m) : crdsR r = crdsE (acc, q) := by
  unfold CrdI at h
  rw [h, show m - acc.length = 0 by omega, crdsG, Option.bind_some, List.append_nil]
theorem crds_head {r r1 r2 r3 r4 : Bs} {a b c m : Int} {f : List Crd × Bs → PV × Bs} (h1 : octP r = some (a, r1)) (h2 : octP r1 = some (b, r2)) (h3 : octP r2 = some (c, r3)) (h4 : octP r3 = some (m, r4)) (hh : ¬ (crdHd a b c = true ∧ m ≤ 40)) : (crdsR r).map f = none := by
  unfold crdsR
  simp only [h1, h2, h3, h4, Option.bind_some]
  rw [if_neg hh]
  rfl
theorem crdsE_yes {acc : List Crd} {q q2 : Bs} {z : Int} (h : octP q = some (z, q2)) (hq : q2 = []) : crdsE (acc, q) = some (acc, []) := by
  unfold crdsE
  simp only [h, Option.bind_some, hq, if_true]
theorem crdsE_no {acc : List Crd} {q q2 : Bs} {z : Int} (h : octP q = some (z, q2)) (hq : q2 ≠ []) : crdsE (acc, q) = none := by
  unfold crdsE
  simp only [h, Option.bind_some, if_neg hq]
theorem crd_hd {a b c m : Int} {w : Bool} (h : ((if BinOp.neq = BinOp.eql then a == 80 && (b == 67 && (c == 1 && true)) else !(a == 80 && (b == 67 && (c == 1 && true)))) || decide (40 < m)) = w) : (crdHd a b c = true ∧ m ≤ 40) ↔ w = false := by
  rw [if_neg (by decide)] at h
  subst h
  unfold crdHd
  simp only [Bool.or_eq_false_iff, Bool.not_eq_false', Bool.and_eq_true, decide_eq_true_eq, decide_eq_false_iff_not, beq_iff_eq, and_true, Int.not_lt, and_assoc]
/-! ### Packs -/
theorem num_spec {r q : Bs} {x : Int} (h : numP r = some (x, q)) : ∃ n : Nat, x = n ∧ n < 1000000000 ∧ q.length < r.length := by
  have hl := num_len h
  unfold numP at h
  split at h
  · cases h
  · rename_i hb
    have h9 : digN r ≤ 9 := by
      unfold numBad at hb
      simp at hb
      omega
    cases h
    exact ⟨_, rfl, val_lt (Nat.le_refl _) h9, hl⟩
def itmR (r : Bs) : Option (Itm × Bs) := (numP r).bind fun a => if preB [120] a.2 then (numP (a.2.drop 1)).map fun m => (⟨a.1, a.1, m.1.toNat⟩, m.2) else if preB [45] a.2 then (numP (a.2.drop 1)).map fun t => (⟨a.1, t.1, 1⟩, t.2) else some (⟨a.1, a.1, 1⟩, a.2)
def ItmR (x : Itm) : Prop := 0 ≤ x.fr ∧ x.fr < 1000000000 ∧ 0 ≤ x.to ∧ x.to < 1000000000 ∧ x.many < 1000000000
theorem itmR_m {r r1 q : Bs} {f m : Nat} (h1 : numP r = some ((f : Int), r1)) (hp : preB [120] r1 = true) (h2 : numP (r1.drop 1) = some ((m : Int), q)) : itmR r = some (⟨f, f, m⟩, q) := by
  unfold itmR
  simp only [h1, Option.bind_some, hp, if_true, h2, Option.map_some, Int.toNat_natCast]
theorem itmR_t {r r1 q : Bs} {f : Nat} {t : Int} (h1 : numP r = some ((f : Int), r1)) (hp : preB [120] r1 = false) (hp2 : preB [45] r1 = true) (h2 : numP (r1.drop 1) = some (t, q)) : itmR r = some (⟨f, t, 1⟩, q) := by
  unfold itmR
  simp only [h1, Option.bind_some, hp, hp2, if_true, h2, Option.map_some]
  rfl
theorem itmR_1 {r r1 : Bs} {f : Nat} (h1 : numP r = some ((f : Int), r1)) (hp : preB [120] r1 = false) (hp2 : preB [45] r1 = false) : itmR r = some (⟨f, f, 1⟩, r1) := by
  unfold itmR
  simp only [h1, Option.bind_some, hp, hp2]
  rfl
theorem itmR_no {r : Bs} (h : numP r = none) : itmR r = none := by
  unfold itmR; rw [h]; rfl
theorem itmR_nom {r r1 : Bs} {f : Int} (h1 : numP r = some (f, r1)) (hp : preB [120] r1 = true) (h2 : numP (r1.drop 1) = none) : itmR r = none := by
  unfold itmR
  simp only [h1, Option.bind_some, hp, if_true, h2, Option.map_none]
theorem itmR_not {r r1 : Bs} {f : Int} (h1 : numP r = some (f, r1)) (hp : preB [120] r1 = false) (hp2 : preB [45] r1 = true) (h2 : numP (r1.drop 1) = none) : itmR r = none := by
  unfold itmR
  simp only [h1, Option.bind_some, hp, hp2, if_true, h2, Option.map_none]
  rfl
theorem itmR_len {r q : Bs} {x : Itm} (h : itmR r = some (x, q)) : q.length < r.length := by
  unfold itmR at h
  rw [Option.bind_eq_some_iff] at h
  obtain ⟨⟨a, r1⟩, h1, h2⟩ := h
  have h3 := num_len h1
  dsimp only at h2
  split at h2
  · rw [Option.map_eq_some_iff] at h2
    obtain ⟨⟨m, r2⟩, h4, h5⟩ := h2
    have h6 := num_len h4
    rw [List.length_drop] at h6
    cases h5
    dsimp only
    omega
  · split at h2
    · rw [Option.map_eq_some_iff] at h2
      obtain ⟨⟨m, r2⟩, h4, h5⟩ := h2
      have h6 := num_len h4
      rw [List.length_drop] at h6
      cases h5
      dsimp only
      omega
    · cases h2; exact h3
/-- The colours that an item tells, the first k of its numbers. -/
def sprT (x : Itm) (k : Nat) : List Int := (List.range k).flatMap fun (j : Nat) => List.replicate (min x.many 49) (x.fr + (j : Int))
def sprN (x : Itm) : Nat := (min x.to 99 - x.fr + 1).toNat
def sprd (x : Itm) : List Int := sprT x (sprN x)
theorem sprT_succ (x : Itm) (k : Nat) : sprT x (k + 1) = sprT x k ++ List.replicate (min x.many 49) (x.fr + (k : Int)) := by
  unfold sprT
  rw [List.range_succ, List.flatMap_append]
  simp
theorem sprT_len (x : Itm) : ∀ k, (sprT x k).length = k * min x.many 49
  | 0 => by simp [sprT]
  | k + 1 => by rw [sprT_succ, List.length_append, sprT_len x k, List.length_replicate, Nat.add_mul, Nat.one_mul]
theorem sprT_le (x : Itm) {k : Nat} (h : k ≤ 100) : (sprT x k).length ≤ 4900 := by
  rw [sprT_len]
  exact Nat.le_trans (Nat.mul_le_mul h (Nat.min_le_right _ _)) (by decide)
theorem sprN_le {x : Itm} (h : ItmR x) : sprN x ≤ 100 := by
  unfold ItmR at h
  unfold sprN
  omega
def colsG : Nat → List Int → Bs → Option (List Int × Bs)
  | 0, _, _ => none
  | n + 1, acc, r => if preB [32] r then (itmR (r.drop 1)).bind fun x => if (acc ++ sprd x.1).length > 48 then none else colsG n (acc ++ sprd x.1) x.2 else some (acc, r)
def colsP (acc : List Int) (r : Bs) : Option (List Int × Bs) := colsG (r.length + 1) acc r
theorem colsG_ext : ∀ (n m : Nat) (acc : List Int) (r : Bs), r.length < n → r.length < m → colsG n acc r = colsG m acc r
  | 0, _, _, _, h, _ => absurd h (Nat.not_lt_zero _)
  | _, 0, _, _, _, h => absurd h (Nat.not_lt_zero _)
  | n + 1, m + 1, acc, r, h1, h2 => by
    rw [colsG, colsG]
    split
    · cases hx : itmR (r.drop 1) with
      | none => rfl
      | some x =>
        obtain ⟨x, q⟩ := x
        have := itmR_len hx
        rw [List.length_drop] at this
        simp only [Option.bind_some]
        rw [colsG_ext n m _ q (by omega) (by omega)]
    · rfl
def pckR (r : Bs) : Option (Pck × Bs) := (numP r).bind fun b => (wantP [58] b.2).bind fun r2 => (colsP [] r2).bind fun y => (wantP [10] y.2).map fun q => (⟨b.1, y.1⟩, q)
def PckI (r : Bs) (b : Int) (acc : List Int) (q : Bs) : Prop := pckR r = (colsP acc q).bind fun y => (wantP [10] y.2).map fun q => (⟨b, y.1⟩, q)
theorem pckI_0 {r r1 r2 : Bs} {b : Int} (h1 : numP r = some (b, r1)) (h2 : wantP [58] r1 = some r2) : PckI r b [] r2 := by
  unfold PckI pckR
  simp only [h1, h2, Option.bind_some]
theorem colsP_yes {acc : List Int} {r : Bs} (h : preB [32] r = true) : colsP acc r = (itmR (r.drop 1)).bind fun x => if (acc ++ sprd x.1).length > 48 then none else colsP (acc ++ sprd x.1) x.2 := by
  unfold colsP
  rw [colsG, if_pos h]
  cases hx : itmR (r.drop 1) with
  | none => rfl
  | some x =>
    obtain ⟨x, q⟩ := x
    have := itmR_len hx
    rw [List.length_drop] at this
    simp only [Option.bind_some]
    rw [colsG_ext r.length (q.length + 1) _ q (by omega) (by omega)]
theorem pckI_fail {r q : Bs} {b : Int} {acc : List Int} {f : Pck × Bs → PV × Bs} (h : PckI r b acc q) (hp : preB [32] q = true) (hs : itmR (q.drop 1) = none) : (pckR r).map f = none := by
  unfold PckI at h
  rw [h, colsP_yes hp, hs]
  rfl
theorem pckI_many {r q q2 : Bs} {b : Int} {acc : List Int} {x : Itm} {f : Pck × Bs → PV × Bs} (h : PckI r b acc q) (hp : preB [32] q = true) (hs : itmR (q.drop 1) = some (x, q2)) (hm : 48 < (acc ++ sprd x).length) : (pckR r).map f = none := by
  unfold PckI at h
  rw [h, colsP_yes hp, hs, Option.bind_some, if_pos hm]
  rfl
theorem pckI_step {r q q2 : Bs} {b : Int} {acc : List Int} {x : Itm} (h : PckI r b acc q) (hp : preB [32] q = true) (hs : itmR (q.drop 1) = some (x, q2)) (hm : (acc ++ sprd x).length ≤ 48) : PckI r b (acc ++ sprd x) q2 := by
  unfold PckI at h ⊢
  rw [h, colsP_yes hp, hs, Option.bind_some, if_neg (by show ¬ 48 < (acc ++ sprd x).length; omega)]
theorem pckI_end {r q : Bs} {b : Int} {acc : List Int} (h : PckI r b acc q) (hp : preB [32] q = false) : pckR r = (wantP [10] q).map fun q => (⟨b, acc⟩, q) := by
  unfold PckI at h
  rw [h]
  unfold colsP
  rw [colsG, if_neg (by rw [hp]; decide), Option.bind_some]
theorem pk_len (l : List Int) : ((l.flatMap intC).map V.p).length = l.length * [PV.int .i64 0].length := by
  rw [List.length_map, Go.AF.flat_len (c := 1) (fun _ => rfl)]; rfl
theorem pk_src (H : List Blk) (m : Nat) (c : Int) : asrc H [PV.int .i64 0].length (.p (.is ((List.replicate m c).flatMap intC) m)) = some (((List.replicate m c).flatMap intC).map .p, m) := by
  unfold asrc
  dsimp only
  rw [if_pos (by rw [Go.AF.flat_len (c := 1) (fun _ => rfl), List.length_replicate]; rfl)]
theorem pk_one (l : List Int) : ((l.flatMap intC).map V.p).all oneV = true := by
  rw [List.all_eq_true]
  intro x hx
  obtain ⟨y, hy, rfl⟩ := List.mem_map.1 hx
  obtain ⟨z, _, hz⟩ := List.mem_flatMap.1 hy
  unfold intC at hz
  rw [List.mem_singleton.1 hz]
  rfl
/-! ### Lists -/
/-- Things are taken until nothing is left, at most so many. -/
def lstG {α : Type} (one : Bs → Option (α × Bs)) : Nat → Bs → Option (List α)
  | 0, r => if r = [] then some [] else none
  | n + 1, r => if r = [] then some [] else (one r).bind fun x => (lstG one n x.2).map fun y => x.1 :: y
theorem lst_0 {α : Type} {one : Bs → Option (α × Bs)} {m : Nat} {r : Bs} : lstG one m r = (lstG one (m - ([] : List α).length) r).map fun y => [] ++ y := by
  show lstG one m r = (lstG one m r).map fun y => y
  cases lstG one m r <;> rfl
section
variable {α : Type} {one : Bs → Option (α × Bs)} {m : Nat} {r q q2 : Bs} {acc : List α} {x : α}
theorem lst_full (h : lstG one m r = (lstG one (m - acc.length) q).map fun y => acc ++ y) (hm : acc.length = m) (hq : q ≠ []) : lstG one m r = none := by
  rw [h, show m - acc.length = 0 by omega, lstG, if_neg hq]
  rfl
theorem lst_fail (h : lstG one m r = (lstG one (m - acc.length) q).map fun y => acc ++ y) (hm : acc.length < m) (hq : q ≠ []) (hx : one q = none) : lstG one m r = none := by
  obtain ⟨k, hk⟩ : ∃ k, m - acc.length = k + 1 := ⟨m - acc.length - 1, by omega⟩
  rw [h, hk, lstG, if_neg hq, hx]
  rfl
theorem lst_step (h : lstG one m r = (lstG one (m - acc.length) q).map fun y => acc ++ y) (hm : acc.length < m) (hq : q ≠ []) (hx : one q = some (x, q2)) : lstG one m r = (lstG one (m - (acc ++ [x]).length) q2).map fun y => (acc ++ [x]) ++ y := by
  obtain ⟨k, hk⟩ : ∃ k, m - acc.length = k + 1 := ⟨m - acc.length - 1, by omega⟩
  rw [h, hk, lstG, if_neg hq, hx, Option.bind_some, Option.map_map, show m - (acc ++ [x]).length = k by rw [List.length_append]; simp; omega]
  congr 1
  funext y
  simp
theorem lst_end (h : lstG one m r = (lstG one (m - acc.length) q).map fun y => acc ++ y) (hq : q = []) : lstG one m r = some acc := by
  rw [h]
  cases m - acc.length with
  | zero => rw [lstG, if_pos hq]; simp
  | succ k => rw [lstG, if_pos hq]; simp
end
theorem stksG_len : ∀ (n : Nat) (r q : Bs) (l : List Stk), stksG n r = some (l, q) → q.length ≤ r.length
  | 0, _, _, _, h => by rw [stksG] at h; cases h
  | n + 1, r, q, l, h => by
    rw [stksG] at h
    split at h
    · rw [Option.bind_eq_some_iff] at h
      obtain ⟨⟨x, r1⟩, h1, h2⟩ := h
      rw [Option.map_eq_some_iff] at h2
      obtain ⟨⟨l2, q2⟩, h3, h4⟩ := h2
      have h5 := stkR_len h1
      have h6 := stksG_len n _ _ _ h3
      rw [List.length_drop] at h5
      cases h4
      dsimp only at h6 ⊢
      omega
    · cases h; exact Nat.le_refl _
theorem rptR_len {r q : Bs} {x : Rpt} (h : rptR r = some (x, q)) : q.length ≤ r.length := by
  unfold rptR at h
  simp only [Option.bind_eq_some_iff, Option.map_eq_some_iff] at h
  obtain ⟨r1, h1, ⟨b, r2⟩, h2, r3, h3, ⟨st, r4⟩, h4, r5, h5, ⟨we, r6⟩, h6, r7, h7, ⟨l, q2⟩, h8, h9⟩ := h
  have := want_len h1
  have := num_len h2
  have := want_len h3
  have := span_len h4
  have := want_len h5
  have := span_len h6
  have := want_len h7
  have := stksG_len _ _ _ _ h8
  cases h9
  dsimp only at *
  omega
theorem colsG_len : ∀ (n : Nat) (acc : List Int) (r q : Bs) (l : List Int), colsG n acc r = some (l, q) → q.length ≤ r.length
  | 0, _, _, _, _, h => by rw [colsG] at h; cases h
  | n + 1, acc, r, q, l, h => by
    rw [colsG] at h
    split at h
    · rw [Option.bind_eq_some_iff] at h
      obtain ⟨⟨x, r1⟩, h1, h2⟩ := h
      have h5 := itmR_len h1
      rw [List.length_drop] at h5
      split at h2
      · cases h2
      · have h6 := colsG_len n _ _ _ _ h2
        dsimp only at h6
        omega
    · cases h; exact Nat.le_refl _
theorem pckR_len {r q : Bs} {x : Pck} (h : pckR r = some (x, q)) : q.length ≤ r.length := by
  unfold pckR at h
  simp only [Option.bind_eq_some_iff, Option.map_eq_some_iff] at h
  obtain ⟨⟨b, r1⟩, h1, r2, h2, ⟨l, r3⟩, h3, r4, h4, h5⟩ := h
  have := num_len h1
  have := want_len h2
  have := colsG_len _ _ _ _ _ h3
  have := want_len h4
  cases h5
  dsimp only at *
  omega
end Go.Proofs.YtplofbjppcbchaaDoor
end

section
set_option linter.unusedVariables false
set_option linter.unusedSimpArgs false
namespace Go.Proofs.YtplofbjppcbchaaDoor
open Go Go.AF
/-- What open answers: a value and a code. -/
def opnP {α : Type} (rd : Bs → Option (List α)) (ok : List α → Bool) (val : List α → PV) (s : Bs) : PV × Int := if 65536 < s.length then (.nilSlice, 3) else match rd s with
  | none => (.nilSlice, 8)
  | some l => if ok l then (val l, 0) else (.nilSlice, 8)
section
variable {α : Type} {rd : Bs → Option (List α)} {ok : List α → Bool} {val : List α → PV} {s : Bs} {l : List α}
theorem opn_big (h : 65536 < s.length) : opnP rd ok val s = (.nilSlice, 3) := by unfold opnP; rw [if_pos h]
theorem opn_no (h : s.length ≤ 65536) (h1 : rd s = none) : opnP rd ok val s = (.nilSlice, 8) := by unfold opnP; rw [if_neg (by omega), h1]
theorem opn_bad (h : s.length ≤ 65536) (h1 : rd s = some l) (h2 : ok l = false) : opnP rd ok val s = (.nilSlice, 8) := by unfold opnP; rw [if_neg (by omega), h1]; simp [h2]
theorem opn_ok (h : s.length ≤ 65536) (h1 : rd s = some l) (h2 : ok l = true) : opnP rd ok val s = (val l, 0) := by unfold opnP; rw [if_neg (by omega), h1]; simp [h2]
end
theorem lstG_all {α : Type} {one : Bs → Option (α × Bs)} {C : α → Prop} {N : Nat} (h : ∀ r x q, r.length ≤ N → one r = some (x, q) → C x ∧ q.length ≤ r.length) : ∀ (n : Nat) (r : Bs) (l : List α), r.length ≤ N → lstG one n r = some l → l.length ≤ n ∧ ∀ x ∈ l, C x
  | 0, r, l, hr, hl => by
    rw [lstG] at hl
    split at hl
    · cases hl; exact ⟨Nat.le_refl _, fun x hx => by cases hx⟩
    · cases hl
  | n + 1, r, l, hr, hl => by
    rw [lstG] at hl
    split at hl
    · cases hl; exact ⟨Nat.zero_le _, fun x hx => by cases hx⟩
    · rw [Option.bind_eq_some_iff] at hl
      obtain ⟨⟨x, q⟩, h1, h2⟩ := hl
      rw [Option.map_eq_some_iff] at h2
      obtain ⟨l2, h3, rfl⟩ := h2
      obtain ⟨h4, h5⟩ := h r x q hr h1
      obtain ⟨h6, h7⟩ := lstG_all h n q l2 (by omega) h3
      refine ⟨by simp; exact h6, fun y hy => ?_⟩
      rcases List.mem_cons.1 hy with rfl | hy
      · exact h4
      · exact h7 y hy
theorem stksG_n : ∀ (n : Nat) (r q : Bs) (l : List Stk), stksG n r = some (l, q) → l.length ≤ n
  | 0, _, _, _, h => by rw [stksG] at h; cases h
  | n + 1, r, q, l, h => by
    rw [stksG] at h
    split at h
    · rw [Option.bind_eq_some_iff] at h
      obtain ⟨⟨x, r1⟩, h1, h2⟩ := h
      rw [Option.map_eq_some_iff] at h2
      obtain ⟨⟨l2, q2⟩, h3, h4⟩ := h2
      have h6 := stksG_n n _ _ _ h3
      cases h4
      simp only [List.length_cons]
      omega
    · cases h; exact Nat.zero_le _
theorem rptR_n {r q : Bs} {x : Rpt} (hr : r.length ≤ 65536) (h : rptR r = some (x, q)) : x.strokes.length ≤ bigN ∧ q.length ≤ r.length := by
  refine ⟨?_, rptR_len h⟩
  unfold rptR at h
  simp only [Option.bind_eq_some_iff, Option.map_eq_some_iff] at h
  obtain ⟨r1, h1, ⟨b, r2⟩, h2, r3, h3, ⟨st, r4⟩, h4, r5, h5, ⟨we, r6⟩, h6, r7, h7, ⟨l, q2⟩, h8, h9⟩ := h
  have := want_len h1
  have := num_len h2
  have := want_len h3
  have := span_len h4
  have := want_len h5
  have := span_len h6
  have := want_len h7
  have := stksG_n _ _ _ _ h8
  cases h9
  unfold bigN
  dsimp only at *
  omega
theorem rpts_n {s : Bs} {l : List Rpt} (hs : s.length ≤ 65536) (h : lstG rptR 20 s = some l) : l.length ≤ bigN ∧ ∀ x ∈ l, x.strokes.length ≤ bigN := by
  have := lstG_all (C := fun x : Rpt => x.strokes.length ≤ bigN) (N := 65536) (fun r x q hr hx => rptR_n hr hx) 20 s l hs h
  exact ⟨Nat.le_trans this.1 (by decide), this.2⟩
theorem colsG_n : ∀ (n : Nat) (acc : List Int) (r q : Bs) (l : List Int), acc.length ≤ 48 → colsG n acc r = some (l, q) → l.length ≤ 48
  | 0, _, _, _, _, _, h => by rw [colsG] at h; cases h
  | n + 1, acc, r, q, l, ha, h => by
    rw [colsG] at h
    split at h
    · rw [Option.bind_eq_some_iff] at h
      obtain ⟨⟨x, r1⟩, h1, h2⟩ := h
      split at h2
      · cases h2
      · rename_i hm
        exact colsG_n n _ _ _ _ (by omega) h2
    · cases h; exact ha
theorem pcks_n {s : Bs} {l : List Pck} (hs : s.length ≤ 65536) (h : lstG pckR 30 s = some l) : l.length ≤ bigN ∧ ∀ x ∈ l, x.colours.length ≤ bigN := by
  have := lstG_all (C := fun x : Pck => x.colours.length ≤ bigN) (N := 65536) (fun r x q hr hx => ⟨by
    unfold pckR at hx
    simp only [Option.bind_eq_some_iff, Option.map_eq_some_iff] at hx
    obtain ⟨⟨b, r1⟩, h1, r2, h2, ⟨l, r3⟩, h3, r4, h4, h5⟩ := hx
    have := colsG_n _ _ _ _ _ (Nat.zero_le _) h3
    cases h5
    exact Nat.le_trans this (by decide), pckR_len hx⟩) 30 s l hs h
  exact ⟨Nat.le_trans this.1 (by decide), this.2⟩
/-- The cards that a text tells. -/
def crdsL (s : Bs) : Option (List Crd) := (crdsR s).map Prod.fst
theorem crdsG_n : ∀ (n : Nat) (next : Int) (r q : Bs) (l : List Crd), crdsG n next r = some (l, q) → l.length = n
  | 0, _, _, _, _, h => by rw [crdsG] at h; cases h; rfl
  | n + 1, next, r, q, l, h => by
    rw [crdsG, Option.bind_eq_some_iff] at h
    obtain ⟨⟨x, r1⟩, h1, h2⟩ := h
    rw [Option.map_eq_some_iff] at h2
    obtain ⟨⟨l2, q2⟩, h3, h4⟩ := h2
    have h6 := crdsG_n n _ _ _ _ h3
    cases h4
    simp only [List.length_cons]
    omega
theorem crdsL_of {s q : Bs} {l : List Crd} (h : crdsR s = some (l, q)) : crdsL s = some l := by unfold crdsL; rw [h]; rfl
theorem crdsL_no {s : Bs} (h : crdsR s = none) : crdsL s = none := by unfold crdsL; rw [h]; rfl
theorem crds_n {s : Bs} {l : List Crd} (h : crdsL s = some l) : l.length ≤ bigN := by
  unfold crdsL at h
  rw [Option.map_eq_some_iff] at h
  obtain ⟨⟨l2, q⟩, h1, rfl⟩ := h
  unfold crdsR at h1
  simp only [Option.bind_eq_some_iff] at h1
  obtain ⟨⟨a, r1⟩, _, ⟨b, r2⟩, _, ⟨c, r3⟩, _, ⟨m, r4⟩, _, h2⟩ := h1
  split at h2
  · rename_i hm
    rw [Option.bind_eq_some_iff] at h2
    obtain ⟨⟨l3, r5⟩, h3, h4⟩ := h2
    have h5 := crdsG_n _ _ _ _ _ h3
    unfold crdsE at h4
    rw [Option.bind_eq_some_iff] at h4
    obtain ⟨⟨z, r6⟩, _, h6⟩ := h4
    split at h6
    · cases h6
      have := hm.2
      unfold bigN
      dsimp only at *
      omega
    · cases h6
  · cases h2
/-! ### What is read -/
theorem opn_zero {α : Type} {rd : Bs → Option (List α)} {ok : List α → Bool} {val : List α → PV} {s : Bs} (h : (opnP rd ok val s).2 = 0) : s.length ≤ 65536 ∧ ∃ l, rd s = some l ∧ ok l = true ∧ opnP rd ok val s = (val l, 0) := by
  unfold opnP at h ⊢
  split at h
  · cases h
  · rename_i hs
    cases hr : rd s with
    | none => rw [hr] at h; cases h
    | some l =>
      rw [hr] at h
      cases hk : ok l with
      | false => simp [hk] at h
      | true => exact ⟨by omega, l, rfl, hk, by rw [if_neg hs]; simp [hk]⟩
abbrev opR (s : Bs) : PV × Int := opnP (lstG rptR 20) rptsB rptsV s
abbrev opC (s : Bs) : PV × Int := opnP crdsL crdsB crdsV s
abbrev opP (s : Bs) : PV × Int := opnP (lstG pckR 30) pcksB pcksV s
def rdC (s : Bs) : PV × Int := if (opC s).2 = 0 then (if sumB (s.take (s.length - 1)) = gt 0 s (s.length - 1) then ((opC s).1, 0) else (.nilSlice, 11)) else (.nilSlice, (opC s).2)
def rdP (s : Bs) : PV × Int := if (opP s).2 = 0 then (match lstG pckR 30 s with
  | some l => if (wrP l).1 = s then (pcksV l, 0) else (.nilSlice, 8)
  | none => (.nilSlice, 8)) else (.nilSlice, (opP s).2)
theorem rdP_e {s : Bs} (h : (opP s).2 ≠ 0) : rdP s = (.nilSlice, (opP s).2) := by unfold rdP; rw [if_neg h]
theorem rdP_no {s : Bs} {l : List Pck} (h : (opP s).2 = 0) (hl : lstG pckR 30 s = some l) (hw : (wrP l).1 ≠ s) : rdP s = (.nilSlice, 8) := by unfold rdP; rw [if_pos h, hl]; simp [hw]
theorem rdP_ok {s : Bs} {l : List Pck} (h : (opP s).2 = 0) (hl : lstG pckR 30 s = some l) (hw : (wrP l).1 = s) : rdP s = (pcksV l, 0) := by unfold rdP; rw [if_pos h, hl]; simp [hw]
theorem rdC_e {s : Bs} (h : (opC s).2 ≠ 0) : rdC s = (.nilSlice, (opC s).2) := by unfold rdC; rw [if_neg h]
theorem rdC_no {s : Bs} (h : (opC s).2 = 0) (hw : sumB (s.take (s.length - 1)) ≠ gt 0 s (s.length - 1)) : rdC s = (.nilSlice, 11) := by unfold rdC; rw [if_pos h, if_neg hw]
theorem rdC_ok {s : Bs} {l : List Crd} (h : (opC s).2 = 0) (hE : opC s = (crdsV l, 0)) (hw : sumB (s.take (s.length - 1)) = gt 0 s (s.length - 1)) : rdC s = (crdsV l, 0) := by unfold rdC; rw [if_pos h, if_pos hw, hE]
theorem crds_ne {s : Bs} {l : List Crd} (h : crdsL s = some l) : 0 < s.length := by
  cases s with
  | nil => cases h
  | cons b t => exact Nat.succ_pos _
theorem crd_sum {a b : UInt8} {w : Bool} (h : (!decide ((a.toNat : Int) = (b.toNat : Int))) = w) : w = true ↔ a ≠ b := by
  subst h
  have e : (a.toNat : Int) = (b.toNat : Int) ↔ a = b := by rw [Int.natCast_inj, UInt8.toNat_inj]
  simp [e]
/-! ### Sameness -/
theorem same_step {α : Type} (d : α) {a b : List α} {i : Nat} (ha : i < a.length) (hb : i < b.length) (h : a.take i = b.take i) (he : gt d a i = gt d b i) : a.take (i + 1) = b.take (i + 1) := by
  have h1 : a[i]? = some (gt d a i) := by rw [List.getElem?_eq_getElem ha, gt_get d i ha]
  have h2 : b[i]? = some (gt d b i) := by rw [List.getElem?_eq_getElem hb, gt_get d i hb]
  rw [List.take_add_one, List.take_add_one, h, h1, h2, he]
theorem same_end {α : Type} {a b : List α} (hl : a.length = b.length) (h : a.take a.length = b.take a.length) : a = b := by
  rw [List.take_length] at h
  rw [h, hl, List.take_length]
theorem same_no {α : Type} (d : α) {a b : List α} {i : Nat} (he : gt d a i ≠ gt d b i) : a ≠ b := fun h => he (by rw [h])
theorem crd_same {x y : Crd} {w : Bool} (h : (if BinOp.neq = BinOp.eql then (x.number == y.number && (x.hour == y.hour && (x.shade == y.shade && (x.places == y.places && (x.many == y.many && true))))) else !(x.number == y.number && (x.hour == y.hour && (x.shade == y.shade && (x.places == y.places && (x.many == y.many && true)))))) = w) : w = true ↔ x ≠ y := by
  rw [if_neg (by decide)] at h
  subst h
  cases x
  cases y
  rw [Bool.not_eq_true', ← Bool.not_eq_true]
  refine not_congr ?_
  simp
theorem Pck.ext2 {x y : Pck} (h1 : x.box = y.box) (h2 : x.colours = y.colours) : x = y := by
  cases x; cases y; cases h1; cases h2; rfl
theorem after_c {s w : Bs} {b : Bool} (h : (decide ((s.length : Int) < (w.length : Int)) || !decide ((s.drop 0).take (w.length - 0) = w)) = b) : preB w s = !b := by
  subst h
  rw [Bool.not_or, Bool.not_not, Bool.and_comm, ← decide_not]
  unfold preB
  congr 1
  exact decide_eq_decide.2 (by omega)
end Go.Proofs.YtplofbjppcbchaaDoor
end

section
set_option linter.unusedVariables false
set_option linter.unusedSimpArgs false
namespace Go.Proofs.YtplofbjppcbchaaDoor
open Go Go.AF
theorem Rpt.ext4 {x y : Rpt} (h1 : x.batch = y.batch) (h2 : x.strokes = y.strokes) (h3 : x.strength = y.strength) (h4 : x.wear = y.wear) : x = y := by
  cases x; cases y; cases h1; cases h2; cases h3; cases h4; rfl
theorem Spn.ext2 {x y : Spn} (h1 : x.lo = y.lo) (h2 : x.hi = y.hi) : x = y := by
  cases x; cases y; cases h1; cases h2; rfl
theorem rpt_ne {x y : Rpt} (h : (((!decide (x.batch = y.batch) || (if BinOp.neq = BinOp.eql then (x.strength.lo == y.strength.lo && (x.strength.hi == y.strength.hi && true)) else !(x.strength.lo == y.strength.lo && (x.strength.hi == y.strength.hi && true)))) || (if BinOp.neq = BinOp.eql then (x.wear.lo == y.wear.lo && (x.wear.hi == y.wear.hi && true)) else !(x.wear.lo == y.wear.lo && (x.wear.hi == y.wear.hi && true)))) || !decide ((x.strokes.length : Int) = (y.strokes.length : Int))) = true) : x ≠ y := by
  rintro rfl
  simp at h
theorem rpt_eq {x y : Rpt} (h : (((!decide (x.batch = y.batch) || (if BinOp.neq = BinOp.eql then (x.strength.lo == y.strength.lo && (x.strength.hi == y.strength.hi && true)) else !(x.strength.lo == y.strength.lo && (x.strength.hi == y.strength.hi && true)))) || (if BinOp.neq = BinOp.eql then (x.wear.lo == y.wear.lo && (x.wear.hi == y.wear.hi && true)) else !(x.wear.lo == y.wear.lo && (x.wear.hi == y.wear.hi && true)))) || !decide ((x.strokes.length : Int) = (y.strokes.length : Int))) = false) : x.batch = y.batch ∧ x.strength = y.strength ∧ x.wear = y.wear ∧ x.strokes.length = y.strokes.length := by
  rw [if_neg (by decide), if_neg (by decide)] at h
  simp only [Bool.or_eq_false_iff, Bool.not_eq_false', Bool.and_eq_true, decide_eq_true_eq, beq_iff_eq, and_true] at h
  obtain ⟨⟨⟨h1, h2⟩, h3⟩, h4⟩ := h
  exact ⟨h1, Spn.ext2 h2.1 h2.2, Spn.ext2 h3.1 h3.2, by omega⟩
theorem stk_ne {x y : Stk} (h : (if BinOp.neq = BinOp.eql then (x.read.lo == y.read.lo && (x.read.hi == y.read.hi && (x.paper.lo == y.paper.lo && (x.paper.hi == y.paper.hi && true)))) else !(x.read.lo == y.read.lo && (x.read.hi == y.read.hi && (x.paper.lo == y.paper.lo && (x.paper.hi == y.paper.hi && true))))) = true) : x ≠ y := by
  rintro rfl
  simp at h
theorem stk_eq {x y : Stk} (h : (if BinOp.neq = BinOp.eql then (x.read.lo == y.read.lo && (x.read.hi == y.read.hi && (x.paper.lo == y.paper.lo && (x.paper.hi == y.paper.hi && true)))) else !(x.read.lo == y.read.lo && (x.read.hi == y.read.hi && (x.paper.lo == y.paper.lo && (x.paper.hi == y.paper.hi && true))))) = false) : x = y := by
  rw [if_neg (by decide)] at h
  simp only [Bool.not_eq_false', Bool.and_eq_true, beq_iff_eq, and_true] at h
  cases x with | mk r p => cases y with | mk r2 p2 =>
  have h1 : r = r2 := Spn.ext2 h.1 h.2.1
  have h2 : p = p2 := Spn.ext2 h.2.2.1 h.2.2.2
  rw [h1, h2]
/-! ### The document's examples -/
def exR : List Rpt := [⟨12, [⟨⟨40, 45⟩, ⟨500, 500⟩⟩, ⟨⟨70, 80⟩, ⟨900, 1000⟩⟩], ⟨150, 160⟩, ⟨30, 30⟩⟩, ⟨15, [], ⟨100, 100⟩, ⟨0, 5⟩⟩]
def exC : List Crd := [⟨5, 300, 2, 5, 200⟩, ⟨7, 301, 0, 0, 5⟩]
def exP : List Pck := [⟨7, [0, 1, 2, 3, 5, 8, 8]⟩, ⟨9, [4, 4, 4, 5, 6, 7]⟩, ⟨10, [1, 2, 4]⟩]
def exRT : Bs := [98, 97, 116, 99, 104, 32, 49, 50, 10, 115, 116, 114, 101, 110, 103, 116, 104, 32, 49, 53, 48, 46, 46, 49, 54, 48, 10, 119, 101, 97, 114, 32, 51, 48, 10, 115, 116, 114, 111, 107, 101, 32, 52, 48, 46, 46, 52, 53, 32, 111, 110, 32, 53, 48, 48, 10, 115, 116, 114, 111, 107, 101, 32, 55, 48, 46, 46, 56, 48, 32, 111, 110, 32, 57, 48, 48, 46, 46, 49, 48, 48, 48, 10, 98, 97, 116, 99, 104, 32, 49, 53, 10, 115, 116, 114, 101, 110, 103, 116, 104, 32, 49, 48, 48, 10, 119, 101, 97, 114, 32, 48, 46, 46, 53, 10]
def exCT : Bs := [80, 67, 1, 2, 5, 172, 2, 2, 5, 200, 1, 1, 173, 2, 0, 0, 5, 206]
def exPT : Bs := [55, 58, 32, 48, 45, 51, 32, 53, 32, 56, 120, 50, 10, 57, 58, 32, 52, 120, 51, 32, 53, 45, 55, 10, 49, 48, 58, 32, 49, 32, 50, 32, 52, 10]
theorem ex_wR : wrR exR = (exRT, 0) := by decide +kernel
theorem ex_wC : wrC exC = (exCT, 0) := by decide +kernel
theorem ex_wP : wrP exP = (exPT, 0) := by decide +kernel
theorem ex_lR : lstG rptR 20 exRT = some exR := by decide +kernel
theorem ex_lC : crdsL exCT = some exC := by decide +kernel
theorem ex_lP : lstG pckR 30 exPT = some exP := by decide +kernel
theorem ex_rR : opR exRT = (rptsV exR, 0) := opn_ok (by decide) ex_lR (by decide +kernel)
theorem ex_rC : rdC exCT = (crdsV exC, 0) := by
  have h : opC exCT = (crdsV exC, 0) := opn_ok (by decide) ex_lC (by decide +kernel)
  exact rdC_ok (by rw [h]) h (by decide +kernel)
theorem ex_rP : rdP exPT = (pcksV exP, 0) := by
  have h : opP exPT = (pcksV exP, 0) := opn_ok (by decide) ex_lP (by decide +kernel)
  exact rdP_ok (by rw [h]) ex_lP (by rw [ex_wP])
/-! ### What a statement looks at -/
def manyB (r : List Rpt) (c : List Crd) (p : List Pck) : Bool := r.any (fun x => decide ((x.strokes.length : Int) > 12)) || p.any (fun x => decide ((x.colours.length : Int) > 60)) || (decide ((r.length : Int) > 28) || decide ((c.length : Int) > 50) || decide ((p.length : Int) > 40))
theorem many_not {r : List Rpt} {c : List Crd} {p : List Pck} (h : manyB r c p = false) : r.length ≤ 28 ∧ c.length ≤ 50 ∧ p.length ≤ 40 ∧ (∀ x ∈ r, x.strokes.length ≤ 12) ∧ ∀ x ∈ p, x.colours.length ≤ 60 := by
  simp only [manyB, Bool.or_eq_false_iff, decide_eq_false_iff_not, List.any_eq_false, decide_eq_true_eq] at h
  obtain ⟨⟨h1, h2⟩, ⟨h3, h4⟩, h5⟩ := h
  exact ⟨by omega, by omega, by omega, fun x hx => by have := h1 x hx; omega, fun x hx => by have := h2 x hx; omega⟩
theorem any_take {α : Type} (d : α) (f : α → Bool) {l : List α} {i : Nat} (h : i < l.length) (h1 : (l.take i).any f = false) (h2 : f (gt d l i) = false) : (l.take (i + 1)).any f = false := by
  rw [List.take_succ_eq_append_getElem h, List.any_append, h1, gt_get d i h]
  simpa using h2
theorem any_gt {α : Type} (d : α) (f : α → Bool) {l : List α} {i : Nat} (h : i < l.length) (h2 : f (gt d l i) = true) : l.any f = true := List.any_eq_true.2 ⟨_, gt_mem d h, h2⟩
end Go.Proofs.YtplofbjppcbchaaDoor
end

section
set_option linter.unusedVariables false
set_option linter.unusedSimpArgs false
namespace Go.Proofs.YtplofbjppcbchaaDoor
open Go Go.AF
/-! ### Numbers -/
theorem dg_toNat {d : Nat} (h : d < 10) : (UInt8.ofNat (48 + d)).toNat = 48 + d := by rw [UInt8.toNat_ofNat']; omega
theorem dg_dig {d : Nat} (h : d < 10) : digB (UInt8.ofNat (48 + d)) = true := by
  unfold digB
  rw [dg_toNat h]
  simp
  omega
theorem dec_small {u : Nat} (h : u < 10) : Lib.decDigits u = [UInt8.ofNat (48 + u)] := by rw [Lib.decDigits, dif_pos h]
theorem dec_big {u : Nat} (h : 10 ≤ u) : Lib.decDigits u = Lib.decDigits (u / 10) ++ [UInt8.ofNat (48 + u % 10)] := by rw [Lib.decDigits, dif_neg (by omega)]
theorem dec_all (u : Nat) : ∀ b ∈ Lib.decDigits u, digB b = true := by
  induction u using Nat.strongRecOn with
  | _ u ih =>
    intro b hb
    by_cases h : u < 10
    · rw [dec_small h] at hb
      rw [List.mem_singleton.1 hb]
      exact dg_dig h
    · rw [dec_big (by omega)] at hb
      rcases List.mem_append.1 hb with hb | hb
      · exact ih (u / 10) (by omega) b hb
      · rw [List.mem_singleton.1 hb]
        exact dg_dig (Nat.mod_lt _ (by decide))
theorem dec_pos (u : Nat) : 0 < (Lib.decDigits u).length := by
  by_cases h : u < 10
  · rw [dec_small h]; exact Nat.succ_pos _
  · rw [dec_big (by omega)]; simp
theorem dec_val (u : Nat) : valD (Lib.decDigits u) = u := by
  induction u using Nat.strongRecOn with
  | _ u ih =>
    by_cases h : u < 10
    · rw [dec_small h]
      show 10 * 0 + ((UInt8.ofNat (48 + u)).toNat - 48) = u
      rw [dg_toNat h]; omega
    · rw [dec_big (by omega), valD_app, ih (u / 10) (by omega), dg_toNat (Nat.mod_lt _ (by decide))]
      omega
theorem dec_head (u : Nat) (hu : u ≠ 0) : (Lib.decDigits u)[0]? ≠ some 48 := by
  induction u using Nat.strongRecOn with
  | _ u ih =>
    by_cases h : u < 10
    · rw [dec_small h]
      intro e
      have e2 := congrArg UInt8.toNat (Option.some.inj e)
      rw [dg_toNat h] at e2
      have : (48 : UInt8).toNat = 48 := rfl
      omega
    · rw [dec_big (by omega), List.getElem?_append_left (dec_pos _)]
      exact ih (u / 10) (by omega) (by omega)
theorem dec_len9 {u : Nat} (h : u < 1000000000) : (Lib.decDigits u).length ≤ 9 := dec_len 8 u (by
  have : (10 : Nat) ^ (8 + 1) = 1000000000 := by decide
  omega)
theorem itoa_nat {n : Int} (h : 0 ≤ n) : Lib.itoa n = Lib.decDigits n.toNat := by unfold Lib.itoa; rw [if_neg (by omega)]
theorem itoa_cast (n : Nat) : Lib.itoa (n : Int) = Lib.decDigits n := by rw [itoa_nat (by omega), Int.toNat_natCast]
/-- What cannot go on a number. -/
def ndH (t : Bs) : Prop := ∀ b, t[0]? = some b → digB b = false
theorem digN_app {s t : Bs} (h : ∀ b ∈ s, digB b = true) (ht : ndH t) : digN (s ++ t) = s.length := by
  refine digN_char _ _ (fun j hj => ⟨s[j], by rw [List.getElem?_append_left hj, List.getElem?_eq_getElem hj], h _ (List.getElem_mem _)⟩) (fun b hb => ht b ?_)
  rw [List.getElem?_append_right (Nat.le_refl _)] at hb
  simpa using hb
theorem num_itoa {n : Int} {t : Bs} (h0 : 0 ≤ n) (h1 : n < 1000000000) (ht : ndH t) : numP (Lib.itoa n ++ t) = some (n, t) := by
  obtain ⟨u, rfl⟩ := Int.eq_ofNat_of_zero_le h0
  rw [itoa_cast]
  have hd := digN_app (dec_all u) ht
  have hp := dec_pos u
  have h9 := dec_len9 (u := u) (by omega)
  have hb : numBad (Lib.decDigits u ++ t) = false := by
    unfold numBad
    rw [hd, decide_eq_false (by omega), decide_eq_false (by omega), Bool.false_or, Bool.false_or, List.getElem?_append_left hp]
    by_cases hu : u < 10
    · rw [dec_small hu]; rfl
    · rw [decide_eq_false (dec_head u (by omega)), Bool.and_false]
  rw [num_some hb, hd, List.take_left, List.drop_left, dec_val]
/-! ### Words -/
theorem pre_app (s t : Bs) : preB s (s ++ t) = true := preB_iff.2 ⟨by rw [List.take_left], by rw [List.length_append]; omega⟩
theorem want_app (s t : Bs) : wantP s (s ++ t) = some t := by unfold wantP; rw [if_pos (pre_app s t), List.drop_left]
theorem pre_head {c d : UInt8} {s t : Bs} (h : c ≠ d) : preB (c :: s) (d :: t) = false := by
  unfold preB
  rw [decide_eq_false, Bool.false_and]
  rw [List.length_cons, List.take_succ_cons]
  intro e
  exact h (List.cons.inj e).1.symm
theorem ndH_nil : ndH [] := fun b h => by cases h
theorem ndH_cons {c : UInt8} {t : Bs} (h : digB c = false) : ndH (c :: t) := fun b hb => by cases hb; exact h
theorem ndH_app {c : UInt8} {s t : Bs} (h : digB c = false) : ndH ((c :: s) ++ t) := ndH_cons h
end Go.Proofs.YtplofbjppcbchaaDoor
end

section
set_option linter.unusedVariables false
set_option linter.unusedSimpArgs false
namespace Go.Proofs.YtplofbjppcbchaaDoor
open Go Go.AF
def repI (x : Itm) : List Int := List.replicate x.many x.fr
theorem gt_last {α : Type} (d : α) (B : List α) (z : α) : gt d (B ++ [z]) ((B ++ [z]).length - 1) = z := by
  unfold gt
  rw [List.getD_eq_getElem?_getD, show (B ++ [z]).length - 1 = B.length by simp, List.getElem?_append_right (Nat.le_refl _), Nat.sub_self]
  rfl
theorem addC_rep (A : List Itm) (c : Int) : (addC A c).flatMap repI = A.flatMap repI ++ [c] := by
  by_cases h : 0 < A.length ∧ (gt Itm.d A (A.length - 1)).fr = c
  · rw [addC_yes h.1 h.2]
    rcases List.eq_nil_or_concat A with rfl | ⟨B, z, rfl⟩
    · exact absurd h.1 (by decide)
    · rw [List.concat_eq_append] at *
      rw [gt_last] at h ⊢
      rw [show (B ++ [z]).length - 1 = B.length by simp, List.set_append_right _ _ (Nat.le_refl _), Nat.sub_self, List.set_cons_zero, List.flatMap_append, List.flatMap_append, List.append_assoc]
      congr 1
      rw [List.flatMap_singleton, List.flatMap_singleton]
      unfold repI
      rw [← h.2]
      exact List.replicate_succ'
  · rw [addC_no h, List.flatMap_append]
    rfl
theorem fold_rep : ∀ (l : List Int) (A : List Itm), (l.foldl addC A).flatMap repI = A.flatMap repI ++ l
  | [], A => by simp
  | c :: l, A => by rw [List.foldl_cons, fold_rep l, addC_rep, List.append_assoc]; rfl
theorem grp_rep (l : List Int) : (grp l).flatMap repI = l := fold_rep l []
theorem addC_pos {A : List Itm} {c : Int} (h : ∀ x ∈ A, 1 ≤ x.many) : ∀ x ∈ addC A c, 1 ≤ x.many := by
  intro x hx
  unfold addC at hx
  split at hx
  · rcases List.mem_or_eq_of_mem_set hx with hx | rfl
    · exact h x hx
    · show 1 ≤ _ + 1; omega
  · rcases List.mem_append.1 hx with hx | hx
    · exact h x hx
    · rw [List.mem_singleton.1 hx]; exact Nat.le_refl _
theorem fold_pos : ∀ (l : List Int) (A : List Itm), (∀ x ∈ A, 1 ≤ x.many) → ∀ x ∈ l.foldl addC A, 1 ≤ x.many
  | [], A, h => h
  | c :: l, A, h => fold_pos l _ (addC_pos h)
theorem grp_pos (l : List Int) : ∀ x ∈ grp l, 1 ≤ x.many := fold_pos l [] fun x hx => by cases hx
theorem runL_at : ∀ (r : List Itm) (c : Int) (j : Nat), j < runL c r → r[j]? = some ⟨c + 1 + j, c + 1 + j, 1⟩
  | [], c, j, h => by cases h
  | y :: r, c, j, h => by
    rw [runL] at h
    split at h
    · rename_i hy
      cases j with
      | zero => rw [hy]; simp
      | succ j =>
        rw [List.getElem?_cons_succ, runL_at r (c + 1) j (by omega)]
        simp only [Option.some.injEq, Itm.mk.injEq, and_true]
        constructor <;> (push_cast; omega)
    · cases h
theorem run_rep (c : Int) (r : List Itm) : ∀ k, k ≤ runL c r → (r.take k).flatMap repI = (List.range k).map fun (j : Nat) => c + 1 + (j : Int)
  | 0, _ => rfl
  | k + 1, h => by
    have h1 := runL_at r c k (by omega)
    obtain ⟨h2, h3⟩ := List.getElem?_eq_some_iff.1 h1
    rw [List.take_succ_eq_append_getElem h2, List.flatMap_append, run_rep c r k (by omega), h3, List.range_succ, List.map_append]
    rfl
theorem sprT_run (x : Itm) (h : x.many = 1) : ∀ k, sprT x k = (List.range k).map fun (j : Nat) => x.fr + (j : Int)
  | 0 => rfl
  | k + 1 => by
    rw [sprT_succ, sprT_run x h k, List.range_succ, List.map_append, h]
    rfl
theorem sprd_one {x : Itm} (h : ItmOk 48 x) : sprd x = repI x := by
  obtain ⟨h0, h1, h2, h3⟩ := h
  unfold sprd
  have e : sprN x = 1 := by unfold sprN; omega
  rw [e]
  show List.flatMap _ [0] = _
  rw [List.flatMap_singleton]
  unfold repI
  rw [Nat.min_eq_left (by omega)]
  simp
theorem itm_rep : ∀ (n : Nat) (G : List Itm), G.length ≤ n → (∀ x ∈ G, ItmOk 48 x) → (itm G).flatMap sprd = G.flatMap repI
  | n, [], _, _ => by rw [itm]; rfl
  | 0, x :: r, h, _ => by simp at h
  | n + 1, x :: r, h, hx => by
    rw [itm_eq]
    have hr := runK_le x r
    have h0 := hx x (by simp)
    simp only [List.length_cons] at h
    split
    · rename_i h2
      have hm : x.many = 1 := by
        rcases Decidable.em (x.many = 1) with e | e
        · exact e
        · unfold runK at h2; rw [if_neg e] at h2; omega
      have hk : runK x r = runL x.fr r := by unfold runK; rw [if_pos hm]
      rw [hk] at h2 hr ⊢
      rw [List.flatMap_cons, itm_rep n (r.drop (runL x.fr r)) (by rw [List.length_drop]; omega) fun y hy => hx y (by simp [List.mem_of_mem_drop hy]), List.flatMap_cons]
      have hl : x.fr + (runL x.fr r : Int) ≤ 99 := by
        have h3 := runL_at r x.fr (runL x.fr r - 1) (by omega)
        have h4 := (hx _ (List.mem_cons_of_mem _ (List.mem_of_getElem? h3))).2.1
        simp only at h4
        omega
      conv => rhs; rw [← List.take_append_drop (runL x.fr r) r, List.flatMap_append, run_rep x.fr r _ (Nat.le_refl _)]
      rw [← List.append_assoc]
      congr 1
      unfold sprd
      have e : sprN ⟨x.fr, x.fr + (runL x.fr r : Int), 1⟩ = runL x.fr r + 1 := by
        unfold sprN
        dsimp only
        have := h0.1
        omega
      rw [e, sprT_run _ rfl, List.range_succ_eq_map, List.map_cons, List.map_map]
      unfold repI
      rw [hm]
      show _ :: _ = _ :: _
      congr 1
      · show x.fr + ((0 : Nat) : Int) = x.fr; omega
      · refine List.map_congr_left fun j _ => ?_
        show x.fr + ((j + 1 : Nat) : Int) = x.fr + 1 + (j : Int)
        omega
    · rw [List.flatMap_cons, List.flatMap_cons, itm_rep n r (by omega) fun y hy => hx y (by simp [hy]), sprd_one h0]
/-- An item as it is written. -/
def CanI (x : Itm) : Prop := 0 ≤ x.fr ∧ x.fr ≤ 99 ∧ x.fr ≤ x.to ∧ x.to < 1000000000 ∧ 1 ≤ x.many ∧ x.many ≤ 48 ∧ (1 < x.many → x.to = x.fr)
theorem itm_can : ∀ (n : Nat) (G : List Itm), G.length ≤ n → n ≤ 1000 → (∀ x ∈ G, ItmOk 48 x ∧ 1 ≤ x.many) → ∀ y ∈ itm G, CanI y
  | n, [], _, _, _, y, hy => by rw [itm] at hy; cases hy
  | 0, x :: r, h, _, _, _, _ => by simp at h
  | n + 1, x :: r, h, hn, hx, y, hy => by
    rw [itm_eq] at hy
    have hr := runK_le x r
    obtain ⟨⟨a, b, c, d⟩, e⟩ := hx x (by simp)
    simp only [List.length_cons] at h
    split at hy
    · rcases List.mem_cons.1 hy with rfl | hy
      · refine ⟨a, b, ?_, ?_, ?_, ?_, fun h => ?_⟩
        · show x.fr ≤ x.fr + _; omega
        · show x.fr + _ < _; omega
        · show 1 ≤ 1; omega
        · show 1 ≤ 48; omega
        · exact absurd (show 1 < 1 from h) (by decide)
      · exact itm_can n (r.drop (runK x r)) (by rw [List.length_drop]; omega) (by omega) (fun z hz => hx z (by simp [List.mem_of_mem_drop hz])) y hy
    · rcases List.mem_cons.1 hy with rfl | hy
      · exact ⟨a, b, by omega, by omega, e, d, fun _ => c⟩
      · exact itm_can n r (by omega) (by omega) (fun z hz => hx z (by simp [hz])) y hy
/-- What is behind an item. -/
def itmZ (x : Itm) : Bs := if 1 < x.many then [120] ++ Lib.itoa (x.many : Int) else if x.fr < x.to then [45] ++ Lib.itoa x.to else []
theorem itmT_z (x : Itm) (t : Bs) : itmT x ++ t = [32] ++ (Lib.itoa x.fr ++ (itmZ x ++ t)) := by
  unfold itmT itmZ
  simp only [List.append_assoc]
def sepH (T : Bs) : Prop := ∃ c t, T = c :: t ∧ (c = 32 ∨ c = 10)
theorem sepH_nd {T : Bs} (h : sepH T) : ndH T := by
  obtain ⟨c, t, rfl, rfl | rfl⟩ := h
  · exact ndH_cons rfl
  · exact ndH_cons rfl
theorem sepH_pre {T : Bs} {c : UInt8} {s : Bs} (h : sepH T) (h1 : c ≠ 32) (h2 : c ≠ 10) : preB (c :: s) T = false := by
  obtain ⟨d, t, rfl, rfl | rfl⟩ := h
  · exact pre_head h1
  · exact pre_head h2
theorem itm_app {x : Itm} {T : Bs} (h : CanI x) (hT : sepH T) : itmR (Lib.itoa x.fr ++ (itmZ x ++ T)) = some (x, T) := by
  obtain ⟨h0, h1, h2, h3, h4, h5, h6⟩ := h
  obtain ⟨fr, to, many⟩ := x
  dsimp only at *
  obtain ⟨f, rfl⟩ := Int.eq_ofNat_of_zero_le h0
  by_cases hm : 1 < many
  · have ez : itmZ ⟨f, to, many⟩ = [120] ++ Lib.itoa (many : Int) := by unfold itmZ; rw [if_pos hm]
    rw [ez, List.append_assoc]
    have := itmR_m (r := Lib.itoa (f : Int) ++ ([120] ++ (Lib.itoa (many : Int) ++ T))) (num_itoa h0 (by omega) (ndH_app (c := 120) (s := []) rfl)) (pre_app [120] _) (num_itoa (by omega) (by omega) (sepH_nd hT))
    rw [this, h6 hm]
  · by_cases ht : (f : Int) < to
    · have ez : itmZ ⟨f, to, many⟩ = [45] ++ Lib.itoa to := by unfold itmZ; rw [if_neg hm, if_pos ht]
      rw [ez, List.append_assoc]
      have := itmR_t (r := Lib.itoa (f : Int) ++ ([45] ++ (Lib.itoa to ++ T))) (num_itoa h0 (by omega) (ndH_app (c := 45) (s := []) rfl)) (pre_head (by decide)) (pre_app [45] _) (num_itoa (by omega) (by omega) (sepH_nd hT))
      rw [this, show many = 1 by omega]
    · have ez : itmZ ⟨f, to, many⟩ = [] := by unfold itmZ; rw [if_neg hm, if_neg ht]
      rw [ez, List.nil_append]
      have := itmR_1 (r := Lib.itoa (f : Int) ++ T) (num_itoa h0 (by omega) (sepH_nd hT)) (sepH_pre hT (by decide) (by decide)) (sepH_pre hT (by decide) (by decide))
      rw [this, show many = 1 by omega, show to = (f : Int) by omega]
theorem itmsH : ∀ (l : List Itm) {T : Bs}, sepH T → sepH (l.flatMap itmT ++ T)
  | [], _, h => h
  | x :: l, T, h => ⟨32, _, by rw [List.flatMap_cons, List.append_assoc, itmT_z]; rfl, .inl rfl⟩
theorem cols_app : ∀ (l : List Itm) (acc : List Int) {t : Bs}, (∀ x ∈ l, CanI x) → (acc ++ l.flatMap sprd).length ≤ 48 → colsP acc (l.flatMap itmT ++ 10 :: t) = some (acc ++ l.flatMap sprd, 10 :: t)
  | [], acc, t, _, _ => by
    unfold colsP
    rw [colsG, if_neg (by rw [show List.flatMap itmT [] ++ 10 :: t = 10 :: t from rfl, pre_head (by decide)]; decide)]
    simp
  | x :: l, acc, t, h, hl => by
    have hlen : (acc ++ sprd x).length ≤ 48 := by
      rw [List.flatMap_cons] at hl
      simp only [List.length_append] at hl ⊢
      omega
    rw [List.flatMap_cons, List.append_assoc, itmT_z, colsP_yes (pre_app _ _), show (([32] : Bs) ++ (Lib.itoa x.fr ++ (itmZ x ++ (l.flatMap itmT ++ 10 :: t)))).drop 1 = Lib.itoa x.fr ++ (itmZ x ++ (l.flatMap itmT ++ 10 :: t)) from rfl, itm_app (h x (by simp)) (itmsH l ⟨10, t, rfl, .inr rfl⟩), Option.bind_some]
    dsimp only
    rw [if_neg (by omega), cols_app l (acc ++ sprd x) (fun y hy => h y (by simp [hy])) (by rw [List.append_assoc, ← List.flatMap_cons]; exact hl), List.append_assoc, ← List.flatMap_cons]
def PckR (p : Pck) : Prop := 0 ≤ p.box ∧ p.box < 1000000000 ∧ pckB p = true
theorem pck_items {p : Pck} (h : pckB p = true) : (itm (grp p.colours)).flatMap sprd = p.colours ∧ ∀ y ∈ itm (grp p.colours), CanI y := by
  obtain ⟨h1, h2, h3⟩ := pckB_some h
  obtain ⟨k1, k2⟩ := grp_ok p.colours p.colours.length (Nat.le_refl _) h1
  rw [List.take_length] at k1 k2
  have k3 : ∀ x ∈ grp p.colours, ItmOk 48 x := fun x hx => let ⟨a, b, c, d⟩ := k2 x hx; ⟨a, b, c, by omega⟩
  exact ⟨by rw [itm_rep _ _ (Nat.le_refl _) k3, grp_rep], itm_can _ _ (Nat.le_refl _) (by omega) fun x hx => ⟨k3 x hx, grp_pos _ x hx⟩⟩
theorem pckT_eq (p : Pck) (t : Bs) : pckT p ++ t = Lib.itoa p.box ++ ([58] ++ ((itm (grp p.colours)).flatMap itmT ++ 10 :: t)) := by
  simp [pckT, itmsT]
theorem pck_app {p : Pck} (t : Bs) (h : PckR p) : pckR (pckT p ++ t) = some (p, t) := by
  obtain ⟨h0, h1, h2⟩ := h
  obtain ⟨e1, e2⟩ := pck_items h2
  have h3 := (pckB_some h2).2.2
  unfold pckR
  rw [pckT_eq, num_itoa h0 h1 (ndH_app (c := 58) (s := []) rfl), Option.bind_some]
  dsimp only
  rw [want_app, Option.bind_some, cols_app _ [] e2 (by rw [List.nil_append, e1]; exact h3), Option.bind_some]
  dsimp only
  rw [show (10 :: t : Bs) = [10] ++ t from rfl, want_app, List.nil_append, e1]
  rfl
theorem pcks_app : ∀ (n : Nat) (l : List Pck), l.length ≤ n → (∀ x ∈ l, PckR x) → lstG pckR n (l.flatMap pckT) = some l
  | 0, [], _, _ => rfl
  | n + 1, [], _, _ => rfl
  | 0, x :: l, h, _ => by simp at h
  | n + 1, x :: l, h, hx => by
    rw [List.flatMap_cons, lstG, if_neg (by
      have := itoa_pos x.box
      intro e
      have e2 := congrArg List.length e
      rw [pckT_eq, List.length_append] at e2
      simp at e2), pck_app _ (hx x (by simp)), Option.bind_some, pcks_app n l (by simpa using h) fun y hy => hx y (by simp [hy])]
    rfl
theorem pcks_R {l : List Pck} (h : pcksB l = true) : ∀ x ∈ l, PckR x := fun x hx => by
  obtain ⟨_, h0, h1, h2⟩ := rise_all h (by decide) x hx
  exact ⟨h0, by omega, h2⟩
theorem pcks_back {l : List Pck} (hl : l.length ≤ 30) (h : pcksB l = true) : lstG pckR 30 (pcksT l) = some l := pcks_app 30 l hl (pcks_R h)
theorem wrP_ok {l : List Pck} (h : (wrP l).2 = 0) : l.length ≤ 30 ∧ pcksB l = true ∧ (wrP l).1 = pcksT l ∧ (pcksT l).length ≤ 40770 ∧ rdP (pcksT l) = (pcksV l, 0) := by
  by_cases hz : chkN l.length 30 (pcksB l) = 0
  · obtain ⟨h1, h2⟩ := chk_zero hz
    have hl : l.length ≤ 30 := by omega
    have hT : (pcksT l).length ≤ 40770 := pcksT_len h2 hl
    have e1 : (wrP l).1 = pcksT l := by rw [wrP_yes hz]
    have hE : opP (pcksT l) = (pcksV l, 0) := opn_ok (by omega) (pcks_back hl h2) h2
    exact ⟨hl, h2, e1, hT, rdP_ok (by rw [hE]) (pcks_back hl h2) e1⟩
  · rw [wrP_no hz] at h; exact absurd h hz
end Go.Proofs.YtplofbjppcbchaaDoor
end
