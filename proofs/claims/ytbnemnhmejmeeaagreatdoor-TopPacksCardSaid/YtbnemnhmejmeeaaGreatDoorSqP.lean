/-
  Plain data of chapter 2: curves, leads, shades, scales; the curve at a ratio; how black leads can be. No program in sight.
  Plain data of chapter 2, more: division, what says how black leads can be, errors, shades that leads have, pairs in order. No program in sight.
  Plain data of chapter 2, more: pairs in order. No program in sight.
  From what the statements' arguments of chapter 2 may hold to plain data. No condition.
-/
import Derived.Test.YtbnemnhmejmeeaaGreatDoorPm
import Derived.Test.YtbnemnhmejmeeaaGreatDoorFaD
section
set_option linter.unusedVariables false
set_option linter.unusedSimpArgs false
namespace Go.Proofs.YtbnemnhmejmeeaaGreatDoor.Sh
open Go.AF
structure Tnt where
  r : Int
  b : Int
deriving DecidableEq
def Tnt.cells (t : Tnt) : List PV := [.int .i64 t.r, .int .i64 t.b]
def curV (c : List Tnt) : PV := .is (c.flatMap Tnt.cells) c.length
def tn (c : List Tnt) (i : Nat) : Tnt := c.getD i ⟨0, 0⟩
structure Stk where
  rlo : Int
  rhi : Int
  plo : Int
  phi : Int
deriving DecidableEq
def Stk.cells (s : Stk) : List PV := [.int .i64 s.rlo, .int .i64 s.rhi, .int .i64 s.plo, .int .i64 s.phi]
structure Lds where
  glo : Int
  ghi : Int
  clo : Int
  chi : Int
  tol : Int
  st : List Stk
  slo : Int
  shi : Int
  wlo : Int
  whi : Int
  many : Int
deriving DecidableEq
def stV (s : List Stk) : PV := .is (s.flatMap Stk.cells) s.length
def Lds.cells (l : Lds) : List PV := [.int .i64 l.glo, .int .i64 l.ghi, .int .i64 l.clo, .int .i64 l.chi, .int .i64 l.tol, stV l.st, .int .i64 l.slo, .int .i64 l.shi, .int .i64 l.wlo, .int .i64 l.whi, .int .i64 l.many]
def ldV (l : Lds) : PV := .agg l.cells
def ldsV (l : List Lds) : PV := .is (l.flatMap Lds.cells) l.length
structure Shd where
  blo : Int
  bhi : Int
  slo : Int
  shi : Int
  wlo : Int
  whi : Int
deriving DecidableEq
def Shd.cells (s : Shd) : List PV := [.int .i64 s.blo, .int .i64 s.bhi, .int .i64 s.slo, .int .i64 s.shi, .int .i64 s.wlo, .int .i64 s.whi]
def shdV (l : List Shd) : PV := .is (l.flatMap Shd.cells) l.length
structure Scl where
  n : Int
  least : Int
  most : Int
  gap : Int
deriving DecidableEq
def Scl.cells (s : Scl) : List PV := [.int .i64 s.n, .int .i64 s.least, .int .i64 s.most, .int .i64 s.gap]
/-- Leads with how black they can be. -/
structure Bch where
  l : Lds
  lo : Int
  hi : Int
deriving DecidableEq
def Bch.cells (b : Bch) : List PV := b.l.cells ++ [.int .i64 b.lo, .int .i64 b.hi]
def bchV (l : List Bch) : PV := .is (l.flatMap Bch.cells) l.length
def i1 (n : Int) : List PV := [.int .i64 n]
def intsV (l : List Int) : PV := .is (l.flatMap i1) l.length
def spV (p : Int × Int) : PV := .agg [.int .i64 p.1, .int .i64 p.2]
def bigN : Nat := 9223372036854775807

/-! ### What is valid -/
def inB (n lo hi : Int) : Bool := decide (lo ≤ n) && decide (n ≤ hi)
def spB (a b lo hi : Int) : Bool := decide (lo ≤ a) && decide (a ≤ b) && decide (b ≤ hi)
def stepOk (c : List Tnt) (i : Nat) : Prop := (0 ≤ (tn c i).b ∧ (tn c i).b ≤ 200) ∧ (i = 0 ∨ ((tn c (i - 1)).r < (tn c i).r ∧ (tn c (i - 1)).b ≤ (tn c i).b))
instance (c : List Tnt) (i : Nat) : Decidable (stepOk c i) := by unfold stepOk; infer_instance
def okC (c : List Tnt) : Prop := (2 ≤ c.length ∧ c.length ≤ 8) ∧ (tn c 0).r = 0 ∧ (tn c (c.length - 1)).r = 1000 ∧ ∀ i, i < c.length → stepOk c i
instance (c : List Tnt) : Decidable (okC c) := by unfold okC; infer_instance
def stkB (s : Stk) : Bool := spB s.rlo s.rhi 0 1000 && spB s.plo s.phi 1 4000
def okS (s : Stk) : Prop := (0 ≤ s.rlo ∧ s.rlo ≤ s.rhi ∧ s.rhi ≤ 1000) ∧ 1 ≤ s.plo ∧ s.plo ≤ s.phi ∧ s.phi ≤ 4000
def ldB (l : Lds) : Bool := spB l.glo l.ghi 1 1073741824 && spB l.clo l.chi 0 1073741824 && inB l.tol 0 200 && (spB l.slo l.shi 0 10000 && spB l.wlo l.whi 0 10000 && inB l.many 0 1048576) && decide (l.st.length ≤ 6) && l.st.all stkB
structure OkL (l : Lds) : Prop where
  g : 1 ≤ l.glo ∧ l.glo ≤ l.ghi ∧ l.ghi ≤ 1073741824
  c : 0 ≤ l.clo ∧ l.clo ≤ l.chi ∧ l.chi ≤ 1073741824
  t : 0 ≤ l.tol ∧ l.tol ≤ 200
  s : 0 ≤ l.slo ∧ l.slo ≤ l.shi ∧ l.shi ≤ 10000
  w : 0 ≤ l.wlo ∧ l.wlo ≤ l.whi ∧ l.whi ≤ 10000
  m : 0 ≤ l.many ∧ l.many ≤ 1048576
  n : l.st.length ≤ 6
  st : ∀ x ∈ l.st, okS x
def shdB (s : Shd) : Bool := spB s.blo s.bhi 0 200 && spB s.slo s.shi 0 10000 && spB s.wlo s.whi 0 10000
def sclB (s : Scl) : Bool := inB s.n 1 8 && inB s.most 1 200 && inB s.least 1 s.most && inB s.gap 1 s.least
structure OkZ (s : Scl) : Prop where
  n : 1 ≤ s.n ∧ s.n ≤ 8
  most : 1 ≤ s.most ∧ s.most ≤ 200
  least : 1 ≤ s.least ∧ s.least ≤ s.most
  gap : 1 ≤ s.gap ∧ s.gap ≤ s.least
/-! ### The curve at a ratio -/
def segF (c : List Tnt) (g a : Int) : Nat → Nat → Nat
  | 0, i => i
  | k + 1, i => if (tn c (i + 1)).r * a < 1000 * g then segF c g a k (i + 1) else i
def seg (c : List Tnt) (g a : Int) : Nat := segF c g a (c.length - 2) 0
structure SegOk (c : List Tnt) (g cl : Int) : Prop where
  lt : seg c g (g + cl) + 1 < c.length
  bef : ∀ j, j < seg c g (g + cl) → (tn c (j + 1)).r * (g + cl) < 1000 * g
  aft : ∀ j, seg c g (g + cl) ≤ j → j + 2 < c.length → 1000 * g ≤ (tn c (j + 1)).r * (g + cl)
  a0 : 0 ≤ 1000 * g - (tn c (seg c g (g + cl))).r * (g + cl)
  a1 : 1000 * g ≤ (tn c (seg c g (g + cl) + 1)).r * (g + cl)
def topI (c : List Tnt) (g cl : Int) : Int :=
  let i := seg c g (g + cl)
  (tn c i).b * ((tn c (i + 1)).r - (tn c i).r) * (g + cl) + ((tn c (i + 1)).b - (tn c i).b) * (1000 * g - (tn c i).r * (g + cl))
def undI (c : List Tnt) (g cl : Int) : Int :=
  let i := seg c g (g + cl)
  ((tn c (i + 1)).r - (tn c i).r) * (g + cl)
structure FracOk (c : List Tnt) (g cl : Int) : Prop where
  u : 1 ≤ undI c g cl ∧ undI c g cl ≤ 1000 * 2147483648
  t : 0 ≤ topI c g cl ∧ topI c g cl ≤ 200 * undI c g cl
structure FW (ra rb ba bb a g : Int) : Prop where
  p1 : 0 ≤ ba * (rb - ra) ∧ ba * (rb - ra) ≤ 200000
  p2 : 0 ≤ ba * (rb - ra) * a ∧ ba * (rb - ra) * a ≤ 429496729600000
  p3 : 0 ≤ ra * a ∧ ra * a ≤ 2147483648000
  p4 : 0 ≤ (bb - ba) * (1000 * g - ra * a) ∧ (bb - ba) * (1000 * g - ra * a) ≤ 429496729600000
  p5 : 1 ≤ (rb - ra) * a ∧ (rb - ra) * a ≤ 2147483648000
  p6 : 0 ≤ ba * (rb - ra) * a + (bb - ba) * (1000 * g - ra * a) ∧ ba * (rb - ra) * a + (bb - ba) * (1000 * g - ra * a) ≤ 200 * ((rb - ra) * a)
  p7 : 0 ≤ 1000 * g - ra * a
  r : 0 ≤ ra ∧ ra < rb ∧ rb ≤ 1000
  b : 0 ≤ ba ∧ ba ≤ bb ∧ bb ≤ 200
/-! ### Rounding -/
def upI (t u : Int) : Int := (t + u - 1) / u
def dnI (t u : Int) : Int := t / u
/-! ### How black leads can be -/
def recB (c : List Tnt) (l : Lds) : Int × Int := (upI (topI c l.glo l.chi) (undI c l.glo l.chi) - l.tol, dnI (topI c l.ghi l.clo) (undI c l.ghi l.clo) + l.tol)
def stkBd (s : Stk) : Int × Int := (upI (1000 * s.rlo) s.phi, dnI (1000 * s.rhi) s.plo)
def meet (o b : Int × Int) : Int × Int := (max o.1 b.1, min o.2 b.2)
def srcs (c : List Tnt) (l : Lds) : List (Int × Int) := recB c l :: l.st.map stkBd
def meets (bs : List (Int × Int)) : Int × Int := bs.foldl meet (0, 200)
def blk (c : List Tnt) (l : Lds) : Int × Int := meets (srcs c l)
/-- Is a blackness that of a truth? -/
def holdsI (c : List Tnt) (l : Lds) (n : Int) : Prop :=
  (topI c l.glo l.chi ≤ (n + l.tol) * undI c l.glo l.chi ∧ n * undI c l.ghi l.clo ≤ topI c l.ghi l.clo + l.tol * undI c l.ghi l.clo) ∧ ∀ s ∈ l.st, n * s.plo ≤ 1000 * s.rhi ∧ 1000 * s.rlo ≤ n * s.phi
instance (c : List Tnt) (l : Lds) (n : Int) : Decidable (holdsI c l n) := by unfold holdsI; infer_instance
end Go.Proofs.YtbnemnhmejmeeaaGreatDoor.Sh
end

section
set_option linter.unusedVariables false
set_option linter.unusedSimpArgs false
namespace Go.Proofs.YtbnemnhmejmeeaaGreatDoor.Sh
open Go.AF
/-- What says how black leads can be: none: the recipe; some: a stroke. -/
def srcV (c : List Tnt) (l : Lds) : Option Stk → PV
  | none => .iface 179 (.agg (curV c :: l.cells))
  | some s => .iface 182 (.agg s.cells)
def srcC (c : List Tnt) (l : Lds) (x : Option Stk) : List PV := [srcV c l x]
def srcL (l : Lds) (g : Nat) : List (Option Stk) := none :: (l.st.take g).map some
def srcB (c : List Tnt) (l : Lds) : Option Stk → Int × Int
  | none => recB c l
  | some s => stkBd s
def srcAt (l : Lds) (i : Nat) : Option Stk := (srcL l l.st.length).getD i none
def blkN (c : List Tnt) (l : Lds) (k : Nat) : Int × Int := meets ((srcs c l).take k)
def blkB (c : List Tnt) (l : Lds) : Bool := decide ((blk c l).1 ≤ (blk c l).2)
/-- The other text's span, of the first numbers. -/
def spanF (c : List Tnt) (l : Lds) (g : Nat) : Bool := decide ((blk c l).1 ≤ (blk c l).2 ∧ (blk c l).1 < (g : Int))
def spanN (c : List Tnt) (l : Lds) (g : Nat) : Int × Int := if spanF c l g then ((blk c l).1, min (blk c l).2 ((g : Int) - 1)) else (0, 0)
structure RecW (c : List Tnt) (g cl : Int) : Prop where
  u : 0 ≤ upI (topI c g cl) (undI c g cl) ∧ upI (topI c g cl) (undI c g cl) ≤ 200
  d : 0 ≤ dnI (topI c g cl) (undI c g cl) ∧ dnI (topI c g cl) (undI c g cl) ≤ 200
/-! ### Errors -/
def okAll (ls : List Lds) : Bool := ls.all ldB
def openE (c : List Tnt) (ls : List Lds) (most : Int) (valid : Bool) : Int :=
  if ¬ okC c then 1 else if most < ls.length then 3 else if (!valid || ls.any fun l => !ldB l) = true then 2 else if (ls.any fun l => !blkB c l) = true then 6 else 0
def toB (c : List Tnt) (l : Lds) : Bch := ⟨l, (blk c l).1, (blk c l).2⟩
def openL (c : List Tnt) (ls : List Lds) (most : Int) (valid : Bool) : List Bch := if openE c ls most valid = 0 then ls.map (toB c) else []
structure Opn (c : List Tnt) (ls : List Lds) (most : Int) (valid : Bool) : Prop where
  oc : okC c
  on : (ls.length : Int) ≤ most
  ov : valid = true
  ol : ∀ l ∈ ls, OkL l
  ob : ∀ l ∈ ls, (blk c l).1 ≤ (blk c l).2
/-- Black: the span and the error. -/
def blackR (c : List Tnt) (l : Lds) : (Int × Int) × Int := if openE c [l] 1 true = 0 then (blk c l, 0) else ((0, 0), openE c [l] 1 true)
def hasQ (c : List Tnt) (s : Shd) (l : Lds) : Bool := decide (s.blo ≤ (blk c l).1 ∧ (blk c l).2 ≤ s.bhi ∧ s.slo ≤ l.slo ∧ l.shi ≤ s.shi ∧ s.wlo ≤ l.wlo ∧ l.whi ≤ s.whi)
/-- The indices at which a predicate holds, of the first ones. -/
def idxs (p : Nat → Bool) : Nat → List Int
  | 0 => []
  | n + 1 => if p n then idxs p n ++ [(n : Int)] else idxs p n
def sh (s : List Shd) (i : Nat) : Shd := s.getD i ⟨0, 0, 0, 0, 0, 0⟩
def hasE (c : List Tnt) (s : List Shd) (l : Lds) : Int := if okC c ∧ 8 < s.length then 3 else openE c [l] 1 (!s.any fun x => !shdB x)
def hasR (c : List Tnt) (s : List Shd) (l : Lds) : List Int × Int := if hasE c s l = 0 then (idxs (fun i => hasQ c (sh s i) l) s.length, 0) else ([], hasE c s l)
def ownS (c : List Tnt) (l : Lds) : Shd := ⟨(blk c l).1, (blk c l).2, l.slo, l.shi, l.wlo, l.whi⟩
def grtB (c : List Tnt) (ls : List Lds) : Bool := (ls.any fun l => decide (12 < l.st.length)) || (decide (14 < c.length) || decide (16 < ls.length))
def ld (l : List Lds) (i : Nat) : Lds := l.getD i ⟨0, 0, 0, 0, 0, [], 0, 0, 0, 0, 0⟩
def stk (l : List Stk) (i : Nat) : Stk := l.getD i ⟨0, 0, 0, 0⟩
def bc (l : List Bch) (i : Nat) : Bch := l.getD i ⟨⟨0, 0, 0, 0, 0, [], 0, 0, 0, 0, 0⟩, 0, 0⟩
def nt (l : List Int) (i : Nat) : Int := l.getD i 0
end Go.Proofs.YtbnemnhmejmeeaaGreatDoor.Sh
end

section
set_option linter.unusedVariables false
set_option linter.unusedSimpArgs false
namespace Go.Proofs.YtbnemnhmejmeeaaGreatDoor.Sh
open Go.AF
def pairX (n : Nat) : List (List V) := (List.range (n * n)).map fun j => [V.p (.int .i64 ((j / n : Nat) : Int)), V.p (.int .i64 ((j % n : Nat) : Int))]
/-- The first of so many at which a predicate holds. -/
def fstN (p : Nat → Bool) : Nat → Option Nat
  | 0 => none
  | n + 1 => match fstN p n with
    | some j => some j
    | none => if p n then some n else none
def ordV (ls : List Lds) (nms : List Int) (gap : Int) : Bool := decide (nms.length = ls.length) && inB gap 0 200 && nms.all fun n => inB n 0 7
def wrongB (c : List Tnt) (ls : List Lds) (nms : List Int) (gap : Int) (i k : Nat) : Bool := decide (nt nms i < nt nms k) && decide ((blk c (ld ls i)).2 + gap > (blk c (ld ls k)).1)
def wrongJ (c : List Tnt) (ls : List Lds) (nms : List Int) (gap : Int) (j : Nat) : Bool := wrongB c ls nms gap (j / ls.length) (j % ls.length)
def ordR (c : List Tnt) (ls : List Lds) (nms : List Int) (gap : Int) : Int × Int × Int :=
  if openE c ls 10 (ordV ls nms gap) = 0 then (match fstN (wrongJ c ls nms gap) (ls.length * ls.length) with
    | some j => (((j / ls.length : Nat) : Int), ((j % ls.length : Nat) : Int), 0)
    | none => (0, 0, 4)) else (0, 0, openE c ls 10 (ordV ls nms gap))
end Go.Proofs.YtbnemnhmejmeeaaGreatDoor.Sh
end

section
set_option linter.unusedVariables false
namespace Go.Proofs.YtbnemnhmejmeeaaGreatDoor.Sh
open Go.AF
theorem u8_of {x : List PV} (h : TyL [.leaf (.int .u8)] x) : ∃ n : Nat, x = [.int .u8 (n : Int)] ∧ n ≤ 255 := by
  obtain ⟨n, e, h1, h2⟩ := kint_of .u8 h
  have a1 : (0 : Int) ≤ n := h1
  have a2 : n ≤ 255 := h2
  exact ⟨n.toNat, by rw [e, Int.toNat_of_nonneg a1], by omega⟩
structure BlkOk (c : List Tnt) (l : Lds) : Prop where
  oc : okC c
  ol : OkL l
  ob : 0 ≤ (blk c l).1 ∧ (blk c l).1 ≤ (blk c l).2 ∧ (blk c l).2 ≤ 200
end Go.Proofs.YtbnemnhmejmeeaaGreatDoor.Sh
end
