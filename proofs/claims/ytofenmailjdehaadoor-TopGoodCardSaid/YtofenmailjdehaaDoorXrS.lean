/-
  Chapter 6: a picture, part by part. No program in sight.
-/
import Derived.Test.YtofenmailjdehaaDoorXrQ
set_option linter.unusedVariables false
set_option linter.unusedSimpArgs false
namespace Go.Proofs.YtofenmailjdehaaDoor
open Go.AF
def Pic.sN (p : Pic) (v : Nat) : Pic := { p with n := v }
def Pic.sLo (p : Pic) (v : Int) : Pic := { p with lo := v }
def Pic.sHi (p : Pic) (v : Int) : Pic := { p with hi := v }
def Pic.sCr (p : Pic) (v : Nat) : Pic := { p with cr := v }
def Pic.sCc (p : Pic) (v : Nat) : Pic := { p with cc := v }
def Pic.sSr (p : Pic) (v : Nat) : Pic := { p with sr := v }
def Pic.sSc (p : Pic) (v : Nat) : Pic := { p with sc := v }
def Pic.sSp (p : Pic) (v : Nat → Int) : Pic := { p with sp := v }
def picS (c : Crt) (p : Pic) (a b : Nat) : Pic := if p.n = 0 then (((((p.sN (p.n + 1)).sLo (manyN c a b)).sHi (manyN c a b)).sSr a).sSc b) else p.sN (p.n + 1)
def picR (q : Pic) (m : Int) (a b : Nat) : Pic := (((((q.sLo (min (min m q.lo) q.hi)).sHi (max (max m q.lo) q.hi)).sCr (q.cr ||| a)).sCc (q.cc ||| b)).sSr (q.sr &&& a)).sSc (q.sc &&& b)
theorem picA_eq (c : Crt) (p : Pic) (a b : Nat) : picA c p (a, b) = (picR (picS c p a b) (manyN c a b) a b).sSp (spG (picR (picS c p a b) (manyN c a b) a b).sp a b c.cols.toNat c.rows.length 0) := by
  unfold picA picS
  by_cases h : p.n = 0
  · rw [if_pos h, if_pos h, if_pos h, if_pos h, if_pos h]; rfl
  · rw [if_neg h, if_neg h, if_neg h, if_neg h, if_neg h]; rfl
theorem picS_sp (c : Crt) (p : Pic) (a b : Nat) (m : Int) : (picR (picS c p a b) m a b).sp = p.sp := by
  unfold picS
  split <;> rfl
theorem picS_B {c : Crt} (hc : crB c = true) {p : Pic} (h : PicB p) {a b : Nat} (ha : a < 256) (hb : b < 256) : (picS c p a b).cr < 256 ∧ (picS c p a b).cc < 256 ∧ (picS c p a b).sr < 256 ∧ (picS c p a b).sc < 256 := by
  obtain ⟨h1, h2, h3, h4, _, _, _⟩ := h
  unfold picS
  split
  · exact ⟨h1, h2, ha, hb⟩
  · exact ⟨h1, h2, h3, h4⟩
end Go.Proofs.YtofenmailjdehaaDoor
