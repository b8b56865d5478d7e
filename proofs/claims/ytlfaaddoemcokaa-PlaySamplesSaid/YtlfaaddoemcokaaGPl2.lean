/-
  The rules of grooves at a point, in plain Lean. Conditions: told in each theorem.
-/
import Derived.Test.YtlfaaddoemcokaaGPl1
namespace Go.Proofs.Ytlfaaddoemcokaa
open Go.Ab Go.RowKit Go.Dw Go.Shelf

/-- a point, or nil -/
def optP : Option Pt → V
  | none => .c (.pointer none)
  | some p => .ptr [.i p.1, .i p.2]
def stepP (b : Option Pt) (h : Pt) : Int := match b with
  | none => 0
  | some b => max (gAmt (h.1 - b.1)) (gAmt (h.2 - b.2))
def bendP (b : Option Pt) (h : Pt) (a : Option Pt) : Int := match b, a with
  | some b, some a => max (gAmt (b.1 + a.1 - 2 * h.1)) (gAmt (b.2 + a.2 - 2 * h.2))
  | _, _ => 0
def gArc (r per : Int) : Int := (710 * r * (710 * r)).tdiv (113 * per * (113 * per))
def thinB (c : Cut) (h : Pt) : Bool := decide (h.2 - h.1 < c.thin)
def wideB (c : Cut) (h : Pt) : Bool := decide (c.wide < h.2 - h.1)
def steepB (c : Cut) (r per : Int) (b : Option Pt) (h : Pt) : Bool := decide (710 * r * c.slope < 113000 * per * stepP b h)
def suddenB (c : Cut) (b : Option Pt) (h : Pt) (a : Option Pt) : Bool := decide (c.jerk < bendP b h a)
def sharpB (c : Cut) (r per : Int) (b : Option Pt) (h : Pt) (a : Option Pt) : Bool := decide (gArc r per < bendP b h a * c.sty)
def ruleB (c : Cut) (r per : Int) (b : Option Pt) (h : Pt) (a : Option Pt) : Nat → Bool
  | 1 => thinB c h
  | 2 => wideB c h
  | 3 => steepB c r per b h
  | 4 => suddenB c b h a
  | _ => sharpB c r per b h a
def ruleP (c : Cut) (r per : Int) (b : Option Pt) (h : Pt) (a : Option Pt) : Int :=
  if thinB c h then 1 else if wideB c h then 2 else if steepB c r per b h then 3 else if suddenB c b h a then 4 else if sharpB c r per b h a then 5 else 0
def Ed (p : Pt) : Prop := (-4194304 ≤ p.1 ∧ p.1 ≤ 4194304) ∧ -4194304 ≤ p.2 ∧ p.2 ≤ 4194304
def EdO : Option Pt → Prop
  | none => True
  | some p => Ed p
theorem stepP_bd {b : Option Pt} {h : Pt} (hb : EdO b) (hh : Ed h) : 0 ≤ stepP b h ∧ stepP b h ≤ 8388608 := by
  cases b with
  | none => simp [stepP]
  | some b =>
    unfold EdO Ed at hb
    unfold Ed at hh
    simp only [stepP, gAmt]
    omega
theorem bendP_bd {b a : Option Pt} {h : Pt} (hb : EdO b) (hh : Ed h) (ha : EdO a) : 0 ≤ bendP b h a ∧ bendP b h a ≤ 16777216 := by
  cases b with
  | none => simp [bendP]
  | some b =>
    cases a with
    | none => simp [bendP]
    | some a =>
      unfold EdO Ed at hb ha
      unfold Ed at hh
      simp only [bendP, gAmt]
      omega
structure Plc (r per : Int) : Prop where
  r : 0 ≤ r ∧ r ≤ 4194304
  p : 1 ≤ per ∧ per ≤ 65536
theorem way_bd {r per : Int} (h : Plc r per) : (0 ≤ 710 * r ∧ 710 * r ≤ 2977955840) ∧ (0 ≤ 710 * r * (710 * r) ∧ 710 * r * (710 * r) ≤ 8868220984990105600) ∧ (113 ≤ 113 * per ∧ 113 * per ≤ 7405568) ∧ 12769 ≤ 113 * per * (113 * per) ∧ 113 * per * (113 * per) ≤ 54842437402624 := by
  obtain ⟨⟨a, b⟩, c, d⟩ := h
  have h1 : 0 ≤ (710 * r) * (710 * r) := Int.mul_nonneg (by omega) (by omega)
  have h2 : (710 * r) * (710 * r) ≤ 2977955840 * 2977955840 := Int.mul_le_mul (by omega) (by omega) (by omega) (by omega)
  have h3 : 113 * 113 ≤ (113 * per) * (113 * per) := Int.mul_le_mul (by omega) (by omega) (by omega) (by omega)
  have h4 : (113 * per) * (113 * per) ≤ 7405568 * 7405568 := Int.mul_le_mul (by omega) (by omega) (by omega) (by omega)
  have e1 : (2977955840 : Int) * 2977955840 = 8868220984990105600 := by decide
  have e2 : (7405568 : Int) * 7405568 = 54842437402624 := by decide
  exact ⟨by omega, ⟨h1, by omega⟩, by omega, by omega, by omega⟩
theorem gArc_bd {r per : Int} (h : Plc r per) : 0 ≤ gArc r per ∧ gArc r per ≤ 8868220984990105600 := by
  obtain ⟨_, ⟨h1, h2⟩, _, h3, h4⟩ := way_bd h
  unfold gArc
  rw [Int.tdiv_eq_ediv_of_nonneg h1]
  have e1 := Int.ediv_nonneg h1 (show 0 ≤ 113 * per * (113 * per) by omega)
  have e2 := Int.ediv_le_self (113 * per * (113 * per)) h1
  omega
end Go.Proofs.Ytlfaaddoemcokaa
