/-
  The rules of grooves at a point: the walks of the program. Conditions: edges in range, a valid cutter, a radius and a turn in range.
-/
import Derived.Test.YtlfaaddoemcokaaGA2
import Derived.Test.YtlfaaddoemcokaaGPl2
namespace Go.Proofs.Ytlfaaddoemcokaa
open Go.Ab Go.RowKit Go.Dw Go.Shelf

theorem gLit2 {row : Nat → List V} {x y : Int} (h0 : row 0 = [.i x]) (h1 : row 1 = [.i y]) : RImp (.sl 1 2 row) (V.ints [x, y]) := by
  refine RImp.rows rfl fun i hi => ?_
  rcases (by omega : i = 0 ∨ i = 1) with rfl | rfl
  · exact h0
  · exact h1
def trC (c : Cut) (l : List Pt) (r per : Int) : List V := [.i c.half, .i c.gain, .i c.thin, .i c.wide, .i c.slope, .i c.jerk, .i c.sty, V.pts l, .i r, .i per]
def gNearV (b : Option Pt) (h : Pt) (a : Option Pt) : V := .agg [optP b, .ptr [.i h.1, .i h.2], optP a]
theorem EdO.some {p : Pt} (h : EdO (some p)) : Ed p := h
theorem ruleP_at {c : Cut} {r per : Int} {b : Option Pt} {h : Pt} {a : Option Pt} {j : Nat} (h1 : 1 ≤ j) (h5 : j ≤ 5) (hj : ∀ i, 1 ≤ i → i < j → ruleB c r per b h a i = false) (q : ruleB c r per b h a j = true) : ruleP c r per b h a = (j : Int) := by
  have e1 := fun h => hj 1 (by omega) h
  have e2 := fun h => hj 2 (by omega) h
  have e3 := fun h => hj 3 (by omega) h
  have e4 := fun h => hj 4 (by omega) h
  simp only [ruleB] at e1 e2 e3 e4
  rcases (by omega : j = 1 ∨ j = 2 ∨ j = 3 ∨ j = 4 ∨ j = 5) with rfl | rfl | rfl | rfl | rfl <;> simp only [ruleB] at q <;> simp [ruleP, q, e1, e2, e3, e4]
theorem ruleP_no {c : Cut} {r per : Int} {b : Option Pt} {h : Pt} {a : Option Pt} (hj : ∀ i, 1 ≤ i → i ≤ 5 → ruleB c r per b h a i = false) : ruleP c r per b h a = 0 := by
  have e1 := hj 1 (by omega) (by omega)
  have e2 := hj 2 (by omega) (by omega)
  have e3 := hj 3 (by omega) (by omega)
  have e4 := hj 4 (by omega) (by omega)
  have e5 := hj 5 (by omega) (by omega)
  simp only [ruleB] at e1 e2 e3 e4 e5
  simp [ruleP, e1, e2, e3, e4, e5]
end Go.Proofs.Ytlfaaddoemcokaa
