/-
  Several texts in one: The rules of grooves at a point, in plain Lean. Conditions: told in each theorem. .. Least radii: the walks of both copies. Conditions: told in each theorem.
-/
import Derived.Test.YtpmchnojeloohaaGreatDoorX04
import Derived.Test.YtpmchnojeloohaaGreatDoorAbs42
import Derived.Test.YtpmchnojeloohaaGreatDoorX01
namespace Go.Proofs.YtpmchnojeloohaaGreatDoor
open Go.Ab Go.RowKit Go.Dw Go.Shelf
def Ed (p : Pt) : Prop := (-4194304 ≤ p.1 ∧ p.1 ≤ 4194304) ∧ -4194304 ≤ p.2 ∧ p.2 ≤ 4194304
def EdO : Option Pt → Prop
 | none => True
 | some p => Ed p
end Go.Proofs.YtpmchnojeloohaaGreatDoor

namespace Go.Proofs.YtpmchnojeloohaaGreatDoor
open Go.Ab Go.RowKit Go.Dw Go.Shelf
theorem EdO.some {p : Pt} (h : EdO (some p)) : Ed p := h
end Go.Proofs.YtpmchnojeloohaaGreatDoor

namespace Go.Proofs.YtpmchnojeloohaaGreatDoor
open Go.Ab Go.RowKit Go.Dw Go.Shelf
end Go.Proofs.YtpmchnojeloohaaGreatDoor

namespace Go.Proofs.YtpmchnojeloohaaGreatDoor
open Go.Ab Go.RowKit Go.Dw Go.Shelf
end Go.Proofs.YtpmchnojeloohaaGreatDoor

namespace Go.Proofs.YtpmchnojeloohaaGreatDoor
open Go.Ab Go.RowKit Go.Dw Go.Shelf
theorem RImp.int {a b : Int} (h : a = b) : RImp (V.i a) (V.i b) := by subst h; exact RImp.refl _
end Go.Proofs.YtpmchnojeloohaaGreatDoor

namespace Go.Proofs.YtpmchnojeloohaaGreatDoor
open Go.Ab Go.RowKit Go.Dw Go.Shelf
structure IsFst (p : Int → Bool) (M F : Int) : Prop where
 b : 0 ≤ F ∧ F ≤ M
 lo : ∀ n, 0 ≤ n → n < F → p n = false
 hi : ∀ n, F ≤ n → n < M → p n = true
theorem IsFst.eq {p : Int → Bool} {M F G : Int} (h : IsFst p M F) (k : IsFst p M G) : F = G := by
 rcases Int.lt_trichotomy F G with hl | hl | hl
 ·
  have a := h.hi F (Int.le_refl _) (by have := k.b; omega)
  have b := k.lo F h.b.1 hl
  rw [a] at b; cases b
 ·
  exact hl
 ·
  have a := k.hi G (Int.le_refl _) (by have := h.b; omega)
  have b := h.lo G k.b.1 hl
  rw [a] at b; cases b
end Go.Proofs.YtpmchnojeloohaaGreatDoor

namespace Go.Proofs.YtpmchnojeloohaaGreatDoor
open Go.Ab Go.RowKit Go.Dw Go.Shelf
end Go.Proofs.YtpmchnojeloohaaGreatDoor

namespace Go.Proofs.YtpmchnojeloohaaGreatDoor
open Go.Ab Go.RowKit Go.Dw Go.Shelf
end Go.Proofs.YtpmchnojeloohaaGreatDoor
