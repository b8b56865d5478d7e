/-
  Several texts in one: The fault of a groove: the walks of the program. Conditions: told in each theorem. .. The samples of points: the walks of both copies. Conditions: told in each theorem.
-/
import Derived.Test.YtplnhbenmgclfaaGreatDoorAbs42
import Derived.Test.YtplnhbenmgclfaaGreatDoorX07
import Derived.Test.YtplnhbenmgclfaaGreatDoorX02
namespace Go.Proofs.YtplnhbenmgclfaaGreatDoor
open Go.Ab Go.RowKit Go.Dw Go.Shelf
end Go.Proofs.YtplnhbenmgclfaaGreatDoor

namespace Go.Proofs.YtplnhbenmgclfaaGreatDoor
open Go.Ab Go.RowKit Go.Dw Go.Shelf
theorem RImp.int {a b : Int} (h : a = b) : RImp (V.i a) (V.i b) := by subst h; exact RImp.refl _
end Go.Proofs.YtplnhbenmgclfaaGreatDoor

namespace Go.Proofs.YtplnhbenmgclfaaGreatDoor
open Go.Ab Go.RowKit Go.Dw Go.Shelf
structure IsFst (p : Int → Bool) (M F : Int) : Prop where
 b : 0 ≤ F ∧ F ≤ M
 lo : ∀ n, 0 ≤ n → n < F → p n = false
 hi : ∀ n, F ≤ n → n < M → p n = true
theorem IsFst.eq {p : Int → Bool} {M F G : Int} (h : IsFst p M F) (k : IsFst p M G) : F = G := by
 rcases Int.lt_trichotomy F G with hl | hl | hl
 ·
  have a := h.hi F (Int.le_refl _) (by have := k.b; omega)
  have b := k.lo F h.b.1 hl
  rw [a] at b; cases b
 ·
  exact hl
 ·
  have a := k.hi G (Int.le_refl _) (by have := h.b; omega)
  have b := h.lo G k.b.1 hl
  rw [a] at b; cases b
end Go.Proofs.YtplnhbenmgclfaaGreatDoor

namespace Go.Proofs.YtplnhbenmgclfaaGreatDoor
open Go.Ab Go.RowKit Go.Dw Go.Shelf
end Go.Proofs.YtplnhbenmgclfaaGreatDoor

namespace Go.Proofs.YtplnhbenmgclfaaGreatDoor
open Go.Ab Go.RowKit Go.Dw Go.Shelf
end Go.Proofs.YtplnhbenmgclfaaGreatDoor

namespace Go.Proofs.YtplnhbenmgclfaaGreatDoor
open Go.Ab Go.RowKit Go.Dw Go.Shelf
end Go.Proofs.YtplnhbenmgclfaaGreatDoor

namespace Go.Proofs.YtplnhbenmgclfaaGreatDoor
open Go.Ab Go.RowKit Go.Dw Go.Shelf
end Go.Proofs.YtplnhbenmgclfaaGreatDoor

namespace Go.Proofs.YtplnhbenmgclfaaGreatDoor
open Go.Ab Go.RowKit Go.Dw Go.Shelf
theorem chE_nn {g n : Int} (hg : 0 ≤ g) (hn : 0 ≤ n) : chE g n = n * g / 1000 := by
  unfold chE
  rw [Int.tdiv_eq_ediv_of_nonneg (Int.mul_nonneg hn hg)]
theorem chE_mono' {g m n : Int} (hg : 0 ≤ g) (h0 : 0 ≤ m) (h : m ≤ n) : chE g m ≤ chE g n := by
  rw [chE_nn hg h0, chE_nn hg oM]
  exact Int.ediv_le_ediv (by decide) (Int.mul_le_mul_of_nonneg_right h hg)
end Go.Proofs.YtplnhbenmgclfaaGreatDoor
