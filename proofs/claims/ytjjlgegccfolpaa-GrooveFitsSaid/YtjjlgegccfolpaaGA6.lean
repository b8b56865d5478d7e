/-
  The fault of a groove: the walks of the reference. Conditions: told in each theorem.
-/
import Derived.Test.YtjjlgegccfolpaaGA5
namespace Go.Proofs.Ytjjlgegccfolpaa
open Go.Ab Go.RowKit Go.Dw Go.Shelf

theorem RImp.int {a b : Int} (h : a = b) : RImp (V.i a) (V.i b) := by subst h; exact RImp.refl _
/-! ### a greatest amount breaks a limit if one of both does -/
theorem bend_out {l : List Pt} {i : Nat} (h : ¬ (0 < i ∧ i + 1 < l.length)) : bendP (nb l i) (gp l i) (na l i) = 0 := by
  by_cases h1 : 0 < i
  · rw [na, if_neg fun h2 => h ⟨h1, h2⟩]
    cases nb l i <;> rfl
  · rw [nb, if_neg h1]
    rfl
end Go.Proofs.Ytjjlgegccfolpaa
