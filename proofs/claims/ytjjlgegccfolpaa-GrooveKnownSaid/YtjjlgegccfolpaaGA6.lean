/-
  The fault of a groove: the walks of the reference. Conditions: told in each theorem.
-/
import Derived.Test.YtjjlgegccfolpaaGA5
namespace Go.Proofs.Ytjjlgegccfolpaa
open Go.Ab Go.RowKit Go.Dw Go.Shelf

theorem RImp.int {a b : Int} (h : a = b) : RImp (V.i a) (V.i b) := by subst h; exact RImp.refl _
/-! ### a greatest amount breaks a limit if one of both does -/
end Go.Proofs.Ytjjlgegccfolpaa
