/-
  The samples of points: the walks of both copies. Conditions: told in each theorem.
-/
import Derived.Test.YtjjlgegccfolpaaGA11
namespace Go.Proofs.Ytjjlgegccfolpaa
open Go.Ab Go.RowKit Go.Dw Go.Shelf

/-! ### the least amount with at least a distance -/
/-! ### the reference -/
end Go.Proofs.Ytjjlgegccfolpaa
