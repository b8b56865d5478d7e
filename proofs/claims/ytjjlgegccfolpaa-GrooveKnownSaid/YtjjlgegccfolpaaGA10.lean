/-
  What an index of a groove needs: the walks of both copies. Conditions: told in each theorem.
-/
import Derived.Test.YtjjlgegccfolpaaGA9
namespace Go.Proofs.Ytjjlgegccfolpaa
open Go.Ab Go.RowKit Go.Dw Go.Shelf

end Go.Proofs.Ytjjlgegccfolpaa
