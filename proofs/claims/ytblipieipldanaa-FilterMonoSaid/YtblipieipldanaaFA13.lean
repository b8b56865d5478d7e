/-
  Gains held against each other, and limited programmes: both copies. Condition: as many elements as a slice can have.
-/
import Derived.Test.YtblipieipldanaaFA11
namespace Go.Proofs.Ytblipieipldanaa
open Go.Ab Go.RowKit Go.Dw Go.Shelf

end Go.Proofs.Ytblipieipldanaa
