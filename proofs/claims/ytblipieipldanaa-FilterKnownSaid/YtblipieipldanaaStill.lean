/-
  A region that draws its order, in a round of a range over a function: all its operations but the last few only read. The head is walked once, in the order of the text. No condition.
-/
import Derived.Test.YtblipieipldanaaMA
namespace Go.Dw
open Go.RowKit Go.Shelf

section
variable {P : Program} {ops : Array Oper} {md : Region.Mode} {w : World} {r : Option Nat} {m : Nat}
end
end Go.Dw
