/-
  A row that is not written any more, seen also where a cell holds it; what is handed back out of cells. No condition.
-/
import Derived.Test.YtjjlgegccfolpaaMD
namespace Go.Ab
open Go.RowKit Go.Dw

/-! a scope through which the run goes without a goto -/
section
variable {P : Program} {b : Frame} {a : Act} {k : List Item} {cs : List Frame} {w : World} {F : Fence} {n : Nat}
end
section
variable {P : Program} {N : Nat} {C : Cx P N} {Q : Exit → S → Prop} {s : S} {id : Nat}
end
end Go.Ab
