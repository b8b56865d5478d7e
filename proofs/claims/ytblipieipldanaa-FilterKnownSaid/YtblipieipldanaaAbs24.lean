/-
  A row that is not written any more, seen also where a cell holds it; what is handed back out of cells. No condition.
-/
import Derived.Test.YtblipieipldanaaMD
namespace Go.Ab
open Go.RowKit Go.Dw

def Ob.fz (id : Nat) (v : V) : Ob → Ob
  | .box t cs => .box t (V.fzL id v cs)
  | .row e sz n r => .row e sz n r
  | .mp s f => .mp s (f.map (V.fz id v))
/-! a scope through which the run goes without a goto -/
section
variable {P : Program} {b : Frame} {a : Act} {k : List Item} {cs : List Frame} {w : World} {F : Fence} {n : Nat}
end
section
variable {P : Program} {N : Nat} {C : Cx P N} {Q : Exit → S → Prop} {s : S} {id : Nat}
end
end Go.Ab
