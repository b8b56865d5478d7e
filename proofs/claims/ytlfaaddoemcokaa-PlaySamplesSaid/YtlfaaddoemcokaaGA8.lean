/-
  The least radius at which something of a groove is right: closures, sort.Search: the walks of the program. Conditions: told in each theorem.
-/
import Derived.Test.YtlfaaddoemcokaaGA7
import Derived.Test.YtlfaaddoemcokaaAbs32
namespace Go.Proofs.Ytlfaaddoemcokaa
open Go.Ab Go.RowKit Go.Dw Go.Shelf

def fitB (c : Cut) (l : List Pt) (per r : Int) : Bool := decide ((faultR c l r per).2 = 0)
def needB (c : Cut) (l : List Pt) (per : Int) (i : Nat) (r : Int) : Bool := decide (gRule c l r per i = 0)
def rr := 0
end Go.Proofs.Ytlfaaddoemcokaa
