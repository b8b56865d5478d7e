/-
  A groove turned round, mirrored, cut: what is read of it. Conditions: told in each theorem.
-/
import Derived.Test.YtlfaaddoemcokaaPC
import Derived.Test.YtlfaaddoemcokaaPlayI
import Derived.Test.YtlfaaddoemcokaaPlayK
namespace Go.Proofs.Ytlfaaddoemcokaa
open Go.Ab Go.RowKit Go.Dw Go.Shelf

end Go.Proofs.Ytlfaaddoemcokaa
