/-
  A contract whose row is not written any more. No condition.
-/
import Derived.Test.YtfckkkmacjjmhaaDoorAbs27
namespace Go.Ab
open Go.RowKit Go.Dw

end Go.Ab
