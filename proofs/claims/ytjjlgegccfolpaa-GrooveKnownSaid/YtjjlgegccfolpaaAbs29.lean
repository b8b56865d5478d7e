/-
  A row that grew by one. No condition.
-/
import Derived.Test.YtjjlgegccfolpaaAbs27
namespace Go.Ab
open Go.RowKit Go.Dw

/-! names in rows -/
end Go.Ab
