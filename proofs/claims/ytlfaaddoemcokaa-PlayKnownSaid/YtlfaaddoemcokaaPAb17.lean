/-
  Which cutters are valid: the walks of both copies. No condition.
-/
import Derived.Test.YtlfaaddoemcokaaMC
import Derived.Test.YtlfaaddoemcokaaMD
namespace Go.Proofs.Ytlfaaddoemcokaa
open Go.Ab Go.RowKit Go.Dw Go.Shelf

structure Cut where
  half : Int
  gain : Int
  thin : Int
  wide : Int
  slope : Int
  jerk : Int
  sty : Int
def Cut.v (c : Cut) : V := .agg [.i c.half, .i c.gain, .i c.thin, .i c.wide, .i c.slope, .i c.jerk, .i c.sty]
end Go.Proofs.Ytlfaaddoemcokaa
