/-
  The document's stacks of 5 folds, by the kernel: part 1. No condition.
-/
import Derived.Test.YtfckkkmacjjmhaaDoorSP1
namespace Go.Proofs.YtfckkkmacjjmhaaDoor
open Go.Ab Go.RowKit Go.Dw Go.Shelf
set_option maxRecDepth 100000

theorem s11111 : StkAM [1, 1, 1, 1, 1] := cAM' hTT hMX [] [] kR kR
theorem s11112 : StkAM [1, 1, 1, 1, 2] := cAM' hTT hMX [] [] kR kR
theorem s11121 : StkAM [1, 1, 1, 2, 1] := cAM' hTT hMX [] [] kR kR
theorem s11122 : StkAM [1, 1, 1, 2, 2] := cAM' hTT hMX [] [] kR kR
theorem s11211 : StkAM [1, 1, 2, 1, 1] := cAM' hTT hMX [] [] kR kR
theorem s11212 : StkAM [1, 1, 2, 1, 2] := cAM' hTT hMX [] [] kR kR
theorem s11221 : StkAM [1, 1, 2, 2, 1] := cAM' hTT hMX [] [] kR kR
theorem s11222 : StkAM [1, 1, 2, 2, 2] := cAM' hTT hMX [] [] kR kR
end Go.Proofs.YtfckkkmacjjmhaaDoor
