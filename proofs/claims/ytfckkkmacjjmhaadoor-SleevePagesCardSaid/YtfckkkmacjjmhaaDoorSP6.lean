/-
  The document's stacks of 5 folds, by the kernel: part 4. No condition.
-/
import Derived.Test.YtfckkkmacjjmhaaDoorSP1
namespace Go.Proofs.YtfckkkmacjjmhaaDoor
open Go.Ab Go.RowKit Go.Dw Go.Shelf
set_option maxRecDepth 100000

theorem s22111 : StkAM [2, 2, 1, 1, 1] := cAM' hTT hMX [] [] kR kR
theorem s22112 : StkAM [2, 2, 1, 1, 2] := cAM' hTT hMX [] [] kR kR
theorem s22121 : StkAM [2, 2, 1, 2, 1] := cAM' hTT hMX [] [] kR kR
theorem s22122 : StkAM [2, 2, 1, 2, 2] := cAM' hTT hMX [] [] kR kR
theorem s22211 : StkAM [2, 2, 2, 1, 1] := cAM' hTT hMX [] [] kR kR
theorem s22212 : StkAM [2, 2, 2, 1, 2] := cAM' hTT hMX [] [] kR kR
theorem s22221 : StkAM [2, 2, 2, 2, 1] := cAM' hTT hMX [] [] kR kR
theorem s22222 : StkAM [2, 2, 2, 2, 2] := cAM' hTT hMX [] [] kR kR
end Go.Proofs.YtfckkkmacjjmhaaDoor
