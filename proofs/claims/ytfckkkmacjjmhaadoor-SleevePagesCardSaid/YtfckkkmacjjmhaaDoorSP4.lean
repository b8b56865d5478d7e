/-
  The document's stacks of 5 folds, by the kernel: part 2. No condition.
-/
import Derived.Test.YtfckkkmacjjmhaaDoorSP1
namespace Go.Proofs.YtfckkkmacjjmhaaDoor
open Go.Ab Go.RowKit Go.Dw Go.Shelf
set_option maxRecDepth 100000

theorem s12111 : StkAM [1, 2, 1, 1, 1] := cAM' hTT hMX [] [] kR kR
theorem s12112 : StkAM [1, 2, 1, 1, 2] := cAM' hTT hMX [] [] kR kR
theorem s12121 : StkAM [1, 2, 1, 2, 1] := cAM' hTT hMX [] [] kR kR
theorem s12122 : StkAM [1, 2, 1, 2, 2] := cAM' hTT hMX [] [] kR kR
theorem s12211 : StkAM [1, 2, 2, 1, 1] := cAM' hTT hMX [] [] kR kR
theorem s12212 : StkAM [1, 2, 2, 1, 2] := cAM' hTT hMX [] [] kR kR
theorem s12221 : StkAM [1, 2, 2, 2, 1] := cAM' hTT hMX [] [] kR kR
theorem s12222 : StkAM [1, 2, 2, 2, 2] := cAM' hTT hMX [] [] kR kR
end Go.Proofs.YtfckkkmacjjmhaaDoor
