/-
  The document's stacks of 5 folds, by the kernel: part 3. No condition.
-/
import Derived.Test.YtfckkkmacjjmhaaDoorSP1
namespace Go.Proofs.YtfckkkmacjjmhaaDoor
open Go.Ab Go.RowKit Go.Dw Go.Shelf
set_option maxRecDepth 100000

theorem s21111 : StkAM [2, 1, 1, 1, 1] := cAM' hTT hMX [] [] kR kR
theorem s21112 : StkAM [2, 1, 1, 1, 2] := cAM' hTT hMX [] [] kR kR
theorem s21121 : StkAM [2, 1, 1, 2, 1] := cAM' hTT hMX [] [] kR kR
theorem s21122 : StkAM [2, 1, 1, 2, 2] := cAM' hTT hMX [] [] kR kR
theorem s21211 : StkAM [2, 1, 2, 1, 1] := cAM' hTT hMX [] [] kR kR
theorem s21212 : StkAM [2, 1, 2, 1, 2] := cAM' hTT hMX [] [] kR kR
theorem s21221 : StkAM [2, 1, 2, 2, 1] := cAM' hTT hMX [] [] kR kR
theorem s21222 : StkAM [2, 1, 2, 2, 2] := cAM' hTT hMX [] [] kR kR
end Go.Proofs.YtfckkkmacjjmhaaDoor
