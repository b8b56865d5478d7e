/-
  The document's stacks of at most 4 folds, by the kernel. No condition.
-/
import Derived.Test.YtfckkkmacjjmhaaDoorSP1
namespace Go.Proofs.YtfckkkmacjjmhaaDoor
open Go.Ab Go.RowKit Go.Dw Go.Shelf
set_option maxRecDepth 100000

theorem s1 : StkAM [1] := cAM' hTT hMX [] [] kR kR
theorem s2 : StkAM [2] := cAM' hTT hMX [] [] kR kR
theorem s11 : StkAM [1, 1] := cAM' hTT hMX [] [] kR kR
theorem s12 : StkAM [1, 2] := cAM' hTT hMX [] [] kR kR
theorem s21 : StkAM [2, 1] := cAM' hTT hMX [] [] kR kR
theorem s22 : StkAM [2, 2] := cAM' hTT hMX [] [] kR kR
theorem s111 : StkAM [1, 1, 1] := cAM' hTT hMX [] [] kR kR
theorem s112 : StkAM [1, 1, 2] := cAM' hTT hMX [] [] kR kR
theorem s121 : StkAM [1, 2, 1] := cAM' hTT hMX [] [] kR kR
theorem s122 : StkAM [1, 2, 2] := cAM' hTT hMX [] [] kR kR
theorem s211 : StkAM [2, 1, 1] := cAM' hTT hMX [] [] kR kR
theorem s212 : StkAM [2, 1, 2] := cAM' hTT hMX [] [] kR kR
theorem s221 : StkAM [2, 2, 1] := cAM' hTT hMX [] [] kR kR
theorem s222 : StkAM [2, 2, 2] := cAM' hTT hMX [] [] kR kR
theorem s1111 : StkAM [1, 1, 1, 1] := cAM' hTT hMX [] [] kR kR
theorem s1112 : StkAM [1, 1, 1, 2] := cAM' hTT hMX [] [] kR kR
theorem s1121 : StkAM [1, 1, 2, 1] := cAM' hTT hMX [] [] kR kR
theorem s1122 : StkAM [1, 1, 2, 2] := cAM' hTT hMX [] [] kR kR
theorem s1211 : StkAM [1, 2, 1, 1] := cAM' hTT hMX [] [] kR kR
theorem s1212 : StkAM [1, 2, 1, 2] := cAM' hTT hMX [] [] kR kR
theorem s1221 : StkAM [1, 2, 2, 1] := cAM' hTT hMX [] [] kR kR
theorem s1222 : StkAM [1, 2, 2, 2] := cAM' hTT hMX [] [] kR kR
theorem s2111 : StkAM [2, 1, 1, 1] := cAM' hTT hMX [] [] kR kR
theorem s2112 : StkAM [2, 1, 1, 2] := cAM' hTT hMX [] [] kR kR
theorem s2121 : StkAM [2, 1, 2, 1] := cAM' hTT hMX [] [] kR kR
theorem s2122 : StkAM [2, 1, 2, 2] := cAM' hTT hMX [] [] kR kR
theorem s2211 : StkAM [2, 2, 1, 1] := cAM' hTT hMX [] [] kR kR
theorem s2212 : StkAM [2, 2, 1, 2] := cAM' hTT hMX [] [] kR kR
theorem s2221 : StkAM [2, 2, 2, 1] := cAM' hTT hMX [] [] kR kR
theorem s2222 : StkAM [2, 2, 2, 2] := cAM' hTT hMX [] [] kR kR
end Go.Proofs.YtfckkkmacjjmhaaDoor
