/-
  Panels of an argument, as the plain ones. No condition.
-/
import Derived.Test.YtfckkkmacjjmhaaDoorSPl1
import Derived.Test.YtfckkkmacjjmhaaDoorMC
namespace Go.Proofs.YtfckkkmacjjmhaaDoor
open Go.Ab Go.RowKit Go.Dw Go.Shelf

def toPan (x : Int × Int × Int × Int × Int) : Pan := ⟨x.1, x.2.1, x.2.2.1, x.2.2.2.1, x.2.2.2.2⟩
theorem pans_imp (l : List (Int × Int × Int × Int × Int)) (d : Int × Int × Int × Int × Int) : RImp (.sl 5 l.length fun i => (toPan (l.getD i d)).c) (V.pans (l.map toPan)) := RImp.rows (by simp) fun i hi => by
  simp only [gpan, List.getD_eq_getElem?_getD, List.getElem?_map, List.getElem?_eq_getElem hi]
  rfl
end Go.Proofs.YtfckkkmacjjmhaaDoor
