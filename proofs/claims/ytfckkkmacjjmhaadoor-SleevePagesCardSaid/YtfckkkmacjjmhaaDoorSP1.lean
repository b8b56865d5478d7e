/-
  The document's stacks of all folds of at most 3, by the kernel. No condition.
-/
import Derived.Test.YtfckkkmacjjmhaaDoorX02
import Derived.Test.YtfckkkmacjjmhaaDoorMC
namespace Go.Proofs.YtfckkkmacjjmhaaDoor
open Go.Ab Go.RowKit Go.Dw Go.Shelf
set_option maxRecDepth 100000
theorem stk_row (l : List Lf) (i : Nat) (h : i < l.length) : rowOf (l.map Lf.c) i = (glf l i).c := by
 simp [rowOf, glf, List.getD_eq_getElem?_getD, List.getElem?_map, List.getElem?_eq_getElem h]
abbrev StkAM (f : List Int) : Prop := AM Tryd.prog 48 [V.ints f] [] (.own 0) [] [.row 31 4 (2 ^ f.length) (rowOf ((stkL f).map Lf.c))]
theorem stk_of {f : List Int} (h : StkAM f) : AC Tryd.prog 48 [V.ints f] (V.lfs (stkL f)) [] := AC.shut1 (h.ac (by simp)) (stkL_len f).symm (fun i hi => stk_row _ i (by rw [stkL_len]; exact hi)) (fun _ => rfl) rfl rfl
end Go.Proofs.YtfckkkmacjjmhaaDoor
