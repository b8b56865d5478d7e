/-
  The examples of the chapter hold of the program: Works returns true. No condition.
-/
import Derived.Test.YtlfaaddoemcokaaPlayI
namespace Go.Proofs.Ytlfaaddoemcokaa
open Go.RowKit Go.Dw Go.Shelf

def exT : List Int := [0, 2, 10]
def exL : List Pt := [(-100, 100), (-100, 90), (-95, 100)]
def exR : List Pt := [(-100, 92), (-97, 90), (-95, 92)]
def ptCells (l : List Pt) : Array Value := (l.flatMap encP).toArray
theorem pts_of_box {w : World} {g : Nat} {t : TypeId} {l : List Pt} (h : Box w g t (ptCells l)) : PtsAt w (some ⟨g, 0, none⟩) l.length l :=
  ⟨rfl, encP_len, fun _ => ⟨g, 0, rfl, h.lt, fun i hi j hj => by
    rw [h.cell, Nat.zero_add]
    rw [← flat_getElem? encP_len l i hi j hj]
    simp [ptCells]⟩⟩
theorem ex_both : checkBoth exT exL = 0 := by decide +kernel
theorem ex_read : wallsR exT exL = exR := by decide +kernel
theorem ex_arm : balArm exL = (0, 25) := by decide +kernel
theorem ex_pts : checkPts exL = 0 := by decide +kernel

set_option maxRecDepth 100000 in
theorem example_calls (w : World) : Calls Try.prog 57 #[] w fun e w' => ∃ g1 g2, e = .returned (.tuple #[.agg #[.slice (some ⟨g1, 0, none⟩) 3 3], .slice (some ⟨g2, 0, none⟩) 3 3]) ∧
    Box w' g1 2 (intCells exT) ∧ Box w' g2 29 (ptCells exL) ∧ Below w.heap.size w w' := by
  go_enter Try.func57, Try.ntmps57
  go_wp2
  have h0 := ((Box.new w 24 #[.slice (some ⟨w.heap.size + 1, 0, none⟩) 3 3]).alloc (.cells (intCells exT) 2)).alloc (.cells (ptCells exL) 29)
  have h1 := (Box.newA (w.alloc (.cells #[.slice (some ⟨w.heap.size + 1, 0, none⟩) 3 3] 24)) 2 (intCells exT) (g := w.heap.size + 1) (by simp)).alloc (.cells (ptCells exL) 29)
  have h2 := Box.newA ((w.alloc (.cells #[.slice (some ⟨w.heap.size + 1, 0, none⟩) 3 3] 24)).alloc (.cells (intCells exT) 2)) 29 (ptCells exL) (g := w.heap.size + 1 + 1) (by simp)
  have c0 := h0.cell 0
  simp only [List.getElem?_toArray, List.getElem?_cons_zero] at c0
  have hb := ((below_new w (.cells #[.slice (some ⟨w.heap.size + 1, 0, none⟩) 3 3] 24)).alloc (by simp) (.cells (intCells exT) 2)).alloc (by simp; omega) (.cells (ptCells exL) 29)
  change bodyPost _ _ _ _ _ (((w.alloc (.cells #[.slice (some ⟨w.heap.size + 1, 0, none⟩) 3 3] 24)).alloc (.cells (intCells exT) 2)).alloc (.cells (ptCells exL) 29))
  generalize ((w.alloc (.cells #[.slice (some ⟨w.heap.size + 1, 0, none⟩) 3 3] 24)).alloc (.cells (intCells exT) 2)).alloc (.cells (ptCells exL) 29) = w1 at *
  exact bodyPost_ret (v := .tuple #[.agg #[.slice (some ⟨w.heap.size + 1, 0, none⟩) 3 3], .slice (some ⟨w.heap.size + 1 + 1, 0, none⟩) 3 3]) (by simp [results, Try.results57, go_sem, c0]) rfl ⟨_, _, rfl, h1, h2, hb⟩

set_option maxRecDepth 100000 in
set_option maxHeartbeats 1000000 in
theorem works_calls (w : World) : Calls Try.prog 20 #[] w fun e w' => e = .returned (.bool true) ∧ Below w.heap.size w w' := by
  have ew := ex_both
  have er := ex_read
  have ea := ex_arm
  have ep := ex_pts
  have EW := Lib.hid ew
  have ER := Lib.hid er
  have EA := Lib.hid ea
  have EP := Lib.hid ep
  clear ew er ea ep
  go_enter Try.func20, Try.ntmps20
  go_wp2_with fail
  refine (example_calls w).mono ?_
  rintro e w1 ⟨g1, g2, rfl, hg1, hg2, hw1⟩
  have i1 := ints_of_box hg1
  have i2 := pts_of_box hg2
  go_wp2_with fail
  have hx := Box.new w1 24 #[.slice (some ⟨g1, 0, none⟩) 3 3]
  have hb1 := below_new w1 (.cells #[.slice (some ⟨g1, 0, none⟩) 3 3] 24)
  generalize w1.alloc (.cells #[.slice (some ⟨g1, 0, none⟩) 3 3] 24) = w2 at *
  have hb2 := hw1.trans (hb1.mono hw1.size)
  refine (Read_calls _ 3 3 exT _ 3 3 exL w2 (i1.below' hb1) (i2.below' hb1) (by omega) (by omega)).mono ?_
  rintro e w3 ⟨v, rfl, hown, hw3⟩
  have hb3 := hb2.trans (hw3.mono hb2.size)
  rw [EW.out]
  rw [ER.out] at hown
  go_wp2_with fail
  refine (balance_calls _ 3 3 exL w3 ((i2.below' hb1).below' hw3) (by omega)).mono ?_
  rintro e w4 ⟨rfl, hw4⟩
  have hb4 := hb3.trans (hw4.mono hb3.size)
  have hown4 := own_below' hown hw4
  rw [EA.out, EP.out]
  go_wp2_with fail
  obtain ⟨A', c', rfl⟩ := own_form hown4
  have x0 := Box.new w4 34 #[.int .i64 0, .int .i64 25]
  have hb5 := below_new w4 (.cells #[.int .i64 0, .int .i64 25] 34)
  have x1 := Box.newA (w4.alloc (.cells #[.int .i64 0, .int .i64 25] 34)) 29 (ptCells exR) (g := w4.heap.size + 1) (by simp)
  have hb6 := hb5.alloc (by simp) (.cells (ptCells exR) 29)
  have x2 := x0.alloc (.cells (ptCells exR) 29)
  change Calls _ _ _ ((w4.alloc (.cells #[.int .i64 0, .int .i64 25] 34)).alloc (.cells (ptCells exR) 29)) _
  generalize (w4.alloc (.cells #[.int .i64 0, .int .i64 25] 34)).alloc (.cells (ptCells exR) 29) = w5 at *
  have hb7 := hb4.trans (hb6.mono hb4.size)
  refine (same_calls A' _ 3 c' 3 3 exR exR w5 (SlAt.of_own encP_len (by decide) (own_below' hown4 hb6)) (pts_of_box x1) (by omega) (by omega)).mono ?_
  rintro e w6 ⟨rfl, hw6⟩
  have y0 : w6.cell? ⟨w4.heap.size, 0, none⟩ = some (.int .i64 0) := (x2.below' hw6).cell 0
  have y1 : w6.cell? ⟨w4.heap.size, 1, none⟩ = some (.int .i64 25) := (x2.below' hw6).cell 1
  have dt : decide (exR = exR) = true := by simp
  rw [dt]
  go_wp2
  go_ret
  exact ⟨rfl, hb7.trans (hw6.mono hb7.size)⟩
end Go.Proofs.Ytlfaaddoemcokaa
