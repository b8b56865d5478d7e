/-
  The chapter's examples, and small functions of the laws on grooves. No condition but the sizes of slices.
-/
import Derived.Test.YtlfaaddoemcokaaGA10
namespace Go.Proofs.Ytlfaaddoemcokaa
open Go.Ab Go.RowKit Go.Dw Go.Shelf

def exC : Cut := ⟨400, 2000, 200, 2000, 1000, 1000, 100⟩
theorem fit_at {c : Cut} {l : List Pt} {per F : Int} (hc : cutE c = 0) (hp : 1 ≤ per) (h0 : 0 < F) (hF : F ≤ 4194304) (h1 : fitB c l per (F - 1) = false) (h2 : fitB c l per F = true) : IsFst (fitB c l per) 4194305 F := by
  obtain ⟨G, hG⟩ := fit_fst l hc hp
  have a := (hG.iff (n := F) (by omega) (by omega)).1 h2
  have b : ¬ G ≤ F - 1 := fun h => by
    have := (hG.iff (n := F - 1) (by omega) (by omega)).2 h
    rw [h1] at this; cases this
  obtain rfl : F = G := by omega
  exact hG
def ex3 : List Pt := [(-400, 400), (-200, 600), (-400, 400)]
theorem exC_ok : cutE exC = 0 := by decide
theorem ex3_fst : IsFst (fitB exC ex3 1000) 4194305 31831 := fit_at exC_ok (by decide) (by decide) (by decide) (by decide +kernel) (by decide +kernel)
theorem ex3_least : leastR exC ex3 1000 31831 = (31831, 0) := by decide +kernel
theorem ex3_cut : cutR exC [(0, 0), (100, 100), (0, 0)] = (ex3, 0) := by decide +kernel
theorem gLit3 {row : Nat → List V} {x y z : Pt} (h0 : row 0 = [.i x.1, .i x.2]) (h1 : row 1 = [.i y.1, .i y.2]) (h2 : row 2 = [.i z.1, .i z.2]) : RImp (.sl 2 3 row) (V.pts [x, y, z]) := by
  refine RImp.rows rfl fun i hi => ?_
  rcases (by omega : i = 0 ∨ i = 1 ∨ i = 2) with rfl | rfl | rfl
  · exact h0
  · exact h1
  · exact h2
theorem exCut_ac : AC Try.prog 83 [exC.v, V.pts [(0, 0), (100, 100), (0, 0)]] (.tup [V.pts ex3, .i 0]) [] := by
  have A := Cut_ac exC [(0, 0), (100, 100), (0, 0)] (by decide)
  rw [ex3_cut] at A
  exact A
def longB (n : Nat) : Bool := (decide (200 < n) && decide (n ≤ 4096)) || decide (4100 < n)
theorem eq_gp {a b : List Pt} (h : a.length = b.length) (hk : ∀ k, k < a.length → gp a k = gp b k) : a = b := by
  apply List.ext_getElem h
  intro k h1 h2
  have := hk k h1
  simpa [gp, List.getD_eq_getElem?_getD, List.getElem?_eq_getElem h1, List.getElem?_eq_getElem h2] using this
end Go.Proofs.Ytlfaaddoemcokaa
