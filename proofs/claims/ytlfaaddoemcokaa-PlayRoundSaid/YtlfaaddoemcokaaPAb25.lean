/-
  The plain law of rounding: a round tip rounded down and one rounded up. No condition.
-/
import Derived.Test.YtlfaaddoemcokaaPAb24
namespace Go.Proofs.Ytlfaaddoemcokaa
open Go.Ab Go.RowKit Go.Dw Go.Shelf

theorem down_up {r a : Int} {k : Nat} (hr : 0 ≤ r) (ha : 1 ≤ a) (h : k < eltN r a) :
    0 ≤ r - elt r a true k ∧ r - elt r a true k ≤ r - elt r a false k ∧ (r - elt r a false k) - (r - elt r a true k) ≤ 1 ∧ sqI r a k ≤ (r - elt r a false k) * (r - elt r a false k) ∧ (r - elt r a true k) * (r - elt r a true k) ≤ sqI r a k := by
  obtain ⟨s1, _⟩ := sqI_nn hr ha h
  obtain ⟨c1, c2, c3⟩ := ceilI_spec s1
  obtain ⟨d1, d2, d3⟩ := rootI_spec s1
  rw [elt_down, elt_up, show r - (r - ceilI (sqI r a k)) = ceilI (sqI r a k) by omega, show r - (r - rootI (sqI r a k)) = rootI (sqI r a k) by omega]
  refine ⟨d1, ?_, ?_, c2, d2⟩
  · unfold ceilI; split <;> omega
  · unfold ceilI; split <;> omega
theorem elt_le {r r' a : Int} {k : Nat} (hr : 0 ≤ r) (ha : 1 ≤ a) (h : k < eltN r a) (hr' : r ≤ r') : elt r' a false k ≤ elt r a false k := by
  have := elt_mono (r := r) (a := a) (k := k) (r' - r).toNat hr ha h
  rwa [show r + ((r' - r).toNat : Int) = r' by omega] at this
theorem miss_round {l : List Pt} {a r : Int} (h : roundE r a = 0) (hl : checkPts l = 0) : (missO (eltL r a false) l).2.2 = (missI (eltL r a false) l).2.2 := by
  rw [missO, if_pos (checkBoth_of (checkTip_round h) hl)]
theorem exact_best {l : List Pt} {a r : Int} {m : Nat} (h0 : 0 ≤ r) (ha : 1 ≤ a) (hm : r ≤ m) : exactB l a r = decide (r ≤ best l a m) := by
  obtain ⟨b0, b1, b2, b3⟩ := best_spec l ha m
  by_cases h : r ≤ best l a m
  · rw [exact_le h0 ha h b2]; simp [h]
  · rw [b3 r (by omega) hm]; simp [h]
end Go.Proofs.Ytlfaaddoemcokaa
