/-
  The samples of extents: the walks of both copies. Conditions: told in each theorem.
-/
import Derived.Test.YtlfaaddoemcokaaPAb17
namespace Go.Proofs.Ytlfaaddoemcokaa
open Go.Ab Go.RowKit Go.Dw Go.Shelf

/-- the first one from -32767 to 32768 from which on something holds -/
def IsFirst (p : Int → Bool) (F : Int) : Prop := -32767 ≤ F ∧ F ≤ 32768 ∧ (∀ n, -32767 ≤ n → n < F → p n = false) ∧ ∀ n, F ≤ n → n ≤ 32767 → p n = true
theorem tdiv_bd (x : Int) {m : Int} (hm : 0 < m) : (0 ≤ x → 0 ≤ x.tdiv m ∧ x.tdiv m ≤ x) ∧ (x < 0 → x ≤ x.tdiv m ∧ x.tdiv m ≤ 0) := by
  refine ⟨fun h => ?_, fun h => ?_⟩
  · rw [Int.tdiv_eq_ediv_of_nonneg h]
    exact ⟨Int.ediv_nonneg h (by omega), Int.ediv_le_self _ h⟩
  · have e : x.tdiv m = -((-x) / m) := by
      have := Int.neg_tdiv (a := -x) (b := m)
      rw [Int.neg_neg] at this
      rw [this, Int.tdiv_eq_ediv_of_nonneg (by omega)]
    have h3 := Int.ediv_nonneg (a := -x) (b := m) (by omega) (by omega)
    have h4 := Int.ediv_le_self (a := -x) m (by omega)
    omega
def edgeI (half gain n : Int) : Int := half + (n * gain).tdiv 1000
end Go.Proofs.Ytlfaaddoemcokaa
