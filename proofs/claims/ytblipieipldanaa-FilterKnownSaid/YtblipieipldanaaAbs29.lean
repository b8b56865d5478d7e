/-
  A row that grew by one. No condition.
-/
import Derived.Test.YtblipieipldanaaAbs27
namespace Go.Ab
open Go.RowKit Go.Dw

/-- a row that grew by one, seen as the row of one more -/
theorem appRow_ok {k : Nat} {F G H : Nat → List V} {r : Nat → Nat} (h1 : ∀ i, i < k → F i = V.renL r (H i)) (h2 : G 0 = V.renL r (H k)) : ∀ i, i < k + 1 → appRow k F G i = V.renL r (H i) := by
  intro i hi
  by_cases h : i < k
  · rw [appRow, if_pos h]; exact h1 i h
  · obtain rfl : i = k := by omega
    rw [appRow, if_neg h, Nat.sub_self]; exact h2
/-- the same with a number in each cell -/
theorem appRow_i {k : Nat} {f : Nat → Int} {G : Nat → List V} {r : Nat → Nat} {n : Int} (h2 : G 0 = [V.i n]) (h : n = f k) : ∀ i, i < k + 1 → appRow k (fun k => [V.i (f k)]) G i = V.renL r ((fun k => [V.i (f k)]) i) :=
  appRow_ok (fun _ _ => rfl) (by rw [h2, h]; rfl)
/-- the same with two numbers in each cell -/
theorem appRow_p {k : Nat} {f g : Nat → Int} {G : Nat → List V} {r : Nat → Nat} {n m : Int} (h2 : G 0 = [V.i n, V.i m]) (h : n = f k) (h' : m = g k) : ∀ i, i < k + 1 → appRow k (fun k => [V.i (f k), V.i (g k)]) G i = V.renL r ((fun k => [V.i (f k), V.i (g k)]) i) :=
  appRow_ok (fun _ _ => rfl) (by rw [h2, h, h']; rfl)
/-! names in rows -/
end Go.Ab
