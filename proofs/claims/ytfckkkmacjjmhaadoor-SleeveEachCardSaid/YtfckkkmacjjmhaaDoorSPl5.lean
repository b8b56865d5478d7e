/-
  Folded sheets: what holds of every list of at most five folds, by the kernel. No condition.
-/
import Derived.Test.YtfckkkmacjjmhaaDoorSPl2
namespace Go.Ab
open Go.RowKit Go.Dw

def foldsTo : Nat → List (List Int)
  | 0 => [[]]
  | n + 1 => [] :: (foldsTo n).flatMap fun f => [1 :: f, 2 :: f]
theorem mem_folds : ∀ {n : Nat} {f : List Int}, FO f → f.length ≤ n → f ∈ foldsTo n
  | 0, f, _, h => by rw [List.length_eq_zero_iff.1 (by omega : f.length = 0)]; simp [foldsTo]
  | n + 1, [], _, _ => by simp [foldsTo]
  | n + 1, k :: f, h, hl => by
    have := mem_folds (n := n) (f := f) (fun x hx => h x (by simp [hx])) (by simpa using hl)
    have hk := h k (by simp)
    simp only [foldsTo, List.mem_cons, List.mem_flatMap]
    exact .inr ⟨f, this, by rcases hk with rfl | rfl <;> simp⟩
/-- the number of a side of a cell -/
def lfAt (c : Int) (x : Lf) : Int := 2 * (x.row * c + x.col) + if x.back then 1 else 0
/-- the rows, and the columns, after some folds -/
def rN (f : List Int) : Nat → Int
  | 0 => 1
  | k + 1 => if gi f k = 2 then rN f k * 2 else rN f k
def cN (f : List Int) : Nat → Int
  | 0 => 1
  | k + 1 => if gi f k = 2 then cN f k else cN f k * 2
def eachB (f : List Int) : Bool :=
  decide (rN f f.length = (stkS f).2.1) && decide (cN f f.length = (stkS f).2.2) && ((List.range (f.length + 1)).all fun k => decide (1 ≤ rN f k ∧ rN f k ≤ 32 ∧ 1 ≤ cN f k ∧ cN f k ≤ 32)) &&
  ((pgL f).all fun x => decide (0 ≤ lfAt (stkS f).2.2 x ∧ lfAt (stkS f).2.2 x < (pgL f).length ∧ 0 ≤ x.row * (stkS f).2.2 ∧ x.row * (stkS f).2.2 ≤ 1024 ∧ ((stkS f).2.1 = 1 → x.turned = false))) &&
  decide ((pgL f).Pairwise fun y x => lfAt (stkS f).2.2 y ≠ lfAt (stkS f).2.2 x ∧ (y.row = x.row → y.turned = x.turned)) &&
  (List.range (stkL f).length).all fun k => decide (0 < k → (glf (stkL f) k).back = !(glf (stkL f) (k - 1)).back)
set_option maxRecDepth 1000000 in
theorem each_all : (foldsTo 5).all eachB = true := by decide +kernel
structure EachOk (f : List Int) : Prop where
  rows : rN f f.length = (stkS f).2.1
  cols : cN f f.length = (stkS f).2.2
  bd : ∀ k, k ≤ f.length → 1 ≤ rN f k ∧ rN f k ≤ 32 ∧ 1 ≤ cN f k ∧ cN f k ≤ 32
  at_ : ∀ i, i < (pgL f).length → 0 ≤ lfAt (stkS f).2.2 (glf (pgL f) i) ∧ lfAt (stkS f).2.2 (glf (pgL f) i) < (pgL f).length ∧ 0 ≤ (glf (pgL f) i).row * (stkS f).2.2 ∧ (glf (pgL f) i).row * (stkS f).2.2 ≤ 1024 ∧ ((stkS f).2.1 = 1 → (glf (pgL f) i).turned = false)
  pair : ∀ i j, j < i → i < (pgL f).length → lfAt (stkS f).2.2 (glf (pgL f) j) ≠ lfAt (stkS f).2.2 (glf (pgL f) i) ∧ ((glf (pgL f) j).row = (glf (pgL f) i).row → (glf (pgL f) j).turned = (glf (pgL f) i).turned)
  alt : ∀ k, 0 < k → k < (stkL f).length → (glf (stkL f) k).back = !(glf (stkL f) (k - 1)).back
theorem eachOk {f : List Int} (h : FO f) (hl : f.length ≤ 5) : EachOk f := by
  have := List.all_eq_true.1 each_all f (mem_folds h hl)
  simp only [eachB, Bool.and_eq_true, decide_eq_true_eq, List.all_eq_true, List.mem_range] at this
  obtain ⟨⟨⟨⟨⟨h1, h2⟩, h3⟩, h4⟩, h5⟩, h6⟩ := this
  refine ⟨h1, h2, fun k hk => h3 k (by omega), fun i hi => ?_, fun i j hj hi => ?_, fun k h0 hk => h6 k hk h0⟩
  · have := h4 (glf (pgL f) i) (by rw [glf_get hi]; exact List.getElem_mem hi)
    exact this
  · rw [glf_get hi, glf_get (show j < (pgL f).length by omega)]
    exact List.pairwise_iff_getElem.1 h5 j i (by omega) hi hj
end Go.Ab
