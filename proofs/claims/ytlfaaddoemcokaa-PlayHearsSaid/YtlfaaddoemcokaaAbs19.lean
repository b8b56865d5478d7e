/-
  Arguments of a law as values without addresses. No condition.
-/
import Derived.Test.YtlfaaddoemcokaaAbs18
namespace Go.Ab
open Go.RowKit Go.Dw
section
variable {w : World} {ρ : Nat → Option Value} {A : Option Addr} {n c : Nat}
abbrev Old (w : World) : Nat → Prop := fun b => b < w.heap.size
theorem old_nums {k : IntKind} {l : List Int} (h : SlAt (fun x => [.int k x]) 1 w A n l) (hcap : n ≤ c) : R w (Old w) ρ (V.nums k l) (.slice A n c) := by
  rcases Nat.eq_zero_or_pos n with rfl | hn
  · have hl := h.1
    have : V.nums k l = .sl 1 0 fun i => [.c (.int k (gi l i))] := by unfold V.nums; rw [hl]
    rw [this]
    exact .sl0 _ _ _ _ _
  · refine R_nums h hcap fun b hb => ?_
    obtain ⟨b', o, rfl, hlt, _⟩ := h.2.2 hn
    simp at hb; subst hb; exact hlt
theorem old_ints {l : List Int} (h : IntsAt w A n l) (hcap : n ≤ c) : R w (Old w) ρ (V.ints l) (.slice A n c) := old_nums (k := .i64) h hcap
theorem old_pts {l : List Pt} (h : PtsAt w A n l) (hcap : n ≤ c) : R w (Old w) ρ (V.pts l) (.slice A n c) := by
  rcases Nat.eq_zero_or_pos n with rfl | hn
  · have hl := h.1
    have : V.pts l = .sl 2 0 fun k => [V.i (gp l k).1, V.i (gp l k).2] := by unfold V.pts; rw [hl]
    rw [this]
    exact .sl0 _ _ _ _ _
  · refine R_pts h hcap fun b hb => ?_
    obtain ⟨b', o, rfl, hlt, _⟩ := h.2.2 hn
    simp at hb; subst hb; exact hlt
theorem old_tip {l : List Int} (h : IntsAt w A n l) (hcap : n ≤ c) : R w (Old w) ρ (.agg [V.ints l]) (.agg #[.slice A n c]) := .agg' (.cons (old_ints h hcap) rfl .nil)
end
end Go.Ab
