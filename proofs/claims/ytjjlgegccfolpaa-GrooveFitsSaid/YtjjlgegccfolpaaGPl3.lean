/-
  Faults of grooves that are turned round, mirrored, moved, cut to parts, or held to milder limits, in plain Lean. Conditions: told in each theorem.
-/
import Derived.Test.YtjjlgegccfolpaaGA11
namespace Go.Proofs.Ytjjlgegccfolpaa
open Go.Ab Go.RowKit Go.Dw Go.Shelf

def wdA (l : List Pt) (i : Nat) : Int := (gp l i).2 - (gp l i).1
def stA (l : List Pt) (i : Nat) : Int := max (gAmt ((gp l (i + 1)).1 - (gp l i).1)) (gAmt ((gp l (i + 1)).2 - (gp l i).2))
def bdA (l : List Pt) (i : Nat) : Int := max (gAmt ((gp l i).1 + (gp l (i + 2)).1 - 2 * (gp l (i + 1)).1)) (gAmt ((gp l i).2 + (gp l (i + 2)).2 - 2 * (gp l (i + 1)).2))
structure GOk (c : Cut) (l : List Pt) (r per : Int) : Prop where
  w : ∀ i, i < l.length → c.thin ≤ wdA l i ∧ wdA l i ≤ c.wide
  s : ∀ i, i + 1 < l.length → 113000 * per * stA l i ≤ 710 * r * c.slope
  b : ∀ i, i + 2 < l.length → bdA l i ≤ c.jerk ∧ bdA l i * c.sty ≤ gArc r per
theorem gOk_iff {c : Cut} {l : List Pt} {r per : Int} (hc : cutE c = 0) (hr : 0 ≤ r) (hp : 1 ≤ per) : (∀ i, i < l.length → gRule c l r per i = 0) ↔ GOk c l r per := by
  obtain ⟨c1, c2, c3, c4, c5, c6, c7⟩ := cutE_ok.1 hc
  have hz : 0 ≤ 710 * r * c.slope := Int.mul_nonneg (by omega) c5.1
  have ha : 0 ≤ gArc r per := by
    unfold gArc
    have h1 : 0 ≤ 710 * r * (710 * r) := Int.mul_nonneg (by omega) (by omega)
    have h2 : 0 ≤ 113 * per * (113 * per) := Int.mul_nonneg (by omega) (by omega)
    rw [Int.tdiv_eq_ediv_of_nonneg h1]
    exact Int.ediv_nonneg h1 h2
  constructor
  · intro h
    refine ⟨fun i hi => ?_, fun i hi => ?_, fun i hi => ?_⟩
    · have q := gRule_zero.1 (h i hi)
      have q1 := q 1 (by decide) (by decide)
      have q2 := q 2 (by decide) (by decide)
      simp only [ruleB, thinB, wideB, decide_eq_false_iff_not] at q1 q2
      unfold wdA; omega
    · have q := gRule_zero.1 (h (i + 1) hi) 3 (by decide) (by decide)
      simp only [ruleB, steepB, decide_eq_false_iff_not] at q
      rw [nb, if_pos (by omega), Nat.add_sub_cancel] at q
      exact Int.not_lt.1 q
    · have q := gRule_zero.1 (h (i + 1) (by omega))
      have q4 := q 4 (by decide) (by decide)
      have q5 := q 5 (by decide) (by decide)
      simp only [ruleB, suddenB, sharpB, decide_eq_false_iff_not] at q4 q5
      rw [nb, if_pos (by omega), Nat.add_sub_cancel, na, if_pos hi] at q4 q5
      exact ⟨Int.not_lt.1 q4, Int.not_lt.1 q5⟩
  · rintro ⟨hw, hs, hb⟩ i hi
    refine gRule_zero.2 fun k k1 k5 => ?_
    rcases (by omega : k = 1 ∨ k = 2 ∨ k = 3 ∨ k = 4 ∨ k = 5) with rfl | rfl | rfl | rfl | rfl
    · have := hw i hi
      unfold wdA at this
      simp only [ruleB, thinB, decide_eq_false_iff_not]; omega
    · have := hw i hi
      unfold wdA at this
      simp only [ruleB, wideB, decide_eq_false_iff_not]; omega
    · simp only [ruleB, steepB, decide_eq_false_iff_not]
      by_cases h0 : 0 < i
      · obtain ⟨j, rfl⟩ : ∃ j, i = j + 1 := ⟨i - 1, by omega⟩
        rw [nb, if_pos h0, Nat.add_sub_cancel]
        exact Int.not_lt.2 (hs j hi)
      · rw [nb, if_neg h0]
        simp only [stepP, Int.mul_zero]
        omega
    · simp only [ruleB, suddenB, decide_eq_false_iff_not]
      by_cases h0 : 0 < i ∧ i + 1 < l.length
      · obtain ⟨j, rfl⟩ : ∃ j, i = j + 1 := ⟨i - 1, by omega⟩
        rw [nb, if_pos h0.1, Nat.add_sub_cancel, na, if_pos h0.2]
        exact Int.not_lt.2 (hb j h0.2).1
      · rw [bend_out h0]; omega
    · simp only [ruleB, sharpB, decide_eq_false_iff_not]
      by_cases h0 : 0 < i ∧ i + 1 < l.length
      · obtain ⟨j, rfl⟩ : ∃ j, i = j + 1 := ⟨i - 1, by omega⟩
        rw [nb, if_pos h0.1, Nat.add_sub_cancel, na, if_pos h0.2]
        exact Int.not_lt.2 (hb j h0.2).2
      · rw [bend_out h0, Int.zero_mul]; omega
theorem fit_ok {c : Cut} {l : List Pt} {r per : Int} (hc : cutE c = 0) (hr : 0 ≤ r) (hp : 1 ≤ per) : fitB c l per r = true ↔ GOk c l r per := fitB_iff.trans (gOk_iff hc hr hp)
theorem IsFst.congr {p q : Int → Bool} {M F : Int} (h : IsFst p M F) (e : ∀ n, 0 ≤ n → n < M → p n = q n) : IsFst q M F :=
  ⟨h.b, fun n a b => by rw [← e n a (by have := h.b; omega)]; exact h.lo n a b, fun n a b => by rw [← e n (by have := h.b; omega) b]; exact h.hi n a b⟩
/-- two grooves that have the same faults -/
def Alike (l m : List Pt) : Prop := ∀ (c : Cut) (r per : Int), GOk c l r per ↔ GOk c m r per
theorem Alike.fst {c : Cut} {l m : List Pt} {per F : Int} (h : Alike l m) (hc : cutE c = 0) (hp : 1 ≤ per) (hF : IsFst (fitB c l per) 4194305 F) : IsFst (fitB c m per) 4194305 F :=
  hF.congr fun n h0 _ => by
    rw [Bool.eq_iff_iff, fit_ok hc h0 hp, fit_ok hc h0 hp]
    exact h c n per
/-! ### parts -/
theorem gp_part {l : List Pt} {a n i : Nat} (h : i < n) : gp ((l.drop a).take n) i = gp l (a + i) := by
  simp only [gp, List.getD_eq_getElem?_getD]
  rw [List.getElem?_take, if_pos h, List.getElem?_drop]
theorem GOk.part {c : Cut} {l : List Pt} {r per : Int} (h : GOk c l r per) (a n : Nat) : GOk c ((l.drop a).take n) r per := by
  refine ⟨fun i hi => ?_, fun i hi => ?_, fun i hi => ?_⟩ <;> rw [List.length_take, List.length_drop] at hi
  · have := h.w (a + i) (by omega)
    unfold wdA at this ⊢
    rwa [gp_part (by omega)]
  · have := h.s (a + i) (by omega)
    unfold stA at this ⊢
    rwa [gp_part (by omega), gp_part (by omega)]
  · have := h.b (a + i) (by omega)
    unfold bdA at this ⊢
    rwa [gp_part (by omega), gp_part (by omega), gp_part (by omega)]
/-! ### milder limits -/
theorem GOk.milder {c m : Cut} {l : List Pt} {r per p' : Int} (h : GOk c l r per) (hr : 0 ≤ r) (hp : 1 ≤ p' ∧ p' ≤ per) (h1 : m.thin ≤ c.thin) (h2 : c.wide ≤ m.wide) (h3 : c.slope ≤ m.slope) (h4 : c.jerk ≤ m.jerk) (h5 : 0 ≤ m.sty ∧ m.sty ≤ c.sty) : GOk m l r p' := by
  refine ⟨fun i hi => ?_, fun i hi => ?_, fun i hi => ?_⟩
  · have := h.w i hi; omega
  · have a := h.s i hi
    have st0 : 0 ≤ stA l i := by unfold stA gAmt; omega
    have e1 : 113000 * p' * stA l i ≤ 113000 * per * stA l i := Int.mul_le_mul_of_nonneg_right (by omega) st0
    have e2 : 710 * r * c.slope ≤ 710 * r * m.slope := Int.mul_le_mul_of_nonneg_left h3 (by omega)
    omega
  · obtain ⟨a, b⟩ := h.b i hi
    have bd0 : 0 ≤ bdA l i := by unfold bdA gAmt; omega
    have e1 : bdA l i * m.sty ≤ bdA l i * c.sty := Int.mul_le_mul_of_nonneg_left h5.2 bd0
    have e2 : gArc r per ≤ gArc r p' := by
      unfold gArc
      have h1 : 0 ≤ 710 * r * (710 * r) := Int.mul_nonneg (by omega) (by omega)
      rw [Int.tdiv_eq_ediv_of_nonneg h1, Int.tdiv_eq_ediv_of_nonneg h1]
      have h3 : 0 < 113 * p' * (113 * p') := Int.mul_pos (by omega) (by omega)
      have h4 : 113 * p' * (113 * p') ≤ 113 * per * (113 * per) := Int.mul_le_mul (by omega) (by omega) (by omega) (by omega)
      have q := Int.ediv_nonneg h1 (show 0 ≤ 113 * per * (113 * per) by omega)
      refine (Int.le_ediv_iff_mul_le h3).2 ?_
      have k1 : 710 * r * (710 * r) / (113 * per * (113 * per)) * (113 * p' * (113 * p')) ≤ 710 * r * (710 * r) / (113 * per * (113 * per)) * (113 * per * (113 * per)) := Int.mul_le_mul_of_nonneg_left h4 q
      have k2 := Int.ediv_mul_le (710 * r * (710 * r)) (show 113 * per * (113 * per) ≠ 0 by omega)
      omega
    omega
end Go.Proofs.Ytjjlgegccfolpaa
