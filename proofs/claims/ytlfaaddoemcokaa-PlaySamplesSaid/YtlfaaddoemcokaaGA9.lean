/-
  Least radii: the walks of both copies. Conditions: told in each theorem.
-/
import Derived.Test.YtlfaaddoemcokaaGA8
namespace Go.Proofs.Ytlfaaddoemcokaa
open Go.Ab Go.RowKit Go.Dw Go.Shelf

/-! ### farther out no rule is broken that is not broken -/
theorem gRule_zero {c : Cut} {l : List Pt} {r per : Int} {i : Nat} : gRule c l r per i = 0 ↔ ∀ k, 1 ≤ k → k ≤ 5 → ruleB c r per (nb l i) (gp l i) (na l i) k = false := by
  constructor
  · intro h k h1 h5
    cases hk : ruleB c r per (nb l i) (gp l i) (na l i) k with
    | false => rfl
    | true =>
      exfalso
      obtain ⟨m, ⟨m1, m2⟩, m3, m4⟩ : ∃ m : Nat, (1 ≤ m ∧ m ≤ 5) ∧ ruleB c r per (nb l i) (gp l i) (na l i) m = true ∧ ∀ j, 1 ≤ j → j < m → ruleB c r per (nb l i) (gp l i) (na l i) j = false := by
        have ex : ∃ m : Nat, (1 ≤ m ∧ m ≤ 5) ∧ ruleB c r per (nb l i) (gp l i) (na l i) m = true := ⟨k, ⟨h1, h5⟩, hk⟩
        obtain ⟨m, hm, hl⟩ := least _ ex
        refine ⟨m, hm.1, hm.2, fun j a b => ?_⟩
        cases hj : ruleB c r per (nb l i) (gp l i) (na l i) j with
        | false => rfl
        | true => have := hl j ⟨⟨a, by omega⟩, hj⟩; omega
      rw [gRule, ruleP_at m1 m2 m4 m3] at h
      omega
  · intro h
    exact ruleP_no h
theorem gArc_mono {r r' per : Int} (hr : 0 ≤ r) (h : r ≤ r') (hp : 1 ≤ per) : gArc r per ≤ gArc r' per := by
  unfold gArc
  have h1 : 0 ≤ 710 * r * (710 * r) := Int.mul_nonneg (by omega) (by omega)
  have h2 : 710 * r * (710 * r) ≤ 710 * r' * (710 * r') := Int.mul_le_mul (by omega) (by omega) (by omega) (by omega)
  rw [Int.tdiv_eq_ediv_of_nonneg h1, Int.tdiv_eq_ediv_of_nonneg (by omega)]
  have h3 : 0 < 113 * per * (113 * per) := Int.mul_pos (by omega) (by omega)
  exact Int.ediv_le_ediv h3 h2
theorem ruleB_mono {c : Cut} {r r' per : Int} {b : Option Pt} {h : Pt} {a : Option Pt} {k : Nat} (hc : cutE c = 0) (hr : 0 ≤ r) (hrr : r ≤ r') (hp : 1 ≤ per) (h1 : ruleB c r per b h a k = false) : ruleB c r' per b h a k = false := by
  obtain ⟨c1, c2, c3, c4, c5, c6, c7⟩ := cutE_ok.1 hc
  have m1 : 710 * r * c.slope ≤ 710 * r' * c.slope := Int.mul_le_mul_of_nonneg_right (by omega) c5.1
  have m2 := gArc_mono hr hrr hp
  unfold ruleB at h1 ⊢
  split at h1 <;> rename_i e
  · exact h1
  · exact h1
  · simp only [steepB, decide_eq_false_iff_not] at h1 ⊢; omega
  · exact h1
  · simp only [sharpB, decide_eq_false_iff_not] at h1 ⊢; omega
theorem gRule_mono {c : Cut} {l : List Pt} {r r' per : Int} {i : Nat} (hc : cutE c = 0) (hr : 0 ≤ r) (hrr : r ≤ r') (hp : 1 ≤ per) (h : gRule c l r per i = 0) : gRule c l r' per i = 0 :=
  gRule_zero.2 fun k h1 h5 => ruleB_mono hc hr hrr hp (gRule_zero.1 h k h1 h5)
theorem fitB_iff {c : Cut} {l : List Pt} {per r : Int} : fitB c l per r = true ↔ ∀ i, i < l.length → gRule c l r per i = 0 := by
  unfold fitB
  rw [decide_eq_true_eq]
  constructor
  · intro h
    cases hf : faultN c l r per with
    | none => exact faultN_none.1 hf
    | some i =>
      rw [faultR, hf] at h
      have := (faultN_some.1 hf).2.1
      simp only at h
      omega
  · intro h
    rw [faultR_none h]
theorem fit_fst {c : Cut} (l : List Pt) {per : Int} (hc : cutE c = 0) (hp : 1 ≤ per) : ∃ F, IsFst (fitB c l per) 4194305 F :=
  fst_exists (by decide) fun m n h0 hmn _ hm => fitB_iff.2 fun i hi => gRule_mono hc h0 hmn hp (fitB_iff.1 hm i hi)
theorem need_fst {c : Cut} (l : List Pt) {per : Int} (i : Nat) (hc : cutE c = 0) (hp : 1 ≤ per) : ∃ F, IsFst (needB c l per i) 4194305 F :=
  fst_exists (by decide) fun m n h0 hmn _ hm => by
    unfold needB at hm ⊢
    rw [decide_eq_true_eq] at hm ⊢
    exact gRule_mono hc h0 hmn hp hm
/-- the least radius, by the number from which on there is no fault -/
def leastR (c : Cut) (l : List Pt) (per F : Int) : Int × Int :=
  if gErr c l = 0 then (if turnE per = 0 then (if F ≤ 4194304 then (F, 0) else (0, 14)) else (0, 3)) else (0, gErr c l)
theorem leastR_1 {c : Cut} {l : List Pt} {per F : Int} (h : ¬ gErr c l = 0) : leastR c l per F = (0, gErr c l) := by rw [leastR, if_neg h]
theorem leastR_2 {c : Cut} {l : List Pt} {per F : Int} (h : gErr c l = 0) (h2 : ¬ turnE per = 0) : leastR c l per F = (0, 3) := by rw [leastR, if_pos h, if_neg h2]
theorem leastR_3 {c : Cut} {l : List Pt} {per F : Int} (h : gErr c l = 0) (h2 : turnE per = 0) : leastR c l per F = (if F ≤ 4194304 then F else 0, if F ≤ 4194304 then 0 else 14) := by
  rw [leastR, if_pos h, if_pos h2]; split <;> rfl
theorem plcE_0 (per : Int) : plcE 0 per = turnE per := by
  rw [plcE_turn, if_pos (by decide)]
/-- the number is the right one where there is one -/
def FstOk (c : Cut) (l : List Pt) (per F : Int) : Prop := gErr c l = 0 → turnE per = 0 → IsFst (fitB c l per) 4194305 F
theorem fstOk_ex (c : Cut) (l : List Pt) (per : Int) : ∃ F, FstOk c l per F := by
  by_cases h : gErr c l = 0 ∧ turnE per = 0
  · obtain ⟨F, hF⟩ := fit_fst l (gErr_ok h.1).1 (turnE_ok.1 h.2).1
    exact ⟨F, fun _ _ => hF⟩
  · exact ⟨0, fun a b => absurd ⟨a, b⟩ h⟩
end Go.Proofs.Ytlfaaddoemcokaa
