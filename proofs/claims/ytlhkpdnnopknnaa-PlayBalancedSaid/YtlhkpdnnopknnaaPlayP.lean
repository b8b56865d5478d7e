/-
  Plain laws of arms: the best arm, and where a tip leaves its groove. No program in sight. No condition.
-/
import Derived.Test.YtlhkpdnnopknnaaPlayO
namespace Go.Proofs.Ytlhkpdnnopknnaa
open Go.RowKit Go.Dw

def Out1 (h s b : Int) : Prop := h < b - s ∨ b - s < -h
theorem jumpF_spec {h s : Int} : ∀ (bs : List Int) (i : Nat), ((∀ b ∈ bs, ¬ Out1 h s b) ∧ jumpF h s bs i = (0, 0, 5)) ∨
    ∃ k, k < bs.length ∧ ∃ sd, jumpF h s bs i = (((i + k : Nat) : Int) + 1, sd, 0) ∧ (sd = 1 ∧ h < gi bs k - s ∨ sd = -1 ∧ gi bs k - s < -h)
  | [], i => .inl ⟨by simp, rfl⟩
  | b :: r, i => by
    unfold jumpF
    by_cases c1 : h < b - s
    · rw [if_pos c1]
      exact .inr ⟨0, by simp, 1, by simp, .inl ⟨rfl, by simpa [gi] using c1⟩⟩
    · rw [if_neg c1]
      by_cases c2 : b - s < -h
      · rw [if_pos c2]
        exact .inr ⟨0, by simp, -1, by simp, .inr ⟨rfl, by simpa [gi] using c2⟩⟩
      · rw [if_neg c2]
        rcases jumpF_spec r (i + 1) with ⟨h1, h2⟩ | ⟨k, hk, sd, h1, h2⟩
        · refine .inl ⟨fun x hx => ?_, h2⟩
          rcases List.mem_cons.1 hx with rfl | hx
          · unfold Out1; omega
          · exact h1 x hx
        · refine .inr ⟨k + 1, by simpa using hk, sd, by rw [h1]; congr 2; omega, ?_⟩
          have e : gi (b :: r) (k + 1) = gi r k := by simp [gi]
          rw [e]; exact h2
theorem jumpF_none {h s : Int} {bs : List Int} {i : Nat} (hh : ∀ b ∈ bs, ¬ Out1 h s b) : jumpF h s bs i = (0, 0, 5) := by
  rcases jumpF_spec (h := h) (s := s) bs i with h1 | ⟨k, hk, sd, h1, h2⟩
  · exact h1.2
  · exact absurd (by unfold Out1; omega) (hh _ (gi_mem hk))

theorem maxTo_ge {l : List Int} : ∀ {k j : Nat}, j ≤ k → gi l j ≤ maxTo l k
  | 0, j, h => by obtain rfl : j = 0 := by omega
                  exact Int.le_refl _
  | k + 1, j, h => by
    simp only [maxTo]
    rcases Nat.lt_or_ge k j with h1 | h1
    · obtain rfl : j = k + 1 := by omega
      omega
    · have := maxTo_ge (l := l) h1; omega
theorem minTo_le {l : List Int} : ∀ {k j : Nat}, j ≤ k → minTo l k ≤ gi l j
  | 0, j, h => by obtain rfl : j = 0 := by omega
                  exact Int.le_refl _
  | k + 1, j, h => by
    simp only [minTo]
    rcases Nat.lt_or_ge k j with h1 | h1
    · obtain rfl : j = k + 1 := by omega
      omega
    · have := minTo_le (l := l) h1; omega
theorem maxTo_mem {l : List Int} : ∀ k, ∃ j, j ≤ k ∧ maxTo l k = gi l j
  | 0 => ⟨0, Nat.le_refl _, rfl⟩
  | k + 1 => by
    obtain ⟨j, hj, e⟩ := maxTo_mem (l := l) k
    simp only [maxTo]
    rcases Int.le_total (maxTo l k) (gi l (k + 1)) with h | h
    · exact ⟨k + 1, Nat.le_refl _, by omega⟩
    · exact ⟨j, by omega, by omega⟩
theorem minTo_mem {l : List Int} : ∀ k, ∃ j, j ≤ k ∧ minTo l k = gi l j
  | 0 => ⟨0, Nat.le_refl _, rfl⟩
  | k + 1 => by
    obtain ⟨j, hj, e⟩ := minTo_mem (l := l) k
    simp only [minTo]
    rcases Int.le_total (minTo l k) (gi l (k + 1)) with h | h
    · exact ⟨j, by omega, by omega⟩
    · exact ⟨k + 1, Nat.le_refl _, by omega⟩

/-- The best arm is valid, and holds, as does one with a greater Hold. -/
theorem bal_ok {l : List Pt} (hc : checkPts l = 0) : armOK (balArm l).1 (balArm l).2 = true ∧ (balArm l).1 ≤ 67108864 ∧ 0 ≤ (balArm l).1 ∧ ∀ h, (balArm l).1 ≤ h → ∀ b ∈ bendsL l, ¬ Out1 h (balArm l).2 b := by
  have hbd := (checkPts_ok hc).2
  unfold balArm
  by_cases h3 : 3 ≤ l.length
  · rw [if_pos ⟨hc, h3⟩]
    obtain ⟨j1, hj1, e1⟩ := maxTo_mem (l := bendsL l) (l.length - 3)
    obtain ⟨j2, hj2, e2⟩ := minTo_mem (l := bendsL l) (l.length - 3)
    have b1 := gi_bends_bound hbd (k := j1) (by omega)
    have b2 := gi_bends_bound hbd (k := j2) (by omega)
    have b3 : balLo l ≤ balHi l := Int.le_trans (minTo_le (Nat.zero_le _)) (maxTo_ge (Nat.zero_le _))
    have e1' : balHi l = gi (bendsL l) j1 := e1
    have e2' : balLo l = gi (bendsL l) j2 := e2
    refine ⟨armOK_iff.2 (by simp only; omega), by simp only; omega, by simp only; omega, fun h hh b hb => ?_⟩
    obtain ⟨k, hk, rfl⟩ := List.getElem_of_mem hb
    rw [← gi_eq hk]
    rw [bendsL_length] at hk
    have g1 : gi (bendsL l) k ≤ balHi l := maxTo_ge (by omega)
    have g2 : balLo l ≤ gi (bendsL l) k := minTo_le (by omega)
    unfold Out1
    simp only at hh ⊢
    omega
  · rw [if_neg (fun h => h3 h.2)]
    refine ⟨by decide, by decide, by decide, fun h hh b hb => ?_⟩
    have : (bendsL l) = [] := List.eq_nil_of_length_eq_zero (by rw [bendsL_length]; omega)
    rw [this] at hb; simp at hb
/-- Any arm that holds has as great a Hold, and with the same Hold as great a Skate. -/
theorem bal_least {l : List Pt} (hc : checkPts l = 0) {h s : Int} (h0 : 0 ≤ h) (hn : ∀ b ∈ bendsL l, ¬ Out1 h s b) : (balArm l).1 ≤ h ∧ ((balArm l).1 < h ∨ (balArm l).2 ≤ s ∨ l.length < 3) := by
  unfold balArm
  by_cases h3 : 3 ≤ l.length
  · rw [if_pos ⟨hc, h3⟩]
    obtain ⟨j1, hj1, e1⟩ := maxTo_mem (l := bendsL l) (l.length - 3)
    obtain ⟨j2, hj2, e2⟩ := minTo_mem (l := bendsL l) (l.length - 3)
    have m1 := hn _ (gi_mem (l := bendsL l) (k := j1) (by rw [bendsL_length]; omega))
    have m2 := hn _ (gi_mem (l := bendsL l) (k := j2) (by rw [bendsL_length]; omega))
    have e1' : balHi l = gi (bendsL l) j1 := e1
    have e2' : balLo l = gi (bendsL l) j2 := e2
    unfold Out1 at m1 m2
    simp only
    omega
  · rw [if_neg (fun h => h3 h.2)]
    exact ⟨h0, .inr (.inr (by omega))⟩
theorem jumpL_ok {l : List Pt} (hc : checkPts l = 0) {h s : Int} (ha : armOK h s = true) : jumpL h s l = jumpF h s (bendsL l) 0 := by rw [jumpL, if_pos ha, if_pos hc]
theorem jump_best {l : List Pt} (hc : checkPts l = 0) : jumpL (balArm l).1 (balArm l).2 l = (0, 0, 5) := by
  obtain ⟨h1, _, _, h2⟩ := bal_ok hc
  rw [jumpL_ok hc h1]; exact jumpF_none (h2 _ (Int.le_refl _))
theorem jump_greater {l : List Pt} (hc : checkPts l = 0) {m : Int} (hm : 0 ≤ m) : jumpL (min 67108864 ((balArm l).1 + m)) (balArm l).2 l = (0, 0, 5) := by
  obtain ⟨h1, h3, h4, h2⟩ := bal_ok hc
  have a := armOK_iff.1 h1
  rw [jumpL_ok hc (armOK_iff.2 (by omega))]; exact jumpF_none (h2 _ (by omega))
theorem jump_any {l : List Pt} (hc : checkPts l = 0) {h s : Int} (ha : armOK h s = true) :
    (jumpL h s l = (0, 0, 5) ∧ (balArm l).1 ≤ h ∧ ((balArm l).1 < h ∨ (balArm l).2 ≤ s ∨ l.length < 3)) ∨
    ∃ k, k + 2 < l.length ∧ ∃ sd, jumpL h s l = ((k : Int) + 1, sd, 0) ∧ (sd = 1 ∧ h < bendAt l (k + 1) - s ∨ sd = -1 ∧ bendAt l (k + 1) - s < -h) := by
  rw [jumpL_ok hc ha]
  have a := armOK_iff.1 ha
  rcases jumpF_spec (h := h) (s := s) (bendsL l) 0 with ⟨h1, h2⟩ | ⟨k, hk, sd, h1, h2⟩
  · exact .inl ⟨h2, bal_least hc a.1 h1⟩
  · rw [bendsL_length] at hk
    rw [gi_bendsL hk] at h2
    exact .inr ⟨k, by omega, sd, by rw [h1]; congr 2; omega, h2⟩
end Go.Proofs.Ytlhkpdnnopknnaa
