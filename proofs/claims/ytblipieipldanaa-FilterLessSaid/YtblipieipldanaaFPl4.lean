/-
  Gains: fair ones, greater ones. Conditions: told in each theorem.
-/
import Derived.Test.YtblipieipldanaaFA14
namespace Go.Proofs.Ytblipieipldanaa
open Go.Ab Go.RowKit Go.Dw Go.Shelf

theorem needI_mono {p : Pt} {c c' : Int} (h : 0 ≤ amtS p) (hc : 1 ≤ c) (hcc : c ≤ c') : needI p c ≤ needI p c' := by
  have b := needI_bd hc h
  refine (needI_iff (by omega) h b).1 ?_
  have := (needI_iff hc h b).2 (Int.le_refl _)
  rw [okG_iff b.1] at this ⊢
  omega
theorem gainAt_mono {n n' : List Int} {s s' : Int} (hl : n.length = n'.length) (hn : ∀ k, k < n.length → gi n k ≤ gi n' k) (hs : s ≤ s') {t : Nat} (ht : t < n.length) : gainAt n s t ≤ gainAt n' s' t := by
  obtain ⟨u, hu, he⟩ := gainAt_eq (n := n') (s := s') (t := t) (by omega)
  have h1 := gainAt_le (n := n) (s := s) (t := t) (u := u) (by omega)
  have h2 := hn u (by omega)
  have h3 : s * absI ((t : Int) - (u : Int)) ≤ s' * absI ((t : Int) - (u : Int)) := Int.mul_le_mul_of_nonneg_right hs (absI_nonneg _)
  omega
theorem gainAt_need {n : List Int} {s : Int} {t : Nat} : gainAt n s t ≤ gi n t := (gUp_le n s t n.length).1
theorem gainAt_wide {n : List Int} (hn : ∀ k, 0 ≤ gi n k ∧ gi n k ≤ 256) {t : Nat} (ht : t < n.length) : gainAt n 256 t = gi n t := by
  have h1 := gainAt_need (n := n) (s := 256) (t := t)
  obtain ⟨u, hu, he⟩ := gainAt_eq (n := n) (s := 256) ht
  by_cases h : u = t
  · subst h; rw [he]; simp [absI]
  · have h2 : 1 ≤ absI ((t : Int) - (u : Int)) := by unfold absI; omega
    have h3 := (hn u).1
    have h4 := (hn t).2
    omega
theorem gainL_wide {n : List Int} (hn : ∀ k, 0 ≤ gi n k ∧ gi n k ≤ 256) : gainL n 256 = n :=
  ext_gi (gainL_len n 256) fun k hk => by rw [gainL_len] at hk; rw [gainL_gi hk, gainAt_wide hn hk]
theorem gainAt_same {n : List Int} {s v : Int} (hs : 0 ≤ s) (hn : ∀ k, k < n.length → gi n k = v) {t : Nat} (ht : t < n.length) : gainAt n s t = v := by
  have h1 := gainAt_need (n := n) (s := s) (t := t)
  obtain ⟨u, hu, he⟩ := gainAt_eq (n := n) (s := s) ht
  rw [hn t ht] at h1
  rw [hn u hu] at he
  have := Int.mul_nonneg hs (absI_nonneg ((t : Int) - (u : Int)))
  omega
/-- a programme that is nowhere too loud -/
theorem needI_full {p : Pt} {c : Int} (hc : 1 ≤ c) (h0 : 0 ≤ amtS p) (h : amtS p ≤ c) : needI p c = 256 := by
  have b := needI_bd hc h0
  have h1 := (needI_iff (p := p) (c := c) (g := 256) hc h0 (by decide)).1 ((okG_iff (by decide)).2 (by omega))
  omega
theorem withI_full (n : Int) : withI n 256 = n := by unfold withI; exact Int.mul_tdiv_cancel n (by decide)
theorem limL_full {p : List Pt} {g : List Int} (h : ∀ k, k < p.length → gi g k = 256) : limL p g = p :=
  ext_gp (limL_len p g) fun k hk => by
    rw [limL_len] at hk
    rw [limL_gp hk, h k hk, withI_full, withI_full]
/-- fair lists -/
theorem ckAt_ok {p : List Pt} {c s : Int} {g : List Int} {i : Nat} : ckAt p c s g i = 0 ↔ (0 ≤ gi g i ∧ gi g i ≤ 256) ∧ gi g i ≤ needI (gp p i) c ∧ (0 < i → absI (gi g i - gi g (i - 1)) ≤ s) := by
  unfold ckAt
  split
  · rename_i h; simp; omega
  · split
    · rename_i h; simp; omega
    · split
      · rename_i h1 h2 h; simp; intro _ _ _; exact ⟨h.1, h.2⟩
      · rename_i h1 h2 h; simp; refine ⟨by omega, by omega, fun h0 => ?_⟩; omega
theorem fair_gains {p : List Pt} {c s : Int} (h : gainE p c s = 0) : ckI p c s (gainR p c s) = ((p.length : Int), 0) := by
  obtain ⟨h1, h2⟩ := gainE_ok.1 h
  have hr := (gain_3 h1 h2).2
  have hl := gainR_len h
  rw [ck_4 h hl (fun j hj => ?_), hl]
  rw [hl] at hj
  have hj' : j < (needL p c).length := by rw [needL_len]; exact hj
  have b := gainR_bd h j
  refine ckAt_ok.2 ⟨b, ?_, fun h0 => ?_⟩
  · rw [hr, gainL_gi hj', ← needL_gi hj]; exact gainAt_need
  · rw [hr, gainL_gi hj', gainL_gi (by omega)]
    have a1 := gain_step (n := needL p c) h2.1 (t := j) (t' := j - 1) hj' (by omega)
    have a2 := gain_step (n := needL p c) h2.1 (t := j - 1) (t' := j) (by omega) (by omega)
    unfold absI
    omega
theorem fair_dist {p : List Pt} {c s : Int} {g : List Int} (hf : ∀ j, j < g.length → ckAt p c s g j = 0) : ∀ (d t : Nat), t + d < g.length → absI (gi g (t + d) - gi g t) ≤ s * d
  | 0, t, _ => by simp [absI]
  | d + 1, t, h => by
    have ih := fair_dist hf d t (by omega)
    have h1 := (ckAt_ok.1 (hf (t + (d + 1)) h)).2.2 (by omega)
    rw [show t + (d + 1) - 1 = t + d by omega] at h1
    rw [show ((d + 1 : Nat) : Int) = (d : Int) + 1 by omega, Int.mul_add, Int.mul_one]
    unfold absI at *
    omega
theorem fair_le {p : List Pt} {c s : Int} {g : List Int} (hl : g.length = p.length) (hf : ∀ j, j < g.length → ckAt p c s g j = 0) {t : Nat} (ht : t < g.length) : gi g t ≤ gainAt (needL p c) s t := by
  obtain ⟨u, hu, he⟩ := gainAt_eq (n := needL p c) (s := s) (t := t) (by rw [needL_len]; omega)
  rw [needL_len] at hu
  have h1 := (ckAt_ok.1 (hf u (by omega))).2.1
  rw [he, needL_gi hu]
  have key : gi g t ≤ gi g u + s * absI ((t : Int) - (u : Int)) := by
    by_cases h : u ≤ t
    · have := fair_dist hf (t - u) u (by omega)
      rw [show u + (t - u) = t by omega, show ((t - u : Nat) : Int) = absI ((t : Int) - (u : Int)) by unfold absI; omega] at this
      unfold absI at *
      omega
    · have := fair_dist hf (u - t) t (by omega)
      rw [show t + (u - t) = u by omega, show ((u - t : Nat) : Int) = absI ((t : Int) - (u : Int)) by unfold absI; omega] at this
      unfold absI at *
      omega
  omega
/-- the error 0 means a fair list -/
theorem ck_fair {p : List Pt} {c s : Int} {g : List Int} (h : gainE p c s = 0) (h2 : (ckI p c s g).2 = 0) : g.length = p.length ∧ (ckI p c s g).1 = (g.length : Int) ∧ ∀ j, j < g.length → ckAt p c s g j = 0 := by
  by_cases hl : g.length = p.length
  · by_cases hc : ∃ i, i < g.length ∧ ckAt p c s g i ≠ 0
    · obtain ⟨i, ⟨h3, h4⟩, h5⟩ := least _ hc
      rw [ck_3 h hl h3 h4 fun j hj => by
        by_cases e : ckAt p c s g j = 0
        · exact e
        · have := h5 j ⟨by omega, e⟩; omega] at h2
      exact absurd h2 h4
    · have hall : ∀ j, j < g.length → ckAt p c s g j = 0 := fun j hj => by
        by_cases e : ckAt p c s g j = 0
        · exact e
        · exact absurd ⟨j, hj, e⟩ hc
      refine ⟨hl, ?_, hall⟩
      rw [ck_4 h hl hall]
  · rw [ck_2 h hl] at h2; cases h2
/-- limited channels -/
theorem withI_sign {n g : Int} (hg : 0 ≤ g) : 0 ≤ withI n g * n := by
  unfold withI
  by_cases h : 0 ≤ n
  · exact Int.mul_nonneg (by rw [Int.tdiv_eq_ediv_of_nonneg (Int.mul_nonneg h hg)]; exact Int.ediv_nonneg (Int.mul_nonneg h hg) (by decide)) h
  · have h1 := Int.mul_nonneg (show 0 ≤ -n by omega) hg
    have e : (n * g).tdiv 256 = -((-n * g) / 256) := by
      rw [← Int.tdiv_eq_ediv_of_nonneg h1, Int.neg_mul, Int.neg_tdiv]; omega
    rw [e, Int.neg_mul, ← Int.mul_neg]
    exact Int.mul_nonneg (Int.ediv_nonneg h1 (by decide)) (by omega)
theorem withI_mono {a b g : Int} (hg : 0 ≤ g) (h : absI a ≤ absI b) : absI (withI a g) ≤ absI (withI b g) := by
  rw [withI_abs hg, withI_abs hg]
  exact Int.ediv_le_ediv (by decide) (Int.mul_le_mul_of_nonneg_right h hg)
theorem limited {p : Pt} {c g : Int} (hc : 1 ≤ c) (h0 : 0 ≤ amtS p) (hg : 0 ≤ g ∧ g ≤ 256) (h : g ≤ needI p c) : absI (withI p.1 g) ≤ c ∧ absI (withI p.2 g) ≤ c := by
  have := (needI_iff hc h0 hg).2 h
  unfold okG at this
  simp at this
  omega
end Go.Proofs.Ytblipieipldanaa
