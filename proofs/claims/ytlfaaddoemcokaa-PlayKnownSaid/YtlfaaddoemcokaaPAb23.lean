/-
  The plain law of round tips: they are valid; one with a greater radius is blunter; what they miss. No condition.
-/
import Derived.Test.YtlfaaddoemcokaaPAb22
import Derived.Test.YtlfaaddoemcokaaPC
import Derived.Test.YtlfaaddoemcokaaPAb19
namespace Go.Proofs.Ytlfaaddoemcokaa
open Go.Ab Go.RowKit Go.Dw Go.Shelf

/-- the root, rounded up -/
def ceilI (n : Int) : Int := rootI n + if rootI n * rootI n = n then 0 else 1
theorem ceilI_spec {n : Int} (h : 0 ≤ n) : 0 ≤ ceilI n ∧ n ≤ ceilI n * ceilI n ∧ ∀ c, 0 ≤ c → n ≤ c * c → ceilI n ≤ c := by
  obtain ⟨a, b, c⟩ := rootI_spec h
  unfold ceilI
  split
  · rename_i he
    refine ⟨by omega, by rw [Int.add_zero]; omega, fun d hd hn => ?_⟩
    rw [Int.add_zero]
    exact root_le a hd (n := n) b (by
      have : d * d < (d + 1) * (d + 1) := by rw [Int.add_mul, Int.mul_add, Int.mul_add]; omega
      omega)
  · rename_i he
    refine ⟨by omega, by omega, fun d hd hn => ?_⟩
    by_cases hc : rootI n + 1 ≤ d
    · exact hc
    · exfalso
      have h1 : d ≤ rootI n := by omega
      have h2 : d * d ≤ rootI n * rootI n := Int.mul_le_mul h1 h1 hd a
      omega
theorem elt_down (r a : Int) (k : Nat) : elt r a false k = r - ceilI (sqI r a k) := by
  unfold elt ceilI
  by_cases h : rootI (sqI r a k) * rootI (sqI r a k) = sqI r a k
  · simp [h]
  · simp [h]
theorem elt_up (r a : Int) (k : Nat) : elt r a true k = r - rootI (sqI r a k) := by simp [elt]
/-- the index is within the radius -/
theorem eltN_mul {r a : Int} {k : Nat} (hr : 0 ≤ r) (ha : 1 ≤ a) (h : k < eltN r a) : 0 ≤ (k : Int) * a ∧ (k : Int) * a ≤ r := by
  unfold eltN at h
  have := (tdiv_bd r (m := a) (by omega)).1 hr
  exact mul_le_of_tdiv hr ha (by omega) (by omega)
theorem eltN_mono {r r' a : Int} (hr : 0 ≤ r) (ha : 1 ≤ a) (h : r ≤ r') : eltN r a ≤ eltN r' a := by
  have := tdiv_mono (m := a) (by omega) h
  have := (tdiv_bd r (m := a) (by omega)).1 hr
  unfold eltN
  omega
theorem sqI_nn {r a : Int} {k : Nat} (hr : 0 ≤ r) (ha : 1 ≤ a) (h : k < eltN r a) : 0 ≤ sqI r a k ∧ sqI r a k ≤ r * r := by
  obtain ⟨h1, h2⟩ := eltN_mul hr ha h
  obtain ⟨b1, b2⟩ := sq_le h1 h2
  unfold sqI
  omega
theorem elt_bd {r a : Int} {up : Bool} {k : Nat} (hr : 0 ≤ r) (ha : 1 ≤ a) (h : k < eltN r a) : 0 ≤ elt r a up k ∧ elt r a up k ≤ r := by
  obtain ⟨s1, s2⟩ := sqI_nn hr ha h
  cases up with
  | false =>
    rw [elt_down]
    obtain ⟨c1, c2, c3⟩ := ceilI_spec s1
    have := c3 r hr s2
    omega
  | true =>
    rw [elt_up]
    obtain ⟨c1, c2, c3⟩ := rootI_spec s1
    have := root_le c1 hr (n := r * r) (by omega) (by rw [Int.add_mul, Int.mul_add, Int.mul_add]; omega)
    omega
theorem elt_zero {r a : Int} {up : Bool} (hr : 0 ≤ r) : elt r a up 0 = 0 := by
  have h0 : sqI r a 0 = r * r := by simp [sqI]
  have h1 := Int.mul_nonneg hr hr
  have h2 : rootI (r * r) = r := (root_uniq h1 hr (Int.le_refl _) (by rw [Int.add_mul, Int.mul_add, Int.mul_add]; omega)).symm
  cases up with
  | false => rw [elt_down, h0, ceilI, h2, if_pos rfl]; omega
  | true => rw [elt_up, h0, h2]; omega
theorem sqI_anti {r a : Int} {j k : Nat} (ha : 1 ≤ a) (h : j ≤ k) : sqI r a k ≤ sqI r a j := by
  have h1 : 0 ≤ (j : Int) * a := Int.mul_nonneg (by omega) (by omega)
  have h2 : (j : Int) * a ≤ (k : Int) * a := Int.mul_le_mul_of_nonneg_right (by omega) (by omega)
  obtain ⟨_, b⟩ := sq_le h1 h2
  unfold sqI
  omega
theorem elt_next {r a : Int} {up : Bool} {k : Nat} (hr : 0 ≤ r) (ha : 1 ≤ a) (h : k + 1 < eltN r a) : elt r a up k ≤ elt r a up (k + 1) := by
  have s0 := (sqI_nn (k := k) hr ha (by omega)).1
  have s1 := (sqI_nn (k := k + 1) hr ha h).1
  have s2 := sqI_anti (r := r) (a := a) (j := k) (k := k + 1) ha (by omega)
  cases up with
  | false =>
    rw [elt_down, elt_down]
    obtain ⟨c1, c2, c3⟩ := ceilI_spec s0
    have := (ceilI_spec s1).2.2 _ c1 (by omega)
    omega
  | true =>
    rw [elt_up, elt_up]
    obtain ⟨c1, c2, c3⟩ := rootI_spec s0
    obtain ⟨d1, d2, d3⟩ := rootI_spec s1
    have := root_le d1 c1 (n := sqI r a k) (by omega) c3
    omega
theorem checkTip_round {r a : Int} {up : Bool} (h : roundE r a = 0) : checkTip (eltL r a up) = 0 := by
  obtain ⟨h1, h2, h3, h4, h5⟩ := roundE_ok.1 h
  have hl := eltL_len r a up
  have hp : 0 < eltN r a := by unfold eltN; omega
  refine checkTip_good (by omega) fun k hk => ?_
  have b := elt_bd (up := up) h1 h3 (k := k) (by omega)
  have g := eltL_gi (r := r) (a := a) (up := up) (k := k) (by omega)
  unfold tipBad
  by_cases h0 : k = 0
  · subst h0
    rw [if_pos rfl, g, elt_zero h1]
    rfl
  · have h6 := elt_next (up := up) h1 h3 (k := k - 1) (by omega)
    have g2 := eltL_gi (r := r) (a := a) (up := up) (k := k - 1) (by omega)
    rw [Nat.sub_add_cancel (by omega)] at h6
    rw [if_neg h0, g, g2]
    simp
    omega
/-- a greater radius: a blunter tip -/
theorem elt_step {r a : Int} {k : Nat} (hr : 0 ≤ r) (ha : 1 ≤ a) (h : k < eltN r a) : elt (r + 1) a false k ≤ elt r a false k := by
  have h' : k < eltN (r + 1) a := Nat.lt_of_lt_of_le h (eltN_mono hr ha (by omega))
  obtain ⟨c1, c2, c3⟩ := ceilI_spec (sqI_nn hr ha h).1
  obtain ⟨d1, d2, d3⟩ := ceilI_spec (sqI_nn (by omega) ha h').1
  obtain ⟨e1, e2⟩ := elt_bd (up := false) (by omega) ha h'
  rw [elt_down] at e1 e2
  rw [elt_down, elt_down]
  have hs : sqI (r + 1) a k = sqI r a k + 2 * r + 1 := by
    unfold sqI
    rw [Int.add_mul, Int.mul_add, Int.mul_add]
    omega
  have s0 := (sqI_nn hr ha h).1
  generalize ceilI (sqI (r + 1) a k) = c at *
  have hc : 1 ≤ c := by
    by_cases hc : 1 ≤ c
    · exact hc
    · obtain rfl : c = 0 := by omega
      omega
  have hq : (c - 1) * (c - 1) = c * c - 2 * c + 1 := by rw [Int.sub_mul, Int.mul_sub, Int.mul_sub]; omega
  have := c3 (c - 1) (by omega) (by omega)
  omega
theorem elt_mono {r a : Int} {k : Nat} (m : Nat) (hr : 0 ≤ r) (ha : 1 ≤ a) (h : k < eltN r a) : elt (r + m) a false k ≤ elt r a false k := by
  induction m with
  | zero => simp
  | succ m ih =>
    have := elt_step (r := r + m) (k := k) (by omega) ha (Nat.lt_of_lt_of_le h (eltN_mono hr ha (by omega)))
    rw [show r + ((m + 1 : Nat) : Int) = r + m + 1 by omega]
    omega
def exactB (l : List Pt) (a r : Int) : Bool := decide ((missI (eltL r a false) l).2.2 = 5)
theorem missI_tag2 (t : List Int) (l : List Pt) : (missP t l = none ∧ (missI t l).2.2 = 5) ∨ (missP t l ≠ none ∧ (missI t l).2.2 = 0) := by
  unfold missI
  cases missP t l with
  | none => exact .inl ⟨rfl, rfl⟩
  | some p => exact .inr ⟨by simp, rfl⟩
theorem missP_nn {t : List Int} {l : List Pt} : missP t l = none ↔ ∀ i, i < l.length → ∀ u, u < l.length → missB t l i u = false := by
  simp [missP, missRow]
theorem exact_iff {l : List Pt} {a r : Int} : exactB l a r = true ↔ ∀ i, i < l.length → ∀ u, u < l.length → missB (eltL r a false) l i u = false := by
  rw [← missP_nn, exactB, decide_eq_true_eq]
  rcases missI_tag2 (eltL r a false) l with ⟨h1, h2⟩ | ⟨h1, h2⟩
  · simp [h1, h2]
  · simp [h1, h2]
theorem exact_down {l : List Pt} {a r : Int} (m : Nat) (hr : 0 ≤ r) (ha : 1 ≤ a) (h : exactB l a (r + m) = true) : exactB l a r = true := by
  rw [exact_iff] at h ⊢
  intro i hi u hu
  have := h i hi u hu
  have hN := eltN_mono (r' := r + m) hr ha (by omega)
  unfold missB at this ⊢
  rw [eltL_len] at this ⊢
  by_cases hd : dist u i < eltN r a
  · have hm := elt_mono m hr ha hd
    rw [eltL_gi hd]
    rw [eltL_gi (by omega)] at this
    simp [hd, show dist u i < eltN (r + m) a by omega] at this ⊢
    omega
  · simp [hd]
theorem exact_zero {l : List Pt} {a : Int} (ha : 1 ≤ a) : exactB l a 0 = true := by
  rw [exact_iff]
  intro i hi u hu
  have hN : eltN 0 a = 1 := by simp [eltN]
  unfold missB
  rw [eltL_len, hN]
  by_cases hd : dist u i < 1
  · have e : u = i := by unfold dist at hd; omega
    subst e
    rw [show dist u u = 0 by omega, eltL_gi (by omega), elt_zero (by omega)]
    simp
  · simp [hd]
end Go.Proofs.Ytlfaaddoemcokaa
