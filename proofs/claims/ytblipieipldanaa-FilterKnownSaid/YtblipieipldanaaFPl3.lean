/-
  Needs and gains in plain terms. Conditions: told in each theorem.
-/
import Derived.Test.YtblipieipldanaaFIt
import Derived.Test.YtblipieipldanaaFPl2
namespace Go.Proofs.Ytblipieipldanaa
open Go.Ab Go.RowKit Go.Dw Go.Shelf

/-! needs -/
def amtS (p : Pt) : Int := max (max (max p.1 (-p.1)) p.2) (-p.2)
def needI (p : Pt) (c : Int) : Int := if amtS p = 0 then 256 else min 256 ((256 * (c + 1) - 1) / amtS p)
/-- a channel with a gain -/
def withI (n g : Int) : Int := (n * g).tdiv 256
def absI (n : Int) : Int := max n (-n)
theorem amtS_bd {p : Pt} {m : Int} (h : (-m ≤ p.1 ∧ p.1 ≤ m) ∧ (-m ≤ p.2 ∧ p.2 ≤ m)) : 0 ≤ amtS p ∧ amtS p ≤ m := by unfold amtS; omega
theorem tdiv_abs (n : Int) : absI (n.tdiv 256) = absI n / 256 := by
  unfold absI
  by_cases h : 0 ≤ n
  · rw [Int.tdiv_eq_ediv_of_nonneg h]; omega
  · have e : n.tdiv 256 = -((-n) / 256) := by rw [← Int.tdiv_eq_ediv_of_nonneg (by omega), Int.neg_tdiv]; omega
    rw [e]; omega
theorem absI_mul {n g : Int} (hg : 0 ≤ g) : absI (n * g) = absI n * g := by
  unfold absI
  by_cases h : 0 ≤ n
  · have h1 := Int.mul_nonneg h hg
    rw [Int.max_eq_left (by omega), Int.max_eq_left (by omega)]
  · have h1 := Int.mul_nonneg (show 0 ≤ -n by omega) hg
    rw [Int.neg_mul] at h1
    rw [Int.max_eq_right (by omega), Int.max_eq_right (by omega), Int.neg_mul]
theorem withI_abs {n g : Int} (hg : 0 ≤ g) : absI (withI n g) = absI n * g / 256 := by rw [withI, tdiv_abs, absI_mul hg]
/-- no channel is too loud -/
def okG (p : Pt) (c g : Int) : Bool := !(decide (c < absI (withI p.1 g)) || decide (c < absI (withI p.2 g)))
theorem amtS_max (p : Pt) : amtS p = max (absI p.1) (absI p.2) := by unfold amtS absI; omega
theorem absI_nonneg (n : Int) : 0 ≤ absI n := by unfold absI; omega
theorem okG_iff {p : Pt} {c g : Int} (hg : 0 ≤ g) : okG p c g = true ↔ amtS p * g ≤ 256 * (c + 1) - 1 := by
  have e : amtS p * g = max (absI p.1 * g) (absI p.2 * g) := by
    rw [amtS_max]
    by_cases h : absI p.1 ≤ absI p.2
    · rw [Int.max_eq_right h, Int.max_eq_right (Int.mul_le_mul_of_nonneg_right h hg)]
    · rw [Int.max_eq_left (by omega), Int.max_eq_left (Int.mul_le_mul_of_nonneg_right (by omega) hg)]
  unfold okG
  rw [withI_abs hg, withI_abs hg, e]
  simp
  omega
theorem needI_bd {p : Pt} {c : Int} (hc : 1 ≤ c) (h : 0 ≤ amtS p) : 0 ≤ needI p c ∧ needI p c ≤ 256 := by
  unfold needI
  split
  · omega
  · have := Int.ediv_nonneg (a := 256 * (c + 1) - 1) (b := amtS p) (by omega) h
    omega
theorem needI_iff {p : Pt} {c g : Int} (hc : 1 ≤ c) (h : 0 ≤ amtS p) (hg : 0 ≤ g ∧ g ≤ 256) : okG p c g = true ↔ g ≤ needI p c := by
  rw [okG_iff hg.1]
  unfold needI
  split
  · rename_i h0; rw [h0]; simp; omega
  · rename_i h0
    have h1 : 0 < amtS p := by omega
    constructor
    · intro h2
      have : g ≤ (256 * (c + 1) - 1) / amtS p := Int.le_ediv_of_mul_le h1 (by rw [Int.mul_comm]; exact h2)
      omega
    · intro h2
      have : g ≤ (256 * (c + 1) - 1) / amtS p := by omega
      have := Int.mul_le_of_le_ediv h1 this
      rw [Int.mul_comm]; exact this
/-! gains -/
def gUp (n : List Int) (s : Int) (t : Nat) : Nat → Int
  | 0 => gi n t
  | u + 1 => min (gUp n s t u) (gi n u + s * absI ((t : Int) - (u : Int)))
def gainAt (n : List Int) (s : Int) (t : Nat) : Int := gUp n s t n.length
def gainL (n : List Int) (s : Int) : List Int := (List.range n.length).map (gainAt n s)
theorem gainL_len (n : List Int) (s : Int) : (gainL n s).length = n.length := by simp [gainL]
theorem gainL_gi {n : List Int} {s : Int} {t : Nat} (h : t < n.length) : gi (gainL n s) t = gainAt n s t := by simp [gainL, gi, h]
theorem gUp_le (n : List Int) (s : Int) (t : Nat) : ∀ m, gUp n s t m ≤ gi n t ∧ ∀ u, u < m → gUp n s t m ≤ gi n u + s * absI ((t : Int) - (u : Int))
  | 0 => ⟨Int.le_refl _, fun u h => by omega⟩
  | m + 1 => by
    obtain ⟨h1, h2⟩ := gUp_le n s t m
    rw [gUp]
    refine ⟨by omega, fun u hu => ?_⟩
    by_cases h : u < m
    · have := h2 u h; omega
    · obtain rfl : u = m := by omega
      omega
theorem gUp_eq {n : List Int} {s : Int} {t : Nat} : ∀ m, gUp n s t m = gi n t ∨ ∃ u, u < m ∧ gUp n s t m = gi n u + s * absI ((t : Int) - (u : Int))
  | 0 => .inl rfl
  | m + 1 => by
    rw [gUp]
    by_cases h : gUp n s t m ≤ gi n m + s * absI ((t : Int) - (m : Int))
    · rw [Int.min_eq_left h]
      rcases gUp_eq m with h1 | ⟨u, h1, h2⟩
      · exact .inl h1
      · exact .inr ⟨u, by omega, h2⟩
    · rw [Int.min_eq_right (by omega)]
      exact .inr ⟨m, by omega, rfl⟩
theorem gainAt_le {n : List Int} {s : Int} {t : Nat} {u : Nat} (hu : u < n.length) : gainAt n s t ≤ gi n u + s * absI ((t : Int) - (u : Int)) := (gUp_le n s t n.length).2 u hu
theorem gainAt_eq {n : List Int} {s : Int} {t : Nat} (ht : t < n.length) : ∃ u, u < n.length ∧ gainAt n s t = gi n u + s * absI ((t : Int) - (u : Int)) := by
  rcases gUp_eq (n := n) (s := s) (t := t) n.length with h | h
  · exact ⟨t, ht, by rw [gainAt, h]; simp [absI]⟩
  · exact h
theorem gain_step {n : List Int} {s : Int} (hs : 0 ≤ s) {t t' : Nat} (ht : t < n.length) (h1 : t' = t + 1 ∨ t = t' + 1) : gainAt n s t' ≤ gainAt n s t + s := by
  obtain ⟨u, hu, he⟩ := gainAt_eq (s := s) ht
  have h2 := gainAt_le (s := s) (t := t') hu
  have h3 : s * absI ((t' : Int) - (u : Int)) ≤ s * (absI ((t : Int) - (u : Int)) + 1) := Int.mul_le_mul_of_nonneg_left (by unfold absI; omega) hs
  rw [Int.mul_add, Int.mul_one] at h3
  omega
/-- the passes -/
def pA (n : List Int) (s : Int) : Nat → Int
  | 0 => gi n 0
  | j + 1 => min (gi n (j + 1)) (pA n s j + s)
def pB (n : List Int) (s : Int) : Nat → Int
  | 0 => pA n s (n.length - 1)
  | i + 1 => min (pA n s (n.length - 2 - i)) (pB n s i + s)
def wayF (n : List Int) (s : Int) : Nat → Nat → Int
  | 0 => gi n
  | k + 1 => fun j => if j = wayAt n.length k then min (wayF n s k j) (wayF n s k (wayB n.length k) + s) else wayF n s k j
theorem wayF_a {n : List Int} {s : Int} : ∀ {k : Nat}, k + 1 ≤ n.length → ∀ j, wayF n s k j = if j ≤ k then pA n s j else gi n j
  | 0, _, j => by
    rw [wayF]
    split
    · obtain rfl : j = 0 := by omega
      rfl
    · rfl
  | k + 1, h, j => by
    have ih := wayF_a (n := n) (s := s) (k := k) (by omega)
    have e1 : wayAt n.length k = k + 1 := by unfold wayAt; rw [if_pos (by omega)]
    have e2 : wayB n.length k = k := by unfold wayB; rw [if_pos (by omega)]
    simp only [wayF, e1, e2, ih]
    by_cases hj : j = k + 1
    · subst hj
      rw [if_pos rfl, if_neg (by omega), if_pos (Nat.le_refl k), if_pos (by omega), pA]
    · rw [if_neg hj]
      by_cases hk : j ≤ k
      · rw [if_pos hk, if_pos (by omega)]
      · rw [if_neg hk, if_neg (by omega)]
theorem wayF_b {n : List Int} {s : Int} (h0 : 0 < n.length) : ∀ {i : Nat}, i + 1 ≤ n.length → ∀ j, j < n.length → wayF n s (n.length - 1 + i) j = if n.length - 1 - i ≤ j then pB n s (n.length - 1 - j) else pA n s j
  | 0, _, j, hj => by
    rw [Nat.add_zero, wayF_a (by omega), if_pos (by omega)]
    split
    · obtain rfl : j = n.length - 1 := by omega
      rw [Nat.sub_self]; rfl
    · rfl
  | i + 1, h, j, hj => by
    have ih := wayF_b (n := n) (s := s) h0 (i := i) (by omega)
    have e1 : wayAt n.length (n.length - 1 + i) = n.length - 2 - i := by unfold wayAt; rw [if_neg (by omega)]; omega
    have e2 : wayB n.length (n.length - 1 + i) = n.length - 1 - i := by unfold wayB; rw [if_neg (by omega)]; omega
    rw [← Nat.add_assoc]
    simp only [wayF, e1, e2]
    by_cases hj2 : j = n.length - 2 - i
    · subst hj2
      rw [if_pos rfl, ih _ hj, ih _ (by omega), if_neg (by omega), if_pos (Nat.le_refl _), if_pos (by omega)]
      rw [show n.length - 1 - (n.length - 2 - i) = i + 1 by omega, show n.length - 1 - (n.length - 1 - i) = i by omega, pB]
    · rw [if_neg hj2, ih _ hj]
      by_cases hk : n.length - 1 - i ≤ j
      · rw [if_pos hk, if_pos (by omega)]
      · rw [if_neg hk, if_neg (by omega)]
theorem pA_le {n : List Int} {s : Int} : ∀ {j : Nat} (u : Nat), u ≤ j → pA n s j ≤ gi n u + s * ((j : Int) - (u : Int))
  | 0, u, h => by
    obtain rfl : u = 0 := by omega
    simp [pA]
  | j + 1, u, h => by
    rw [pA]
    by_cases hu : u = j + 1
    · subst hu; simp; omega
    · have ih := pA_le (n := n) (s := s) (j := j) u (by omega)
      have e : s * (((j + 1 : Nat) : Int) - (u : Int)) = s * ((j : Int) - (u : Int)) + s := by rw [show ((j + 1 : Nat) : Int) - (u : Int) = ((j : Int) - (u : Int)) + 1 by omega, Int.mul_add, Int.mul_one]
      omega
theorem pA_eq {n : List Int} {s : Int} : ∀ j : Nat, ∃ u, u ≤ j ∧ pA n s j = gi n u + s * ((j : Int) - (u : Int))
  | 0 => ⟨0, by omega, by simp [pA]⟩
  | j + 1 => by
    rw [pA]
    by_cases h : gi n (j + 1) ≤ pA n s j + s
    · exact ⟨j + 1, by omega, by rw [Int.min_eq_left h]; simp⟩
    · obtain ⟨u, h1, h2⟩ := pA_eq (n := n) (s := s) j
      refine ⟨u, by omega, ?_⟩
      rw [Int.min_eq_right (by omega), h2, show ((j + 1 : Nat) : Int) - (u : Int) = ((j : Int) - (u : Int)) + 1 by omega, Int.mul_add, Int.mul_one]
      omega
theorem gain_pA {n : List Int} {s : Int} {j : Nat} (hj : j < n.length) : gainAt n s j ≤ pA n s j := by
  obtain ⟨u, h1, h2⟩ := pA_eq (n := n) (s := s) j
  have h3 := gainAt_le (n := n) (s := s) (t := j) (u := u) (by omega)
  rw [show absI ((j : Int) - (u : Int)) = (j : Int) - (u : Int) by unfold absI; omega] at h3
  omega
theorem pB_gain {n : List Int} {s : Int} (hs : 0 ≤ s) (h0 : 0 < n.length) : ∀ {i : Nat}, i < n.length → pB n s i = gainAt n s (n.length - 1 - i) := by
  have low : ∀ i, i < n.length → gainAt n s (n.length - 1 - i) ≤ pB n s i := by
    intro i
    induction i with
    | zero => intro _; rw [pB]; exact gain_pA (by omega)
    | succ i ih =>
      intro hi
      have h1 := ih (by omega)
      have h2 := gain_pA (n := n) (s := s) (j := n.length - 2 - i) (by omega)
      have h3 := gain_step (n := n) hs (t := n.length - 1 - i) (t' := n.length - 2 - i) (by omega) (by omega)
      rw [pB, show n.length - 1 - (i + 1) = n.length - 2 - i by omega]
      omega
  have up : ∀ i, i < n.length → ∀ u, u < n.length → pB n s i ≤ gi n u + s * absI (((n.length - 1 - i : Nat) : Int) - (u : Int)) := by
    intro i
    induction i with
    | zero =>
      intro _ u hu
      have := pA_le (n := n) (s := s) (j := n.length - 1) u (by omega)
      rw [pB, Nat.sub_zero, show absI (((n.length - 1 : Nat) : Int) - (u : Int)) = ((n.length - 1 : Nat) : Int) - (u : Int) by unfold absI; omega]
      exact this
    | succ i ih =>
      intro hi u hu
      rw [pB, show n.length - 1 - (i + 1) = n.length - 2 - i by omega]
      by_cases h : u ≤ n.length - 2 - i
      · have := pA_le (n := n) (s := s) (j := n.length - 2 - i) u h
        rw [show absI (((n.length - 2 - i : Nat) : Int) - (u : Int)) = ((n.length - 2 - i : Nat) : Int) - (u : Int) by unfold absI; omega]
        omega
      · have h1 := ih (by omega) u hu
        rw [show absI (((n.length - 1 - i : Nat) : Int) - (u : Int)) = (u : Int) - ((n.length - 1 - i : Nat) : Int) by unfold absI; omega] at h1
        rw [show absI (((n.length - 2 - i : Nat) : Int) - (u : Int)) = ((u : Int) - ((n.length - 1 - i : Nat) : Int)) + 1 by unfold absI; omega, Int.mul_add, Int.mul_one]
        omega
  intro i hi
  obtain ⟨u, hu, he⟩ := gainAt_eq (n := n) (s := s) (t := n.length - 1 - i) (by omega)
  have h1 := low i hi
  have h2 := up i hi u hu
  omega
theorem wayF_gain {n : List Int} {s : Int} (hs : 0 ≤ s) {j : Nat} (hj : j < n.length) : wayF n s (2 * n.length - 2) j = gainAt n s j := by
  rw [show 2 * n.length - 2 = n.length - 1 + (n.length - 1) by omega, wayF_b (by omega) (by omega) j hj, if_pos (by omega), pB_gain hs (by omega) (by omega)]
  congr 1
  omega
end Go.Proofs.Ytblipieipldanaa
