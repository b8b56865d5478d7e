/-
  Where a tip lands: the plain law. Conditions: told in each theorem.
-/
import Derived.Test.YtlfaaddoemcokaaPAb7
namespace Go.Proofs.Ytlfaaddoemcokaa
open Go.Ab Go.RowKit Go.Dw Go.Shelf

def landAt (lands : List Int) (i : Nat) : Int := if i < lands.length then 1 + gi lands i else 1
def radAt (l : List Pt) (lands : List Int) (n : Nat) (i : Nat) : Int :=
  if _h : 0 < n ∧ n ≤ i then radAt l lands n (i - n) + (gp l (i - n)).1 - (gp l i).2 - landAt lands i else 4194304
termination_by i
decreasing_by omega
def radL (l : List Pt) (lands : List Int) (n k : Nat) : List Int := (List.range k).map (radAt l lands n)
theorem radL_length (l : List Pt) (lands : List Int) (n k : Nat) : (radL l lands n k).length = k := by simp [radL]
theorem gi_radL {l : List Pt} {lands : List Int} {n k j : Nat} (h : j < k) : gi (radL l lands n k) j = radAt l lands n j := by
  rw [gi_eq (by simpa [radL] using h)]
  simp [radL]
theorem radAt_far {l : List Pt} {lands : List Int} {n i : Nat} (h0 : 0 < n) (h : n ≤ i) : radAt l lands n i = radAt l lands n (i - n) + (gp l (i - n)).1 - (gp l i).2 - landAt lands i := by
  rw [radAt, dif_pos ⟨h0, h⟩]
theorem radAt_near {l : List Pt} {lands : List Int} {n i : Nat} (h : i < n) : radAt l lands n i = 4194304 := by
  rw [radAt, dif_neg (by omega)]
theorem landAt_pos {lands : List Int} (h : ∀ x ∈ lands, 0 ≤ x) (i : Nat) : 1 ≤ landAt lands i := by
  unfold landAt
  split
  · have := h _ (gi_mem (by assumption)); omega
  · exact Int.le_refl _
def WideL (l : List Pt) : Prop := ∀ i, i < l.length → (gp l i).1 ≤ (gp l i).2
theorem chain {l : List Pt} {lands : List Int} {n : Nat} (h0 : 0 < n) (hl : ∀ x ∈ lands, 0 ≤ x) (hw : WideL l) (k : Nat) : ∀ m, k + (m + 1) * n < l.length →
    radAt l lands n (k + (m + 1) * n) + (gp l (k + (m + 1) * n)).2 + 1 ≤ radAt l lands n k + (gp l k).1
  | 0, h => by
    have := radAt_far (l := l) (lands := lands) h0 (show n ≤ k + (0 + 1) * n by omega)
    rw [show k + (0 + 1) * n - n = k by omega] at this
    have := landAt_pos hl (k + (0 + 1) * n)
    omega
  | m + 1, h => by
    have e : k + (m + 1 + 1) * n = (k + (m + 1) * n) + n := by rw [Nat.add_mul (m + 1) 1 n]; omega
    rw [e] at h ⊢
    have ih := chain h0 hl hw k m (by omega)
    have := radAt_far (l := l) (lands := lands) h0 (show n ≤ (k + (m + 1) * n) + n by omega)
    rw [Nat.add_sub_cancel] at this
    have := landAt_pos hl ((k + (m + 1) * n) + n)
    have := hw (k + (m + 1) * n) (by omega)
    omega
theorem turns {n i j : Nat} (hj : j < i) (h : j % n = i % n) : ∃ m, i = j + (m + 1) * n := by
  have hd : n ∣ i - j := Nat.dvd_of_mod_eq_zero (Nat.sub_mod_eq_zero_of_mod_eq h.symm)
  obtain ⟨q, hq⟩ := hd
  cases q with
  | zero => simp at hq; omega
  | succ q => exact ⟨q, by rw [Nat.mul_comm] at hq; omega⟩
theorem farther {l : List Pt} {lands : List Int} {n : Nat} (h0 : 0 < n) (hl : ∀ x ∈ lands, 0 ≤ x) (hw : WideL l) {i j : Nat} (hj : j < i) (hi : i < l.length) (h : j % n = i % n) :
    radAt l lands n i + (gp l i).2 + 1 ≤ radAt l lands n j + (gp l j).1 := by
  obtain ⟨m, rfl⟩ := turns hj h
  exact chain h0 hl hw j m hi
theorem dropL_spec {l : List Pt} {radii : List Int} {per angle : Nat} {x : Int} {k : Nat} (h : dropL l radii per angle x = some k) : k < l.length ∧ k % per = angle ∧ dropIn l radii x k = true ∧ ∀ j, j < k → j % per = angle → dropIn l radii x j = false := by
  unfold dropL at h
  rw [List.find?_range_eq_some] at h
  obtain ⟨h1, h2, h3⟩ := h
  simp only [Bool.and_eq_true, decide_eq_true_eq] at h1
  refine ⟨by simpa using h2, h1.1, h1.2, fun j hj hm => ?_⟩
  have := h3 j hj
  simpa [hm] using this
theorem lands_first {l : List Pt} {lands : List Int} {n i : Nat} (h0 : 0 < n) (hl : ∀ x ∈ lands, 0 ≤ x) (hi : i < l.length) {x : Int} (h1 : radAt l lands n i + (gp l i).1 ≤ x) (h2 : x ≤ radAt l lands n i + (gp l i).2) :
    ∃ k, dropL l (radL l lands n l.length) n (i % n) x = some k ∧ k < l.length ∧ k % n = i % n ∧ dropIn l (radL l lands n l.length) x k = true ∧ (WideL l → k = i) := by
  have hin : dropIn l (radL l lands n l.length) x i = true := by simp [dropIn, gi_radL hi, h1, h2]
  cases hd : dropL l (radL l lands n l.length) n (i % n) x with
  | none =>
    unfold dropL at hd
    rw [List.find?_eq_none] at hd
    have := hd i (by simpa using hi)
    simp [hin] at this
  | some k =>
    obtain ⟨a1, a2, a3, a4⟩ := dropL_spec hd
    refine ⟨k, rfl, a1, a2, a3, fun hw => ?_⟩
    rcases Nat.lt_trichotomy k i with h | h | h
    · have := farther (lands := lands) h0 hl hw h hi a2
      simp only [dropIn, Bool.and_eq_true, decide_eq_true_eq, gi_radL a1] at a3
      omega
    · exact h
    · rw [a4 i h rfl] at hin; cases hin
theorem lands_second {l : List Pt} {lands : List Int} {n i : Nat} (h0 : 0 < n) (hl : ∀ x ∈ lands, 0 ≤ x) (hi : i < l.length) (hw : WideL l) {y : Int} (h1 : y < radAt l lands n i + (gp l i).1) {k : Nat} (hd : dropL l (radL l lands n l.length) n (i % n) y = some k) : i < k := by
  obtain ⟨a1, a2, a3, _⟩ := dropL_spec hd
  simp only [dropIn, Bool.and_eq_true, decide_eq_true_eq, gi_radL a1] at a3
  rcases Nat.lt_trichotomy k i with h | h | h
  · have := farther (lands := lands) h0 hl hw h hi a2
    have := hw i hi
    omega
  · subst h; omega
  · exact h
end Go.Proofs.Ytlfaaddoemcokaa
