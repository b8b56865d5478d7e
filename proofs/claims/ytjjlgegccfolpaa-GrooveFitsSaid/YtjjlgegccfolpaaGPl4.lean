/-
  The greatest of some least radii, in plain Lean. Conditions: told in each theorem.
-/
import Derived.Test.YtjjlgegccfolpaaGPl3
namespace Go.Proofs.Ytjjlgegccfolpaa
open Go.Ab Go.RowKit Go.Dw Go.Shelf

def okN (F : Int) : Int := if F ≤ 4194304 then F else 0
def okE (F : Int) : Int := if F ≤ 4194304 then 0 else 14
def mM (Fs : Nat → Int) : Nat → Int
  | 0 => 0
  | k + 1 => max (mM Fs k) (okN (Fs k))
def limB (Fs : Nat → Int) : Nat → Bool
  | 0 => false
  | k + 1 => limB Fs k || !decide (okE (Fs k) = 0)
theorem okE_iff {F : Int} : okE F = 0 ↔ F ≤ 4194304 := by
  unfold okE; split <;> omega
theorem limB_false {Fs : Nat → Int} : ∀ {n : Nat}, limB Fs n = false ↔ ∀ i, i < n → Fs i ≤ 4194304
  | 0 => by simp [limB]
  | n + 1 => by
    rw [limB, Bool.or_eq_false_iff, limB_false]
    constructor
    · rintro ⟨h1, h2⟩ i hi
      by_cases h : i < n
      · exact h1 i h
      · obtain rfl : i = n := by omega
        exact okE_iff.1 (by simpa using h2)
    · intro h
      exact ⟨fun i hi => h i (by omega), by simpa using okE_iff.2 (h n (by omega))⟩
theorem mM_bd {Fs : Nat → Int} : ∀ {n : Nat}, (∀ i, i < n → 0 ≤ Fs i) → (0 ≤ mM Fs n ∧ mM Fs n ≤ 4194304)
  | 0, _ => by simp [mM]
  | n + 1, h => by
    have := mM_bd (n := n) fun i hi => h i (by omega)
    have h2 := h n (by omega)
    rw [mM]; unfold okN; split <;> omega
theorem mM_ge {Fs : Nat → Int} : ∀ {n i : Nat}, i < n → Fs i ≤ 4194304 → Fs i ≤ mM Fs n
  | n + 1, i, hi, h => by
    rw [mM]
    by_cases h2 : i < n
    · have := mM_ge h2 h; omega
    · obtain rfl : i = n := by omega
      rw [okN, if_pos h]; omega
theorem mM_le {Fs : Nat → Int} {F : Int} (hF : 0 ≤ F) : ∀ {n : Nat}, (∀ i, i < n → Fs i ≤ F) → mM Fs n ≤ F
  | 0, _ => hF
  | n + 1, h => by
    have := mM_le hF (n := n) fun i hi => h i (by omega)
    have h2 := h n (by omega)
    rw [mM]; unfold okN; split <;> omega
theorem mM_spec {Fs : Nat → Int} {n : Nat} {F : Int} (h0 : ∀ i, i < n → 0 ≤ Fs i) (hF : 0 ≤ F) (h1 : ∀ i, i < n → Fs i ≤ F) (h2 : ∀ x, 0 ≤ x → x ≤ 4194304 → (∀ i, i < n → Fs i ≤ x) → F ≤ x) : limB Fs n = !decide (okE F = 0) ∧ (limB Fs n = false → mM Fs n = F) := by
  have key : limB Fs n = false ↔ F ≤ 4194304 := by
    rw [limB_false]
    exact ⟨fun h => h2 4194304 (by decide) (by decide) h, fun h i hi => by have := h1 i hi; omega⟩
  refine ⟨?_, fun h => ?_⟩
  · by_cases h : F ≤ 4194304
    · rw [key.2 h]; simp [okE_iff, h]
    · have : limB Fs n = true := by
        cases hl : limB Fs n with
        | true => rfl
        | false => exact absurd (key.1 hl) h
      rw [this]; simp [okE_iff, h]
  · have hb := mM_bd h0
    have := h2 (mM Fs n) hb.1 hb.2 fun i hi => mM_ge hi (limB_false.1 h i hi)
    have := mM_le hF h1
    omega
theorem pick_ex {p : Nat → Int → Prop} {n : Nat} (h : ∀ i, i < n → ∃ F, p i F) : ∃ Fs : Nat → Int, ∀ i, i < n → p i (Fs i) := by
  classical
  exact ⟨fun i => if hi : i < n then (h i hi).choose else 0, fun i hi => by simp only [dif_pos hi]; exact (h i hi).choose_spec⟩
end Go.Proofs.Ytjjlgegccfolpaa
