/-
  What can be heard: the plain law. No condition.
-/
import Derived.Test.YtlfaaddoemcokaaPAb10
namespace Go.Proofs.Ytlfaaddoemcokaa
open Go.Ab Go.RowKit Go.Dw Go.Shelf

theorem hearK_spec (a b : List Pt) (t r : Nat) : ∀ k,
    (∀ x, x ≤ (hearK a b t r k).1 ↔ x ≤ (gp b t).1 ∧ ∀ u, u < k → dist u t < r → x ≤ (gp b u).1) ∧
    (∀ x, (hearK a b t r k).2.1 ≤ x ↔ (gp a t).1 ≤ x ∧ ∀ u, u < k → dist u t < r → (gp a u).1 ≤ x) ∧
    (∀ x, x ≤ (hearK a b t r k).2.2.1 ↔ x ≤ (gp a t).2 ∧ ∀ u, u < k → dist u t < r → x ≤ (gp a u).2) ∧
    (∀ x, (hearK a b t r k).2.2.2 ≤ x ↔ (gp b t).2 ≤ x ∧ ∀ u, u < k → dist u t < r → (gp b u).2 ≤ x)
  | 0 => by simp [hearK, hear0]
  | k + 1 => by
    obtain ⟨h1, h2, h3, h4⟩ := hearK_spec a b t r k
    have up : ∀ (p : Nat → Prop), (∀ u, u < k + 1 → dist u t < r → p u) ↔ (∀ u, u < k → dist u t < r → p u) ∧ (dist k t < r → p k) := fun p => by
      constructor
      · exact fun h => ⟨fun u hu => h u (by omega), h k (by omega)⟩
      · rintro ⟨h, h'⟩ u hu hd
        by_cases he : u = k
        · subst he; exact h' hd
        · exact h u (by omega) hd
    rw [hearK_succ]
    by_cases hd : dist k t < r
    · rw [if_pos hd]
      refine ⟨fun x => ?_, fun x => ?_, fun x => ?_, fun x => ?_⟩
      · rw [up, show (hs a b (hearK a b t r k) k).1 = min (hearK a b t r k).1 (gp b k).1 from rfl, Int.le_min, h1]
        simp [hd, and_assoc]
      · rw [up, show (hs a b (hearK a b t r k) k).2.1 = max (hearK a b t r k).2.1 (gp a k).1 from rfl, Int.max_le, h2]
        simp [hd, and_assoc]
      · rw [up, show (hs a b (hearK a b t r k) k).2.2.1 = min (hearK a b t r k).2.2.1 (gp a k).2 from rfl, Int.le_min, h3]
        simp [hd, and_assoc]
      · rw [up, show (hs a b (hearK a b t r k) k).2.2.2 = max (hearK a b t r k).2.2.2 (gp b k).2 from rfl, Int.max_le, h4]
        simp [hd, and_assoc]
    · rw [if_neg hd]
      refine ⟨fun x => ?_, fun x => ?_, fun x => ?_, fun x => ?_⟩
      · rw [up, h1]; simp [hd]
      · rw [up, h2]; simp [hd]
      · rw [up, h3]; simp [hd]
      · rw [up, h4]; simp [hd]
section
variable {a b : List Pt} {t r n : Nat}
/-- the extents contain what is near -/
theorem hear_near {u : Nat} (hu : u < n) (hd : dist u t < r) : (hearAt a b n r t).1 ≤ (gp b u).1 ∧ (gp a u).1 ≤ (hearAt a b n r t).2.1 ∧ (hearAt a b n r t).2.2.1 ≤ (gp a u).2 ∧ (gp b u).2 ≤ (hearAt a b n r t).2.2.2 := by
  obtain ⟨h1, h2, h3, h4⟩ := hearK_spec a b t r n
  exact ⟨((h1 _).1 (Int.le_refl _)).2 u hu hd, ((h2 _).1 (Int.le_refl _)).2 u hu hd, ((h3 _).1 (Int.le_refl _)).2 u hu hd, ((h4 _).1 (Int.le_refl _)).2 u hu hd⟩
theorem hear_wider {r' : Nat} (hr : r ≤ r') : (hearAt a b n r' t).1 ≤ (hearAt a b n r t).1 ∧ (hearAt a b n r t).2.1 ≤ (hearAt a b n r' t).2.1 ∧ (hearAt a b n r' t).2.2.1 ≤ (hearAt a b n r t).2.2.1 ∧ (hearAt a b n r t).2.2.2 ≤ (hearAt a b n r' t).2.2.2 := by
  obtain ⟨h1, h2, h3, h4⟩ := hearK_spec a b t r n
  obtain ⟨g1, g2, g3, g4⟩ := hearK_spec a b t r' n
  refine ⟨(h1 _).2 ?_, (h2 _).2 ?_, (h3 _).2 ?_, (h4 _).2 ?_⟩
  · have := (g1 _).1 (Int.le_refl (hearK a b t r' n).1); exact ⟨this.1, fun u hu hd => this.2 u hu (by omega)⟩
  · have := (g2 _).1 (Int.le_refl (hearK a b t r' n).2.1); exact ⟨this.1, fun u hu hd => this.2 u hu (by omega)⟩
  · have := (g3 _).1 (Int.le_refl (hearK a b t r' n).2.2.1); exact ⟨this.1, fun u hu hd => this.2 u hu (by omega)⟩
  · have := (g4 _).1 (Int.le_refl (hearK a b t r' n).2.2.2); exact ⟨this.1, fun u hu hd => this.2 u hu (by omega)⟩
theorem hear_one : hearAt a a n 1 t = ((gp a t).1, (gp a t).1, (gp a t).2, (gp a t).2) := by
  obtain ⟨h1, h2, h3, h4⟩ := hearK_spec a a t 1 n
  have key : ∀ u, dist u t < 1 → u = t := fun u h => by unfold dist at h; omega
  have e1 : (hearK a a t 1 n).1 = (gp a t).1 := Int.le_antisymm ((h1 _).1 (Int.le_refl _)).1 ((h1 _).2 ⟨Int.le_refl _, fun u _ hd => by rw [key u hd]; exact Int.le_refl _⟩)
  have e2 : (hearK a a t 1 n).2.1 = (gp a t).1 := Int.le_antisymm ((h2 _).2 ⟨Int.le_refl _, fun u _ hd => by rw [key u hd]; exact Int.le_refl _⟩) ((h2 _).1 (Int.le_refl _)).1
  have e3 : (hearK a a t 1 n).2.2.1 = (gp a t).2 := Int.le_antisymm ((h3 _).1 (Int.le_refl _)).1 ((h3 _).2 ⟨Int.le_refl _, fun u _ hd => by rw [key u hd]; exact Int.le_refl _⟩)
  have e4 : (hearK a a t 1 n).2.2.2 = (gp a t).2 := Int.le_antisymm ((h4 _).2 ⟨Int.le_refl _, fun u _ hd => by rw [key u hd]; exact Int.le_refl _⟩) ((h4 _).1 (Int.le_refl _)).1
  exact Prod.ext e1 (Prod.ext e2 (Prod.ext e3 e4))
end
theorem sharper_trans {s t u : List Int} (h : Sharper s t) (k : Sharper t u) : Sharper s u :=
  ⟨Nat.le_trans h.1 k.1, fun i hi => Int.le_trans (k.2 i (Nat.lt_of_lt_of_le hi h.1)) (h.2 i hi)⟩
theorem blunt_of {s t : List Int} (h : Sharper s t) : bluntB t s = true := bluntB_iff.2 h
theorem sharper_refl (s : List Int) : Sharper s s := ⟨Nat.le_refl _, fun _ _ => Int.le_refl _⟩
end Go.Proofs.Ytlfaaddoemcokaa
