/-
  What a tip misses is just what it does not read exactly. No condition.
-/
import Derived.Test.YtlfaaddoemcokaaPAb4
namespace Go.Proofs.Ytlfaaddoemcokaa
open Go.Ab Go.RowKit Go.Dw Go.Shelf

theorem gp_readP {t : List Int} {l : List Pt} {i : Nat} (hi : i < l.length) : gp (readP t l) i = readPt t l i l.length := by
  rw [← readPts_eq, readPts, gp_eq (by simpa using hi)]
  simp
theorem le_out {t : List Int} {l : List Pt} {i : Nat} (hi : i < l.length) {x : Int} : x ≤ (gp (readP t l) i).2 ↔ x ≤ (gp l i).2 ∧ ∀ u, u < l.length → dist u i < t.length → x ≤ (gp l u).2 + gi t (dist u i) := by
  rw [gp_readP hi]; exact le_readPt l.length
theorem in_le {t : List Int} {l : List Pt} {i : Nat} (hi : i < l.length) {x : Int} : (gp (readP t l) i).1 ≤ x ↔ (gp l i).1 ≤ x ∧ ∀ u, u < l.length → dist u i < t.length → (gp l u).1 - gi t (dist u i) ≤ x := by
  rw [gp_readP hi]; exact readPt_le l.length
theorem missB_false {t : List Int} {l : List Pt} {i u : Nat} : missB t l i u = false ↔ (dist u i < t.length → (gp l i).2 ≤ (gp l u).2 + gi t (dist u i) ∧ (gp l u).1 - gi t (dist u i) ≤ (gp l i).1) := by
  simp [missB]
theorem row_none {t : List Int} {l : List Pt} {i : Nat} : missRow t l i = none ↔ ∀ u, u < l.length → missB t l i u = false := by
  constructor
  · intro h u hu
    unfold missRow at h
    rw [List.find?_eq_none] at h
    simpa using h u (by simpa using hu)
  · exact find_none
theorem row_none_iff {t : List Int} {l : List Pt} {i : Nat} (hi : i < l.length) : missRow t l i = none ↔ gp (readP t l) i = gp l i := by
  rw [row_none]
  have a1 : (gp (readP t l) i).2 ≤ (gp l i).2 := ((le_out hi).1 (Int.le_refl _)).1
  have a2 : (gp l i).1 ≤ (gp (readP t l) i).1 := ((in_le hi).1 (Int.le_refl _)).1
  constructor
  · intro h
    have b1 : (gp l i).2 ≤ (gp (readP t l) i).2 := (le_out hi).2 ⟨Int.le_refl _, fun u hu hd => (missB_false.1 (h u hu) hd).1⟩
    have b2 : (gp (readP t l) i).1 ≤ (gp l i).1 := (in_le hi).2 ⟨Int.le_refl _, fun u hu hd => (missB_false.1 (h u hu) hd).2⟩
    exact Prod.ext (Int.le_antisymm b2 a2) (Int.le_antisymm a1 b1)
  · intro h u hu
    refine missB_false.2 fun hd => ⟨((le_out hi).1 (by rw [h]; exact Int.le_refl _)).2 u hu hd, ((in_le hi).1 (by rw [h]; exact Int.le_refl _)).2 u hu hd⟩
theorem findSome_range {β : Type} {f : Nat → Option β} {y : β} : ∀ {n : Nat}, (List.range n).findSome? f = some y → ∃ k, k < n ∧ f k = some y ∧ ∀ j, j < k → f j = none
  | 0, h => by simp at h
  | n + 1, h => by
    rw [List.range_succ, List.findSome?_append] at h
    cases hn : (List.range n).findSome? f with
    | some z =>
      rw [hn] at h
      obtain ⟨k, h1, h2, h3⟩ := findSome_range hn
      simp at h
      exact ⟨k, by omega, by rw [h2, h], h3⟩
    | none =>
      rw [hn] at h
      rw [List.findSome?_eq_none_iff] at hn
      refine ⟨n, by omega, by simpa using h, fun j hj => hn j (by simpa using hj)⟩
theorem missP_none {t : List Int} {l : List Pt} : missP t l = none ↔ ∀ i, i < l.length → missRow t l i = none := by
  unfold missP
  rw [List.findSome?_eq_none_iff]
  simp
theorem exact_none {t : List Int} {l : List Pt} (h : missP t l = none) : readP t l = l ∧ sweepP t l = l := by
  have hr : readP t l = l := list_ext_gp (readP_length t l) fun k hk => by
    rw [readP_length] at hk
    exact (row_none_iff hk).1 (missP_none.1 h k hk)
  refine ⟨hr, pts_ext fun inn => ?_⟩
  have h1 := inside_iff.1 (sweepP_in t l) inn
  have h2 := inside_iff.1 (readP_in_sweepP t l) inn
  rw [hr] at h2
  exact h1.antisymm h2
theorem exact_some {t : List Int} {l : List Pt} {p : Nat × Nat} (h : missP t l = some p) : p.1 < l.length ∧ p.2 < l.length ∧ missB t l p.1 p.2 = true ∧ gp (readP t l) p.1 ≠ gp l p.1 ∧ ∀ j, j < p.1 → gp (readP t l) j = gp l j := by
  obtain ⟨k, h1, h2, h3⟩ := findSome_range h
  cases hr : missRow t l k with
  | none => rw [hr] at h2; cases h2
  | some u =>
    rw [hr] at h2
    simp only [Option.map_some, Option.some.injEq] at h2
    subst h2
    have hr' := hr
    unfold missRow at hr'
    rw [List.find?_range_eq_some] at hr'
    refine ⟨h1, by simpa using hr'.2.1, hr'.1, fun he => ?_, fun j hj => ?_⟩
    · rw [(row_none_iff h1).2 he] at hr; cases hr
    · have := h3 j hj
      have hn : missRow t l j = none := by
        cases hq : missRow t l j with
        | none => rfl
        | some v => rw [hq] at this; cases this
      exact (row_none_iff (by simp at hj; omega)).1 hn
theorem miss_zero (l : List Pt) : missP [0] l = none := missP_none.2 fun i _ => row_none.2 fun u _ => missB_false.2 fun hd => by
  have : u = i := by simp [dist] at hd; omega
  subst this
  simp [dist, gi]
theorem miss_sharper {s t : List Int} {l : List Pt} (hs : Sharper s t) (h : missP t l = none) : missP s l = none := missP_none.2 fun i hi => row_none.2 fun u hu => missB_false.2 fun hd => by
  have := missB_false.1 (row_none.1 (missP_none.1 h i hi) u hu) (by have := hs.1; omega)
  have := hs.2 _ hd
  omega
end Go.Proofs.Ytlfaaddoemcokaa
