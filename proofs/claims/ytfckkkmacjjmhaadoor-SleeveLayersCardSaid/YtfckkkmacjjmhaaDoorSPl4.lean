/-
  Folded panels against the panels they hang on, as plain facts. No condition.
-/
import Derived.Test.YtfckkkmacjjmhaaDoorSPl1
namespace Go.Ab

def Rc.w (r : Rc) : Int := r.x1 - r.x0
def Rc.h (r : Rc) : Int := r.y1 - r.y0
theorem mirR_w (a b : Rc) (e : Int) : (mirR a b e).w = a.w ∧ (mirR a b e).h = a.h ∧ (mirR a b e).down = !a.down := by
  unfold mirR Rc.w Rc.h
  split
  · exact ⟨rfl, by simp only; omega, rfl⟩
  split
  · exact ⟨by simp only; omega, rfl, rfl⟩
  split
  · exact ⟨rfl, by simp only; omega, rfl⟩
  · exact ⟨by simp only; omega, rfl, rfl⟩
theorem rcF_wh {l : List Pan} (h : NetOk l) {i : Nat} (hi : i < l.length) : (rcF l i).w = (gpan l i).wide ∧ (rcF l i).h = (gpan l i).high ∧ (rcF l i).down = false := by
  by_cases h0 : i = 0
  · subst h0; rw [rcF_zero]; simp [Rc.w, Rc.h]
  · rw [rcF_succ l (by omega) (h.on i (by omega) hi)]
    simp only [hangR, Rc.w, Rc.h]
    exact ⟨by omega, by omega, trivial⟩
theorem foldC_wh {l : List Pan} (h : NetOk l) : ∀ (k : Nat) (b : Rc), k < l.length → (foldC l k k b).w = b.w ∧ (foldC l k k b).h = b.h := by
  intro k
  induction k using Nat.strongRecOn with
  | _ k ih =>
    intro b hk
    by_cases h0 : k = 0
    · subst h0; simp [foldC]
    · have hq := h.on k (by omega) hk
      rw [foldC_step h.on b (by omega) hk]
      have h1 := ih _ hq (mirR b (rcF l (gpan l k).on.toNat) (gpan l k).edge) (by omega)
      have h2 := mirR_w b (rcF l (gpan l k).on.toNat) (gpan l k).edge
      omega
theorem foldR_wh {l : List Pan} (h : NetOk l) {i : Nat} (hi : i < l.length) : (foldR l i).x1 - (foldR l i).x0 = (gpan l i).wide ∧ (foldR l i).y1 - (foldR l i).y0 = (gpan l i).high := by
  have h1 := foldC_wh h i (rcF l i) hi
  have h2 := rcF_wh h hi
  unfold Rc.w Rc.h at *
  unfold foldR
  omega
theorem foldR_zero (l : List Pan) : foldR l 0 = rcF l 0 := rfl
/-- a folded panel at the hinge by which it was folded -/
def hinged (e : Int) (a b : Rc) : Prop := a.down ≠ b.down ∧ ((e = 0 ∨ e = 2) → (a.x0 = b.x0 ∨ a.x1 = b.x1) ∧ max a.y0 b.y0 < min a.y1 b.y1) ∧ ((e = 1 ∨ e = 3) → (a.y0 = b.y0 ∨ a.y1 = b.y1) ∧ max a.x0 b.x0 < min a.x1 b.x1)
theorem hinged_mir {e : Int} {a b : Rc} (h : hinged e a b) (c : Rc) (e' : Int) : hinged e (mirR a c e') (mirR b c e') := by
  obtain ⟨h1, h2, h3⟩ := h
  unfold mirR hinged
  split
  · refine ⟨by simpa using h1, fun he => ?_, fun he => ?_⟩
    · have := h2 he; simp only; omega
    · have := h3 he; simp only; omega
  split
  · refine ⟨by simpa using h1, fun he => ?_, fun he => ?_⟩
    · have := h2 he; simp only; omega
    · have := h3 he; simp only; omega
  split
  · refine ⟨by simpa using h1, fun he => ?_, fun he => ?_⟩
    · have := h2 he; simp only; omega
    · have := h3 he; simp only; omega
  · refine ⟨by simpa using h1, fun he => ?_, fun he => ?_⟩
    · have := h2 he; simp only; omega
    · have := h3 he; simp only; omega
theorem hinged_fold {l : List Pan} (h : NetOk l) {e : Int} : ∀ (k : Nat) (a b : Rc), k < l.length → hinged e a b → hinged e (foldC l k k a) (foldC l k k b) := by
  intro k
  induction k using Nat.strongRecOn with
  | _ k ih =>
    intro a b hk hab
    by_cases h0 : k = 0
    · subst h0; simpa [foldC] using hab
    · have hq := h.on k (by omega) hk
      rw [foldC_step h.on a (by omega) hk, foldC_step h.on b (by omega) hk]
      exact ih _ hq _ _ (by omega) (hinged_mir hab _ _)
theorem hinged_base {b : Rc} {p : Pan} (he : 0 ≤ p.edge ∧ p.edge ≤ 3) (hw : 0 < b.w) (hh : 0 < b.h) (hb : b.down = false) (pw : 0 < p.wide) (ph : 0 < p.high) (ht : 0 < comW b (hangR b p) ∨ 0 < comH b (hangR b p)) :
    hinged p.edge (mirR (hangR b p) b p.edge) b := by
  unfold Rc.w at hw
  unfold Rc.h at hh
  obtain ⟨q0, q1, q2, q3, q4⟩ := p
  simp only at he pw ph ht ⊢
  have hc : q1 = 0 ∨ q1 = 1 ∨ q1 = 2 ∨ q1 = 3 := by omega
  rcases hc with rfl | rfl | rfl | rfl
  · simp [comW, comH, hangR, hangX, hangY] at ht
    simp [hinged, mirR, hangR, hangX, hangY, hb]; omega
  · simp [comW, comH, hangR, hangX, hangY] at ht
    simp [hinged, mirR, hangR, hangX, hangY, hb]; omega
  · simp [comW, comH, hangR, hangX, hangY] at ht
    simp [hinged, mirR, hangR, hangX, hangY, hb]; omega
  · simp [comW, comH, hangR, hangX, hangY] at ht
    simp [hinged, mirR, hangR, hangX, hangY, hb]; omega
theorem foldR_hinged {l : List Pan} (h : NetOk l) {i : Nat} (h0 : 0 < i) (hi : i < l.length) : hinged (gpan l i).edge (foldR l i) (foldR l (gpan l i).on.toNat) := by
  have hq := h.on i h0 hi
  have hr := rcF_succ l h0 hq
  unfold foldR
  rw [foldC_step h.on _ h0 hi]
  have hb := rcF_wh h (i := (gpan l i).on.toNat) (by omega)
  have hs := h.sz _ (show (gpan l i).on.toNat < l.length by omega)
  have hs2 := h.sz i hi
  unfold Pan.szOk at hs hs2
  refine hinged_fold h _ _ _ (by omega) ?_
  rw [hr]
  exact hinged_base (h.okI i h0 hi).2.1 (by omega) (by omega) hb.2.2 (by omega) (by omega) (by have := h.touch i h0 hi; rw [hr] at this; exact this)
end Go.Ab
