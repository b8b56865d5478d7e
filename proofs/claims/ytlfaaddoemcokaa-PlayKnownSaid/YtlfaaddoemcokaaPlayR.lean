/-
  The document's reading and sweeping are the program's: plain laws, and the contracts of 'Read' and 'Sweep' of the document. No condition but the sizes of slices.
-/
import Derived.Test.YtlfaaddoemcokaaPlayQ
namespace Go.Proofs.Ytlfaaddoemcokaa
open Go.RowKit Go.Dw

theorem le_readPt {t : List Int} {l : List Pt} {i : Nat} {x : Int} : ∀ k, x ≤ (readPt t l i k).2 ↔ x ≤ (gp l i).2 ∧ ∀ u, u < k → dist u i < t.length → x ≤ (gp l u).2 + gi t (dist u i)
  | 0 => by simp [readPt]
  | k + 1 => by
    rw [readPt_succ, stepPt]
    have ih := le_readPt (t := t) (l := l) (i := i) (x := x) k
    by_cases hd : dist k i < t.length
    · rw [if_pos hd]
      constructor
      · intro h
        have h1 := ih.1 (by simp only at h; omega)
        refine ⟨h1.1, fun u hu hdu => ?_⟩
        rcases Nat.lt_succ_iff_lt_or_eq.1 hu with h2 | rfl
        · exact h1.2 u h2 hdu
        · simp only at h; omega
      · rintro ⟨h1, h2⟩
        have h3 := ih.2 ⟨h1, fun u hu hdu => h2 u (by omega) hdu⟩
        have h4 := h2 k (by omega) hd
        simp only; omega
    · rw [if_neg hd, ih]
      refine and_congr_right fun _ => ⟨fun h u hu hdu => ?_, fun h u hu hdu => h u (by omega) hdu⟩
      rcases Nat.lt_succ_iff_lt_or_eq.1 hu with h2 | rfl
      · exact h u h2 hdu
      · exact absurd hdu hd
theorem readPt_le {t : List Int} {l : List Pt} {i : Nat} {x : Int} : ∀ k, (readPt t l i k).1 ≤ x ↔ (gp l i).1 ≤ x ∧ ∀ u, u < k → dist u i < t.length → (gp l u).1 - gi t (dist u i) ≤ x
  | 0 => by simp [readPt]
  | k + 1 => by
    rw [readPt_succ, stepPt]
    have ih := readPt_le (t := t) (l := l) (i := i) (x := x) k
    by_cases hd : dist k i < t.length
    · rw [if_pos hd]
      constructor
      · intro h
        have h1 := ih.1 (by simp only at h; omega)
        refine ⟨h1.1, fun u hu hdu => ?_⟩
        rcases Nat.lt_succ_iff_lt_or_eq.1 hu with h2 | rfl
        · exact h1.2 u h2 hdu
        · simp only at h; omega
      · rintro ⟨h1, h2⟩
        have h3 := ih.2 ⟨h1, fun u hu hdu => h2 u (by omega) hdu⟩
        have h4 := h2 k (by omega) hd
        simp only; omega
    · rw [if_neg hd, ih]
      refine and_congr_right fun _ => ⟨fun h u hu hdu => ?_, fun h u hu hdu => h u (by omega) hdu⟩
      rcases Nat.lt_succ_iff_lt_or_eq.1 hu with h2 | rfl
      · exact h u h2 hdu
      · exact absurd hdu hd
theorem eq_of_le_iff {a b : Int} (h : ∀ x, x ≤ a ↔ x ≤ b) : a = b := Int.le_antisymm ((h a).1 (Int.le_refl _)) ((h b).2 (Int.le_refl _))
theorem readPts_eq (t : List Int) (l : List Pt) : readPts t l l.length = readP t l := pts_ext fun inn => by
  rw [hts_readP]
  refine list_ext_gi (by simp [hts_length, readPts, readT, walkL_length]) fun k hk => ?_
  have hk' : k < l.length := by simpa [hts_length, readPts] using hk
  have e : gp (readPts t l l.length) k = readPt t l k l.length := by rw [gp_eq (by simpa [readPts] using hk')]; simp [readPts]
  rw [gi_hts (by simpa [readPts] using hk'), e, readT, gi_walkL (by rw [hts_length]; exact hk')]
  refine eq_of_le_iff fun x => ?_
  rw [le_walkAt, gi_hts hk', hts_length]
  cases inn
  · simp only [ofE, Bool.false_eq_true, if_false]
    rw [le_readPt]
    exact and_congr_right fun _ => ⟨fun h j hj hd => by rw [gi_hts hj]; exact h j hj hd, fun h j hj hd => by have := h j hj hd; rw [gi_hts hj] at this; exact this⟩
  · simp only [ofE, if_true]
    have := readPt_le (t := t) (l := l) (i := k) (x := -x) l.length
    constructor
    · intro h
      have h1 := this.1 (by omega)
      exact ⟨by omega, fun j hj hd => by rw [gi_hts hj]; have := h1.2 j hj hd; simp only [ofE, if_true]; omega⟩
    · rintro ⟨h1, h2⟩
      have := this.2 ⟨by omega, fun j hj hd => by have := h2 j hj hd; rw [gi_hts hj] at this; simp only [ofE, if_true] at this; omega⟩
      omega

set_option maxRecDepth 100000 in
set_option maxHeartbeats 1000000 in
theorem refRead_calls (A : Option Addr) (r c : Nat) (t : List Int) (B : Option Addr) (n d : Nat) (l : List Pt) (w : World) (ht : IntsAt w A r t) (hl : PtsAt w B n l) (hr : r ≤ 4611686018427387904) (hn : n ≤ 4611686018427387904) :
    Calls Try.prog 33 #[.agg #[.slice A r c], .slice B n d] w fun e w' => ∃ v, e = .returned (.tuple #[v, .int .i64 (checkBoth t l)]) ∧ w'.ownsRow w.heap.size 29 2 v (wallsR t l).length ((wallsR t l).flatMap encP) ∧ Below w.heap.size w w' := by
  have hb0 := below_new w (.cells #[.slice A r c] 24)
  have hbx := Box.new w 24 #[.slice A r c]
  by_cases h0 : checkBoth t l = 0
  · have e1 : wallsR t l = readP t l := by simp [wallsR, h0]
    obtain ⟨k1, k2⟩ := checkBoth_ok h0
    obtain ⟨m1, m2, _, _, m3⟩ := checkTip_ok k1
    obtain ⟨m4, m5⟩ := checkPts_ok k2
    have q1 := hl.1
    have q2 := ht.1
    have e3 := readPts_eq t l
    have e2 := readP_length t l
    rw [q1] at e3 e2
    have E1 := Lib.hid e1
    have E2 := Lib.hid e2
    have E3 := Lib.hid e3
    have H0 := Lib.hid h0
    have r1 : r ≤ 64 := by omega
    have n4 : n ≤ 4096 := by omega
    clear e1 e2 e3 h0 k1 k2 q1 q2 m1 m2
    go_enter Try.func33, Try.ntmps33
    go_wp2_with fail
    generalize w.alloc (.cells #[.slice A r c] 24) = w0 at *
    refine (both_ref_calls A r c t B n d l w0 (ht.below' hb0) hr (hl.below' hb0) hn).mono ?_
    rintro e w1 ⟨rfl, hw1⟩
    have hb1 := hb0.trans (hw1.mono hb0.size)
    have y0 : w1.cell? ⟨w.heap.size, 0, none⟩ = some (.slice A r c) := (hbx.below' hw1).cell 0
    rw [H0.out]
    go_wp2_with fail
    refine (refread_calls A r c t B n d l w1 (ht.below' hb1) (hl.below' hb1) r1 n4 m3 m5).mono ?_
    rintro e w2 ⟨v, rfl, hown, hw2⟩
    rw [E3.out] at hown
    obtain ⟨Av, cv, rfl⟩ := own_form hown
    go_wp2
    go_ret2
    exact ⟨_, by rw [H0.out]; rfl, by rw [E1.out, E2.out]; exact ⟨hown.1, by
      rcases hown.2 with h | ⟨g, cap, cur, hv, hg, rest⟩
      · exact .inl h
      · exact .inr ⟨g, cap, cur, hv, by have := hb1.size; omega, rest⟩⟩, hb1.trans (hw2.mono hb1.size)⟩
  · have e1 : wallsR t l = [] := by simp [wallsR, h0]
    have d0 : (checkBoth t l != 0) = true := by simpa using h0
    have E1 := Lib.hid e1
    clear e1 h0
    go_enter Try.func33, Try.ntmps33
    go_wp2_with fail
    generalize w.alloc (.cells #[.slice A r c] 24) = w0 at *
    refine (both_ref_calls A r c t B n d l w0 (ht.below' hb0) hr (hl.below' hb0) hn).mono ?_
    rintro e w1 ⟨rfl, hw1⟩
    have hb1 := hb0.trans (hw1.mono hb0.size)
    go_wp2
    go_ret2
    exact ⟨_, rfl, by rw [E1.out]; exact World.ownsRow_nil _ _ _ _, hb1⟩
end Go.Proofs.Ytlfaaddoemcokaa
