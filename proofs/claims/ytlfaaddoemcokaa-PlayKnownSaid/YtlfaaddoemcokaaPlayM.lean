/-
  Plain laws of reading and sweeping: the two walks of a tip are an adjunction. No program in sight. No condition.
-/
import Derived.Test.YtlfaaddoemcokaaPlayK
namespace Go.Proofs.Ytlfaaddoemcokaa
open Go.RowKit Go.Dw

def hts (b : Bool) (l : List Pt) : List Int := l.map (ofE b)
def LeL (a b : List Int) : Prop := a.length = b.length ∧ ∀ k, k < a.length → gi a k ≤ gi b k
theorem LeL.refl (a : List Int) : LeL a a := ⟨rfl, fun _ _ => Int.le_refl _⟩
theorem LeL.trans {a b c : List Int} (h : LeL a b) (k : LeL b c) : LeL a c := ⟨h.1.trans k.1, fun i hi => Int.le_trans (h.2 i hi) (k.2 i (by rw [← h.1]; exact hi))⟩
theorem list_ext_gi {a b : List Int} (hl : a.length = b.length) (h : ∀ k, k < a.length → gi a k = gi b k) : a = b := by
  refine List.ext_getElem hl fun i h1 h2 => ?_
  have := h i h1
  rwa [gi_eq h1, gi_eq h2] at this
theorem list_ext_gp {a b : List Pt} (hl : a.length = b.length) (h : ∀ k, k < a.length → gp a k = gp b k) : a = b := by
  refine List.ext_getElem hl fun i h1 h2 => ?_
  have := h i h1
  rwa [gp_eq h1, gp_eq h2] at this
theorem LeL.antisymm {a b : List Int} (h : LeL a b) (k : LeL b a) : a = b :=
  list_ext_gi h.1 fun i hi => Int.le_antisymm (h.2 i hi) (k.2 i (by rw [← h.1]; exact hi))

theorem foldB_le (x : Int) : ∀ (vs : List Int) (f : Int), x ≤ foldB false f vs ↔ x ≤ f ∧ ∀ y ∈ vs, x ≤ y
  | [], f => by simp [foldB]
  | v :: vs, f => by
    have e : foldB false f (v :: vs) = foldB false (min f v) vs := by simp [foldB, pickB]
    rw [e, foldB_le x vs]
    simp only [List.mem_cons, forall_eq_or_imp]
    constructor
    · rintro ⟨h1, h2⟩; exact ⟨by omega, by omega, h2⟩
    · rintro ⟨h1, h2, h3⟩; exact ⟨by omega, h3⟩
theorem foldB_ge (x : Int) : ∀ (vs : List Int) (f : Int), foldB true f vs ≤ x ↔ f ≤ x ∧ ∀ y ∈ vs, y ≤ x
  | [], f => by simp [foldB]
  | v :: vs, f => by
    have e : foldB true f (v :: vs) = foldB true (max f v) vs := by simp [foldB, pickB]
    rw [e, foldB_ge x vs]
    simp only [List.mem_cons, forall_eq_or_imp]
    constructor
    · rintro ⟨h1, h2⟩; exact ⟨by omega, by omega, h2⟩
    · rintro ⟨h1, h2, h3⟩; exact ⟨by omega, h3⟩

theorem dist_comm (i j : Nat) : dist i j = dist j i := by simp [dist, Nat.max_comm]
theorem near_at {i n r j : Nat} (hj : j < n) (hd : dist j i < r) : ∃ k, k < nearN i n r ∧ j = nearLo i r + k := by
  unfold dist at hd
  refine ⟨j - nearLo i r, ?_, ?_⟩
  · unfold nearN nearLo; omega
  · unfold nearLo; omega

theorem le_walkAt {t h : List Int} {i : Nat} {x : Int} : x ≤ walkAt t h false i ↔ x ≤ gi h i ∧ ∀ j, j < h.length → dist j i < t.length → x ≤ gi h j + gi t (dist j i) := by
  unfold walkAt
  rw [foldB_le]
  refine and_congr_right fun _ => ?_
  simp only [List.mem_map, List.mem_range]
  constructor
  · intro hh j hj hd
    obtain ⟨k, hk, rfl⟩ := near_at hj hd
    exact hh _ ⟨k, hk, by simp⟩
  · rintro hh y ⟨k, hk, rfl⟩
    obtain ⟨h1, h2⟩ := near_lt hk
    simpa using hh _ h1 h2
theorem walkAt_le {t h : List Int} {i : Nat} {x : Int} : walkAt t h true i ≤ x ↔ gi h i ≤ x ∧ ∀ j, j < h.length → dist j i < t.length → gi h j - gi t (dist j i) ≤ x := by
  unfold walkAt
  rw [foldB_ge]
  refine and_congr_right fun _ => ?_
  simp only [List.mem_map, List.mem_range]
  constructor
  · intro hh j hj hd
    obtain ⟨k, hk, rfl⟩ := near_at hj hd
    have := hh _ ⟨k, hk, rfl⟩
    simp at this
    omega
  · rintro hh y ⟨k, hk, rfl⟩
    obtain ⟨h1, h2⟩ := near_lt hk
    have := hh _ h1 h2
    simp
    omega
theorem gi_walkL {t h : List Int} {d : Bool} {i : Nat} (hi : i < h.length) : gi (walkL t h d) i = walkAt t h d i := by
  rw [gi_eq (by simp [walkL]; exact hi)]; simp [walkL]

/-- The two walks of a tip. -/
theorem adj {t g h : List Int} (hl : g.length = h.length) : LeL g (walkL t h false) ↔ LeL (walkL t g true) h := by
  constructor
  · rintro ⟨_, hh⟩
    refine ⟨by rw [walkL_length, hl], fun k hk => ?_⟩
    rw [walkL_length] at hk
    rw [gi_walkL hk, walkAt_le]
    have hk' : k < h.length := by omega
    refine ⟨?_, fun j hj hd => ?_⟩
    · have := hh k hk
      rw [gi_walkL hk', le_walkAt] at this
      exact this.1
    · have := hh j hj
      rw [gi_walkL (by omega), le_walkAt] at this
      have := this.2 k hk' (by rw [dist_comm]; exact hd)
      rw [dist_comm] at this
      omega
  · rintro ⟨_, hh⟩
    refine ⟨by rw [walkL_length, hl], fun k hk => ?_⟩
    have hk' : k < h.length := by omega
    rw [gi_walkL hk', le_walkAt]
    refine ⟨?_, fun j hj hd => ?_⟩
    · have := hh k (by rw [walkL_length]; exact hk)
      rw [gi_walkL hk, walkAt_le] at this
      exact this.1
    · have := hh j (by rw [walkL_length]; omega)
      rw [gi_walkL (by omega), walkAt_le] at this
      have := this.2 k hk (by rw [dist_comm]; exact hd)
      rw [dist_comm] at this
      omega
theorem sweep_le (t h : List Int) : LeL (sweepT t h) h := (adj (by simp [walkL_length])).1 (LeL.refl _)
theorem le_sweep_read (t h : List Int) : LeL (readT t h) (sweepT t h) := by
  refine ⟨by simp [readT, sweepT, walkL_length], fun k hk => ?_⟩
  have hk' : k < (walkL t h false).length := hk
  show gi (readT t h) k ≤ gi (walkL t (walkL t h false) true) k
  rw [gi_walkL hk']
  exact (walkAt_le.1 (Int.le_refl _)).1

/-! ### points -/
theorem hts_length (b : Bool) (l : List Pt) : (hts b l).length = l.length := by simp [hts]
theorem gi_hts {b : Bool} {l : List Pt} {k : Nat} (hk : k < l.length) : gi (hts b l) k = ofE b (gp l k) := by
  rw [gi_eq (by rw [hts_length]; exact hk), gp_eq hk]; simp [hts]
theorem pts_ext {a b : List Pt} (h : ∀ inn, hts inn a = hts inn b) : a = b := by
  have hl : a.length = b.length := by have := congrArg List.length (h true); simpa [hts_length] using this
  refine list_ext_gp hl fun k hk => ?_
  have h0 := congrArg (gi · k) (h true)
  have h1 := congrArg (gi · k) (h false)
  simp only [gi_hts hk, gi_hts (show k < b.length by omega), ofE] at h0 h1
  exact Prod.ext (by simpa using h0) (by simpa using h1)
theorem inside_iff {a b : List Pt} : Inside a b ↔ ∀ inn, LeL (hts inn a) (hts inn b) := by
  constructor
  · rintro ⟨hl, h⟩ inn
    refine ⟨by simp [hts_length, hl], fun k hk => ?_⟩
    rw [hts_length] at hk
    have := h k hk
    unfold inK at this
    rw [gi_hts hk, gi_hts (by omega)]
    cases inn <;> simp [ofE] <;> omega
  · intro h
    have hl : a.length = b.length := by have := (h true).1; simpa [hts_length] using this
    refine ⟨hl, fun k hk => ?_⟩
    have h0 := (h true).2 k (by rw [hts_length]; exact hk)
    have h1 := (h false).2 k (by rw [hts_length]; exact hk)
    rw [gi_hts hk, gi_hts (by omega)] at h0 h1
    simp [ofE] at h0 h1
    exact ⟨h1, h0⟩
theorem hts_walls {thr : List Int → List Int} {l : List Pt} (hthr : ∀ inn, (thr (hts inn l)).length = l.length) (b : Bool) : hts b (wallsT thr l) = thr (hts b l) := by
  have e0 : ∀ inn, gi ((thr (hts inn l)).map (backE inn)) = fun k => backE inn (gi (thr (hts inn l)) k) := by
    intro inn; funext k
    unfold gi
    simp only [List.getD_eq_getElem?_getD, List.getElem?_map]
    cases (thr (hts inn l))[k]? <;> cases inn <;> simp [backE]
  refine list_ext_gi (by rw [hts_length, hthr]; simp [wallsT, wallsP]) fun k hk => ?_
  have hk' : k < l.length := by simpa [hts_length, wallsT, wallsP] using hk
  rw [gi_hts (by simpa [wallsT, wallsP] using hk'), gp_eq (by simpa [wallsT, wallsP] using hk')]
  have e1 := congrFun (e0 true) k
  have e2 := congrFun (e0 false) k
  simp only [hts] at e1 e2
  cases b
  · simp [wallsT, wallsP, ofE, e2, hts, backE]
  · simp [wallsT, wallsP, ofE, e1, hts, backE]
theorem hts_readP (t : List Int) (l : List Pt) (b : Bool) : hts b (readP t l) = readT t (hts b l) := hts_walls (fun inn => by rw [readT, walkL_length, hts_length]) b
theorem hts_sweepP (t : List Int) (l : List Pt) (b : Bool) : hts b (sweepP t l) = sweepT t (hts b l) := hts_walls (fun inn => by rw [sweepT, walkL_length, walkL_length, hts_length]) b

/-! ### bounds and checks -/
def Bd (l : List Pt) : Prop := ∀ p ∈ l, -4194304 ≤ p.1 ∧ p.1 ≤ 4194304 ∧ -4194304 ≤ p.2 ∧ p.2 ≤ 4194304
theorem bd_of_hts {l : List Pt} (h : ∀ inn, ∀ x ∈ hts inn l, -4194304 ≤ x ∧ x ≤ 4194304) : Bd l := by
  intro p hp
  have h0 := h true (ofE true p) (List.mem_map.2 ⟨p, hp, rfl⟩)
  have h1 := h false (ofE false p) (List.mem_map.2 ⟨p, hp, rfl⟩)
  simp [ofE] at h0 h1
  omega
theorem bd_read {t : List Int} {l : List Pt} (ht : ∀ x ∈ t, 0 ≤ x) (hl : Bd l) : Bd (readP t l) := bd_of_hts fun inn => by
  rw [hts_readP]; exact walkL_bound t _ false _ _ (ofE_bound hl inn) ht
theorem readP_length (t : List Int) (l : List Pt) : (readP t l).length = l.length := by simp [readP, wallsT, wallsP]
theorem sweepP_length (t : List Int) (l : List Pt) : (sweepP t l).length = l.length := by simp [sweepP, wallsT, wallsP]
theorem checkBoth_of {t : List Int} {l : List Pt} (h : checkTip t = 0) (k : checkPts l = 0) : checkBoth t l = 0 := by rw [checkBoth, if_pos h]; exact k
theorem readP_in_sweepP (t : List Int) (l : List Pt) : Inside (readP t l) (sweepP t l) := inside_iff.2 fun inn => by rw [hts_readP, hts_sweepP]; exact le_sweep_read _ _
theorem sweepP_in (t : List Int) (l : List Pt) : Inside (sweepP t l) l := inside_iff.2 fun inn => by rw [hts_sweepP]; exact sweep_le _ _
end Go.Proofs.Ytlfaaddoemcokaa
