/-
  Several texts in one: 'sharper': the tip that it returns, what it is, and what it reads. No condition but the sizes of slices. .. The plain law of round tips: they are valid; one with a greater radius is blunter; what they miss. No condition.
-/
import Derived.Test.YtpmchnojeloohaaGreatDoorX07
namespace Go.Proofs.YtpmchnojeloohaaGreatDoor
open Go.RowKit Go.Dw
end Go.Proofs.YtpmchnojeloohaaGreatDoor

namespace Go.Proofs.YtpmchnojeloohaaGreatDoor
open Go.RowKit Go.Dw
def stepPt (t : List Int) (l : List Pt) (i : Nat) (p : Pt) (u : Nat) : Pt :=
 if dist u i < t.length then (max p.1 ((gp l u).1 - gi t (dist u i)), min p.2 ((gp l u).2 + gi t (dist u i))) else p
def readPt (t : List Int) (l : List Pt) (i k : Nat) : Pt := (List.range k).foldl (stepPt t l i) (gp l i)
def readPts (t : List Int) (l : List Pt) (k : Nat) : List Pt := (List.range k).map fun i => readPt t l i l.length
theorem readPt_succ (t : List Int) (l : List Pt) (i k : Nat) : readPt t l i (k + 1) = stepPt t l i (readPt t l i k) k := by simp [readPt, List.range_succ]
end Go.Proofs.YtpmchnojeloohaaGreatDoor

namespace Go.Proofs.YtpmchnojeloohaaGreatDoor
open Go.RowKit Go.Dw
theorem le_readPt {t : List Int} {l : List Pt} {i : Nat} {x : Int} : ∀ k, x ≤ (readPt t l i k).2 ↔ x ≤ (gp l i).2 ∧ ∀ u, u < k → dist u i < t.length → x ≤ (gp l u).2 + gi t (dist u i)
 | 0 => by simp [readPt]
 | k + 1 => by
  rw [readPt_succ, stepPt]
  have ih := le_readPt (t := t) (l := l) (i := i) (x := x) k
  by_cases hd : dist k i < t.length
  ·
   rw [if_pos hd]
   constructor
   ·
    intro h
    have h1 := ih.1 (by simp only at h; omega)
    refine ⟨h1.1, fun u hu hdu => ?_⟩
    rcases Nat.lt_succ_iff_lt_or_eq.1 hu with h2 | rfl
    ·
     exact h1.2 u h2 hdu
    ·
     simp only at h; omega
   ·
    rintro ⟨h1, h2⟩
    have h3 := ih.2 ⟨h1, fun u hu hdu => h2 u oM hdu⟩
    have h4 := h2 k oM hd
    simp only; omega
  ·
   rw [if_neg hd, ih]
   refine and_congr_right fun _ => ⟨fun h u hu hdu => ?_, fun h u hu hdu => h u oM hdu⟩
   rcases Nat.lt_succ_iff_lt_or_eq.1 hu with h2 | rfl
   ·
    exact h u h2 hdu
   ·
    exact absurd hdu hd
theorem readPt_le {t : List Int} {l : List Pt} {i : Nat} {x : Int} : ∀ k, (readPt t l i k).1 ≤ x ↔ (gp l i).1 ≤ x ∧ ∀ u, u < k → dist u i < t.length → (gp l u).1 - gi t (dist u i) ≤ x
 | 0 => by simp [readPt]
 | k + 1 => by
  rw [readPt_succ, stepPt]
  have ih := readPt_le (t := t) (l := l) (i := i) (x := x) k
  by_cases hd : dist k i < t.length
  ·
   rw [if_pos hd]
   constructor
   ·
    intro h
    have h1 := ih.1 (by simp only at h; omega)
    refine ⟨h1.1, fun u hu hdu => ?_⟩
    rcases Nat.lt_succ_iff_lt_or_eq.1 hu with h2 | rfl
    ·
     exact h1.2 u h2 hdu
    ·
     simp only at h; omega
   ·
    rintro ⟨h1, h2⟩
    have h3 := ih.2 ⟨h1, fun u hu hdu => h2 u oM hdu⟩
    have h4 := h2 k oM hd
    simp only; omega
  ·
   rw [if_neg hd, ih]
   refine and_congr_right fun _ => ⟨fun h u hu hdu => ?_, fun h u hu hdu => h u oM hdu⟩
   rcases Nat.lt_succ_iff_lt_or_eq.1 hu with h2 | rfl
   ·
    exact h u h2 hdu
   ·
    exact absurd hdu hd
theorem eq_of_le_iff {a b : Int} (h : ∀ x, x ≤ a ↔ x ≤ b) : a = b := Int.le_antisymm ((h a).1 (Int.le_refl _)) ((h b).2 (Int.le_refl _))
theorem readPts_eq (t : List Int) (l : List Pt) : readPts t l l.length = readP t l := pts_ext fun inn => by
 rw [hts_readP]
 refine list_ext_gi (by simp [hts_length, readPts, readT, walkL_length]) fun k hk => ?_
 have hk' : k < l.length := by simpa [hts_length, readPts] using hk
 have e : gp (readPts t l l.length) k = readPt t l k l.length := by rw [gp_eq (by simpa [readPts] using hk')]; simp [readPts]
 rw [gi_hts (by simpa [readPts] using hk'), e, readT, gi_walkL (by rw [hts_length]; exact hk')]
 refine eq_of_le_iff fun x => ?_
 rw [le_walkAt, gi_hts hk', hts_length]
 cases inn
 ·
  simp only [ofE, Bool.false_eq_true, if_false]
  rw [le_readPt]
  exact and_congr_right fun _ => ⟨fun h j hj hd => by rw [gi_hts hj]; exact h j hj hd, fun h j hj hd => by have := h j hj hd; rw [gi_hts hj] at this; exact this⟩
 ·
  simp only [ofE, if_true]
  have := readPt_le (t := t) (l := l) (i := k) (x := -x) l.length
  constructor
  ·
   intro h
   have h1 := this.1 oM
   exact ⟨by omega, fun j hj hd => by rw [gi_hts hj]; have := h1.2 j hj hd; simp only [ofE, if_true]; omega⟩
  ·
   rintro ⟨h1, h2⟩
   have := this.2 ⟨by omega, fun j hj hd => by have := h2 j hj hd; rw [gi_hts hj] at this; simp only [ofE, if_true] at this; omega⟩
   omega
end Go.Proofs.YtpmchnojeloohaaGreatDoor

namespace Go.Proofs.YtpmchnojeloohaaGreatDoor
open Go.RowKit Go.Dw
end Go.Proofs.YtpmchnojeloohaaGreatDoor

namespace Go.Proofs.YtpmchnojeloohaaGreatDoor
open Go.Ab Go.RowKit Go.Dw Go.Shelf
theorem open_tl {w : World} {L : Nat → Prop} {t : List Int} {l : List Pt} {vs : Array Value} (hL : ∀ b, L b → b < w.heap.size) (h : RV w L ρ0 [.agg [V.ints t], V.pts l] vs.toList) :
  ∃ A c B d, vs = #[.agg #[.slice A t.length c], .slice B l.length d] ∧ IntsAt w A t.length t ∧ PtsAt w B l.length l := by
 obtain ⟨vs⟩ := vs
 obtain ⟨x1, e1, q1⟩ := h.get (i := 0) rfl
 obtain ⟨x2, e2, q2⟩ := h.get (i := 1) rfl
 obtain ⟨xs, rfl, hx⟩ := q1.agg_inv
 obtain ⟨xs⟩ := xs
 obtain ⟨y, e3, q3, _⟩ := hx.get (i := 0) rfl
 obtain ⟨A, c, rfl, _, ha⟩ := R_ints_inv q3 hL
 obtain ⟨B, d, rfl, _, hb⟩ := R_pts_inv q2 hL
 have hn := h.1
 have hm := hx.1
 refine ⟨A, c, B, d, ?_, ha, hb⟩
 match vs, hn, xs, hm with
 | [a, b], _, [x], _ => simp at e1 e2 e3; subst e1 e2 e3; rfl
theorem ac_of_flat {P : Program} {f : FuncId} {args : List V} {x : Value} (he : ∀ (args : Array Value) (w : World), (callFunc f args).run P w = .ok (.enter f args) w)
  (h : ∀ (L : Nat → Prop) (w : World) (vs : Array Value), (∀ b, L b → b < w.heap.size) → RV w L ρ0 args vs.toList → Calls P f vs w fun e w' => e = .returned x ∧ Below w.heap.size w w') : AC P f args (.c x) [] := by
 refine ac_of_calls he fun L w vs hL hvs => (h L w vs hL hvs).mono ?_
 rintro e w' ⟨rfl, hb⟩
 exact ⟨_, rfl, hb, fun _ => False, fun _ h => h.elim, .c _ _⟩
theorem ac_of_pts {P : Program} {f : FuncId} {args : List V} {e0 : TypeId} {l : List Pt} {n : Nat} {k : Int} (he : ∀ (args : Array Value) (w : World), (callFunc f args).run P w = .ok (.enter f args) w)
  (h : ∀ (L : Nat → Prop) (w : World) (vs : Array Value), (∀ b, L b → b < w.heap.size) → RV w L ρ0 args vs.toList → Calls P f vs w fun e w' => ∃ v, e = .returned (.tuple #[v, .int .i64 k]) ∧ w'.ownsRow w.heap.size e0 2 v n (l.flatMap encP) ∧ Below w.heap.size w w') : AC P f args (.tup [V.pts l, .i k]) [] := by
 refine ac_of_calls he fun L w vs hL hvs => (h L w vs hL hvs).mono ?_
 rintro e w' ⟨v, rfl, ho, hb⟩
 obtain ⟨N, hN, hr⟩ := own_R_pts ho
 exact ⟨_, rfl, hb, N, hN, .tup' (.cons ((hr ρ0).ext ⟨fun b hb => ⟨.inr hb, rfl⟩, fun _ _ h => h⟩) (.cons (.c _ _) .nil))⟩
section
variable (t : List Int) (l : List Pt) (ht : t.length ≤ 4611686018427387904) (hl : l.length ≤ 4611686018427387904)
include ht hl
theorem Read_ac : AC Tryz.prog 17 [.agg [V.ints t], V.pts l] (.tup [V.pts (wallsR t l), .i (checkBoth t l)]) [] := by
 refine ac_of_pts (e0 := 61) (n := (wallsR t l).length) (enters_of Tryz.func17 kR rfl) fun L w vs hL hvs => ?_
 obtain ⟨A, c, B, d, rfl, ha, hb⟩ := open_tl hL hvs
 exact Read_calls A _ c t B _ d l w ha hb ht hl
end
end Go.Proofs.YtpmchnojeloohaaGreatDoor

namespace Go.Proofs.YtpmchnojeloohaaGreatDoor
open Go.Ab Go.RowKit Go.Dw Go.Shelf
end Go.Proofs.YtpmchnojeloohaaGreatDoor

namespace Go.Proofs.YtpmchnojeloohaaGreatDoor
open Go.Ab Go.RowKit Go.Dw Go.Shelf
theorem tdiv_mono {a b m : Int} (hm : 0 < m) (h : a ≤ b) : a.tdiv m ≤ b.tdiv m := by
 by_cases ha : 0 ≤ a
 ·
  rw [Int.tdiv_eq_ediv_of_nonneg ha, Int.tdiv_eq_ediv_of_nonneg oM]
  exact Int.ediv_le_ediv hm h
 ·
  by_cases hb : 0 ≤ b
  ·
   have := (tdiv_bd a hm).2 oM
   have := (tdiv_bd b hm).1 hb
   omega
  ·
   have e1 : a.tdiv m = -((-a) / m) := by
    have := Int.neg_tdiv (a := -a) (b := m)
    rw [Int.neg_neg] at this
    rw [this, Int.tdiv_eq_ediv_of_nonneg oM]
   have e2 : b.tdiv m = -((-b) / m) := by
    have := Int.neg_tdiv (a := -b) (b := m)
    rw [Int.neg_neg] at this
    rw [this, Int.tdiv_eq_ediv_of_nonneg oM]
   have := Int.ediv_le_ediv hm (show -b ≤ -a by omega)
   omega
structure Fs where
 F : Int
 G : Int
def Fs.ok (s : Fs) (c : Cut) (half lo hi : Int) : Prop := IsFirst (fun n => decide (lo ≤ edgeI half c.gain n)) s.F ∧ IsFirst (fun n => decide (hi < edgeI half c.gain n)) s.G
def isB (s : Fs) : Bool := decide (s.F ≤ s.G - 1)
def fo (s : Fs) (x : Int) : Bool := decide (s.F < x) && isB s
end Go.Proofs.YtpmchnojeloohaaGreatDoor

namespace Go.Proofs.YtpmchnojeloohaaGreatDoor
open Go.Ab Go.RowKit Go.Dw Go.Shelf
def ceilI (n : Int) : Int := rootI n + if rootI n * rootI n = n then 0 else 1
theorem ceilI_spec {n : Int} (h : 0 ≤ n) : 0 ≤ ceilI n ∧ n ≤ ceilI n * ceilI n ∧ ∀ c, 0 ≤ c → n ≤ c * c → ceilI n ≤ c := by
 obtain ⟨a, b, c⟩ := rootI_spec h
 unfold ceilI
 split
 ·
  rename_i he
  refine ⟨by omega, by rw [Int.add_zero]; omega, fun d hd hn => ?_⟩
  rw [Int.add_zero]
  exact root_le a hd (n := n) b (by
   have : d * d < (d + 1) * (d + 1) := by rw [Int.add_mul, Int.mul_add, Int.mul_add]; omega
   omega)
 ·
  rename_i he
  refine ⟨by omega, by omega, fun d hd hn => ?_⟩
  by_cases hc : rootI n + 1 ≤ d
  ·
   exact hc
  ·
   exfalso
   have h1 : d ≤ rootI n := by omega
   have h2 : d * d ≤ rootI n * rootI n := Int.mul_le_mul h1 h1 hd a
   omega
theorem elt_down (r a : Int) (k : Nat) : elt r a false k = r - ceilI (sqI r a k) := by
 unfold elt ceilI
 by_cases h : rootI (sqI r a k) * rootI (sqI r a k) = sqI r a k
 ·
  simp [h]
 ·
  simp [h]
theorem elt_up (r a : Int) (k : Nat) : elt r a true k = r - rootI (sqI r a k) := by simp [elt]
theorem eltN_mul {r a : Int} {k : Nat} (hr : 0 ≤ r) (ha : 1 ≤ a) (h : k < eltN r a) : 0 ≤ (k : Int) * a ∧ (k : Int) * a ≤ r := by
 unfold eltN at h
 have := (tdiv_bd r (m := a) oM).1 hr
 exact mul_le_of_tdiv hr ha oM oM
theorem eltN_mono {r r' a : Int} (hr : 0 ≤ r) (ha : 1 ≤ a) (h : r ≤ r') : eltN r a ≤ eltN r' a := by
 have := tdiv_mono (m := a) oM h
 have := (tdiv_bd r (m := a) oM).1 hr
 unfold eltN
 omega
theorem sqI_nn {r a : Int} {k : Nat} (hr : 0 ≤ r) (ha : 1 ≤ a) (h : k < eltN r a) : 0 ≤ sqI r a k ∧ sqI r a k ≤ r * r := by
 obtain ⟨h1, h2⟩ := eltN_mul hr ha h
 obtain ⟨b1, b2⟩ := sq_le h1 h2
 unfold sqI
 omega
theorem elt_bd {r a : Int} {up : Bool} {k : Nat} (hr : 0 ≤ r) (ha : 1 ≤ a) (h : k < eltN r a) : 0 ≤ elt r a up k ∧ elt r a up k ≤ r := by
 obtain ⟨s1, s2⟩ := sqI_nn hr ha h
 cases up with
 | false =>
  rw [elt_down]
  obtain ⟨c1, c2, c3⟩ := ceilI_spec s1
  have := c3 r hr s2
  omega
 | true =>
  rw [elt_up]
  obtain ⟨c1, c2, c3⟩ := rootI_spec s1
  have := root_le c1 hr (n := r * r) oM (by rw [Int.add_mul, Int.mul_add, Int.mul_add]; omega)
  omega
theorem elt_zero {r a : Int} {up : Bool} (hr : 0 ≤ r) : elt r a up 0 = 0 := by
 have h0 : sqI r a 0 = r * r := by simp [sqI]
 have h1 := Int.mul_nonneg hr hr
 have h2 : rootI (r * r) = r := (root_uniq h1 hr (Int.le_refl _) (by rw [Int.add_mul, Int.mul_add, Int.mul_add]; omega)).symm
 cases up with
 | false => rw [elt_down, h0, ceilI, h2, if_pos rfl]; omega
 | true => rw [elt_up, h0, h2]; omega
theorem sqI_anti {r a : Int} {j k : Nat} (ha : 1 ≤ a) (h : j ≤ k) : sqI r a k ≤ sqI r a j := by
 have h1 : 0 ≤ (j : Int) * a := Int.mul_nonneg oM oM
 have h2 : (j : Int) * a ≤ (k : Int) * a := Int.mul_le_mul_of_nonneg_right oM oM
 obtain ⟨_, b⟩ := sq_le h1 h2
 unfold sqI
 omega
theorem elt_next {r a : Int} {up : Bool} {k : Nat} (hr : 0 ≤ r) (ha : 1 ≤ a) (h : k + 1 < eltN r a) : elt r a up k ≤ elt r a up (k + 1) := by
 have s0 := (sqI_nn (k := k) hr ha oM).1
 have s1 := (sqI_nn (k := k + 1) hr ha h).1
 have s2 := sqI_anti (r := r) (a := a) (j := k) (k := k + 1) ha oM
 cases up with
 | false =>
  rw [elt_down, elt_down]
  obtain ⟨c1, c2, c3⟩ := ceilI_spec s0
  have := (ceilI_spec s1).2.2 _ c1 oM
  omega
 | true =>
  rw [elt_up, elt_up]
  obtain ⟨c1, c2, c3⟩ := rootI_spec s0
  obtain ⟨d1, d2, d3⟩ := rootI_spec s1
  have := root_le d1 c1 (n := sqI r a k) oM c3
  omega
theorem checkTip_round {r a : Int} {up : Bool} (h : roundE r a = 0) : checkTip (eltL r a up) = 0 := by
 obtain ⟨h1, h2, h3, h4, h5⟩ := roundE_ok.1 h
 have hl := eltL_len r a up
 have hp : 0 < eltN r a := by unfold eltN; omega
 refine checkTip_good oM fun k hk => ?_
 have b := elt_bd (up := up) h1 h3 (k := k) oM
 have g := eltL_gi (r := r) (a := a) (up := up) (k := k) oM
 unfold tipBad
 by_cases h0 : k = 0
 ·
  subst h0
  rw [if_pos rfl, g, elt_zero h1]
  rfl
 ·
  have h6 := elt_next (up := up) h1 h3 (k := k - 1) oM
  have g2 := eltL_gi (r := r) (a := a) (up := up) (k := k - 1) oM
  rw [Nat.sub_add_cancel oM] at h6
  rw [if_neg h0, g, g2]
  simp
  omega
theorem elt_step {r a : Int} {k : Nat} (hr : 0 ≤ r) (ha : 1 ≤ a) (h : k < eltN r a) : elt (r + 1) a false k ≤ elt r a false k := by
 have h' : k < eltN (r + 1) a := Nat.lt_of_lt_of_le h (eltN_mono hr ha oM)
 obtain ⟨c1, c2, c3⟩ := ceilI_spec (sqI_nn hr ha h).1
 obtain ⟨d1, d2, d3⟩ := ceilI_spec (sqI_nn oM ha h').1
 obtain ⟨e1, e2⟩ := elt_bd (up := false) oM ha h'
 rw [elt_down] at e1 e2
 rw [elt_down, elt_down]
 have hs : sqI (r + 1) a k = sqI r a k + 2 * r + 1 := by
  unfold sqI
  rw [Int.add_mul, Int.mul_add, Int.mul_add]
  omega
 have s0 := (sqI_nn hr ha h).1
 generalize ceilI (sqI (r + 1) a k) = c at *
 have hc : 1 ≤ c := by
  by_cases hc : 1 ≤ c
  ·
   exact hc
  ·
   obtain rfl : c = 0 := by omega
   omega
 have hq : (c - 1) * (c - 1) = c * c - 2 * c + 1 := by rw [Int.sub_mul, Int.mul_sub, Int.mul_sub]; omega
 have := c3 (c - 1) oM oM
 omega
theorem elt_mono {r a : Int} {k : Nat} (m : Nat) (hr : 0 ≤ r) (ha : 1 ≤ a) (h : k < eltN r a) : elt (r + m) a false k ≤ elt r a false k := by
 induction m with
 | zero => simp
 | succ m ih =>
  have := elt_step (r := r + m) (k := k) oM ha (Nat.lt_of_lt_of_le h (eltN_mono hr ha oM))
  rw [show r + ((m + 1 : Nat) : Int) = r + m + 1 by omega]
  omega
def exactB (l : List Pt) (a r : Int) : Bool := decide ((missI (eltL r a false) l).2.2 = 5)
theorem missI_tag2 (t : List Int) (l : List Pt) : (missP t l = none ∧ (missI t l).2.2 = 5) ∨ (missP t l ≠ none ∧ (missI t l).2.2 = 0) := by
 unfold missI
 cases missP t l with
 | none => exact .inl ⟨rfl, rfl⟩
 | some p => exact .inr ⟨by simp, rfl⟩
theorem missP_nn {t : List Int} {l : List Pt} : missP t l = none ↔ ∀ i, i < l.length → ∀ u, u < l.length → missB t l i u = false := by
 simp [missP, missRow]
theorem exact_iff {l : List Pt} {a r : Int} : exactB l a r = true ↔ ∀ i, i < l.length → ∀ u, u < l.length → missB (eltL r a false) l i u = false := by
 rw [← missP_nn, exactB, decide_eq_true_eq]
 rcases missI_tag2 (eltL r a false) l with ⟨h1, h2⟩ | ⟨h1, h2⟩
 ·
  simp [h1, h2]
 ·
  simp [h1, h2]
theorem exact_down {l : List Pt} {a r : Int} (m : Nat) (hr : 0 ≤ r) (ha : 1 ≤ a) (h : exactB l a (r + m) = true) : exactB l a r = true := by
 rw [exact_iff] at h ⊢
 intro i hi u hu
 have := h i hi u hu
 have hN := eltN_mono (r' := r + m) hr ha oM
 unfold missB at this ⊢
 rw [eltL_len] at this ⊢
 by_cases hd : dist u i < eltN r a
 ·
  have hm := elt_mono m hr ha hd
  rw [eltL_gi hd]
  rw [eltL_gi oM] at this
  simp [hd, show dist u i < eltN (r + m) a by omega] at this ⊢
  omega
 ·
  simp [hd]
theorem exact_zero {l : List Pt} {a : Int} (ha : 1 ≤ a) : exactB l a 0 = true := by
 rw [exact_iff]
 intro i hi u hu
 have hN : eltN 0 a = 1 := by simp [eltN]
 unfold missB
 rw [eltL_len, hN]
 by_cases hd : dist u i < 1
 ·
  have e : u = i := by unfold dist at hd; omega
  subst e
  rw [show dist u u = 0 by omega, eltL_gi oM, elt_zero oM]
  simp
 ·
  simp [hd]
end Go.Proofs.YtpmchnojeloohaaGreatDoor
