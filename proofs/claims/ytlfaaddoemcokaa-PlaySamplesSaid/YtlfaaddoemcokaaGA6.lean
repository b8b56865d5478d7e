/-
  The fault of a groove: the walks of the reference. Conditions: told in each theorem.
-/
import Derived.Test.YtlfaaddoemcokaaGA5
namespace Go.Proofs.Ytlfaaddoemcokaa
open Go.Ab Go.RowKit Go.Dw Go.Shelf

theorem RImp.int {a b : Int} (h : a = b) : RImp (V.i a) (V.i b) := by subst h; exact RImp.refl _
def xE (u : Bool) (p : Pt) : Int := if u then p.2 else p.1
def edL (u : Bool) (l : List Pt) : List Int := l.map (xE u)
theorem edL_len (u : Bool) (l : List Pt) : (edL u l).length = l.length := by simp [edL]
theorem edL_gi (u : Bool) (l : List Pt) (k : Nat) : gi (edL u l) k = xE u (gp l k) := by
  by_cases h : k < l.length
  · simp [gi, gp, edL, List.getD_eq_getElem?_getD, List.getElem?_eq_getElem h]
  · rw [gp_out (by omega)]
    simp [gi, edL, List.getD_eq_getElem?_getD, List.getElem?_eq_none (show l.length ≤ k by omega), xE]
def dE (u : Bool) (l : List Pt) (i : Nat) : Int := xE u (gp l (i - 1)) + xE u (gp l (i + 1)) - 2 * xE u (gp l i)
def brkB (c : Cut) (l : List Pt) (u : Bool) (r per : Int) (i k : Nat) : Bool :=
  if 0 < i then (if k = 3 then decide (710 * r * c.slope < 113000 * per * gAmt (xE u (gp l i) - xE u (gp l (i - 1)))) else if i + 1 < l.length then (if k = 4 then decide (c.jerk < gAmt (dE u l i)) else decide (gArc r per < gAmt (dE u l i) * c.sty)) else false) else false
theorem xE_bd {u : Bool} {p : Pt} (h : gE p = true) : -4194304 ≤ xE u p ∧ xE u p ≤ 4194304 := by
  have := gE_iff.1 h
  unfold xE; split <;> omega
theorem gAmt_bd {n m : Int} (h : -m ≤ n ∧ n ≤ m) : 0 ≤ gAmt n ∧ gAmt n ≤ m := by unfold gAmt; omega
/-! ### a greatest amount breaks a limit if one of both does -/
theorem lt_mul_max {z k a b : Int} (hk : 0 ≤ k) : decide (z < k * max a b) = (decide (z < k * a) || decide (z < k * b)) := by
  rcases Int.le_total a b with h | h
  · have e : max a b = b := by omega
    have := Int.mul_le_mul_of_nonneg_left h hk
    rw [e, Bool.eq_iff_iff, Bool.or_eq_true]
    simp only [decide_eq_true_eq]; omega
  · have e : max a b = a := by omega
    have := Int.mul_le_mul_of_nonneg_left h hk
    rw [e, Bool.eq_iff_iff, Bool.or_eq_true]
    simp only [decide_eq_true_eq]; omega
theorem lt_max_mul {z k a b : Int} (hk : 0 ≤ k) : decide (z < max a b * k) = (decide (z < a * k) || decide (z < b * k)) := by
  rw [Int.mul_comm, lt_mul_max hk, Int.mul_comm k a, Int.mul_comm k b]
theorem lt_max' {z a b : Int} : decide (z < max a b) = (decide (z < a) || decide (z < b)) := by
  rw [Bool.eq_iff_iff, Bool.or_eq_true]
  simp only [decide_eq_true_eq]; omega
theorem rule3 {c : Cut} {l : List Pt} {r per : Int} {i : Nat} (hc : cutE c = 0) (hp : Plc r per) : ruleB c r per (nb l i) (gp l i) (na l i) 3 = (brkB c l false r per i 3 || brkB c l true r per i 3) := by
  obtain ⟨c1, c2, c3, c4, c5, c6, c7⟩ := cutE_ok.1 hc
  have hr := hp.r
  have hq := hp.p
  simp only [ruleB, steepB]
  by_cases h : 0 < i
  · rw [nb, if_pos h, brkB, if_pos h, if_pos rfl, brkB, if_pos h, if_pos rfl]
    exact lt_mul_max (by omega)
  · have m := Int.mul_nonneg (show 0 ≤ 710 * r by omega) c5.1
    rw [nb, if_neg h, brkB, if_neg h, brkB, if_neg h]
    simp only [stepP, Int.mul_zero, Bool.or_self, decide_eq_false_iff_not]
    omega
theorem bend_out {l : List Pt} {i : Nat} (h : ¬ (0 < i ∧ i + 1 < l.length)) : bendP (nb l i) (gp l i) (na l i) = 0 := by
  by_cases h1 : 0 < i
  · rw [na, if_neg fun h2 => h ⟨h1, h2⟩]
    cases nb l i <;> rfl
  · rw [nb, if_neg h1]
    rfl
theorem rule4 {c : Cut} {l : List Pt} {r per : Int} {i : Nat} (hc : cutE c = 0) : ruleB c r per (nb l i) (gp l i) (na l i) 4 = (brkB c l false r per i 4 || brkB c l true r per i 4) := by
  obtain ⟨c1, c2, c3, c4, c5, c6, c7⟩ := cutE_ok.1 hc
  simp only [ruleB, suddenB]
  by_cases h : 0 < i ∧ i + 1 < l.length
  · rw [nb, if_pos h.1, na, if_pos h.2, brkB, if_pos h.1, if_neg (by decide), if_pos h.2, if_pos rfl, brkB, if_pos h.1, if_neg (by decide), if_pos h.2, if_pos rfl]
    exact lt_max'
  · rw [bend_out h]
    have e : ∀ u, brkB c l u r per i 4 = false := fun u => by
      by_cases h1 : 0 < i
      · rw [brkB, if_pos h1, if_neg (by decide), if_neg fun h2 => h ⟨h1, h2⟩]
      · rw [brkB, if_neg h1]
    rw [e, e]
    simp only [Bool.or_self, decide_eq_false_iff_not]
    omega
theorem rule5 {c : Cut} {l : List Pt} {r per : Int} {i : Nat} (hc : cutE c = 0) (hp : Plc r per) : ruleB c r per (nb l i) (gp l i) (na l i) 5 = (brkB c l false r per i 5 || brkB c l true r per i 5) := by
  obtain ⟨c1, c2, c3, c4, c5, c6, c7⟩ := cutE_ok.1 hc
  have ha := (gArc_bd hp).1
  simp only [ruleB, sharpB]
  by_cases h : 0 < i ∧ i + 1 < l.length
  · rw [nb, if_pos h.1, na, if_pos h.2, brkB, if_pos h.1, if_neg (by decide), if_pos h.2, if_neg (by decide), brkB, if_pos h.1, if_neg (by decide), if_pos h.2, if_neg (by decide)]
    exact lt_max_mul (by omega)
  · rw [bend_out h]
    have e : ∀ u, brkB c l u r per i 5 = false := fun u => by
      by_cases h1 : 0 < i
      · rw [brkB, if_pos h1, if_neg (by decide), if_neg fun h2 => h ⟨h1, h2⟩]
      · rw [brkB, if_neg h1]
    rw [e, e]
    simp only [Bool.or_self, decide_eq_false_iff_not, Int.zero_mul]
    omega
/-- an index with its neighbours -/
def win (l : List Pt) (i : Nat) : List Pt := (l.drop (i - 1)).take (min l.length (i + 2) - (i - 1))
theorem win_len {l : List Pt} {i : Nat} : (win l i).length = min l.length (i + 2) - (i - 1) := by
  simp only [win, List.length_take, List.length_drop]; omega
theorem win_gp {l : List Pt} {i j : Nat} (h : j < (win l i).length) : gp (win l i) j = gp l (j + (i - 1)) := by
  rw [win_len] at h
  simp only [win, gp, List.getD_eq_getElem?_getD]
  rw [List.getElem?_take, if_pos h, List.getElem?_drop, Nat.add_comm]
theorem win_rule {c : Cut} {l : List Pt} {r per : Int} {i : Nat} (hi : i < l.length) : gRule c (win l i) r per (i - (i - 1)) = gRule c l r per i := by
  have hl := win_len (l := l) (i := i)
  have e0 : gp (win l i) (i - (i - 1)) = gp l i := by
    rw [win_gp (by omega)]; congr 1; omega
  have e1 : nb (win l i) (i - (i - 1)) = nb l i := by
    unfold nb
    by_cases h : 0 < i
    · rw [if_pos (by omega), if_pos h, win_gp (by omega)]; congr 2; omega
    · rw [if_neg (by omega), if_neg h]
  have e2 : na (win l i) (i - (i - 1)) = na l i := by
    unfold na
    by_cases h : i + 1 < l.length
    · rw [if_pos (by omega), if_pos h, win_gp (by omega)]; congr 2; omega
    · rw [if_neg (by omega), if_neg h]
  rw [gRule, e0, e1, e2]
  rfl
theorem win_gE {l : List Pt} {i : Nat} (h2 : ∀ k, k < l.length → gE (gp l k) = true) : ∀ k, k < (win l i).length → gE (gp (win l i) k) = true := fun k hk => by
  have := win_len (l := l) (i := i)
  rw [win_gp hk]; exact h2 _ (by omega)
end Go.Proofs.Ytlfaaddoemcokaa
