/-
  Edges of samples, in plain Lean. Conditions: told in each theorem.
-/
import Derived.Test.YtlfaaddoemcokaaGA1
namespace Go.Proofs.Ytlfaaddoemcokaa
open Go.Ab Go.RowKit Go.Dw Go.Shelf

theorem gMul {a b m n : Int} (ha : -m ≤ a ∧ a ≤ m) (hb : -n ≤ b ∧ b ≤ n) : -(m * n) ≤ a * b ∧ a * b ≤ m * n := by
  have h1 : 0 ≤ (m - a) * (n + b) := Int.mul_nonneg (by omega) (by omega)
  have h2 : 0 ≤ (m + a) * (n - b) := Int.mul_nonneg (by omega) (by omega)
  have h3 : 0 ≤ (m - a) * (n - b) := Int.mul_nonneg (by omega) (by omega)
  have h4 : 0 ≤ (m + a) * (n + b) := Int.mul_nonneg (by omega) (by omega)
  simp only [Int.sub_mul, Int.add_mul, Int.mul_add, Int.mul_sub] at h1 h2 h3 h4
  omega
theorem gTd {x m M : Int} (hm : 0 < m) (h : -(M * m) ≤ x ∧ x ≤ M * m) : -M ≤ x.tdiv m ∧ x.tdiv m ≤ M := by
  by_cases hx : 0 ≤ x
  · rw [Int.tdiv_eq_ediv_of_nonneg hx]
    have h1 := Int.ediv_nonneg hx (Int.le_of_lt hm)
    have h2 : x / m ≤ M := by
      have := Int.ediv_le_ediv hm h.2
      rwa [Int.mul_ediv_cancel _ (by omega)] at this
    omega
  · have e : x.tdiv m = -((-x) / m) := by
      have := Int.neg_tdiv (a := -x) (b := m)
      rw [Int.neg_neg] at this
      rw [this, Int.tdiv_eq_ediv_of_nonneg (by omega)]
    have h1 := Int.ediv_nonneg (a := -x) (b := m) (by omega) (by omega)
    have h2 : (-x) / m ≤ M := by
      have := Int.ediv_le_ediv hm (show -x ≤ M * m by omega)
      rwa [Int.mul_ediv_cancel _ (by omega)] at this
    omega
/-- how far a channel moves its edge -/
def chE (g n : Int) : Int := (n * g).tdiv 1000
def wallP (c : Cut) (s : Pt) : Pt := (chE c.gain s.2 - c.half, chE c.gain s.1 + c.half)
theorem chE_bd {g n : Int} (hg : 0 ≤ g ∧ g ≤ 100000) (hn : -32768 ≤ n ∧ n ≤ 32768) : -3276800 ≤ chE g n ∧ chE g n ≤ 3276800 := by
  have := gMul (m := 32768) (n := 100000) hn ⟨by omega, hg.2⟩
  exact gTd (by decide) (by omega)
def cutR (c : Cut) (s : List Pt) : List Pt × Int := if cutE c = 0 then (if sChk s = 0 then (s.map (wallP c), 0) else ([], sChk s)) else ([], cutE c)
theorem cutR_1 {c : Cut} {s : List Pt} (h : ¬ cutE c = 0) : cutR c s = ([], cutE c) := by rw [cutR, if_neg h]
theorem cutR_2 {c : Cut} {s : List Pt} (h : cutE c = 0) (h2 : ¬ sChk s = 0) : cutR c s = ([], sChk s) := by rw [cutR, if_pos h, if_neg h2]
theorem cutR_3 {c : Cut} {s : List Pt} (h : cutE c = 0) (h2 : sChk s = 0) : cutR c s = (s.map (wallP c), 0) := by rw [cutR, if_pos h, if_pos h2]
theorem gp_map {f : Pt → Pt} {l : List Pt} {k : Nat} (h : k < l.length) : gp (l.map f) k = f (gp l k) := by
  simp [gp, List.getD_eq_getElem?_getD, List.getElem?_eq_getElem h]
theorem gp_map0 {f : Pt → Pt} {l : List Pt} {k : Nat} (h : l.length ≤ k) : gp (l.map f) k = (0, 0) := by
  simp [gp, List.getD_eq_getElem?_getD, List.getElem?_eq_none h]
theorem gp_out {l : List Pt} {k : Nat} (h : l.length ≤ k) : gp l k = (0, 0) := by
  simp [gp, List.getD_eq_getElem?_getD, List.getElem?_eq_none h]
theorem wallP_gE {c : Cut} {s : Pt} (hc : cutE c = 0) (hs : sE s = true) : gE (wallP c s) = true := by
  obtain ⟨⟨a1, a2⟩, ⟨b1, b2⟩, _⟩ := cutE_ok.1 hc
  obtain ⟨h1, h2⟩ := sE_iff.1 hs
  have e1 := chE_bd (n := s.1) ⟨b1, b2⟩ (by omega)
  have e2 := chE_bd (n := s.2) ⟨b1, b2⟩ (by omega)
  rw [gE_iff]
  show (-4194304 ≤ chE c.gain s.2 - c.half ∧ _) ∧ -4194304 ≤ chE c.gain s.1 + c.half ∧ _
  simp only [wallP]
  omega
end Go.Proofs.Ytlfaaddoemcokaa
