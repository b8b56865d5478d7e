/-
  Samples that are read from points, in plain Lean. Conditions: told in each theorem.
-/
import Derived.Test.YtlfaaddoemcokaaGA12
namespace Go.Proofs.Ytlfaaddoemcokaa
open Go.Ab Go.RowKit Go.Dw Go.Shelf

theorem chE_opp (g n : Int) : chE g (-n) = -chE g n := by unfold chE; rw [Int.neg_mul, Int.neg_tdiv]
theorem chE_ge0 {g n : Int} (hg : 0 ≤ g) (hn : 0 ≤ n) : 0 ≤ chE g n := by
  rw [chE_nn hg hn]; exact Int.ediv_nonneg (Int.mul_nonneg hn hg) (by decide)
theorem chE_abs {g n : Int} (hg : 0 ≤ g) : gAmt (chE g n) = chE g (gAmt n) := by
  rcases Int.le_total 0 n with h | h
  · have e : gAmt n = n := by unfold gAmt; omega
    have := chE_ge0 hg h
    rw [e]; unfold gAmt; omega
  · have e : gAmt n = -n := by unfold gAmt; omega
    have h2 := chE_ge0 hg (show 0 ≤ -n by omega)
    rw [chE_opp] at h2
    rw [e, chE_opp]; unfold gAmt; omega
theorem gAmt_rd {d F : Int} (h : 0 ≤ F) : gAmt (rdN d F) = F := by unfold rdN gAmt; split <;> omega
theorem chan_back {g x F : Int} (hg : 0 ≤ g ∧ g ≤ 100000) (hx : -32767 ≤ x ∧ x ≤ 32767) (hF : IsFst (dstB g (chE g x)) 32768 F) :
    F ≤ gAmt x ∧ chE g (rdN (chE g x) F) = chE g x ∧ (1000 ≤ g → rdN (chE g x) F = x) := by
  have hb := hF.b
  have ax : 0 ≤ gAmt x ∧ gAmt x ≤ 32767 := by unfold gAmt; omega
  have p1 : dstB g (chE g x) (gAmt x) = true := by unfold dstB; rw [chE_abs hg.1, decide_eq_true_eq]; exact Int.le_refl _
  have f1 : F ≤ gAmt x := (hF.iff ax.1 (by omega)).1 p1
  have p2 := hF.hi F (Int.le_refl _) (by omega)
  unfold dstB at p2
  rw [decide_eq_true_eq, chE_abs hg.1] at p2
  have e : chE g F = chE g (gAmt x) := Int.le_antisymm (chE_mono' hg.1 hb.1 f1) p2
  have ea := chE_abs (g := g) (n := x) hg.1
  have e0 := chE_ge0 (g := g) (n := gAmt x) hg.1 ax.1
  have e2 : chE g (rdN (chE g x) F) = chE g x := by
    unfold rdN
    split
    · rw [chE_opp, e, ← ea]; unfold gAmt; omega
    · rw [e, ← ea]; unfold gAmt; omega
  refine ⟨f1, e2, fun h1000 => ?_⟩
  have hFx : F = gAmt x := by
    refine Int.le_antisymm f1 (Int.not_lt.1 fun hlt => ?_)
    have s1 : chE g F + 1 ≤ chE g (F + 1) := by
      rw [chE_nn hg.1 hb.1, chE_nn hg.1 (by omega), Int.add_mul, Int.one_mul]
      omega
    have s2 := chE_mono' (g := g) (m := F + 1) (n := gAmt x) hg.1 (by omega) (by omega)
    omega
  have big : ∀ n, 0 ≤ n → n ≤ chE g n := fun n hn => by
    rw [chE_nn hg.1 hn]
    have : n * 1000 ≤ n * g := Int.mul_le_mul_of_nonneg_left h1000 hn
    omega
  rcases Int.le_total 0 x with h | h
  · have := chE_ge0 hg.1 h
    unfold rdN
    rw [if_neg (by omega), hFx]; unfold gAmt; omega
  · by_cases h0 : x = 0
    · subst h0
      have : chE g 0 = 0 := by unfold chE; simp
      unfold rdN; rw [this, if_neg (by decide), hFx]; rfl
    · have b := big (-x) (by omega)
      rw [chE_opp] at b
      unfold rdN
      rw [if_pos (by omega), hFx]; unfold gAmt; omega
theorem back_of_wall {c : Cut} {s : Pt} {F G : Int} (hc : cutE c = 0) (hs : sE s = true) (hb : BOk c (wallP c s) F G) : ∃ t : Pt, backR c (wallP c s) F G = (t, 0) ∧ sE t = true ∧ wallP c t = wallP c s ∧ gAmt t.1 ≤ gAmt s.1 ∧ gAmt t.2 ≤ gAmt s.2 ∧ (1000 ≤ c.gain → t = s) := by
  obtain ⟨_, ⟨b1, b2⟩, _⟩ := cutE_ok.1 hc
  have hE := wallP_gE hc hs
  have s1 := sE_iff.1 hs
  have kf := hb.f hc hE
  have kg := hb.g hc hE
  have d1 : (wallP c s).2 - c.half = chE c.gain s.1 := by simp only [wallP]; omega
  have d2 : (wallP c s).1 + c.half = chE c.gain s.2 := by simp only [wallP]; omega
  have u1 := kf.b
  have u2 := kg.b
  rw [d1] at kf
  rw [d2] at kg
  obtain ⟨f1, f2, f3⟩ := chan_back ⟨b1, b2⟩ s1.1 kf
  obtain ⟨g1, g2, g3⟩ := chan_back ⟨b1, b2⟩ s1.2 kg
  have a1 : gAmt s.1 ≤ 32767 := by unfold gAmt; omega
  have a2 : gAmt s.2 ≤ 32767 := by unfold gAmt; omega
  have w : wallP c (rdN (chE c.gain s.1) F, rdN (chE c.gain s.2) G) = wallP c s := by
    unfold wallP
    simp only
    rw [f2, g2]
  have e : sE (rdN (chE c.gain s.1) F, rdN (chE c.gain s.2) G) = true := by
    rw [sE_iff]
    simp only [rdN]
    constructor <;> split <;> omega
  refine ⟨(rdN (chE c.gain s.1) F, rdN (chE c.gain s.2) G), ?_, e, w, ?_, ?_, fun h => ?_⟩
  · have := backR_3 (c := c) (p := wallP c s) (F := F) (G := G) ⟨hc, hE⟩ (by rw [d1, d2]; exact ⟨e, w⟩)
    rw [this, d1, d2]
  · simp only; rw [gAmt_rd u1.1]; exact f1
  · simp only; rw [gAmt_rd u2.1]; exact g1
  · rw [f3 h, g3 h]
/-- what is read from a point -/
theorem backR_inv {c : Cut} {p : Pt} {F G : Int} (h : (backR c p F G).2 = 0) : cutE c = 0 ∧ gE p = true ∧ sE (backR c p F G).1 = true ∧ wallP c (backR c p F G).1 = p ∧ (backR c p F G).1 = (rdN (p.2 - c.half) F, rdN (p.1 + c.half) G) := by
  by_cases h1 : cutE c = 0 ∧ gE p = true
  · by_cases h2 : sE (rdN (p.2 - c.half) F, rdN (p.1 + c.half) G) = true ∧ wallP c (rdN (p.2 - c.half) F, rdN (p.1 + c.half) G) = p
    · rw [backR_3 h1 h2]
      exact ⟨h1.1, h1.2, h2.1, h2.2, rfl⟩
    · rw [backR_2 h1 h2] at h; cases h
  · rw [backR_1 h1] at h; cases h
theorem backR_no {c : Cut} {p : Pt} {F G : Int} (h : ¬ (backR c p F G).2 = 0) : (backR c p F G).1 = (0, 0) := by
  by_cases h1 : cutE c = 0 ∧ gE p = true
  · by_cases h2 : sE (rdN (p.2 - c.half) F, rdN (p.1 + c.half) G) = true ∧ wallP c (rdN (p.2 - c.half) F, rdN (p.1 + c.half) G) = p
    · rw [backR_3 h1 h2] at h; exact absurd rfl h
    · rw [backR_2 h1 h2]
  · rw [backR_1 h1]
theorem lesser_ne {g d F u : Int} (hg : 0 ≤ g) (hF : IsFst (dstB g d) 32768 F) (hu : gAmt u < F) : chE g u ≠ d := by
  intro h
  have h0 : 0 ≤ gAmt u := by unfold gAmt; omega
  have := hF.lo _ h0 hu
  unfold dstB at this
  rw [← chE_abs hg, h] at this
  simp at this
/-- a lesser amount with the same sign -/
def lessN (x n : Int) : Int := x - x.tdiv (gAmt x) * min (gAmt x) (1 + n)
theorem sgn_eq {x : Int} (h : x ≠ 0) : x.tdiv (gAmt x) = if x < 0 then -1 else 1 := by
  by_cases hx : x < 0
  · have e : gAmt x = -x := by unfold gAmt; omega
    rw [if_pos hx, e, Int.tdiv_neg, Int.tdiv_self h]
  · have e : gAmt x = x := by unfold gAmt; omega
    rw [if_neg hx, e, Int.tdiv_self h]
theorem lessN_amt {x n : Int} (h : x ≠ 0) (hn : 0 ≤ n) : gAmt (lessN x n) < gAmt x := by
  unfold lessN
  rw [sgn_eq h]
  split
  · unfold gAmt; omega
  · unfold gAmt; omega
theorem lessN_bd {x n : Int} (h : x ≠ 0) (hn : 0 ≤ n) (hx : -32767 ≤ x ∧ x ≤ 32767) : -32767 ≤ lessN x n ∧ lessN x n ≤ 32767 := by
  have := lessN_amt h hn
  unfold gAmt at this
  omega
end Go.Proofs.Ytlfaaddoemcokaa
