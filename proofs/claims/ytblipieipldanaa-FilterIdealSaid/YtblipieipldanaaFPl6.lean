/-
  The ideal output of a curve, and how near the output is, in plain Lean. Conditions: told in each theorem.
-/
import Derived.Test.YtblipieipldanaaFA15
namespace Go.Proofs.Ytblipieipldanaa
open Go.Ab Go.RowKit Go.Dw Go.Shelf

/-- products with growing powers -/
def dotS (w h : List Int) (s : Int) : Nat → Int
  | 0 => 0
  | k + 1 => dotS w h s k + gi w k * gi h k * s ^ k
def idK (c : Cv) (x : List Int) (t : Nat) (h : List Int) : Int := gi x t * c.share ^ t + dot c.feed (hl (gi x) t) c.feed.length * c.share ^ (t - 1) + dotS c.back h c.share c.back.length
def idH (c : Cv) (x : List Int) : Nat → List Int
  | 0 => []
  | t + 1 => idK c x t (idH c x t) :: idH c x t
/-- the ideal output at an index, times as many powers -/
def idF (c : Cv) (x : List Int) (t : Nat) : Int := idK c x t (idH c x t)
theorem idH_hl (c : Cv) (x : List Int) : ∀ t, idH c x t = hl (idF c x) t
  | 0 => rfl
  | t + 1 => by rw [idH, hl, idH_hl c x t, idF, idH_hl c x t]
theorem hl_out {f : Nat → Int} {t i : Nat} (h : t ≤ i) : gi (hl f t) i = 0 := gi_out (by rw [hl_len]; exact h)
theorem dot_nil (w : List Int) (k : Nat) : dot w [] k = 0 := dot_zero (fun i => rfl) k
theorem dotS_nil (w : List Int) (s : Int) : ∀ k, dotS w [] s k = 0
  | 0 => rfl
  | k + 1 => by rw [dotS, dotS_nil w s k, gi_nil]; simp
theorem abs2 {a b : Int} (h : -b ≤ a ∧ a ≤ b) : absI a ≤ b := by unfold absI; omega
theorem two_abs {a b : Int} (h : absI a ≤ b) : -b ≤ a ∧ a ≤ b := by unfold absI at h; omega
theorem pow_pos' {s : Int} (h : 1 ≤ s) : ∀ k : Nat, 1 ≤ s ^ k
  | 0 => by simp
  | k + 1 => by
    have := pow_pos' h k
    rw [Int.pow_succ]
    have := Int.mul_le_mul this h (by decide) (by omega)
    omega
/-- the difference of the output and the ideal one -/
def erF (c : Cv) (x : List Int) (t : Nat) : Int := outK c false x t * c.share ^ t - idF c x t
theorem er_zero (c : Cv) (x : List Int) : erF c x 0 = 0 := by
  have h1 : outK c false x 0 = gi x 0 := by
    rw [outK, hist_hl]
    rw [corr_zero (fun i => rfl) (fun i => rfl)]
    simp
  have h2 : idF c x 0 = gi x 0 := by
    rw [idF, idK, idH, dotS_nil, hl, dot_nil]
    simp
  rw [erF, h1, h2]
  simp
theorem er_succ {c : Cv} {x : List Int} (hs : 1 ≤ c.share) (t : Nat) : ∃ r, 0 ≤ r ∧ r ≤ c.share - 1 ∧ erF c x (t + 1) = c.share ^ t * dot c.back (hl (outK c false x) (t + 1)) c.back.length - dotS c.back (hl (idF c x) (t + 1)) c.share c.back.length - c.share ^ t * r := by
  have ho : outK c false x (t + 1) = gi x (t + 1) + (dot c.feed (hl (gi x) (t + 1)) c.feed.length + dot c.back (hl (outK c false x) (t + 1)) c.back.length) / c.share := by
    rw [outK, hist_hl]
    rfl
  have hi : idF c x (t + 1) = gi x (t + 1) * c.share ^ (t + 1) + dot c.feed (hl (gi x) (t + 1)) c.feed.length * c.share ^ t + dotS c.back (hl (idF c x) (t + 1)) c.share c.back.length := by
    rw [idF, idK, idH_hl]
    rfl
  generalize dot c.feed (hl (gi x) (t + 1)) c.feed.length = D1 at *
  generalize dot c.back (hl (outK c false x) (t + 1)) c.back.length = D2 at *
  generalize dotS c.back (hl (idF c x) (t + 1)) c.share c.back.length = D3 at *
  have h1 := Int.mul_ediv_add_emod (D1 + D2) c.share
  have h2 := Int.emod_nonneg (D1 + D2) (show c.share ≠ 0 by omega)
  have h3 := Int.emod_lt_of_pos (D1 + D2) (show 0 < c.share by omega)
  refine ⟨(D1 + D2) % c.share, h2, by omega, ?_⟩
  rw [erF, ho, hi, Int.pow_succ]
  generalize (D1 + D2) / c.share = q at *
  generalize (D1 + D2) % c.share = r at *
  generalize c.share ^ t = P at *
  have e : D2 = c.share * q + r - D1 := by omega
  subst e
  grind
/-- all products with what came before -/
theorem er_dot {c : Cv} {x : List Int} (hs : 1 ≤ c.share) (ht : amtL c.back < c.share) (t : Nat) (ih : ∀ k, k ≤ t → absI (erF c x k) * (c.share - amtL c.back) ≤ (c.share - 1) * c.share ^ k) : ∀ k,
    absI (c.share ^ t * dot c.back (hl (outK c false x) (t + 1)) k - dotS c.back (hl (idF c x) (t + 1)) c.share k) * (c.share - amtL c.back) ≤ amt c.back k * ((c.share - 1) * c.share ^ t)
  | 0 => by simp [dot, dotS, amt, absI]
  | k + 1 => by
    have h := er_dot hs ht t ih k
    rw [dot, dotS, amt]
    by_cases hk : k ≤ t
    · rw [hl_gi _ _ _ (by omega), hl_gi _ _ _ (by omega), show t + 1 - 1 - k = t - k by omega]
      have h2 := ih (t - k) (by omega)
      have he : erF c x (t - k) = outK c false x (t - k) * c.share ^ (t - k) - idF c x (t - k) := rfl
      have hp : c.share ^ t = c.share ^ (t - k) * c.share ^ k := by rw [← Int.pow_add]; congr 1; omega
      have p1 := pow_pos' hs k
      rw [hp] at h ⊢
      generalize c.share ^ (t - k) = P at *
      generalize c.share ^ k = Q at *
      generalize erF c x (t - k) = E at *
      generalize outK c false x (t - k) = y at *
      generalize idF c x (t - k) = z at *
      generalize dot c.back (hl (outK c false x) (t + 1)) k = d1 at *
      generalize dotS c.back (hl (idF c x) (t + 1)) c.share k = d2 at *
      generalize gi c.back k = b at *
      have e1 : P * Q * (d1 + b * y) - (d2 + b * z * Q) = (P * Q * d1 - d2) + b * (Q * E) := by subst he; grind
      rw [e1]
      have a1 : absI ((P * Q * d1 - d2) + b * (Q * E)) ≤ absI (P * Q * d1 - d2) + absI b * (Q * absI E) := by
        have m1 : absI (b * (Q * E)) = absI b * (Q * absI E) := by rw [absM, absM, absP (a := Q) (by omega)]
        have m2 : absI ((P * Q * d1 - d2) + b * (Q * E)) ≤ absI (P * Q * d1 - d2) + absI (b * (Q * E)) := by unfold absI; omega
        omega
      have b0 := absI_nonneg b
      have g0 : 0 ≤ c.share - amtL c.back := by omega
      have hb : max b (-b) = absI b := rfl
      rw [hb]
      generalize absI b = B at *
      generalize absI E = A at *
      generalize c.share - amtL c.back = G at *
      generalize absI ((P * Q * d1 - d2) + b * (Q * E)) = L at *
      generalize absI (P * Q * d1 - d2) = M at *
      generalize c.share - 1 = U at *
      generalize amt c.back k = K at *
      have s1 : L * G ≤ (M + B * (Q * A)) * G := Int.mul_le_mul_of_nonneg_right a1 g0
      have s2 : B * Q * (A * G) ≤ B * Q * (U * P) := Int.mul_le_mul_of_nonneg_left h2 (Int.mul_nonneg b0 (by omega))
      have s3 : (M + B * (Q * A)) * G = M * G + B * Q * (A * G) := by grind
      have s4 : (K + B) * (U * (P * Q)) = K * (U * (P * Q)) + B * Q * (U * P) := by grind
      omega
    · rw [hl_out (by omega), hl_out (by omega)]
      have b0 := absI_nonneg (gi c.back k)
      have hb : max (gi c.back k) (-gi c.back k) = absI (gi c.back k) := rfl
      have p1 := pow_pos' hs t
      have : 0 ≤ absI (gi c.back k) * ((c.share - 1) * c.share ^ t) := Int.mul_nonneg b0 (Int.mul_nonneg (by omega) (by omega))
      rw [hb, Int.add_mul]
      simp only [Int.mul_zero, Int.zero_mul, Int.add_zero]
      omega
where
  absM {a b : Int} : absI (a * b) = absI a * absI b := by
    unfold absI
    rcases Int.le_total 0 a with h1 | h1 <;> rcases Int.le_total 0 b with h2 | h2
    · have := Int.mul_nonneg h1 h2; rw [Int.max_eq_left (by omega), Int.max_eq_left (a := a) (by omega), Int.max_eq_left (a := b) (by omega)]
    · have := Int.mul_nonneg h1 (show 0 ≤ -b by omega)
      rw [Int.mul_neg] at this
      rw [Int.max_eq_right (by omega), Int.max_eq_left (a := a) (by omega), Int.max_eq_right (a := b) (by omega), Int.mul_neg]
    · have := Int.mul_nonneg (show 0 ≤ -a by omega) h2
      rw [Int.neg_mul] at this
      rw [Int.max_eq_right (by omega), Int.max_eq_right (a := a) (by omega), Int.max_eq_left (a := b) (by omega), Int.neg_mul]
    · have := Int.mul_nonneg (show 0 ≤ -a by omega) (show 0 ≤ -b by omega)
      rw [Int.neg_mul_neg] at this
      rw [Int.max_eq_left (by omega), Int.max_eq_right (a := a) (by omega), Int.max_eq_right (a := b) (by omega), Int.neg_mul_neg]
  absP {a : Int} (h : 0 ≤ a) : absI a = a := by unfold absI; omega
/-- the output is near to the ideal one -/
theorem er_le {c : Cv} {x : List Int} (hs : 1 ≤ c.share) (ht : amtL c.back < c.share) (t : Nat) : absI (erF c x t) * (c.share - amtL c.back) ≤ (c.share - 1) * c.share ^ t := by
  induction t using Nat.strongRecOn with
  | _ t ih =>
    cases t with
    | zero => rw [er_zero]; simp [absI]; omega
    | succ t =>
      obtain ⟨r, r0, r1, he⟩ := er_succ (x := x) hs t
      have h := er_dot hs ht t (fun k hk => ih k (by omega)) c.back.length
      have p1 := pow_pos' hs t
      have hm : amt c.back c.back.length = amtL c.back := rfl
      rw [hm] at h
      rw [he, Int.pow_succ]
      generalize c.share ^ t * dot c.back (hl (outK c false x) (t + 1)) c.back.length - dotS c.back (hl (idF c x) (t + 1)) c.share c.back.length = M at *
      generalize c.share ^ t = P at *
      generalize amtL c.back = K at *
      generalize c.share = S at *
      have q0 : 0 ≤ P * r := Int.mul_nonneg (by omega) r0
      have q1 : P * r ≤ P * (S - 1) := Int.mul_le_mul_of_nonneg_left r1 (by omega)
      have a1 : absI (M - P * r) ≤ absI M + P * (S - 1) := by unfold absI; omega
      have a2 : absI (M - P * r) * (S - K) ≤ (absI M + P * (S - 1)) * (S - K) := Int.mul_le_mul_of_nonneg_right a1 (by omega)
      have a3 : (absI M + P * (S - 1)) * (S - K) = absI M * (S - K) + P * (S - 1) * (S - K) := by grind
      have a4 : K * ((S - 1) * P) + P * (S - 1) * (S - K) = (S - 1) * (P * S) := by grind
      omega
end Go.Proofs.Ytblipieipldanaa
