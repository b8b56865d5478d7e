/-
  How great the ideal outputs of at most four numbers are, in plain Lean. Conditions: told in each theorem.
-/
import Derived.Test.YtblipieipldanaaFPl6
namespace Go.Proofs.Ytblipieipldanaa
open Go.Ab Go.RowKit Go.Dw Go.Shelf

theorem dotS_bd {w h : List Int} {s M : Int} (hw : AllLe 4096 w) (hM : 0 ≤ M) (hh : ∀ i, -M ≤ gi h i * s ^ i ∧ gi h i * s ^ i ≤ M) : ∀ k : Nat, -(k * (4096 * M)) ≤ dotS w h s k ∧ dotS w h s k ≤ k * (4096 * M)
  | 0 => by simp [dotS]
  | k + 1 => by
    have ih := dotS_bd hw hM hh k
    have hb := mul_bd (hw.gi (by decide) k) (hh k)
    have e : ((k + 1 : Nat) : Int) * (4096 * M) = k * (4096 * M) + 4096 * M := by rw [Int.natCast_succ, Int.add_mul, Int.one_mul]
    rw [dotS, e, Int.mul_assoc]
    omega
theorem dotS_bd8 {w h : List Int} {s M : Int} (hw : AllLe 4096 w) (hM : 0 ≤ M) (hh : ∀ i, -M ≤ gi h i * s ^ i ∧ gi h i * s ^ i ≤ M) {k : Nat} (hk : k ≤ 8) : -(32768 * M) ≤ dotS w h s k ∧ dotS w h s k ≤ 32768 * M := by
  have := dotS_bd hw hM hh k
  have e : (k : Int) * (4096 * M) ≤ 8 * (4096 * M) := Int.mul_le_mul_of_nonneg_right (by omega) (by omega)
  omega
theorem dot_bd8 {w h : List Int} {n : Int} (hw : AllLe 4096 w) (hn : 0 ≤ n) (hh : AllLe n h) {k : Nat} (hk : k ≤ 8) : -(32768 * n) ≤ dot w h k ∧ dot w h k ≤ 32768 * n := by
  have := dot_bd (by decide) hn hw hh k
  have e : (k : Int) * (4096 * n) ≤ 8 * (4096 * n) := Int.mul_le_mul_of_nonneg_right (by omega) (by omega)
  omega
/-- how great an ideal output, and what it is multiplied by, can be -/
def aB : Nat → Int
  | 0 => 32767
  | t + 1 => 32767 * 256 ^ (t + 1) + 1073709056 * 256 ^ t + 32768 * aB t
theorem aB_pos : ∀ t, 0 ≤ aB t
  | 0 => by decide
  | t + 1 => by
    have := aB_pos t
    have h1 : (0 : Int) ≤ 256 ^ t := Int.le_of_lt (Int.pow_pos (by decide))
    have h2 : (0 : Int) ≤ 256 ^ (t + 1) := Int.le_of_lt (Int.pow_pos (by decide))
    rw [aB]; omega
theorem pow_256 {s : Int} (h1 : 1 ≤ s) (h2 : s ≤ 256) : ∀ k : Nat, 1 ≤ s ^ k ∧ s ^ k ≤ 256 ^ k
  | 0 => by simp
  | k + 1 => by
    obtain ⟨a, b⟩ := pow_256 h1 h2 k
    refine ⟨pow_pos' h1 _, ?_⟩
    rw [Int.pow_succ, Int.pow_succ]
    exact Int.mul_le_mul b h2 (by omega) (by omega)
theorem idF_zero (c : Cv) (x : List Int) : idF c x 0 = gi x 0 := by
  rw [idF, idK, idH, dotS_nil, hl, dot_nil]
  simp
theorem idF_succ (c : Cv) (x : List Int) (t : Nat) : idF c x (t + 1) = gi x (t + 1) * c.share ^ (t + 1) + dot c.feed (hl (gi x) (t + 1)) c.feed.length * c.share ^ t + dotS c.back (hl (idF c x) (t + 1)) c.share c.back.length := by
  rw [idF, idK, idH_hl]
  rfl
theorem allLe_hl {x : List Int} {n : Int} (hn : 0 ≤ n) (h : AllLe n x) (t : Nat) : AllLe n (hl (gi x) t) := by
  refine AllLe.of_gi fun k hk => ?_
  rw [hl_len] at hk
  rw [hl_gi _ _ _ hk]
  exact h.gi hn _
theorem hl_pow {c : Cv} {x : List Int} {t : Nat} (ih : ∀ j, j ≤ t → -aB t ≤ idF c x j * c.share ^ (t - j) ∧ idF c x j * c.share ^ (t - j) ≤ aB t) (i : Nat) : -aB t ≤ gi (hl (idF c x) (t + 1)) i * c.share ^ i ∧ gi (hl (idF c x) (t + 1)) i * c.share ^ i ≤ aB t := by
  by_cases h : i < t + 1
  · rw [hl_gi _ _ _ h, show t + 1 - 1 - i = t - i by omega]
    have := ih (t - i) (by omega)
    rwa [show t - (t - i) = i by omega] at this
  · rw [hl_out (by omega)]
    have := aB_pos t
    simp only [Int.zero_mul]
    omega
theorem idF_bd {c : Cv} {x : List Int} (hc : cvOk c) (hx : AllLe 32767 x) (hs : c.share ≤ 256) : ∀ t j, j ≤ t → -aB t ≤ idF c x j * c.share ^ (t - j) ∧ idF c x j * c.share ^ (t - j) ≤ aB t
  | 0, j, hj => by
    obtain rfl : j = 0 := by omega
    have := hx.gi (by decide) 0
    rw [idF_zero]
    simp only [aB, Nat.sub_self, Int.pow_zero, Int.mul_one]
    omega
  | t + 1, j, hj => by
    have ih := idF_bd hc hx hs t
    have h0 := aB_pos t
    have p1 : (0 : Int) ≤ 256 ^ t := Int.le_of_lt (Int.pow_pos (by decide))
    have p2 : (0 : Int) ≤ 256 ^ (t + 1) := Int.le_of_lt (Int.pow_pos (by decide))
    by_cases h : j ≤ t
    · have := ih j h
      rw [show t + 1 - j = (t - j) + 1 by omega, Int.pow_succ, ← Int.mul_assoc]
      have hm := mul_bd (n := 256) this ⟨by have := hc.2.2.2.2.1; omega, hs⟩
      rw [aB]
      omega
    · obtain rfl : j = t + 1 := by omega
      rw [Nat.sub_self, Int.pow_zero, Int.mul_one, idF_succ]
      have d1 := mul_bd (n := 256 ^ (t + 1)) (hx.gi (by decide) (t + 1)) ⟨by have := (pow_256 hc.2.2.2.2.1 hs (t + 1)).1; omega, (pow_256 hc.2.2.2.2.1 hs (t + 1)).2⟩
      have d2 := mul_bd (n := 256 ^ t) (dot_bd8 hc.2.2.1 (by decide) (allLe_hl (by decide) hx (t + 1)) hc.1) ⟨by have := (pow_256 hc.2.2.2.2.1 hs t).1; omega, (pow_256 hc.2.2.2.2.1 hs t).2⟩
      have d3 := dotS_bd8 (s := c.share) hc.2.2.2.1 h0 (hl_pow ih) hc.2.1
      rw [aB]
      omega
/-- what lies beyond is 0 -/
theorem dot_stop {w : List Int} {f : Nat → Int} {t i : Nat} (h : t ≤ i) : ∀ d, dot w (hl f t) (i + d) = dot w (hl f t) i
  | 0 => rfl
  | d + 1 => by rw [← Nat.add_assoc, dot, dot_stop h d, hl_out (by omega), Int.mul_zero, Int.add_zero]
theorem dotS_stop {w : List Int} {f : Nat → Int} {s : Int} {t i : Nat} (h : t ≤ i) : ∀ d, dotS w (hl f t) s (i + d) = dotS w (hl f t) s i
  | 0 => rfl
  | d + 1 => by rw [← Nat.add_assoc, dotS, dotS_stop h d, hl_out (by omega), Int.mul_zero, Int.zero_mul, Int.add_zero]
theorem dot_end {w : List Int} {f : Nat → Int} {t i : Nat} (hi : i ≤ w.length) (h : ¬ i < w.length ∨ t ≤ i) : dot w (hl f t) i = dot w (hl f t) w.length := by
  rcases h with h | h
  · rw [show i = w.length by omega]
  · rw [show w.length = i + (w.length - i) by omega, dot_stop h]
theorem dotS_end {w : List Int} {f : Nat → Int} {s : Int} {t i : Nat} (hi : i ≤ w.length) (h : ¬ i < w.length ∨ t ≤ i) : dotS w (hl f t) s i = dotS w (hl f t) s w.length := by
  rcases h with h | h
  · rw [show i = w.length by omega]
  · rw [show w.length = i + (w.length - i) by omega, dotS_stop h]
/-- the parts of an ideal output -/
def zA (c : Cv) (x : List Int) (t i : Nat) : Int := gi x t * c.share ^ t + dot c.feed (hl (gi x) t) i * c.share ^ (t - 1)
def zB (c : Cv) (x : List Int) (t i : Nat) : Int := zA c x t c.feed.length + dotS c.back (hl (idF c x) t) c.share i
theorem zB_end (c : Cv) (x : List Int) (t : Nat) : zB c x t c.back.length = idF c x t := by
  rw [idF, idK, idH_hl]; rfl
theorem zA_zero (c : Cv) (x : List Int) (t : Nat) : zA c x t 0 = gi x t * c.share ^ t := by rw [zA, dot]; simp
theorem zB_zero (c : Cv) (x : List Int) (t : Nat) : zB c x t 0 = zA c x t c.feed.length := by rw [zB, dotS]; simp
theorem zA_succ {c : Cv} {x : List Int} {t i : Nat} (h : i < t) : zA c x t (i + 1) = zA c x t i + gi c.feed i * gi x (t - 1 - i) * c.share ^ (t - 1) := by
  rw [zA, zA, dot, hl_gi _ _ _ h, Int.add_mul, Int.add_assoc]
theorem zB_succ {c : Cv} {x : List Int} {t i : Nat} (h : i < t) : zB c x t (i + 1) = zB c x t i + gi c.back i * idF c x (t - 1 - i) * c.share ^ i := by
  rw [zB, zB, dotS, hl_gi _ _ _ h, Int.add_assoc]
theorem zA_bd {c : Cv} {x : List Int} (hc : cvOk c) (hx : AllLe 32767 x) (hs : c.share ≤ 256) {t i : Nat} (ht : t ≤ 3) (hi : i ≤ 8) : -1000000000000000 ≤ zA c x t i ∧ zA c x t i ≤ 1000000000000000 := by
  have p1 := pow_256 hc.2.2.2.2.1 hs t
  have p2 := pow_256 hc.2.2.2.2.1 hs (t - 1)
  have q1 : (256 : Int) ^ t ≤ 16777216 := by
    rcases (by omega : t = 0 ∨ t = 1 ∨ t = 2 ∨ t = 3) with rfl | rfl | rfl | rfl <;> decide
  have q2 : (256 : Int) ^ (t - 1) ≤ 65536 := by
    rcases (by omega : t = 0 ∨ t = 1 ∨ t = 2 ∨ t = 3) with rfl | rfl | rfl | rfl <;> decide
  have d1 := mul_bd (n := 16777216) (hx.gi (by decide) t) ⟨by omega, Int.le_trans p1.2 q1⟩
  have d2 := mul_bd (n := 65536) (dot_bd8 hc.2.2.1 (by decide) (allLe_hl (by decide) hx t) hi) ⟨by omega, Int.le_trans p2.2 q2⟩
  rw [zA]
  omega
theorem hl_bd3 {c : Cv} {x : List Int} (hc : cvOk c) (hx : AllLe 32767 x) (hs : c.share ≤ 256) {t : Nat} (ht : t ≤ 3) (i : Nat) : -80000000000000 ≤ gi (hl (idF c x) t) i * c.share ^ i ∧ gi (hl (idF c x) t) i * c.share ^ i ≤ 80000000000000 := by
  cases t with
  | zero => rw [hl, gi_nil]; simp
  | succ t =>
    have h := hl_pow (idF_bd hc hx hs t) i
    have : aB t ≤ 80000000000000 := by
      rcases (by omega : t = 0 ∨ t = 1 ∨ t = 2) with rfl | rfl | rfl <;> decide
    omega
theorem zB_bd {c : Cv} {x : List Int} (hc : cvOk c) (hx : AllLe 32767 x) (hs : c.share ≤ 256) {t i : Nat} (ht : t ≤ 3) (hi : i ≤ 8) : -3000000000000000000 ≤ zB c x t i ∧ zB c x t i ≤ 3000000000000000000 := by
  have h1 := zA_bd hc hx hs ht (i := c.feed.length) hc.1
  have d3 := dotS_bd8 (s := c.share) hc.2.2.2.1 (M := 80000000000000) (by decide) (hl_bd3 hc hx hs ht) hi
  rw [zB]
  omega
/-- the factors of a product in the middle -/
theorem idF_bd3 {c : Cv} {x : List Int} (hc : cvOk c) (hx : AllLe 32767 x) (hs : c.share ≤ 256) {t i : Nat} (ht : t ≤ 3) (hi : i < t) :
    (-400000000000000000 ≤ gi c.back i * idF c x (t - 1 - i) ∧ gi c.back i * idF c x (t - 1 - i) ≤ 400000000000000000) ∧ (-400000000000000000 ≤ gi c.back i * idF c x (t - 1 - i) * c.share ^ i ∧ gi c.back i * idF c x (t - 1 - i) * c.share ^ i ≤ 400000000000000000) := by
  have h := hl_bd3 hc hx hs ht i
  rw [hl_gi _ _ _ hi] at h
  have h2 := hl_bd3 (t := t - i) hc hx hs (by omega) 0
  rw [hl_gi _ _ _ (by omega), show t - i - 1 - 0 = t - 1 - i by omega, Int.pow_zero, Int.mul_one] at h2
  have b := hc.2.2.2.1.gi (by decide) i
  have m1 := mul_bd b h2
  have m2 := mul_bd b h
  rw [← Int.mul_assoc] at m2
  omega
theorem feed_bd3 {c : Cv} {x : List Int} (hc : cvOk c) (hx : AllLe 32767 x) (hs : c.share ≤ 256) {t : Nat} (ht : t ≤ 3) (i j : Nat) :
    (-134213632 ≤ gi c.feed i * gi x j ∧ gi c.feed i * gi x j ≤ 134213632) ∧ (-8800000000000 ≤ gi c.feed i * gi x j * c.share ^ (t - 1) ∧ gi c.feed i * gi x j * c.share ^ (t - 1) ≤ 8800000000000) := by
  have p2 := pow_256 hc.2.2.2.2.1 hs (t - 1)
  have q2 : (256 : Int) ^ (t - 1) ≤ 65536 := by
    rcases (by omega : t = 0 ∨ t = 1 ∨ t = 2 ∨ t = 3) with rfl | rfl | rfl | rfl <;> decide
  have m1 := mul_bd (hc.2.2.1.gi (by decide) i) (hx.gi (by decide) j)
  have m2 := mul_bd (n := 65536) m1 ⟨by omega, Int.le_trans p2.2 q2⟩
  omega
end Go.Proofs.Ytblipieipldanaa
