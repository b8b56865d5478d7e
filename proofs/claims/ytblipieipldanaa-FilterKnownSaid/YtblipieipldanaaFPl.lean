/-
  Curves: what a curve makes of a signal, in plain terms. Conditions: told in each theorem.
-/
import Derived.Test.YtblipieipldanaaMD
namespace Go.Proofs.Ytblipieipldanaa
open Go.Ab Go.RowKit Go.Dw Go.Shelf

structure Cv where
  feed : List Int
  back : List Int
  share : Int
/-- the sum of the first k products -/
def dot (w h : List Int) : Nat → Int
  | 0 => 0
  | k + 1 => dot w h k + gi w k * gi h k
def corr (c : Cv) (hx hy : List Int) : Int := (dot c.feed hx c.feed.length + dot c.back hy c.back.length) / c.share
/-- inputs and outputs, the latest ones first -/
def stepH (c : Cv) (u : Bool) (p : List Int × List Int) (g : Int) : List Int × List Int :=
  if u then ((g - corr c p.1 p.2) :: p.1, g :: p.2) else (g :: p.1, (g + corr c p.1 p.2) :: p.2)
def hist (c : Cv) (u : Bool) (l : List Int) : Nat → List Int × List Int
  | 0 => ([], [])
  | k + 1 => stepH c u (hist c u l k) (gi l k)
def outK (c : Cv) (u : Bool) (l : List Int) (k : Nat) : Int :=
  if u then gi l k - corr c (hist c u l k).1 (hist c u l k).2 else gi l k + corr c (hist c u l k).1 (hist c u l k).2
def resL (c : Cv) (u : Bool) (l : List Int) : List Int := (List.range l.length).map (outK c u l)
def bey (n m : Int) : Bool := decide (n < -m) || decide (m < n)
theorem bey_no {n m : Int} : bey n m = false ↔ -m ≤ n ∧ n ≤ m := by
  simp [bey]
theorem resL_len (c : Cv) (u : Bool) (l : List Int) : (resL c u l).length = l.length := by simp [resL]
theorem resL_gi {c : Cv} {u : Bool} {l : List Int} {k : Nat} (h : k < l.length) : gi (resL c u l) k = outK c u l k := by simp [resL, gi, h]
theorem gi_consS (x : Int) (l : List Int) (k : Nat) : gi (x :: l) (k + 1) = gi l k := rfl
theorem gi_out {l : List Int} {k : Nat} (h : l.length ≤ k) : gi l k = 0 := by simp [gi, List.getElem?_eq_none h]
theorem hist_x (c : Cv) (u : Bool) (l : List Int) (k : Nat) : (hist c u l (k + 1)).1 = (if u then outK c u l k else gi l k) :: (hist c u l k).1 := by
  rw [hist, stepH, outK]; cases u <;> rfl
theorem hist_y (c : Cv) (u : Bool) (l : List Int) (k : Nat) : (hist c u l (k + 1)).2 = (if u then gi l k else outK c u l k) :: (hist c u l k).2 := by
  rw [hist, stepH, outK]; cases u <;> rfl
theorem hist_len (c : Cv) (u : Bool) (l : List Int) (k : Nat) : (hist c u l k).1.length = k ∧ (hist c u l k).2.length = k := by
  induction k with
  | zero => exact ⟨rfl, rfl⟩
  | succ k ih => rw [hist_x, hist_y]; simp [ih.1, ih.2]
/-- what the histories hold -/
theorem hist_at (c : Cv) (u : Bool) (l : List Int) : ∀ (k i : Nat), i < k → gi (hist c u l k).1 i = (if u then outK c u l (k - 1 - i) else gi l (k - 1 - i)) ∧ gi (hist c u l k).2 i = (if u then gi l (k - 1 - i) else outK c u l (k - 1 - i))
  | 0, i, h => by omega
  | k + 1, 0, _ => by rw [hist_x, hist_y]; exact ⟨rfl, rfl⟩
  | k + 1, i + 1, h => by
    rw [hist_x, hist_y, gi_consS, gi_consS, show k + 1 - 1 - (i + 1) = k - 1 - i by omega]
    exact hist_at c u l k i (by omega)
/-- bounded numbers -/
def AllLe (m : Int) (l : List Int) : Prop := ∀ x ∈ l, -m ≤ x ∧ x ≤ m
theorem AllLe.gi {m : Int} {l : List Int} (h : AllLe m l) (hm : 0 ≤ m) (k : Nat) : -m ≤ gi l k ∧ gi l k ≤ m := by
  by_cases hk : k < l.length
  · rw [gi_eq hk]; exact h _ (List.getElem_mem _)
  · rw [gi_out (by omega)]; omega
theorem AllLe.of_gi {m : Int} {l : List Int} (h : ∀ k, k < l.length → -m ≤ Go.Dw.gi l k ∧ Go.Dw.gi l k ≤ m) : AllLe m l := by
  intro x hx
  obtain ⟨k, hk, rfl⟩ := List.getElem_of_mem hx
  rw [← gi_eq hk]; exact h k hk
theorem mul_bd {a b m n : Int} (ha : -m ≤ a ∧ a ≤ m) (hb : -n ≤ b ∧ b ≤ n) : -(m * n) ≤ a * b ∧ a * b ≤ m * n := by
  have h1 : 0 ≤ (m - a) * (n + b) := Int.mul_nonneg (by omega) (by omega)
  have h2 : 0 ≤ (m + a) * (n - b) := Int.mul_nonneg (by omega) (by omega)
  have h3 : 0 ≤ (m - a) * (n - b) := Int.mul_nonneg (by omega) (by omega)
  have h4 : 0 ≤ (m + a) * (n + b) := Int.mul_nonneg (by omega) (by omega)
  simp only [Int.sub_mul, Int.add_mul, Int.mul_add, Int.mul_sub] at h1 h2 h3 h4
  omega
theorem dot_bd {w h : List Int} {m n : Int} (hm : 0 ≤ m) (hn : 0 ≤ n) (hw : AllLe m w) (hh : AllLe n h) : ∀ k : Nat, -(k * (m * n)) ≤ dot w h k ∧ dot w h k ≤ k * (m * n)
  | 0 => by simp [dot]
  | k + 1 => by
    have ih := dot_bd hm hn hw hh k
    have hb := mul_bd (hw.gi hm k) (hh.gi hn k)
    have e : ((k + 1 : Nat) : Int) * (m * n) = k * (m * n) + m * n := by rw [Int.natCast_succ, Int.add_mul, Int.one_mul]
    rw [dot, e]
    omega
/-- a valid curve -/
def cvE (c : Cv) : Int :=
  if 8 < max c.feed.length c.back.length then 6 else
  if (c.feed.any fun n => bey n 4096) || (c.back.any fun n => bey n 4096) || decide (c.share < 1) || decide (4096 < c.share) then 2 else 0
def cvOk (c : Cv) : Prop := c.feed.length ≤ 8 ∧ c.back.length ≤ 8 ∧ AllLe 4096 c.feed ∧ AllLe 4096 c.back ∧ 1 ≤ c.share ∧ c.share ≤ 4096
theorem any_bey {l : List Int} {m : Int} : (l.any fun n => bey n m) = false ↔ AllLe m l := by
  rw [List.any_eq_false]
  refine ⟨fun h x hx => bey_no.1 (by simpa using h x hx), fun h x hx => by simpa using bey_no.2 (h x hx)⟩
theorem cvE_ok {c : Cv} : cvE c = 0 ↔ cvOk c := by
  unfold cvE cvOk
  rw [← any_bey, ← any_bey]
  by_cases h : 8 < max c.feed.length c.back.length
  · rw [if_pos h]; constructor
    · intro h; cases h
    · intro ⟨h1, h2, _⟩; omega
  · rw [if_neg h]
    cases h1 : (c.feed.any fun n => bey n 4096) <;> cases h2 : (c.back.any fun n => bey n 4096) <;> simp
    omega
theorem corr_bd {c : Cv} (hc : cvOk c) {hx hy : List Int} {m : Int} (hm : 0 ≤ m) (h1 : AllLe m hx) (h2 : AllLe m hy) :
    (-(32768 * m) ≤ dot c.feed hx c.feed.length ∧ dot c.feed hx c.feed.length ≤ 32768 * m) ∧ (-(32768 * m) ≤ dot c.back hy c.back.length ∧ dot c.back hy c.back.length ≤ 32768 * m) ∧ -(65536 * m) ≤ corr c hx hy ∧ corr c hx hy ≤ 65536 * m := by
  obtain ⟨l1, l2, a1, a2, s1, s2⟩ := hc
  have d1 := dot_bd (by decide) hm a1 h1 c.feed.length
  have d2 := dot_bd (by decide) hm a2 h2 c.back.length
  have e1 : (c.feed.length : Int) * (4096 * m) ≤ 8 * (4096 * m) := Int.mul_le_mul_of_nonneg_right (by omega) (by omega)
  have e2 : (c.back.length : Int) * (4096 * m) ≤ 8 * (4096 * m) := Int.mul_le_mul_of_nonneg_right (by omega) (by omega)
  refine ⟨by omega, by omega, ?_⟩
  unfold corr
  constructor
  · refine Int.le_ediv_of_mul_le (by omega) ?_
    have : -(65536 * m) * c.share ≤ -(65536 * m) * 1 := Int.mul_le_mul_of_nonpos_left (by omega) (by omega)
    omega
  · have h3 : (dot c.feed hx c.feed.length + dot c.back hy c.back.length) / c.share ≤ 65536 * m := by
      refine Int.ediv_le_of_le_mul (by omega) ?_
      have : 65536 * m * 1 ≤ 65536 * m * c.share := Int.mul_le_mul_of_nonneg_left (by omega) (by omega)
      omega
    exact h3
/-- all results so far are within a bound -/
def fine (c : Cv) (u : Bool) (l : List Int) (m : Int) (k : Nat) : Prop := ∀ j, j < k → bey (outK c u l j) m = false
theorem hist_bd {c : Cv} {u : Bool} {l : List Int} {m : Int} (hm : 0 ≤ m) (hl : AllLe m l) {k : Nat} (hf : fine c u l m k) : AllLe m (hist c u l k).1 ∧ AllLe m (hist c u l k).2 := by
  constructor
  · refine .of_gi fun i hi => ?_
    rw [(hist_len c u l k).1] at hi
    rw [(hist_at c u l k i hi).1]
    split
    · exact bey_no.1 (hf _ (by omega))
    · exact hl.gi hm _
  · refine .of_gi fun i hi => ?_
    rw [(hist_len c u l k).2] at hi
    rw [(hist_at c u l k i hi).2]
    split
    · exact hl.gi hm _
    · exact bey_no.1 (hf _ (by omega))
/-- what a curve makes of a signal -/
def runI (c : Cv) (u : Bool) (m : Int) (l : List Int) : Option (List Int) := if (resL c u l).any fun n => bey n m then none else some (resL c u l)
theorem any_resL {c : Cv} {u : Bool} {l : List Int} {m : Int} : ((resL c u l).any fun n => bey n m) = false ↔ fine c u l m l.length := by
  rw [List.any_eq_false]
  constructor
  · intro h j hj
    have := h (outK c u l j) (by simp only [resL, List.mem_map, List.mem_range]; exact ⟨j, hj, rfl⟩)
    simpa using this
  · intro h x hx
    simp only [resL, List.mem_map, List.mem_range] at hx
    obtain ⟨j, hj, rfl⟩ := hx
    simpa using h j hj
theorem runI_some {c : Cv} {u : Bool} {m : Int} {l : List Int} (h : fine c u l m l.length) : runI c u m l = some (resL c u l) := by
  rw [runI, any_resL.2 h]; rfl
theorem runI_none {c : Cv} {u : Bool} {m : Int} {l : List Int} {j : Nat} (hj : j < l.length) (h : bey (outK c u l j) m = true) : runI c u m l = none := by
  rw [runI, if_pos]
  rw [List.any_eq_true]
  exact ⟨_, by simp only [resL, List.mem_map, List.mem_range]; exact ⟨j, hj, rfl⟩, h⟩
end Go.Proofs.Ytblipieipldanaa
