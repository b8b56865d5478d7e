/-
  Roots: both copies. Conditions: told in each theorem.
-/
import Derived.Test.YtlfaaddoemcokaaPAb18
namespace Go.Proofs.Ytlfaaddoemcokaa
open Go.Ab Go.RowKit Go.Dw Go.Shelf

/-- the root, rounded down -/
def rootN : Nat → Nat
  | 0 => 0
  | n + 1 => if (rootN n + 1) * (rootN n + 1) ≤ n + 1 then rootN n + 1 else rootN n
theorem rootN_spec (n : Nat) : rootN n * rootN n ≤ n ∧ n < (rootN n + 1) * (rootN n + 1) := by
  induction n with
  | zero => simp [rootN]
  | succ n ih =>
    rw [rootN]
    split
    · have : (rootN n + 1 + 1) * (rootN n + 1 + 1) = (rootN n + 1) * (rootN n + 1) + 2 * (rootN n + 1) + 1 := by simp only [Nat.add_mul, Nat.mul_add]; omega
      omega
    · omega
def rootI (n : Int) : Int := rootN n.toNat
theorem rootI_spec {n : Int} (h : 0 ≤ n) : 0 ≤ rootI n ∧ rootI n * rootI n ≤ n ∧ n < (rootI n + 1) * (rootI n + 1) := by
  obtain ⟨a, b⟩ := rootN_spec n.toNat
  have a' : ((rootN n.toNat * rootN n.toNat : Nat) : Int) ≤ (n.toNat : Int) := by exact_mod_cast a
  have b' : (n.toNat : Int) < (((rootN n.toNat + 1) * (rootN n.toNat + 1) : Nat) : Int) := by exact_mod_cast b
  rw [Int.toNat_of_nonneg h] at a' b'
  exact ⟨Int.natCast_nonneg _, by simpa [rootI] using a', by simpa [rootI] using b'⟩
theorem root_le {a b : Int} (ha : 0 ≤ a) (hb : 0 ≤ b) {n : Int} (h1 : a * a ≤ n) (h2 : n < (b + 1) * (b + 1)) : a ≤ b := by
  by_cases h : a ≤ b
  · exact h
  · have : (b + 1) * (b + 1) ≤ a * a := Int.mul_le_mul (by omega) (by omega) (by omega) ha
    omega
theorem root_uniq {n s : Int} (hn : 0 ≤ n) (h0 : 0 ≤ s) (h1 : s * s ≤ n) (h2 : n < (s + 1) * (s + 1)) : s = rootI n := by
  obtain ⟨a, b, c⟩ := rootI_spec hn
  have := root_le h0 a h1 c
  have := root_le a h0 b h2
  omega
theorem sq_le {a m : Int} (h0 : 0 ≤ a) (h : a ≤ m) : 0 ≤ a * a ∧ a * a ≤ m * m := ⟨Int.mul_nonneg h0 h0, Int.mul_le_mul h h h0 (by omega)⟩
def stepOf : Nat → Int
  | 0 => 4096 | 1 => 2048 | 2 => 1024 | 3 => 512 | 4 => 256 | 5 => 128 | 6 => 64 | 7 => 32 | 8 => 16 | 9 => 8 | 10 => 4 | 11 => 2 | 12 => 1 | _ => 0
theorem stepOf_next {k : Nat} (h : k ≤ 12) : 0 < stepOf k ∧ stepOf k ≤ 4096 ∧ (stepOf k).tdiv 2 = stepOf (k + 1) ∧ stepOf k = max 1 (2 * stepOf (k + 1)) := by
  have : k = 0 ∨ k = 1 ∨ k = 2 ∨ k = 3 ∨ k = 4 ∨ k = 5 ∨ k = 6 ∨ k = 7 ∨ k = 8 ∨ k = 9 ∨ k = 10 ∨ k = 11 ∨ k = 12 := by omega
  rcases this with rfl | rfl | rfl | rfl | rfl | rfl | rfl | rfl | rfl | rfl | rfl | rfl | rfl <;> decide
set_option maxRecDepth 100000 in
theorem root_ac (n : Int) (hn : 0 ≤ n ∧ n ≤ 1048576) : AC Try.prog 98 [.i n] (.i (rootI n)) [] := by
  refine ac_intro hTT hMX (fn := Try.f98) (N := _) ⟨Try.func98, rfl, Try.ntmps98, by kernel_rfl⟩ (by simp) fun C hC hF => ?_
  refine aw_seq_k fun K hK => ?_
  refine w_region (n' := 2) (by kernel_rfl) (by kernel_rfl) ?_
  refine aops_n hTT (M := []) (n := 1) [pv (2 : Nat) (V.i (0 : Int))] (by kernel_rfl) (by kernel_rfl) True.intro ?_
  refine aops_nil ?_
  refine xt_n ?_
  refine hK _ ?_
  clear hK K
  refine aw_seq_k fun K hK => ?_
  refine w_region (n' := 3) (by kernel_rfl) (by kernel_rfl) ?_
  refine aops_n hTT (M := []) (n := 1) [pv (3 : Nat) (V.i (0 : Int))] (by kernel_rfl) (by kernel_rfl) True.intro ?_
  refine aops_nil ?_
  refine xt_n ?_
  refine hK _ ?_
  clear hK K
  refine aw_seq_k fun K hK => ?_
  refine aw_seq_k fun K hK => ?_
  refine w_region (n' := 4) (by kernel_rfl) (by kernel_rfl) ?_
  refine aops_n hTT (M := []) (n := 1) [pv (4 : Nat) (V.i (4096 : Int))] (by kernel_rfl) (by kernel_rfl) True.intro ?_
  refine aops_nil ?_
  refine xt_n ?_
  refine hK _ ?_
  clear hK K
  refine aw_block ?_
  refine w_loop (fun x : Nat × Int => [(0, .i n), (3, .i x.2), (4, .i (stepOf x.1))]) (fun _ => []) (fun x => x.1 ≤ 13 ∧ 0 ≤ x.2 ∧ x.2 * x.2 ≤ n ∧ n < (x.2 + max 1 (2 * stepOf x.1)) * (x.2 + max 1 (2 * stepOf x.1))) (fun x => 13 - x.1) (0, 0) ⟨by decide, by decide, by omega, by show n < (0 + max 1 (2 * 4096)) * (0 + max 1 (2 * 4096)); rw [show ((0:Int) + max 1 (2 * 4096)) = 8192 from by decide]; omega⟩ ?_ ?_
  · show Le _ ⟨mkT [(0, .i n), (3, .i 0), (4, .i 4096)], mkS [], 1⟩
    refine le_ren [] (.cons (by kernel_rfl) (.cons (by kernel_rfl) (.cons (by kernel_rfl) .nil))) .nil (by kernel_rfl) (by kernel_rfl)
  rintro ⟨k, r⟩ ⟨hk, h0, h1, h2⟩
  simp only at hk h0 h1 h2 ⊢
  have h3 : r ≤ 1024 := root_le h0 (b := 1024) (by decide) h1 (by omega)
  by_cases hk2 : k ≤ 12
  · obtain ⟨q1, q2, q3, q4⟩ := stepOf_next hk2
    obtain ⟨p1, p2⟩ := sq_le (a := r + stepOf k) (m := 5120) (by omega) (by omega)
    have e2 : r + max 1 (2 * stepOf k) = r + stepOf k + stepOf k := by omega
    refine aw_seq_k fun K hK => ?_
    refine aw_seq_k fun K hK => ?_
    refine w_region (n' := 2) (by kernel_rfl) (by kernel_rfl) ?_
    refine aops_n hTT (M := []) (n := 2) [pv (5 : Nat) (V.i (stepOf k)), pv (6 : Nat) (V.b (decide ((0 : Int) < stepOf k)))] (by kernel_rfl) (by kernel_rfl) True.intro ?_
    refine aops_nil ?_
    refine xt_n ?_
    refine hK _ ?_
    clear hK K
    refine w_cond (t := decide ((0 : Int) < stepOf k)) (by kernel_rfl) (fun c1 => ?_) (fun c1 => ?_)
    · refine aw_skip ?_
      refine xt_n ?_
      refine hK _ ?_
      clear hK K
      refine aw_seq_k fun K hK => ?_
      refine aw_block ?_
      refine aw_seq_k fun K hK => ?_
      refine w_region (n' := 3) (by kernel_rfl) (by kernel_rfl) ?_
      refine aops_n hTT (M := []) (n := 9) [pv (9 : Nat) (V.i r), pv (10 : Nat) (V.i (stepOf k)), pc (11 : Nat) ((-9223372036854775808 : Int) ≤ r + stepOf k ∧ r + stepOf k ≤ (9223372036854775807 : Int)) (V.i (r + stepOf k)), pv (12 : Nat) (V.i r), pv (13 : Nat) (V.i (stepOf k)), pc (14 : Nat) ((-9223372036854775808 : Int) ≤ r + stepOf k ∧ r + stepOf k ≤ (9223372036854775807 : Int)) (V.i (r + stepOf k)), pc (15 : Nat) ((-9223372036854775808 : Int) ≤ (r + stepOf k) * (r + stepOf k) ∧ (r + stepOf k) * (r + stepOf k) ≤ (9223372036854775807 : Int)) (V.i ((r + stepOf k) * (r + stepOf k))), pv (16 : Nat) (V.i n), pv (17 : Nat) (V.b (decide ((r + stepOf k) * (r + stepOf k) ≤ n)))] (by kernel_rfl) (by kernel_rfl) ⟨(by omega), (by omega), (by omega), True.intro⟩ ?_
      refine aops_nil ?_
      refine xt_n ?_
      refine hK _ ?_
      clear hK K
      refine w_cond (t := decide ((r + stepOf k) * (r + stepOf k) ≤ n)) (by kernel_rfl) (fun c2 => ?_) (fun c2 => ?_)
      · simp at c2
        refine w_region (n' := 4) (by kernel_rfl) (by kernel_rfl) ?_
        refine aops_n hTT (M := []) (n := 4) [pv (18 : Nat) (V.i r), pv (19 : Nat) (V.i (stepOf k)), pc (20 : Nat) ((-9223372036854775808 : Int) ≤ r + stepOf k ∧ r + stepOf k ≤ (9223372036854775807 : Int)) (V.i (r + stepOf k)), pv (3 : Nat) (V.i (r + stepOf k))] (by kernel_rfl) (by kernel_rfl) ⟨(by omega), True.intro⟩ ?_
        refine aops_nil ?_
        refine xb_n ?_
        refine xt_n ?_
        refine hK _ ?_
        clear hK K
        refine w_region (n' := 5) (by kernel_rfl) (by kernel_rfl) ?_
        refine aops_n hTT (M := []) (n := 3) [pv (7 : Nat) (V.i (stepOf k)), pc (8 : Nat) ((0 : Int) < (2 : Int) ∧ (-9223372036854775808 : Int) ≤ stepOf k ∧ stepOf k ≤ (9223372036854775807 : Int)) (V.i (Int.tdiv (stepOf k) (2 : Int))), pv (4 : Nat) (V.i (Int.tdiv (stepOf k) (2 : Int)))] (by kernel_rfl) (by kernel_rfl) ⟨⟨(by omega), (by omega)⟩, True.intro⟩ ?_
        refine aops_nil ?_
        refine xt_n ?_
        refine ⟨(k + 1, r + stepOf k), ⟨by simp only; omega, by simp only; omega, c2, ?_⟩, ?_, by simp only; omega⟩
        · simp only
          rw [← q4, ← e2]
          exact h2
        · show Le _ ⟨mkT [(0, .i n), (3, .i (r + stepOf k)), (4, .i (stepOf (k + 1)))], mkS [], 1⟩
          rw [← q3]
          refine le_ren [] (.cons (by kernel_rfl) (.cons (by kernel_rfl) (.cons (by kernel_rfl) .nil))) .nil (by kernel_rfl) (by kernel_rfl)
      · simp at c2
        refine aw_skip ?_
        refine xb_n ?_
        refine xt_n ?_
        refine hK _ ?_
        clear hK K
        refine w_region (n' := 4) (by kernel_rfl) (by kernel_rfl) ?_
        refine aops_n hTT (M := []) (n := 3) [pv (7 : Nat) (V.i (stepOf k)), pc (8 : Nat) ((0 : Int) < (2 : Int) ∧ (-9223372036854775808 : Int) ≤ stepOf k ∧ stepOf k ≤ (9223372036854775807 : Int)) (V.i (Int.tdiv (stepOf k) (2 : Int))), pv (4 : Nat) (V.i (Int.tdiv (stepOf k) (2 : Int)))] (by kernel_rfl) (by kernel_rfl) ⟨⟨(by omega), (by omega)⟩, True.intro⟩ ?_
        refine aops_nil ?_
        refine xt_n ?_
        refine ⟨(k + 1, r), ⟨by simp only; omega, h0, h1, ?_⟩, ?_, by simp only; omega⟩
        · simp only
          rw [← q4]
          exact c2
        · show Le _ ⟨mkT [(0, .i n), (3, .i r), (4, .i (stepOf (k + 1)))], mkS [], 1⟩
          rw [← q3]
          refine le_ren [] (.cons (by kernel_rfl) (.cons (by kernel_rfl) (.cons (by kernel_rfl) .nil))) .nil (by kernel_rfl) (by kernel_rfl)
    · simp at c1
      omega
  · obtain rfl : k = 13 := by omega
    refine aw_seq_k fun K hK => ?_
    refine aw_seq_k fun K hK => ?_
    refine w_region (n' := 2) (by kernel_rfl) (by kernel_rfl) ?_
    refine aops_n hTT (M := []) (n := 2) [pv (5 : Nat) (V.i (stepOf (13 : Nat))), pv (6 : Nat) (V.b false)] (by kernel_rfl) (by kernel_rfl) True.intro ?_
    refine aops_nil ?_
    refine xt_n ?_
    refine hK _ ?_
    clear hK K
    refine w_false (t := false) (by kernel_rfl) rfl ?_
    refine aw_exit ?_
    refine xt_x ?_
    refine xt_x ?_
    refine xb_same ?_
    refine xt_n ?_
    clear hK K
    refine hK _ ?_
    clear hK K
    refine aw_seq_k fun K hK => ?_
    refine w_region (n' := 3) (by kernel_rfl) (by kernel_rfl) ?_
    refine aops_n hTT (M := []) (n := 2) [pv (21 : Nat) (V.i r), pv (2 : Nat) (V.i r)] (by kernel_rfl) (by kernel_rfl) True.intro ?_
    refine aops_nil ?_
    refine xt_n ?_
    refine hK _ ?_
    clear hK K
    refine aw_ret ?_
    rw [← root_uniq hn.1 h0 h1 (by have h5 := h2; rw [show r + max 1 (2 * stepOf 13) = r + 1 by simp [stepOf]; omega] at h5; exact h5)]
    refine ret_pure (v' := V.i r) (.inr rfl) (by kernel_rfl) (by kernel_rfl) (by kernel_rfl)
set_option maxRecDepth 100000 in
theorem refroot_ac (n : Int) (hn : 0 ≤ n ∧ n ≤ 1048576) : AC Try.prog 99 [.i n] (.i (rootI n)) [] := by
  refine ac_intro hTT hMX (fn := Try.f99) (N := _) ⟨Try.func99, rfl, Try.ntmps99, by kernel_rfl⟩ (by simp) fun C hC hF => ?_
  refine aw_seq_k fun K hK => ?_
  refine w_region (n' := 2) (by kernel_rfl) (by kernel_rfl) ?_
  refine aops_n hTT (M := []) (n := 1) [pv (2 : Nat) (V.i (0 : Int))] (by kernel_rfl) (by kernel_rfl) True.intro ?_
  refine aops_nil ?_
  refine xt_n ?_
  refine hK _ ?_
  clear hK K
  refine aw_seq_k fun K hK => ?_
  refine w_region (n' := 3) (by kernel_rfl) (by kernel_rfl) ?_
  refine aops_n hTT (M := []) (n := 2) [pv (3 : Nat) (V.i (0 : Int)), pv (4 : Nat) (V.i (1048576 : Int))] (by kernel_rfl) (by kernel_rfl) True.intro ?_
  refine aops_nil ?_
  refine xt_n ?_
  refine hK _ ?_
  clear hK K
  refine aw_seq_k fun K hK => ?_
  refine aw_block ?_
  refine w_loop (fun x : Int × Int => [(0, .i n), (3, .i x.1), (4, .i x.2)]) (fun _ => []) (fun x => 0 ≤ x.1 ∧ x.1 ≤ x.2 ∧ x.2 ≤ 1048576 ∧ x.1 * x.1 ≤ n ∧ n < (x.2 + 1) * (x.2 + 1)) (fun x => (x.2 - x.1).toNat) (0, 1048576) ⟨by decide, by decide, by decide, by simp only; omega, by simp only; omega⟩ ?_ ?_
  · show Le _ ⟨mkT [(0, .i n), (3, .i 0), (4, .i 1048576)], mkS [], 1⟩
    refine le_ren [] (.cons (by kernel_rfl) (.cons (by kernel_rfl) (.cons (by kernel_rfl) .nil))) .nil (by kernel_rfl) (by kernel_rfl)
  rintro ⟨lo, hi⟩ ⟨h0, h1, h2, h3, h4⟩
  simp only at h0 h1 h2 h3 h4 ⊢
  have hm := tdiv_bd (lo + hi + 1) (m := 2) (by decide)
  have hm1 : (lo + hi + 1).tdiv 2 = (lo + hi + 1) / 2 := Int.tdiv_eq_ediv_of_nonneg (by omega)
  obtain ⟨p1, p2⟩ := sq_le (a := (lo + hi + 1).tdiv 2) (m := 1048576) (by omega) (by omega)
  refine aw_seq_k fun K hK => ?_
  refine aw_seq_k fun K hK => ?_
  refine w_region (n' := 2) (by kernel_rfl) (by kernel_rfl) ?_
  refine aops_n hTT (M := []) (n := 3) [pv (6 : Nat) (V.i lo), pv (7 : Nat) (V.i hi), pv (8 : Nat) (V.b (decide (lo < hi)))] (by kernel_rfl) (by kernel_rfl) True.intro ?_
  refine aops_nil ?_
  refine xt_n ?_
  refine hK _ ?_
  clear hK K
  refine w_cond (t := decide (lo < hi)) (by kernel_rfl) (fun c1 => ?_) (fun c1 => ?_)
  · simp at c1
    refine aw_skip ?_
    refine xt_n ?_
    refine hK _ ?_
    clear hK K
    refine aw_block ?_
    refine aw_seq_k fun K hK => ?_
    refine w_region (n' := 3) (by kernel_rfl) (by kernel_rfl) ?_
    refine aops_n hTT (M := []) (n := 6) [pv (9 : Nat) (V.i lo), pv (10 : Nat) (V.i hi), pc (11 : Nat) ((-9223372036854775808 : Int) ≤ lo + hi ∧ lo + hi ≤ (9223372036854775807 : Int)) (V.i (lo + hi)), pc (12 : Nat) ((-9223372036854775808 : Int) ≤ lo + hi + (1 : Int) ∧ lo + hi + (1 : Int) ≤ (9223372036854775807 : Int)) (V.i (lo + hi + (1 : Int))), pc (13 : Nat) ((0 : Int) < (2 : Int) ∧ (-9223372036854775808 : Int) ≤ lo + hi + (1 : Int) ∧ lo + hi + (1 : Int) ≤ (9223372036854775807 : Int)) (V.i (Int.tdiv (lo + hi + (1 : Int)) (2 : Int))), pv (5 : Nat) (V.i (Int.tdiv (lo + hi + (1 : Int)) (2 : Int)))] (by kernel_rfl) (by kernel_rfl) ⟨(by omega), (by omega), ⟨(by omega), (by omega)⟩, True.intro⟩ ?_
    refine aops_nil ?_
    refine xt_n ?_
    refine hK _ ?_
    clear hK K
    refine aw_seq_k fun K hK => ?_
    refine w_region (n' := 4) (by kernel_rfl) (by kernel_rfl) ?_
    refine aops_n hTT (M := []) (n := 5) [pv (14 : Nat) (V.i (Int.tdiv (lo + hi + (1 : Int)) (2 : Int))), pv (15 : Nat) (V.i (Int.tdiv (lo + hi + (1 : Int)) (2 : Int))), pc (16 : Nat) ((-9223372036854775808 : Int) ≤ Int.tdiv (lo + hi + (1 : Int)) (2 : Int) * Int.tdiv (lo + hi + (1 : Int)) (2 : Int) ∧ Int.tdiv (lo + hi + (1 : Int)) (2 : Int) * Int.tdiv (lo + hi + (1 : Int)) (2 : Int) ≤ (9223372036854775807 : Int)) (V.i (Int.tdiv (lo + hi + (1 : Int)) (2 : Int) * Int.tdiv (lo + hi + (1 : Int)) (2 : Int))), pv (17 : Nat) (V.i n), pv (18 : Nat) (V.b (decide (Int.tdiv (lo + hi + (1 : Int)) (2 : Int) * Int.tdiv (lo + hi + (1 : Int)) (2 : Int) ≤ n)))] (by kernel_rfl) (by kernel_rfl) ⟨(by omega), True.intro⟩ ?_
    refine aops_nil ?_
    refine xt_n ?_
    refine hK _ ?_
    clear hK K
    refine w_cond (t := decide (Int.tdiv (lo + hi + (1 : Int)) (2 : Int) * Int.tdiv (lo + hi + (1 : Int)) (2 : Int) ≤ n)) (by kernel_rfl) (fun c2 => ?_) (fun c2 => ?_)
    · simp at c2
      refine w_region (n' := 5) (by kernel_rfl) (by kernel_rfl) ?_
      refine aops_n hTT (M := []) (n := 2) [pv (19 : Nat) (V.i (Int.tdiv (lo + hi + (1 : Int)) (2 : Int))), pv (3 : Nat) (V.i (Int.tdiv (lo + hi + (1 : Int)) (2 : Int)))] (by kernel_rfl) (by kernel_rfl) True.intro ?_
      refine aops_nil ?_
      refine xb_n ?_
      refine xt_n ?_
      refine ⟨((lo + hi + 1).tdiv 2, hi), ⟨by simp only; omega, by simp only; omega, h2, c2, h4⟩, ?_, by simp only; omega⟩
      show Le _ ⟨mkT [(0, .i n), (3, .i ((lo + hi + 1).tdiv 2)), (4, .i hi)], mkS [], 1⟩
      refine le_ren [] (.cons (by kernel_rfl) (.cons (by kernel_rfl) (.cons (by kernel_rfl) .nil))) .nil (by kernel_rfl) (by kernel_rfl)
    · simp at c2
      refine w_region (n' := 5) (by kernel_rfl) (by kernel_rfl) ?_
      refine aops_n hTT (M := []) (n := 3) [pv (20 : Nat) (V.i (Int.tdiv (lo + hi + (1 : Int)) (2 : Int))), pc (21 : Nat) ((-9223372036854775808 : Int) ≤ Int.tdiv (lo + hi + (1 : Int)) (2 : Int) - (1 : Int) ∧ Int.tdiv (lo + hi + (1 : Int)) (2 : Int) - (1 : Int) ≤ (9223372036854775807 : Int)) (V.i (Int.tdiv (lo + hi + (1 : Int)) (2 : Int) - (1 : Int))), pv (4 : Nat) (V.i (Int.tdiv (lo + hi + (1 : Int)) (2 : Int) - (1 : Int)))] (by kernel_rfl) (by kernel_rfl) ⟨(by omega), True.intro⟩ ?_
      refine aops_nil ?_
      refine xb_n ?_
      refine xt_n ?_
      refine ⟨(lo, (lo + hi + 1).tdiv 2 - 1), ⟨h0, by simp only; omega, by simp only; omega, h3, by simpa using c2⟩, ?_, by simp only; omega⟩
      show Le _ ⟨mkT [(0, .i n), (3, .i lo), (4, .i ((lo + hi + 1).tdiv 2 - 1))], mkS [], 1⟩
      refine le_ren [] (.cons (by kernel_rfl) (.cons (by kernel_rfl) (.cons (by kernel_rfl) .nil))) .nil (by kernel_rfl) (by kernel_rfl)
  · simp at c1
    obtain rfl : hi = lo := by omega
    refine aw_exit ?_
    refine xt_x ?_
    refine xt_x ?_
    refine xb_same ?_
    refine xt_n ?_
    clear hK K
    refine hK _ ?_
    clear hK K
    refine aw_seq_k fun K hK => ?_
    refine w_region (n' := 3) (by kernel_rfl) (by kernel_rfl) ?_
    refine aops_n hTT (M := []) (n := 2) [pv (22 : Nat) (V.i hi), pv (2 : Nat) (V.i hi)] (by kernel_rfl) (by kernel_rfl) True.intro ?_
    refine aops_nil ?_
    refine xt_n ?_
    refine hK _ ?_
    clear hK K
    refine aw_ret ?_
    rw [← root_uniq hn.1 h0 h3 h4]
    refine ret_pure (v' := V.i hi) (.inr rfl) (by kernel_rfl) (by kernel_rfl) (by kernel_rfl)
end Go.Proofs.Ytlfaaddoemcokaa
