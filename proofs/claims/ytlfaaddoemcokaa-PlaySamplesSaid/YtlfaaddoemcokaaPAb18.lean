/-
  The samples of extents: the walks of both copies. Conditions: told in each theorem.
-/
import Derived.Test.YtlfaaddoemcokaaPAb17
namespace Go.Proofs.Ytlfaaddoemcokaa
open Go.Ab Go.RowKit Go.Dw Go.Shelf

/-- the first one from -32767 to 32768 from which on something holds -/
def IsFirst (p : Int → Bool) (F : Int) : Prop := -32767 ≤ F ∧ F ≤ 32768 ∧ (∀ n, -32767 ≤ n → n < F → p n = false) ∧ ∀ n, F ≤ n → n ≤ 32767 → p n = true
theorem first_exists {p : Int → Bool} (hm : ∀ m n, m ≤ n → p m = true → p n = true) : ∃ F, IsFirst p F := by
  have key : ∀ k : Nat, k ≤ 65535 → (∃ F, IsFirst p F) ∨ ∀ n, -32767 ≤ n → n < -32767 + (k : Int) → p n = false := by
    intro k
    induction k with
    | zero => intro _; right; intro n h1 h2; omega
    | succ k ih =>
      intro hk
      rcases ih (by omega) with h | h
      · exact .inl h
      · cases hp : p (-32767 + (k : Int)) with
        | true => exact .inl ⟨-32767 + (k : Int), by omega, by omega, h, fun n h1 _ => hm _ _ h1 hp⟩
        | false =>
          right
          intro n h1 h2
          by_cases he : n = -32767 + (k : Int)
          · rw [he]; exact hp
          · exact h n h1 (by omega)
  rcases key 65535 (Nat.le_refl _) with h | h
  · exact h
  · exact ⟨32768, by omega, by omega, fun n h1 h2 => h n h1 (by omega), fun n h1 h2 => by omega⟩
set_option maxRecDepth 100000 in
theorem first_ac (g : FuncId) (u v : List V) (p : Int → Bool) (F : Int) (hF' : IsFirst p F) (hp : ∀ n, -32767 ≤ n → n ≤ 32767 → AC Try.prog g [.i n, .ptr u, .ptr v] (.b (p n)) []) : AC Try.prog 103 [.fn (.func g) [] [.ptr u, .ptr v]] (.i F) [] := by
  obtain ⟨f1, f2, f3, f4⟩ := hF'
  refine ac_intro hTT hMX (fn := Try.f103) (N := _) ⟨Try.func103, rfl, Try.ntmps103, by kernel_rfl⟩ (by simp) fun C hC hF => ?_
  refine aw_seq_k fun K hK => ?_
  refine w_region (n' := 2) (by kernel_rfl) (by kernel_rfl) ?_
  refine aops_n hTT (M := []) (n := 1) [pv (2 : Nat) (V.i (0 : Int))] (by kernel_rfl) (by kernel_rfl) True.intro ?_
  refine aops_nil ?_
  refine xt_n ?_
  refine hK _ ?_
  clear hK K
  refine aw_seq_k fun K hK => ?_
  refine w_region (n' := 3) (by kernel_rfl) (by kernel_rfl) ?_
  refine aops_n hTT (M := []) (n := 2) [pv (3 : Nat) (V.i (-32767 : Int)), pv (4 : Nat) (V.i (32768 : Int))] (by kernel_rfl) (by kernel_rfl) True.intro ?_
  refine aops_nil ?_
  refine xt_n ?_
  refine hK _ ?_
  clear hK K
  refine aw_seq_k fun K hK => ?_
  refine aw_block ?_
  refine w_loop (fun x : Int × Int => [(0, .fn (.func g) [] [.ptr u, .ptr v]), (3, .i x.1), (4, .i x.2)]) (fun _ => []) (fun x => -32767 ≤ x.1 ∧ x.1 ≤ F ∧ F ≤ x.2 ∧ x.2 ≤ 32768) (fun x => (x.2 - x.1).toNat) (-32767, 32768) ⟨by omega, by omega, by omega, by omega⟩ ?_ ?_
  · refine le_ren [] (.cons (by kernel_rfl) (.cons (by kernel_rfl) (.cons (by kernel_rfl) .nil))) .nil (by kernel_rfl) (by kernel_rfl)
  rintro ⟨a, b⟩ ⟨h1, h2, h3, h4⟩
  dsimp only at h1 h2 h3 h4
  refine aw_seq_k fun K hK => ?_
  refine aw_seq_k fun K hK => ?_
  refine w_region (n' := 2) (by kernel_rfl) (by kernel_rfl) ?_
  refine aops_n hTT (M := []) (n := 3) [pv (6 : Nat) (V.i a), pv (7 : Nat) (V.i b), pv (8 : Nat) (V.b (decide (a < b)))] (by kernel_rfl) (by kernel_rfl) True.intro ?_
  refine aops_nil ?_
  refine xt_n ?_
  refine hK _ ?_
  clear hK K
  refine w_cond (t := decide (a < b)) (by kernel_rfl) (fun h => ?_) (fun h => ?_)
  · simp at h
    obtain ⟨d, hd⟩ : ∃ d, d = (b - a - 1).tdiv 2 := ⟨_, rfl⟩
    have hd1 : 0 ≤ d ∧ 2 * d ≤ b - a - 1 := by rw [hd, Int.tdiv_eq_ediv_of_nonneg (by omega)]; omega
    refine aw_skip ?_
    refine xt_n ?_
    refine hK _ ?_
    clear hK K
    refine aw_block ?_
    refine aw_seq_k fun K hK => ?_
    refine w_region (n' := 3) (by kernel_rfl) (by kernel_rfl) ?_
    refine aops_n hTT (M := []) (n := 8) [pv (9 : Nat) (V.i a), pv (10 : Nat) (V.i b), pv (11 : Nat) (V.i a), pc (12 : Nat) ((-9223372036854775808 : Int) ≤ b - a ∧ b - a ≤ (9223372036854775807 : Int)) (V.i (b - a)), pc (13 : Nat) ((-9223372036854775808 : Int) ≤ b - a - (1 : Int) ∧ b - a - (1 : Int) ≤ (9223372036854775807 : Int)) (V.i (b - a - (1 : Int))), pc (14 : Nat) ((0 : Int) < (2 : Int) ∧ (-9223372036854775808 : Int) ≤ b - a - (1 : Int) ∧ b - a - (1 : Int) ≤ (9223372036854775807 : Int)) (V.i (Int.tdiv (b - a - (1 : Int)) (2 : Int))), pc (15 : Nat) ((-9223372036854775808 : Int) ≤ a + Int.tdiv (b - a - (1 : Int)) (2 : Int) ∧ a + Int.tdiv (b - a - (1 : Int)) (2 : Int) ≤ (9223372036854775807 : Int)) (V.i (a + Int.tdiv (b - a - (1 : Int)) (2 : Int))), pv (5 : Nat) (V.i (a + Int.tdiv (b - a - (1 : Int)) (2 : Int)))] (by kernel_rfl) (by kernel_rfl) ⟨(by omega), (by omega), ⟨(by omega), (by omega)⟩, (by omega), True.intro⟩ ?_
    refine aops_nil ?_
    refine xt_n ?_
    refine hK _ ?_
    clear hK K
    refine aw_seq_k fun K hK => ?_
    refine w_region (n' := 4) (by kernel_rfl) (by kernel_rfl) ?_
    refine aops_n hTT (M := []) (n := 2) [pv (16 : Nat) (V.fn (Fn.func g) [] [V.ptr u, V.ptr v]), pv (17 : Nat) (V.i (a + Int.tdiv (b - a - (1 : Int)) (2 : Int)))] (by kernel_rfl) (by kernel_rfl) True.intro ?_
    rw [← hd]
    refine e_call (first := []) (caps := [V.ptr u, V.ptr v]) (hp (a + d) (by omega) (by omega)) (by kernel_rfl) (by kernel_rfl) (by kernel_rfl) (by kernel_rfl) (by kernel_rfl) ?_
    refine aops_nil ?_
    refine xt_n ?_
    refine hK _ ?_
    clear hK K
    refine w_cond (t := p (a + d)) (by kernel_rfl) (fun h5 => ?_) (fun h5 => ?_)
    · refine w_region (n' := 5) (by kernel_rfl) (by kernel_rfl) ?_
      refine aops_n hTT (M := []) (n := 2) [pv (19 : Nat) (V.i (a + d)), pv (4 : Nat) (V.i (a + d))] (by kernel_rfl) (by kernel_rfl) True.intro ?_
      refine aops_nil ?_
      refine xb_n ?_
      refine xt_n ?_
      refine ⟨(a, a + d), ⟨by omega, by omega, ?_, by omega⟩, ?_, by omega⟩
      · dsimp only
        by_cases hlt : a + d < F
        · rw [f3 (a + d) (by omega) hlt] at h5; cases h5
        · omega
      · refine le_ren [] (.cons (by kernel_rfl) (.cons (by kernel_rfl) (.cons (by kernel_rfl) .nil))) .nil (by kernel_rfl) (by kernel_rfl)
    · refine w_region (n' := 5) (by kernel_rfl) (by kernel_rfl) ?_
      refine aops_n hTT (M := []) (n := 3) [pv (20 : Nat) (V.i (a + d)), pc (21 : Nat) ((-9223372036854775808 : Int) ≤ a + d + (1 : Int) ∧ a + d + (1 : Int) ≤ (9223372036854775807 : Int)) (V.i (a + d + (1 : Int))), pv (3 : Nat) (V.i (a + d + (1 : Int)))] (by kernel_rfl) (by kernel_rfl) ⟨(by omega), True.intro⟩ ?_
      refine aops_nil ?_
      refine xb_n ?_
      refine xt_n ?_
      refine ⟨(a + d + 1, b), ⟨by omega, ?_, by omega, by omega⟩, ?_, by omega⟩
      · dsimp only
        by_cases hlt : a + d < F
        · omega
        · rw [f4 (a + d) (by omega) (by omega)] at h5; cases h5
      · refine le_ren [] (.cons (by kernel_rfl) (.cons (by kernel_rfl) (.cons (by kernel_rfl) .nil))) .nil (by kernel_rfl) (by kernel_rfl)
  simp at h
  obtain rfl : F = a := by omega
  refine aw_exit ?_
  refine xt_x ?_
  refine xt_x ?_
  refine xb_same ?_
  refine xt_n ?_
  clear hK K
  refine hK _ ?_
  clear hK K
  refine aw_seq_k fun K hK => ?_
  refine w_region (n' := 3) (by kernel_rfl) (by kernel_rfl) ?_
  refine aops_n hTT (M := []) (n := 2) [pv (22 : Nat) (V.i F), pv (2 : Nat) (V.i F)] (by kernel_rfl) (by kernel_rfl) True.intro ?_
  refine aops_nil ?_
  refine xt_n ?_
  refine hK _ ?_
  clear hK K
  refine aw_ret ?_
  refine ret_pure (v' := V.i F) (.inr rfl) (by kernel_rfl) (by kernel_rfl) (by kernel_rfl)
theorem tdiv_bd (x : Int) {m : Int} (hm : 0 < m) : (0 ≤ x → 0 ≤ x.tdiv m ∧ x.tdiv m ≤ x) ∧ (x < 0 → x ≤ x.tdiv m ∧ x.tdiv m ≤ 0) := by
  refine ⟨fun h => ?_, fun h => ?_⟩
  · rw [Int.tdiv_eq_ediv_of_nonneg h]
    exact ⟨Int.ediv_nonneg h (by omega), Int.ediv_le_self _ h⟩
  · have e : x.tdiv m = -((-x) / m) := by
      have := Int.neg_tdiv (a := -x) (b := m)
      rw [Int.neg_neg] at this
      rw [this, Int.tdiv_eq_ediv_of_nonneg (by omega)]
    have h3 := Int.ediv_nonneg (a := -x) (b := m) (by omega) (by omega)
    have h4 := Int.ediv_le_self (a := -x) m (by omega)
    omega
def edgeI (half gain n : Int) : Int := half + (n * gain).tdiv 1000
set_option maxRecDepth 100000 in
theorem edge_ac (c : Cut) (half n : Int) (hc : cutE c = 0) (hh : -4096 ≤ half ∧ half ≤ 4096) (hn : -32767 ≤ n ∧ n ≤ 32768) : AC Try.prog 102 [.i n, .ptr [.i half], .ptr [.i c.half, .i c.gain, .i c.thin, .i c.wide, .i c.slope, .i c.jerk, .i c.sty]] (.i (edgeI half c.gain n)) [] := by
  refine ac_intro hTT hMX (fn := Try.f102) (N := _) ⟨Try.func102, rfl, Try.ntmps102, by kernel_rfl⟩ (by simp) fun C hC hF => ?_
  obtain ⟨_, ⟨g1, g2⟩, _⟩ := cutE_ok.1 hc
  have h1 : n * c.gain ≤ 32768 * 100000 := Int.le_trans (Int.mul_le_mul_of_nonneg_right hn.2 g1) (Int.mul_le_mul_of_nonneg_left g2 (by decide))
  have h2 : (-32767) * 100000 ≤ n * c.gain := Int.le_trans (Int.mul_le_mul_of_nonpos_left (by decide) g2) (Int.mul_le_mul_of_nonneg_right hn.1 g1)
  have h3 := tdiv_bd (n * c.gain) (m := 1000) (by decide)
  refine aw_seq_k fun K hK => ?_
  refine w_region (n' := 2) (by kernel_rfl) (by kernel_rfl) ?_
  refine aops_n hTT (M := []) (n := 1) [pv (4 : Nat) (V.i (0 : Int))] (by kernel_rfl) (by kernel_rfl) True.intro ?_
  refine aops_nil ?_
  refine xt_n ?_
  refine hK _ ?_
  clear hK K
  refine aw_seq_k fun K hK => ?_
  refine w_region (n' := 3) (by kernel_rfl) (by kernel_rfl) ?_
  refine aops_n hTT (M := []) (n := 8) [pv (5 : Nat) (V.i half), pv (6 : Nat) (V.i n), pv (7 : Nat) (V.ptr [V.i (Cut.gain c), V.i (Cut.thin c), V.i (Cut.wide c), V.i (Cut.slope c), V.i (Cut.jerk c), V.i (Cut.sty c)]), pv (8 : Nat) (V.i (Cut.gain c)), pc (9 : Nat) ((-9223372036854775808 : Int) ≤ n * Cut.gain c ∧ n * Cut.gain c ≤ (9223372036854775807 : Int)) (V.i (n * Cut.gain c)), pc (10 : Nat) ((0 : Int) < (1000 : Int) ∧ (-9223372036854775808 : Int) ≤ n * Cut.gain c ∧ n * Cut.gain c ≤ (9223372036854775807 : Int)) (V.i (Int.tdiv (n * Cut.gain c) (1000 : Int))), pc (11 : Nat) ((-9223372036854775808 : Int) ≤ half + Int.tdiv (n * Cut.gain c) (1000 : Int) ∧ half + Int.tdiv (n * Cut.gain c) (1000 : Int) ≤ (9223372036854775807 : Int)) (V.i (half + Int.tdiv (n * Cut.gain c) (1000 : Int))), pv (4 : Nat) (V.i (half + Int.tdiv (n * Cut.gain c) (1000 : Int)))] (by kernel_rfl) (by kernel_rfl) ⟨(by omega), ⟨(by omega), (by omega)⟩, (by omega), True.intro⟩ ?_
  refine aops_nil ?_
  refine xt_n ?_
  refine hK _ ?_
  clear hK K
  refine aw_ret ?_
  refine ret_pure (v' := V.i (half + Int.tdiv (n * Cut.gain c) (1000 : Int))) (.inr rfl) (by kernel_rfl) (by kernel_rfl) (by kernel_rfl)
abbrev edgeV (c : Cut) (half : Int) : V := .fn (.func 102) [] [.ptr [.i half], .ptr [.i c.half, .i c.gain, .i c.thin, .i c.wide, .i c.slope, .i c.jerk, .i c.sty]]
set_option maxRecDepth 100000 in
theorem lo_ac (c : Cut) (half lo hi n : Int) (hc : cutE c = 0) (hh : -4096 ≤ half ∧ half ≤ 4096) (hn : -32767 ≤ n ∧ n ≤ 32768) : AC Try.prog 104 [.i n, .ptr [edgeV c half], .ptr [.i lo, .i hi]] (.b (decide (lo ≤ edgeI half c.gain n))) [] := by
  refine ac_intro hTT hMX (fn := Try.f104) (N := _) ⟨Try.func104, rfl, Try.ntmps104, by kernel_rfl⟩ (by simp) fun C hC hF => ?_
  refine aw_seq_k fun K hK => ?_
  refine w_region (n' := 2) (by kernel_rfl) (by kernel_rfl) ?_
  refine aops_n hTT (M := []) (n := 1) [pv (4 : Nat) (V.b false)] (by kernel_rfl) (by kernel_rfl) True.intro ?_
  refine aops_nil ?_
  refine xt_n ?_
  refine hK _ ?_
  clear hK K
  refine aw_seq_k fun K hK => ?_
  refine w_regionD (n' := 3) (by kernel_rfl) (by kernel_rfl) ?_
  refine aops_n hTT (M := []) (n := 2) [pv (5 : Nat) (V.fn (Fn.func (102 : Nat)) [] [V.ptr [V.i half], V.ptr [V.i (Cut.half c), V.i (Cut.gain c), V.i (Cut.thin c), V.i (Cut.wide c), V.i (Cut.slope c), V.i (Cut.jerk c), V.i (Cut.sty c)]]), pv (6 : Nat) (V.i n)] (by kernel_rfl) (by kernel_rfl) True.intro ?_
  refine e_call (first := []) (caps := [V.ptr [V.i half], V.ptr [V.i (Cut.half c), V.i (Cut.gain c), V.i (Cut.thin c), V.i (Cut.wide c), V.i (Cut.slope c), V.i (Cut.jerk c), V.i (Cut.sty c)]]) (edge_ac c half n hc hh hn) (by kernel_rfl) (by kernel_rfl) (by kernel_rfl) (by kernel_rfl) (by kernel_rfl) ?_
  refine aops_n hTT (M := []) (n := 4) [pv (8 : Nat) (V.ptr [V.i lo, V.i hi]), pv (9 : Nat) (V.i lo), pv (10 : Nat) (V.b (decide (lo ≤ edgeI half (Cut.gain c) n))), pv (4 : Nat) (V.b (decide (lo ≤ edgeI half (Cut.gain c) n)))] (by kernel_rfl) (by kernel_rfl) True.intro ?_
  refine aops_nil ⟨by kernel_rfl, ?_⟩
  refine xt_n ?_
  refine hK _ ?_
  clear hK K
  refine aw_ret ?_
  refine ret_pure (v' := V.b (decide (lo ≤ edgeI half (Cut.gain c) n))) (.inr rfl) (by kernel_rfl) (by kernel_rfl) (by kernel_rfl)
set_option maxRecDepth 100000 in
theorem hi_ac (c : Cut) (half lo hi n : Int) (hc : cutE c = 0) (hh : -4096 ≤ half ∧ half ≤ 4096) (hn : -32767 ≤ n ∧ n ≤ 32768) : AC Try.prog 105 [.i n, .ptr [edgeV c half], .ptr [.i lo, .i hi]] (.b (decide (hi < edgeI half c.gain n))) [] := by
  refine ac_intro hTT hMX (fn := Try.f105) (N := _) ⟨Try.func105, rfl, Try.ntmps105, by kernel_rfl⟩ (by simp) fun C hC hF => ?_
  refine aw_seq_k fun K hK => ?_
  refine w_region (n' := 2) (by kernel_rfl) (by kernel_rfl) ?_
  refine aops_n hTT (M := []) (n := 1) [pv (4 : Nat) (V.b false)] (by kernel_rfl) (by kernel_rfl) True.intro ?_
  refine aops_nil ?_
  refine xt_n ?_
  refine hK _ ?_
  clear hK K
  refine aw_seq_k fun K hK => ?_
  refine w_regionD (n' := 3) (by kernel_rfl) (by kernel_rfl) ?_
  refine aops_n hTT (M := []) (n := 2) [pv (5 : Nat) (V.fn (Fn.func (102 : Nat)) [] [V.ptr [V.i half], V.ptr [V.i (Cut.half c), V.i (Cut.gain c), V.i (Cut.thin c), V.i (Cut.wide c), V.i (Cut.slope c), V.i (Cut.jerk c), V.i (Cut.sty c)]]), pv (6 : Nat) (V.i n)] (by kernel_rfl) (by kernel_rfl) True.intro ?_
  refine e_call (first := []) (caps := [V.ptr [V.i half], V.ptr [V.i (Cut.half c), V.i (Cut.gain c), V.i (Cut.thin c), V.i (Cut.wide c), V.i (Cut.slope c), V.i (Cut.jerk c), V.i (Cut.sty c)]]) (edge_ac c half n hc hh hn) (by kernel_rfl) (by kernel_rfl) (by kernel_rfl) (by kernel_rfl) (by kernel_rfl) ?_
  refine aops_n hTT (M := []) (n := 4) [pv (8 : Nat) (V.ptr [V.i hi]), pv (9 : Nat) (V.i hi), pv (10 : Nat) (V.b (decide (hi < edgeI half (Cut.gain c) n))), pv (4 : Nat) (V.b (decide (hi < edgeI half (Cut.gain c) n)))] (by kernel_rfl) (by kernel_rfl) True.intro ?_
  refine aops_nil ⟨by kernel_rfl, ?_⟩
  refine xt_n ?_
  refine hK _ ?_
  clear hK K
  refine aw_ret ?_
  refine ret_pure (v' := V.b (decide (hi < edgeI half (Cut.gain c) n))) (.inr rfl) (by kernel_rfl) (by kernel_rfl) (by kernel_rfl)
set_option maxRecDepth 100000 in
theorem samples_ac (c : Cut) (half lo hi F G : Int) (hc : cutE c = 0) (hh : -4096 ≤ half ∧ half ≤ 4096) (hF' : IsFirst (fun n => decide (lo ≤ edgeI half c.gain n)) F) (hG' : IsFirst (fun n => decide (hi < edgeI half c.gain n)) G) :
    AC Try.prog 79 [c.v, .i half, .agg [.i lo, .i hi]] (.tup [.agg [.i F, .i (G - 1)], .b (decide (F ≤ G - 1))]) [] := by
  have b1 := hF'.1
  have b2 := hF'.2.1
  have b3 := hG'.1
  have b4 := hG'.2.1
  refine ac_intro hTT hMX (fn := Try.f79) (N := _) ⟨Try.func79, rfl, Try.ntmps79, by kernel_rfl⟩ (by simp) fun C hC hF => ?_
  refine aw_seq_k fun K hK => ?_
  refine w_region (n' := 2) (by kernel_rfl) (by kernel_rfl) ?_
  refine aops_n hTT (M := []) (n := 5) [pv (3 : Nat) (V.ptr [V.i (Cut.half c), V.i (Cut.gain c), V.i (Cut.thin c), V.i (Cut.wide c), V.i (Cut.slope c), V.i (Cut.jerk c), V.i (Cut.sty c)]), pv (4 : Nat) (V.ptr [V.i half]), pv (5 : Nat) (V.ptr [V.i lo, V.i hi]), pn (6 : Nat) (V.ref (100006 : Nat) (0 : Nat)) (100006 : Nat) (Ob.box (70 : Nat) [V.i (0 : Int), V.i (0 : Int)]), pv (7 : Nat) (V.b false)] (by kernel_rfl) (by kernel_rfl) True.intro ?_
  refine aops_nil ?_
  refine xt_n ?_
  refine hK _ ?_
  clear hK K
  refine aw_seq_k fun K hK => ?_
  refine w_region (n' := 3) (by kernel_rfl) (by kernel_rfl) ?_
  refine aops_n hTT (M := []) (n := 3) [pv (10 : Nat) (V.fn (Fn.func (102 : Nat)) [] [V.ptr [V.i half], V.ptr [V.i (Cut.half c), V.i (Cut.gain c), V.i (Cut.thin c), V.i (Cut.wide c), V.i (Cut.slope c), V.i (Cut.jerk c), V.i (Cut.sty c)]]), pn (8 : Nat) (V.ref (200008 : Nat) (0 : Nat)) (200008 : Nat) (Ob.box (120 : Nat) [V.c Value.nilFunc]), pw ((0 : Nat) + (1 : Nat) ≤ (1 : Nat)) (200008 : Nat) (Ob.box (120 : Nat) [V.fn (Fn.func (102 : Nat)) [] [V.ptr [V.i half], V.ptr [V.i (Cut.half c), V.i (Cut.gain c), V.i (Cut.thin c), V.i (Cut.wide c), V.i (Cut.slope c), V.i (Cut.jerk c), V.i (Cut.sty c)]]])] (by kernel_rfl) (by kernel_rfl) ⟨(by omega), True.intro⟩ ?_
  refine aops_nil ?_
  refine xt_n ?_
  refine hK _ ?_
  clear hK K
  refine aw_seq_k fun K hK => ?_
  refine w_le (le_freezeBox (t := (120 : Nat)) (cs := [V.fn (Fn.func (102 : Nat)) [] [V.ptr [V.i half], V.ptr [V.i (Cut.half c), V.i (Cut.gain c), V.i (Cut.thin c), V.i (Cut.wide c), V.i (Cut.slope c), V.i (Cut.jerk c), V.i (Cut.sty c)]]]) 200008 (by kernel_rfl) (by kernel_rfl)) ?_
  refine w_region (n' := 4) (by kernel_rfl) (by kernel_rfl) ?_
  refine aops_n hTT (M := []) (n := 1) [pv (11 : Nat) (V.fn (Fn.func (104 : Nat)) [] [V.ptr [V.fn (Fn.func (102 : Nat)) [] [V.ptr [V.i half], V.ptr [V.i (Cut.half c), V.i (Cut.gain c), V.i (Cut.thin c), V.i (Cut.wide c), V.i (Cut.slope c), V.i (Cut.jerk c), V.i (Cut.sty c)]]], V.ptr [V.i lo, V.i hi]])] (by kernel_rfl) (by kernel_rfl) True.intro ?_
  refine e_call (first := []) (caps := []) (first_ac _ _ _ _ F hF' (fun n h1 h2 => lo_ac c half lo hi n hc hh ⟨h1, by omega⟩)) (by kernel_rfl) (by kernel_rfl) (by kernel_rfl) (by kernel_rfl) (by kernel_rfl) ?_
  refine aops_n hTT (M := []) (n := 1) [pv (13 : Nat) (V.fn (Fn.func (105 : Nat)) [] [V.ptr [V.fn (Fn.func (102 : Nat)) [] [V.ptr [V.i half], V.ptr [V.i (Cut.half c), V.i (Cut.gain c), V.i (Cut.thin c), V.i (Cut.wide c), V.i (Cut.slope c), V.i (Cut.jerk c), V.i (Cut.sty c)]]], V.ptr [V.i lo, V.i hi]])] (by kernel_rfl) (by kernel_rfl) True.intro ?_
  refine e_call (first := []) (caps := []) (first_ac _ _ _ _ G hG' (fun n h1 h2 => hi_ac c half lo hi n hc hh ⟨h1, by omega⟩)) (by kernel_rfl) (by kernel_rfl) (by kernel_rfl) (by kernel_rfl) (by kernel_rfl) ?_
  refine aops_n hTT (M := []) (n := 4) [pc (15 : Nat) ((-9223372036854775808 : Int) ≤ G - (1 : Int) ∧ G - (1 : Int) ≤ (9223372036854775807 : Int)) (V.i (G - (1 : Int))), pv (16 : Nat) (V.agg [V.i F, V.i (G - (1 : Int))]), pn (9 : Nat) (V.ref (300009 : Nat) (0 : Nat)) (300009 : Nat) (Ob.box (70 : Nat) [V.i (0 : Int), V.i (0 : Int)]), pw ((0 : Nat) + (2 : Nat) ≤ (2 : Nat)) (300009 : Nat) (Ob.box (70 : Nat) [V.i F, V.i (G - (1 : Int))])] (by kernel_rfl) (by kernel_rfl) ⟨(by omega), (by omega), True.intro⟩ ?_
  refine aops_nil ?_
  refine xt_n ?_
  refine hK _ ?_
  clear hK K
  refine aw_seq_k fun K hK => ?_
  refine w_regionD (n' := 5) (by kernel_rfl) (by kernel_rfl) ?_
  refine aops_n hTT (M := []) (n := 8) [pc (17 : Nat) ((0 : Nat) ≤ (2 : Nat)) (V.agg [V.i F, V.i (G - (1 : Int))]), pv (18 : Nat) (V.ref (300009 : Nat) (0 : Nat)), pc (19 : Nat) ((0 : Nat) ≤ (2 : Nat)) (V.i F), pv (20 : Nat) (V.ref (300009 : Nat) (1 : Nat)), pc (21 : Nat) ((1 : Nat) ≤ (2 : Nat)) (V.i (G - (1 : Int))), pv (22 : Nat) (V.b (decide (F ≤ G - (1 : Int)))), pw ((0 : Nat) + (2 : Nat) ≤ (2 : Nat)) (100006 : Nat) (Ob.box (70 : Nat) [V.i F, V.i (G - (1 : Int))]), pv (7 : Nat) (V.b (decide (F ≤ G - (1 : Int))))] (by kernel_rfl) (by kernel_rfl) ⟨(by omega), (by omega), (by omega), (by omega), True.intro⟩ ?_
  refine aops_nil ⟨by kernel_rfl, ?_⟩
  refine xt_n ?_
  refine hK _ ?_
  clear hK K
  refine aw_ret ?_
  refine ret_pure (v' := V.tup [V.agg [V.i F, V.i (G - (1 : Int))], V.b (decide (F ≤ G - (1 : Int)))]) (.inr rfl) (by kernel_rfl) (by kernel_rfl) (by kernel_rfl)
end Go.Proofs.Ytlfaaddoemcokaa
