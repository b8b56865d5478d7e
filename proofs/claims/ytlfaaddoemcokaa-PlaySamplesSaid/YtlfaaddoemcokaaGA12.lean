/-
  The samples of points: the walks of both copies. Conditions: told in each theorem.
-/
import Derived.Test.YtlfaaddoemcokaaGA11
namespace Go.Proofs.Ytlfaaddoemcokaa
open Go.Ab Go.RowKit Go.Dw Go.Shelf

/-! ### the least amount with at least a distance -/
def dstB (g d n : Int) : Bool := decide (gAmt d ≤ chE g n)
theorem chE_nn {g n : Int} (hg : 0 ≤ g) (hn : 0 ≤ n) : chE g n = n * g / 1000 := by
  unfold chE
  rw [Int.tdiv_eq_ediv_of_nonneg (Int.mul_nonneg hn hg)]
theorem chE_mono' {g m n : Int} (hg : 0 ≤ g) (h0 : 0 ≤ m) (h : m ≤ n) : chE g m ≤ chE g n := by
  rw [chE_nn hg h0, chE_nn hg (by omega)]
  exact Int.ediv_le_ediv (by decide) (Int.mul_le_mul_of_nonneg_right h hg)
theorem dst_fst {g d : Int} (hg : 0 ≤ g) : ∃ F, IsFst (dstB g d) 32768 F := fst_exists (by decide) fun m n h0 hmn _ hm => by
  unfold dstB at hm ⊢
  rw [decide_eq_true_eq] at hm ⊢
  exact Int.le_trans hm (chE_mono' hg h0 hmn)
def rdN (d F : Int) : Int := if d < 0 then -F else F
set_option maxRecDepth 100000 in
theorem back11_ac (c : Cut) (d n : Int) (hc : cutE c = 0) (hd : -8388608 ≤ d ∧ d ≤ 8388608) (hn : 0 ≤ n ∧ n ≤ 32768) :
    AC Try.prog 87 [.i n, .ptr [.i c.half, .i c.gain, .i c.thin, .i c.wide, .i c.slope, .i c.jerk, .i c.sty], .ptr [.i d]] (.b (dstB c.gain d n)) [] := by
  obtain ⟨_, ⟨b1, b2⟩, _⟩ := cutE_ok.1 hc
  have m1 := gMul (m := 32768) (n := 100000) (a := n) (b := c.gain) (by omega) (by omega)
  refine ac_intro hTT hMX (fn := Try.f87) (N := _) ⟨Try.func87, rfl, Try.ntmps87, by kernel_rfl⟩ (by simp) fun C hC hF => ?_
  refine aw_seq_k fun K hK => ?_
  refine w_region (n' := 2) (by kernel_rfl) (by kernel_rfl) ?_
  refine aops_n hTT (M := []) (n := 1) [pv (4 : Nat) (V.b false)] (by kernel_rfl) (by kernel_rfl) True.intro ?_
  refine aops_nil ?_
  refine xt_n ?_
  refine hK _ ?_
  clear hK K
  refine aw_seq_k fun K hK => ?_
  refine w_regionD (n' := 3) (by kernel_rfl) (by kernel_rfl) ?_
  refine aops_n hTT (M := []) (n := 6) [pv (5 : Nat) (V.i n), pv (6 : Nat) (V.ptr [V.i (Cut.gain c), V.i (Cut.thin c), V.i (Cut.wide c), V.i (Cut.slope c), V.i (Cut.jerk c), V.i (Cut.sty c)]), pv (7 : Nat) (V.i (Cut.gain c)), pc (8 : Nat) ((-9223372036854775808 : Int) ≤ n * Cut.gain c ∧ n * Cut.gain c ≤ (9223372036854775807 : Int)) (V.i (n * Cut.gain c)), pc (9 : Nat) ((0 : Int) < (1000 : Int) ∧ (-9223372036854775808 : Int) ≤ n * Cut.gain c ∧ n * Cut.gain c ≤ (9223372036854775807 : Int)) (V.i (Int.tdiv (n * Cut.gain c) (1000 : Int))), pv (10 : Nat) (V.i d)] (by kernel_rfl) (by kernel_rfl) ⟨(by omega), ⟨(by omega), (by omega)⟩, True.intro⟩ ?_
  refine e_call (first := []) (caps := []) (gAmount_ac d (by omega)) (by kernel_rfl) (by kernel_rfl) (by kernel_rfl) (by kernel_rfl) (by kernel_rfl) ?_
  refine aops_n hTT (M := []) (n := 2) [pv (12 : Nat) (V.b (decide (gAmt d ≤ Int.tdiv (n * Cut.gain c) (1000 : Int)))), pv (4 : Nat) (V.b (decide (gAmt d ≤ Int.tdiv (n * Cut.gain c) (1000 : Int))))] (by kernel_rfl) (by kernel_rfl) True.intro ?_
  refine aops_nil ⟨by kernel_rfl, ?_⟩
  refine xt_n ?_
  refine hK _ ?_
  clear hK K
  refine aw_ret ?_
  refine ret_pure (v' := V.b (decide (gAmt d ≤ Int.tdiv (n * Cut.gain c) (1000 : Int)))) (.inr rfl) (by kernel_rfl) (by kernel_rfl) (by kernel_rfl)
abbrev bkV (c : Cut) (d : Int) : V := .fn (.func 87) [] [.ptr [.i c.half, .i c.gain, .i c.thin, .i c.wide, .i c.slope, .i c.jerk, .i c.sty], .ptr [.i d]]
set_option maxRecDepth 100000 in
theorem first1B_ac (c : Cut) (d n : Int) (hc : cutE c = 0) (hd : -8388608 ≤ d ∧ d ≤ 8388608) (hn : 0 ≤ n ∧ n ≤ 32768) :
    AC Try.prog 107 [.i n, .ptr [bkV c d]] (.b (dstB c.gain d n)) [] := by
  refine ac_intro hTT hMX (fn := Try.f107) (N := _) ⟨Try.func107, rfl, Try.ntmps107, by kernel_rfl⟩ (by simp) fun C hC hF => ?_
  refine aw_seq_k fun K hK => ?_
  refine w_region (n' := 2) (by kernel_rfl) (by kernel_rfl) ?_
  refine aops_n hTT (M := []) (n := 1) [pv (3 : Nat) (V.b false)] (by kernel_rfl) (by kernel_rfl) True.intro ?_
  refine aops_nil ?_
  refine xt_n ?_
  refine hK _ ?_
  clear hK K
  refine aw_seq_k fun K hK => ?_
  refine w_region (n' := 3) (by kernel_rfl) (by kernel_rfl) ?_
  refine aops_n hTT (M := []) (n := 2) [pv (4 : Nat) (V.fn (Fn.func (87 : Nat)) [] [V.ptr [V.i (Cut.half c), V.i (Cut.gain c), V.i (Cut.thin c), V.i (Cut.wide c), V.i (Cut.slope c), V.i (Cut.jerk c), V.i (Cut.sty c)], V.ptr [V.i d]]), pv (5 : Nat) (V.i n)] (by kernel_rfl) (by kernel_rfl) True.intro ?_
  refine e_call (first := []) (caps := [V.ptr [V.i (Cut.half c), V.i (Cut.gain c), V.i (Cut.thin c), V.i (Cut.wide c), V.i (Cut.slope c), V.i (Cut.jerk c), V.i (Cut.sty c)], V.ptr [V.i d]]) (back11_ac c d n hc hd hn) (by kernel_rfl) (by kernel_rfl) (by kernel_rfl) (by kernel_rfl) (by kernel_rfl) ?_
  refine aops_n hTT (M := []) (n := 1) [pv (3 : Nat) (V.b (dstB (Cut.gain c) d n))] (by kernel_rfl) (by kernel_rfl) True.intro ?_
  refine aops_nil ?_
  refine xt_n ?_
  refine hK _ ?_
  clear hK K
  refine aw_ret ?_
  refine ret_pure (v' := V.b (dstB (Cut.gain c) d n)) (.inr rfl) (by kernel_rfl) (by kernel_rfl) (by kernel_rfl)
set_option maxRecDepth 100000 in
theorem searchB_ac (c : Cut) (d F : Int) (hc : cutE c = 0) (hd : -8388608 ≤ d ∧ d ≤ 8388608) (hF' : IsFst (dstB c.gain d) 32768 F) :
    AC Try.prog 106 [.i 32768, .fn (.func 107) [] [.ptr [bkV c d]]] (.i F) [] := by
  have hFb := hF'.b
  refine ac_intro hTT hMX (fn := Try.f106) (N := _) ⟨Try.func106, rfl, Try.ntmps106, by kernel_rfl⟩ (by simp) fun C hC hF => ?_
  refine aw_seq_k fun K hK => ?_
  refine w_region (n' := 2) (by kernel_rfl) (by kernel_rfl) ?_
  refine aops_n hTT (M := []) (n := 1) [pv (4 : Nat) (V.i (0 : Int))] (by kernel_rfl) (by kernel_rfl) True.intro ?_
  refine aops_nil ?_
  refine xt_n ?_
  refine hK _ ?_
  clear hK K
  refine aw_seq_k fun K hK => ?_
  refine w_region (n' := 3) (by kernel_rfl) (by kernel_rfl) ?_
  refine aops_n hTT (M := []) (n := 3) [pv (8 : Nat) (V.i (32768 : Int)), pv (5 : Nat) (V.i (0 : Int)), pv (6 : Nat) (V.i (32768 : Int))] (by kernel_rfl) (by kernel_rfl) True.intro ?_
  refine aops_nil ?_
  refine xt_n ?_
  refine hK _ ?_
  clear hK K
  refine aw_seq_k fun K hK => ?_
  refine aw_block ?_
  refine w_loop (ι := Int × Int) (fun s => [(0, .i 32768), (1, .fn (.func 107) [] [.ptr [bkV c d]]), (5, .i s.1), (6, .i s.2)]) (fun _ => [])
    (fun s => 0 ≤ s.1 ∧ s.1 ≤ F ∧ F ≤ s.2 ∧ s.2 ≤ 32768) (fun s => (s.2 - s.1).toNat) (0, 32768) ⟨Int.le_refl _, hFb.1, hFb.2, Int.le_refl _⟩ ?_ ?_
  · refine le_ren [] (.cons (by kernel_rfl) (.cons (by kernel_rfl) (.cons (by kernel_rfl) (.cons (by kernel_rfl) .nil)))) .nil (by kernel_rfl) (by kernel_rfl)
  rintro ⟨i, j⟩ ⟨h1, h2, h3, h4⟩
  simp only at h1 h2 h3 h4
  refine aw_seq_k fun K hK => ?_
  refine aw_seq_k fun K hK => ?_
  refine w_region (n' := 2) (by kernel_rfl) (by kernel_rfl) ?_
  refine aops_n hTT (M := []) (n := 3) [pv (9 : Nat) (V.i i), pv (10 : Nat) (V.i j), pv (11 : Nat) (V.b (decide (i < j)))] (by kernel_rfl) (by kernel_rfl) True.intro ?_
  refine aops_nil ?_
  refine xt_n ?_
  refine hK _ ?_
  clear hK K
  refine w_cond (t := decide (i < j)) (by kernel_rfl) (fun c1 => ?_) (fun c1 => ?_)
  · have c1 : i < j := by simpa using c1
    obtain ⟨m, hm⟩ : ∃ m : Int, (i + j).fdiv ((2 : Int) ^ min (1 : Nat) (IntKind.bits IntKind.u64)) = m := ⟨_, rfl⟩
    have m1 : i ≤ m ∧ m < j := by
      have : (i + j).fdiv ((2 : Int) ^ min (1 : Nat) (IntKind.bits IntKind.u64)) = (i + j) / 2 := by
        rw [Int.fdiv_eq_ediv_of_nonneg _ (by decide)]; rfl
      omega
    refine aw_skip ?_
    refine xt_n ?_
    refine hK _ ?_
    clear hK K
    refine aw_block ?_
    refine aw_seq_k fun K hK => ?_
    refine w_region (n' := 3) (by kernel_rfl) (by kernel_rfl) ?_
    refine aops_n hTT (M := []) (n := 7) [pv (12 : Nat) (V.i i), pv (13 : Nat) (V.i j), pc (14 : Nat) ((-9223372036854775808 : Int) ≤ i + j ∧ i + j ≤ (9223372036854775807 : Int)) (V.i (i + j)), pc (15 : Nat) ((0 : Int) ≤ i + j ∧ i + j ≤ (18446744073709551615 : Int)) (V.c (Value.int IntKind.u64 (i + j))), pc (16 : Nat) ((0 : Int) ≤ (1 : Int)) (V.c (Value.int IntKind.u64 (Int.fdiv (i + j) ((2 : Int) ^ min (1 : Nat) (IntKind.bits IntKind.u64))))), pc (17 : Nat) ((-9223372036854775808 : Int) ≤ Int.fdiv (i + j) ((2 : Int) ^ min (1 : Nat) (IntKind.bits IntKind.u64)) ∧ Int.fdiv (i + j) ((2 : Int) ^ min (1 : Nat) (IntKind.bits IntKind.u64)) ≤ (9223372036854775807 : Int)) (V.i (Int.fdiv (i + j) ((2 : Int) ^ min (1 : Nat) (IntKind.bits IntKind.u64)))), pv (7 : Nat) (V.i (Int.fdiv (i + j) ((2 : Int) ^ min (1 : Nat) (IntKind.bits IntKind.u64))))] (by kernel_rfl) (by kernel_rfl) ⟨(by omega), (by omega), (by omega), (by omega), True.intro⟩ ?_
    refine aops_nil ?_
    refine xt_n ?_
    refine hK _ ?_
    clear hK K
    refine aw_seq_k fun K hK => ?_
    rw [hm]
    refine w_region (n' := 4) (by kernel_rfl) (by kernel_rfl) ?_
    refine aops_n hTT (M := []) (n := 2) [pv (18 : Nat) (V.fn (Fn.func (107 : Nat)) [] [V.ptr [V.fn (Fn.func (87 : Nat)) [] [V.ptr [V.i (Cut.half c), V.i (Cut.gain c), V.i (Cut.thin c), V.i (Cut.wide c), V.i (Cut.slope c), V.i (Cut.jerk c), V.i (Cut.sty c)], V.ptr [V.i d]]]]), pv (19 : Nat) (V.i m)] (by kernel_rfl) (by kernel_rfl) True.intro ?_
    refine e_call (first := []) (caps := [V.ptr [V.fn (Fn.func (87 : Nat)) [] [V.ptr [V.i (Cut.half c), V.i (Cut.gain c), V.i (Cut.thin c), V.i (Cut.wide c), V.i (Cut.slope c), V.i (Cut.jerk c), V.i (Cut.sty c)], V.ptr [V.i d]]]]) (first1B_ac c d m hc hd (by omega)) (by kernel_rfl) (by kernel_rfl) (by kernel_rfl) (by kernel_rfl) (by kernel_rfl) ?_
    refine aops_n hTT (M := []) (n := 1) [pv (21 : Nat) (V.b !dstB (Cut.gain c) d m)] (by kernel_rfl) (by kernel_rfl) True.intro ?_
    refine aops_nil ?_
    refine xt_n ?_
    refine hK _ ?_
    clear hK K
    refine w_cond (t := !dstB (Cut.gain c) d m) (by kernel_rfl) (fun c2 => ?_) (fun c2 => ?_)
    · have q : dstB c.gain d m = false := by simpa using c2
      have m2 : m < F := by
        refine Int.not_le.1 fun h => ?_
        rw [hF'.hi m h (by omega)] at q; cases q
      refine w_region (n' := 5) (by kernel_rfl) (by kernel_rfl) ?_
      refine aops_n hTT (M := []) (n := 3) [pv (22 : Nat) (V.i m), pc (23 : Nat) ((-9223372036854775808 : Int) ≤ m + (1 : Int) ∧ m + (1 : Int) ≤ (9223372036854775807 : Int)) (V.i (m + (1 : Int))), pv (5 : Nat) (V.i (m + (1 : Int)))] (by kernel_rfl) (by kernel_rfl) ⟨(by omega), True.intro⟩ ?_
      refine aops_nil ?_
      refine xb_n ?_
      refine xt_n ?_
      refine ⟨(m + 1, j), ⟨by show 0 ≤ m + 1; omega, by show m + 1 ≤ F; omega, h3, h4⟩, ?_, by show (j - (m + 1)).toNat < (j - i).toNat; omega⟩
      refine le_ren [] (.cons (by kernel_rfl) (.cons (by kernel_rfl) (.cons (by kernel_rfl) (.cons (by kernel_rfl) .nil)))) .nil (by kernel_rfl) (by kernel_rfl)
    · have q : dstB c.gain d m = true := by simpa using c2
      have m2 : F ≤ m := by
        refine Int.not_lt.1 fun h => ?_
        rw [hF'.lo m (by omega) h] at q; cases q
      refine w_region (n' := 5) (by kernel_rfl) (by kernel_rfl) ?_
      refine aops_n hTT (M := []) (n := 2) [pv (24 : Nat) (V.i m), pv (6 : Nat) (V.i m)] (by kernel_rfl) (by kernel_rfl) True.intro ?_
      refine aops_nil ?_
      refine xb_n ?_
      refine xt_n ?_
      refine ⟨(i, m), ⟨h1, h2, m2, by show m ≤ 32768; omega⟩, ?_, by show (m - i).toNat < (j - i).toNat; omega⟩
      refine le_ren [] (.cons (by kernel_rfl) (.cons (by kernel_rfl) (.cons (by kernel_rfl) (.cons (by kernel_rfl) .nil)))) .nil (by kernel_rfl) (by kernel_rfl)
  · have c1 : j ≤ i := by simpa using c1
    obtain rfl : i = F := by omega
    refine aw_exit ?_
    refine xt_x ?_
    refine xt_x ?_
    refine xb_same ?_
    refine xt_n ?_
    clear hK K
    refine hK _ ?_
    clear hK K
    refine aw_seq_k fun K hK => ?_
    refine w_region (n' := 3) (by kernel_rfl) (by kernel_rfl) ?_
    refine aops_n hTT (M := []) (n := 2) [pv (25 : Nat) (V.i i), pv (4 : Nat) (V.i i)] (by kernel_rfl) (by kernel_rfl) True.intro ?_
    refine aops_nil ?_
    refine xt_n ?_
    refine hK _ ?_
    clear hK K
    refine aw_ret ?_
    refine ret_pure (v' := V.i i) (.inr rfl) (by kernel_rfl) (by kernel_rfl) (by kernel_rfl)
set_option maxRecDepth 100000 in
theorem firstB_ac (c : Cut) (d F : Int) (hc : cutE c = 0) (hd : -8388608 ≤ d ∧ d ≤ 8388608) (hF' : IsFst (dstB c.gain d) 32768 F) :
    AC Try.prog 86 [.i 32767, bkV c d] (.i F) [] := by
  have hFb := hF'.b
  refine ac_intro hTT hMX (fn := Try.f86) (N := _) ⟨Try.func86, rfl, Try.ntmps86, by kernel_rfl⟩ (by simp) fun C hC hF => ?_
  refine aw_seq_k fun K hK => ?_
  refine w_region (n' := 2) (by kernel_rfl) (by kernel_rfl) ?_
  refine aops_n hTT (M := []) (n := 2) [pv (3 : Nat) (V.ptr [V.fn (Fn.func (87 : Nat)) [] [V.ptr [V.i (Cut.half c), V.i (Cut.gain c), V.i (Cut.thin c), V.i (Cut.wide c), V.i (Cut.slope c), V.i (Cut.jerk c), V.i (Cut.sty c)], V.ptr [V.i d]]]), pv (4 : Nat) (V.i (0 : Int))] (by kernel_rfl) (by kernel_rfl) True.intro ?_
  refine aops_nil ?_
  refine xt_n ?_
  refine hK _ ?_
  clear hK K
  refine aw_seq_k fun K hK => ?_
  refine w_region (n' := 3) (by kernel_rfl) (by kernel_rfl) ?_
  refine aops_n hTT (M := []) (n := 3) [pv (5 : Nat) (V.i (32767 : Int)), pc (6 : Nat) ((-9223372036854775808 : Int) ≤ (32767 : Int) + (1 : Int) ∧ (32767 : Int) + (1 : Int) ≤ (9223372036854775807 : Int)) (V.i ((32767 : Int) + (1 : Int))), pv (7 : Nat) (V.fn (Fn.func (107 : Nat)) [] [V.ptr [V.fn (Fn.func (87 : Nat)) [] [V.ptr [V.i (Cut.half c), V.i (Cut.gain c), V.i (Cut.thin c), V.i (Cut.wide c), V.i (Cut.slope c), V.i (Cut.jerk c), V.i (Cut.sty c)], V.ptr [V.i d]]]])] (by kernel_rfl) (by kernel_rfl) ⟨(by omega), True.intro⟩ ?_
  refine e_call (first := []) (caps := []) (searchB_ac c d F hc hd hF') (by kernel_rfl) (by kernel_rfl) (by kernel_rfl) (by kernel_rfl) (by kernel_rfl) ?_
  refine aops_n hTT (M := []) (n := 1) [pv (4 : Nat) (V.i F)] (by kernel_rfl) (by kernel_rfl) True.intro ?_
  refine aops_nil ?_
  refine xt_n ?_
  refine hK _ ?_
  clear hK K
  refine aw_ret ?_
  refine ret_pure (v' := V.i F) (.inr rfl) (by kernel_rfl) (by kernel_rfl) (by kernel_rfl)
set_option maxRecDepth 100000 in
theorem back1_ac (c : Cut) (d F : Int) (hc : cutE c = 0) (hd : -8388608 ≤ d ∧ d ≤ 8388608) (hF' : IsFst (dstB c.gain d) 32768 F) :
    AC Try.prog 85 [.i d, .ptr [.i c.half, .i c.gain, .i c.thin, .i c.wide, .i c.slope, .i c.jerk, .i c.sty]] (.i (rdN d F)) [] := by
  have hFb := hF'.b
  refine ac_intro hTT hMX (fn := Try.f85) (N := _) ⟨Try.func85, rfl, Try.ntmps85, by kernel_rfl⟩ (by simp) fun C hC hF => ?_
  refine aw_seq_k fun K hK => ?_
  refine w_region (n' := 2) (by kernel_rfl) (by kernel_rfl) ?_
  refine aops_n hTT (M := []) (n := 2) [pv (2 : Nat) (V.ptr [V.i d]), pv (3 : Nat) (V.i (0 : Int))] (by kernel_rfl) (by kernel_rfl) True.intro ?_
  refine aops_nil ?_
  refine xt_n ?_
  refine hK _ ?_
  clear hK K
  refine aw_seq_k fun K hK => ?_
  refine w_region (n' := 3) (by kernel_rfl) (by kernel_rfl) ?_
  refine aops_n hTT (M := []) (n := 1) [pv (5 : Nat) (V.fn (Fn.func (87 : Nat)) [] [V.ptr [V.i (Cut.half c), V.i (Cut.gain c), V.i (Cut.thin c), V.i (Cut.wide c), V.i (Cut.slope c), V.i (Cut.jerk c), V.i (Cut.sty c)], V.ptr [V.i d]])] (by kernel_rfl) (by kernel_rfl) True.intro ?_
  refine e_call (first := []) (caps := []) (firstB_ac c d F hc hd hF') (by kernel_rfl) (by kernel_rfl) (by kernel_rfl) (by kernel_rfl) (by kernel_rfl) ?_
  refine aops_n hTT (M := []) (n := 1) [pv (4 : Nat) (V.i F)] (by kernel_rfl) (by kernel_rfl) True.intro ?_
  refine aops_nil ?_
  refine xt_n ?_
  refine hK _ ?_
  clear hK K
  refine aw_seq_k fun K hK => ?_
  refine aw_seq_k fun K hK => ?_
  refine w_region (n' := 4) (by kernel_rfl) (by kernel_rfl) ?_
  refine aops_n hTT (M := []) (n := 2) [pv (7 : Nat) (V.i d), pv (8 : Nat) (V.b (decide (d < (0 : Int))))] (by kernel_rfl) (by kernel_rfl) True.intro ?_
  refine aops_nil ?_
  refine xt_n ?_
  refine hK _ ?_
  clear hK K
  refine w_cond (t := decide (d < (0 : Int))) (by kernel_rfl) (fun c1 => ?_) (fun c1 => ?_)
  · refine aw_seq_k fun K hK => ?_
    refine w_region (n' := 5) (by kernel_rfl) (by kernel_rfl) ?_
    refine aops_n hTT (M := []) (n := 3) [pv (9 : Nat) (V.i F), pc (10 : Nat) ((-9223372036854775808 : Int) ≤ -F ∧ -F ≤ (9223372036854775807 : Int)) (V.i (-F)), pv (3 : Nat) (V.i (-F))] (by kernel_rfl) (by kernel_rfl) ⟨(by omega), True.intro⟩ ?_
    refine aops_nil ?_
    refine xt_n ?_
    refine hK _ ?_
    clear hK K
    refine aw_ret ?_
    refine xt_r ?_
    rw [rdN, if_pos (by simpa using c1)]
    refine ret_pure (v' := V.i (-F)) (.inr rfl) (by kernel_rfl) (by kernel_rfl) (by kernel_rfl)
  · refine aw_skip ?_
    refine xt_n ?_
    refine hK _ ?_
    clear hK K
    refine aw_seq_k fun K hK => ?_
    refine w_region (n' := 5) (by kernel_rfl) (by kernel_rfl) ?_
    refine aops_n hTT (M := []) (n := 2) [pv (11 : Nat) (V.i F), pv (3 : Nat) (V.i F)] (by kernel_rfl) (by kernel_rfl) True.intro ?_
    refine aops_nil ?_
    refine xt_n ?_
    refine hK _ ?_
    clear hK K
    refine aw_ret ?_
    rw [rdN, if_neg (by simpa using c1)]
    refine ret_pure (v' := V.i F) (.inr rfl) (by kernel_rfl) (by kernel_rfl) (by kernel_rfl)
/-- the sample of a point, by the amounts of its channels -/
def backR (c : Cut) (p : Pt) (F G : Int) : Pt × Int :=
  if cutE c = 0 ∧ gE p = true then (if sE (rdN (p.2 - c.half) F, rdN (p.1 + c.half) G) = true ∧ wallP c (rdN (p.2 - c.half) F, rdN (p.1 + c.half) G) = p then ((rdN (p.2 - c.half) F, rdN (p.1 + c.half) G), 0) else ((0, 0), 5)) else ((0, 0), 2)
theorem backR_1 {c : Cut} {p : Pt} {F G : Int} (h : ¬ (cutE c = 0 ∧ gE p = true)) : backR c p F G = ((0, 0), 2) := by rw [backR, if_neg h]
theorem backR_2 {c : Cut} {p : Pt} {F G : Int} (h : cutE c = 0 ∧ gE p = true) (h2 : ¬ (sE (rdN (p.2 - c.half) F, rdN (p.1 + c.half) G) = true ∧ wallP c (rdN (p.2 - c.half) F, rdN (p.1 + c.half) G) = p)) : backR c p F G = ((0, 0), 5) := by rw [backR, if_pos h, if_neg h2]
theorem backR_3 {c : Cut} {p : Pt} {F G : Int} (h : cutE c = 0 ∧ gE p = true) (h2 : sE (rdN (p.2 - c.half) F, rdN (p.1 + c.half) G) = true ∧ wallP c (rdN (p.2 - c.half) F, rdN (p.1 + c.half) G) = p) : backR c p F G = ((rdN (p.2 - c.half) F, rdN (p.1 + c.half) G), 0) := by rw [backR, if_pos h, if_pos h2]
structure BOk (c : Cut) (p : Pt) (F G : Int) : Prop where
  f : cutE c = 0 → gE p = true → IsFst (dstB c.gain (p.2 - c.half)) 32768 F
  g : cutE c = 0 → gE p = true → IsFst (dstB c.gain (p.1 + c.half)) 32768 G
theorem bOk_ex (c : Cut) (p : Pt) : ∃ F G, BOk c p F G := by
  by_cases h : cutE c = 0
  · obtain ⟨_, ⟨b1, b2⟩, _⟩ := cutE_ok.1 h
    obtain ⟨F, hF⟩ := dst_fst (d := p.2 - c.half) b1
    obtain ⟨G, hG⟩ := dst_fst (d := p.1 + c.half) b1
    exact ⟨F, G, fun _ _ => hF, fun _ _ => hG⟩
  · exact ⟨0, 0, fun a _ => absurd a h, fun a _ => absurd a h⟩
theorem rd_bd {d F : Int} (h : 0 ≤ F ∧ F ≤ 32768) : -32768 ≤ rdN d F ∧ rdN d F ≤ 32768 := by unfold rdN; split <;> omega
set_option maxRecDepth 100000 in
theorem Back_ac (c : Cut) (p : Pt) (F G : Int) (hb : BOk c p F G) : AC Try.prog 56 [c.v, .agg [.i p.1, .i p.2]] (.tup [.agg [.i (backR c p F G).1.1, .i (backR c p F G).1.2], .i (backR c p F G).2]) [] := by
  refine ac_intro hTT hMX (fn := Try.f56) (N := _) ⟨Try.func56, rfl, Try.ntmps56, by kernel_rfl⟩ (by simp) fun C hC hF => ?_
  refine aw_seq_k fun K hK => ?_
  refine w_region (n' := 2) (by kernel_rfl) (by kernel_rfl) ?_
  refine aops_n hTT (M := []) (n := 4) [pv (2 : Nat) (V.ptr [V.i (Cut.half c), V.i (Cut.gain c), V.i (Cut.thin c), V.i (Cut.wide c), V.i (Cut.slope c), V.i (Cut.jerk c), V.i (Cut.sty c)]), pv (3 : Nat) (V.ptr [V.i (Prod.fst p), V.i (Prod.snd p)]), pn (4 : Nat) (V.ref (100004 : Nat) (0 : Nat)) (100004 : Nat) (Ob.box (87 : Nat) [V.i (0 : Int), V.i (0 : Int)]), pv (5 : Nat) (V.i (0 : Int))] (by kernel_rfl) (by kernel_rfl) True.intro ?_
  refine aops_nil ?_
  refine xt_n ?_
  refine hK _ ?_
  clear hK K
  refine aw_seq_k fun K hK => ?_
  refine aw_seq_k fun K hK => ?_
  refine w_region (n' := 3) (by kernel_rfl) (by kernel_rfl) ?_
  refine aops_n hTT (M := []) (n := 1) [pv (9 : Nat) (V.agg [V.i (Cut.half c), V.i (Cut.gain c), V.i (Cut.thin c), V.i (Cut.wide c), V.i (Cut.slope c), V.i (Cut.jerk c), V.i (Cut.sty c)])] (by kernel_rfl) (by kernel_rfl) True.intro ?_
  refine e_call (first := []) (caps := []) (cutCheck_ac c) (by kernel_rfl) (by kernel_rfl) (by kernel_rfl) (by kernel_rfl) (by kernel_rfl) ?_
  refine aops_n hTT (M := []) (n := 1) [pv (6 : Nat) (V.i (cutE c))] (by kernel_rfl) (by kernel_rfl) True.intro ?_
  refine aops_nil ?_
  refine xt_n ?_
  refine hK _ ?_
  clear hK K
  refine aw_seq_k fun K hK => ?_
  refine w_region (n' := 4) (by kernel_rfl) (by kernel_rfl) ?_
  refine aops_n hTT (M := []) (n := 2) [pv (11 : Nat) (V.i (cutE c)), pv (12 : Nat) (V.b !decide (cutE c = (0 : Int)))] (by kernel_rfl) (by kernel_rfl) True.intro ?_
  refine aops_nil ?_
  refine xt_n ?_
  refine hK _ ?_
  clear hK K
  refine w_cond (t := !decide (cutE c = (0 : Int))) (by kernel_rfl) (fun c1 => ?_) (fun c1 => ?_)
  · have h : ¬ cutE c = 0 := by simpa using c1
    refine aw_seq_k fun K hK => ?_
    refine w_region (n' := 5) (by kernel_rfl) (by kernel_rfl) ?_
    refine aops_n hTT (M := []) (n := 4) [pv (13 : Nat) (V.agg [V.i (0 : Int), V.i (0 : Int)]), pv (14 : Nat) (V.i (cutE c)), pw ((0 : Nat) + (2 : Nat) ≤ (2 : Nat)) (100004 : Nat) (Ob.box (87 : Nat) [V.i (0 : Int), V.i (0 : Int)]), pv (5 : Nat) (V.i (cutE c))] (by kernel_rfl) (by kernel_rfl) ⟨(by omega), True.intro⟩ ?_
    refine aops_nil ?_
    refine xt_n ?_
    refine hK _ ?_
    clear hK K
    refine aw_ret ?_
    refine xt_r ?_
    refine ret_of_le (le_freezeBox (t := (87 : Nat)) (cs := [V.i (0 : Int), V.i (0 : Int)]) 100004 (by kernel_rfl) (by kernel_rfl)) ?_
    rw [backR_1 fun h2 => h h2.1, (cutE_cases c).resolve_left h]
    refine ret_pure (v' := V.tup [V.agg [V.i (0 : Int), V.i (0 : Int)], V.i (2 : Int)]) (.inr rfl) (by kernel_rfl) (by kernel_rfl) (by kernel_rfl)
  have h : cutE c = 0 := by simpa using c1
  refine aw_skip ?_
  refine xt_n ?_
  refine hK _ ?_
  clear hK K
  refine aw_seq_k fun K hK => ?_
  refine aw_seq_k fun K hK => ?_
  refine w_region (n' := 5) (by kernel_rfl) (by kernel_rfl) ?_
  refine aops_n hTT (M := []) (n := 1) [pv (15 : Nat) (V.agg [V.i (Prod.fst p), V.i (Prod.snd p)])] (by kernel_rfl) (by kernel_rfl) True.intro ?_
  refine e_call (first := []) (caps := []) (gEdged_ac p) (by kernel_rfl) (by kernel_rfl) (by kernel_rfl) (by kernel_rfl) (by kernel_rfl) ?_
  refine aops_n hTT (M := []) (n := 1) [pv (17 : Nat) (V.b !gE p)] (by kernel_rfl) (by kernel_rfl) True.intro ?_
  refine aops_nil ?_
  refine xt_n ?_
  refine hK _ ?_
  clear hK K
  refine w_cond (t := !gE p) (by kernel_rfl) (fun c2 => ?_) (fun c2 => ?_)
  · refine aw_seq_k fun K hK => ?_
    refine w_region (n' := 6) (by kernel_rfl) (by kernel_rfl) ?_
    refine aops_n hTT (M := []) (n := 3) [pv (18 : Nat) (V.agg [V.i (0 : Int), V.i (0 : Int)]), pw ((0 : Nat) + (2 : Nat) ≤ (2 : Nat)) (100004 : Nat) (Ob.box (87 : Nat) [V.i (0 : Int), V.i (0 : Int)]), pv (5 : Nat) (V.i (2 : Int))] (by kernel_rfl) (by kernel_rfl) ⟨(by omega), True.intro⟩ ?_
    refine aops_nil ?_
    refine xt_n ?_
    refine hK _ ?_
    clear hK K
    refine aw_ret ?_
    refine xt_r ?_
    refine ret_of_le (le_freezeBox (t := (87 : Nat)) (cs := [V.i (0 : Int), V.i (0 : Int)]) 100004 (by kernel_rfl) (by kernel_rfl)) ?_
    rw [backR_1 fun h2 => by rw [h2.2] at c2; cases c2]
    refine ret_pure (v' := V.tup [V.agg [V.i (0 : Int), V.i (0 : Int)], V.i (2 : Int)]) (.inr rfl) (by kernel_rfl) (by kernel_rfl) (by kernel_rfl)
  have h2 : gE p = true := by simpa using c2
  have kf := hb.f h h2
  have kg := hb.g h h2
  obtain ⟨⟨a1, a2⟩, ⟨b1, b2⟩, _⟩ := cutE_ok.1 h
  have hp := gE_iff.1 h2
  have rL := rd_bd (d := p.2 - c.half) kf.b
  have rR := rd_bd (d := p.1 + c.half) kg.b
  obtain ⟨s, hs⟩ : ∃ s : Pt, s = (rdN (p.2 - c.half) F, rdN (p.1 + c.half) G) := ⟨_, rfl⟩
  have T := tCheckSamples_ac [s] (by simp)
  have Q := point_ac c s h (by rw [hs]; exact ⟨rL, rR⟩)
  rw [show sChk [s] = if sE s = true then 0 else 2 by simp [sChk]] at T
  rw [hs] at T Q
  refine aw_skip ?_
  refine xt_n ?_
  refine hK _ ?_
  clear hK K
  refine aw_seq_k fun K hK => ?_
  refine w_region (n' := 6) (by kernel_rfl) (by kernel_rfl) ?_
  refine aops_n hTT (M := []) (n := 2) [pv (19 : Nat) (V.fn (Fn.func (85 : Nat)) [] [V.ptr [V.i (Cut.half c), V.i (Cut.gain c), V.i (Cut.thin c), V.i (Cut.wide c), V.i (Cut.slope c), V.i (Cut.jerk c), V.i (Cut.sty c)]]), pv (7 : Nat) (V.fn (Fn.func (85 : Nat)) [] [V.ptr [V.i (Cut.half c), V.i (Cut.gain c), V.i (Cut.thin c), V.i (Cut.wide c), V.i (Cut.slope c), V.i (Cut.jerk c), V.i (Cut.sty c)]])] (by kernel_rfl) (by kernel_rfl) True.intro ?_
  refine aops_nil ?_
  refine xt_n ?_
  refine hK _ ?_
  clear hK K
  refine aw_seq_k fun K hK => ?_
  refine w_regionD (n' := 7) (by kernel_rfl) (by kernel_rfl) ?_
  refine aops_n hTT (M := []) (n := 6) [pv (20 : Nat) (V.fn (Fn.func (85 : Nat)) [] [V.ptr [V.i (Cut.half c), V.i (Cut.gain c), V.i (Cut.thin c), V.i (Cut.wide c), V.i (Cut.slope c), V.i (Cut.jerk c), V.i (Cut.sty c)]]), pv (21 : Nat) (V.ptr [V.i (Prod.snd p)]), pv (22 : Nat) (V.i (Prod.snd p)), pv (23 : Nat) (V.ptr [V.i (Cut.half c), V.i (Cut.gain c), V.i (Cut.thin c), V.i (Cut.wide c), V.i (Cut.slope c), V.i (Cut.jerk c), V.i (Cut.sty c)]), pv (24 : Nat) (V.i (Cut.half c)), pc (25 : Nat) ((-9223372036854775808 : Int) ≤ Prod.snd p - Cut.half c ∧ Prod.snd p - Cut.half c ≤ (9223372036854775807 : Int)) (V.i (Prod.snd p - Cut.half c))] (by kernel_rfl) (by kernel_rfl) ⟨(by omega), True.intro⟩ ?_
  refine e_call (first := []) (caps := [V.ptr [V.i (Cut.half c), V.i (Cut.gain c), V.i (Cut.thin c), V.i (Cut.wide c), V.i (Cut.slope c), V.i (Cut.jerk c), V.i (Cut.sty c)]]) (back1_ac c (p.2 - c.half) F h (by omega) kf) (by kernel_rfl) (by kernel_rfl) (by kernel_rfl) (by kernel_rfl) (by kernel_rfl) ?_
  refine aops_n hTT (M := []) (n := 6) [pv (27 : Nat) (V.fn (Fn.func (85 : Nat)) [] [V.ptr [V.i (Cut.half c), V.i (Cut.gain c), V.i (Cut.thin c), V.i (Cut.wide c), V.i (Cut.slope c), V.i (Cut.jerk c), V.i (Cut.sty c)]]), pv (28 : Nat) (V.ptr [V.i (Prod.fst p), V.i (Prod.snd p)]), pv (29 : Nat) (V.i (Prod.fst p)), pv (30 : Nat) (V.ptr [V.i (Cut.half c), V.i (Cut.gain c), V.i (Cut.thin c), V.i (Cut.wide c), V.i (Cut.slope c), V.i (Cut.jerk c), V.i (Cut.sty c)]), pv (31 : Nat) (V.i (Cut.half c)), pc (32 : Nat) ((-9223372036854775808 : Int) ≤ Prod.fst p + Cut.half c ∧ Prod.fst p + Cut.half c ≤ (9223372036854775807 : Int)) (V.i (Prod.fst p + Cut.half c))] (by kernel_rfl) (by kernel_rfl) ⟨(by omega), True.intro⟩ ?_
  refine e_call (first := []) (caps := [V.ptr [V.i (Cut.half c), V.i (Cut.gain c), V.i (Cut.thin c), V.i (Cut.wide c), V.i (Cut.slope c), V.i (Cut.jerk c), V.i (Cut.sty c)]]) (back1_ac c (p.1 + c.half) G h (by omega) kg) (by kernel_rfl) (by kernel_rfl) (by kernel_rfl) (by kernel_rfl) (by kernel_rfl) ?_
  refine aops_n hTT (M := []) (n := 3) [pv (34 : Nat) (V.agg [V.i (rdN (Prod.snd p - Cut.half c) F), V.i (rdN (Prod.fst p + Cut.half c) G)]), pn (8 : Nat) (V.ref (600008 : Nat) (0 : Nat)) (600008 : Nat) (Ob.box (87 : Nat) [V.i (0 : Int), V.i (0 : Int)]), pw ((0 : Nat) + (2 : Nat) ≤ (2 : Nat)) (600008 : Nat) (Ob.box (87 : Nat) [V.i (rdN (Prod.snd p - Cut.half c) F), V.i (rdN (Prod.fst p + Cut.half c) G)])] (by kernel_rfl) (by kernel_rfl) ⟨(by omega), True.intro⟩ ?_
  refine aops_nil ⟨by kernel_rfl, ?_⟩
  refine xt_n ?_
  refine hK _ ?_
  clear hK K
  refine aw_seq_k fun K hK => ?_
  refine aw_seq_k fun K hK => ?_
  refine w_regionD (n' := 8) (by kernel_rfl) (by kernel_rfl) ?_
  refine aops_n hTT (M := []) (n := 2) [pc (35 : Nat) ((0 : Nat) ≤ (2 : Nat)) (V.agg [V.i (rdN (Prod.snd p - Cut.half c) F), V.i (rdN (Prod.fst p + Cut.half c) G)]), pv (36 : Nat) (V.sl (2 : Nat) (1 : Nat) fun (i : Nat) => List.take (2 : Nat) (List.drop (i * (2 : Nat)) [V.i (rdN (Prod.snd p - Cut.half c) F), V.i (rdN (Prod.fst p + Cut.half c) G)]))] (by kernel_rfl) (by kernel_rfl) ⟨(by omega), True.intro⟩ ?_
  refine e_call (first := []) (caps := []) (AC.conv (T) (args' := [V.sl (2 : Nat) (1 : Nat) fun (i : Nat) => List.take (2 : Nat) (List.drop (i * (2 : Nat)) [V.i (rdN (Prod.snd p - Cut.half c) F), V.i (rdN (Prod.fst p + Cut.half c) G)])]) ⟨?_, trivial⟩) (by kernel_rfl) (by kernel_rfl) (by kernel_rfl) (by kernel_rfl) (by kernel_rfl) ?_
  · exact RImp.rows rfl fun i hi => by obtain rfl : i = 0 := by omega
                                       rfl
  refine aops_n hTT (M := []) (n := 4) [pv (38 : Nat) (V.b !decide ((if sE (rdN (Prod.snd p - Cut.half c) F, rdN (Prod.fst p + Cut.half c) G) = true then (0 : Int) else (2 : Int)) = (0 : Int))), pv (39 : Nat) (V.b !decide ((if sE (rdN (Prod.snd p - Cut.half c) F, rdN (Prod.fst p + Cut.half c) G) = true then (0 : Int) else (2 : Int)) = (0 : Int))), pc (40 : Nat) ((True ∧ True) ∧ (((!decide ((if sE (rdN (Prod.snd p - Cut.half c) F, rdN (Prod.fst p + Cut.half c) G) = true then (0 : Int) else (2 : Int)) = (0 : Int))) == false) = true → True)) (V.gd ((!decide ((if sE (rdN (Prod.snd p - Cut.half c) F, rdN (Prod.fst p + Cut.half c) G) = true then (0 : Int) else (2 : Int)) = (0 : Int))) == false) (V.agg [V.i (Cut.half c), V.i (Cut.gain c), V.i (Cut.thin c), V.i (Cut.wide c), V.i (Cut.slope c), V.i (Cut.jerk c), V.i (Cut.sty c)])), pc (41 : Nat) ((True ∧ True) ∧ (((!decide ((if sE (rdN (Prod.snd p - Cut.half c) F, rdN (Prod.fst p + Cut.half c) G) = true then (0 : Int) else (2 : Int)) = (0 : Int))) == false) = true → (0 : Nat) ≤ (2 : Nat))) (V.gd ((!decide ((if sE (rdN (Prod.snd p - Cut.half c) F, rdN (Prod.fst p + Cut.half c) G) = true then (0 : Int) else (2 : Int)) = (0 : Int))) == false) (V.agg [V.i (rdN (Prod.snd p - Cut.half c) F), V.i (rdN (Prod.fst p + Cut.half c) G)]))] (by kernel_rfl) (by kernel_rfl) ⟨⟨⟨True.intro, True.intro⟩, (fun _ => True.intro)⟩, ⟨⟨True.intro, True.intro⟩, (by (intro _; simp; done))⟩, True.intro⟩ ?_
  refine e_callG 2 (g := (!decide ((if sE (rdN (Prod.snd p - Cut.half c) F, rdN (Prod.fst p + Cut.half c) G) = true then (0 : Int) else (2 : Int)) = (0 : Int))) == false) (first := []) (caps := []) (by kernel_rfl) (fun hh => Q) (by kernel_rfl) (by kernel_rfl) (by kernel_rfl) (by kernel_rfl) (by kernel_rfl) (by kernel_rfl) ?_
  refine aops_n hTT (M := []) (n := 3) [pc (43 : Nat) ((True ∧ True) ∧ (((!decide ((if sE (rdN (Prod.snd p - Cut.half c) F, rdN (Prod.fst p + Cut.half c) G) = true then (0 : Int) else (2 : Int)) = (0 : Int))) == false) = true → True)) (V.gd ((!decide ((if sE (rdN (Prod.snd p - Cut.half c) F, rdN (Prod.fst p + Cut.half c) G) = true then (0 : Int) else (2 : Int)) = (0 : Int))) == false) (V.agg [V.i (Prod.fst p), V.i (Prod.snd p)])), pc (44 : Nat) (((((!decide ((if sE (rdN (Prod.snd p - Cut.half c) F, rdN (Prod.fst p + Cut.half c) G) = true then (0 : Int) else (2 : Int)) = (0 : Int))) == false) = true → ((!decide ((if sE (rdN (Prod.snd p - Cut.half c) F, rdN (Prod.fst p + Cut.half c) G) = true then (0 : Int) else (2 : Int)) = (0 : Int))) == false) = true) ∧ (((!decide ((if sE (rdN (Prod.snd p - Cut.half c) F, rdN (Prod.fst p + Cut.half c) G) = true then (0 : Int) else (2 : Int)) = (0 : Int))) == false) = true → ((!decide ((if sE (rdN (Prod.snd p - Cut.half c) F, rdN (Prod.fst p + Cut.half c) G) = true then (0 : Int) else (2 : Int)) = (0 : Int))) == false) = true) ∧ True) ∧ (((!decide ((if sE (rdN (Prod.snd p - Cut.half c) F, rdN (Prod.fst p + Cut.half c) G) = true then (0 : Int) else (2 : Int)) = (0 : Int))) == false) = true → True)) (V.gd ((!decide ((if sE (rdN (Prod.snd p - Cut.half c) F, rdN (Prod.fst p + Cut.half c) G) = true then (0 : Int) else (2 : Int)) = (0 : Int))) == false) (V.b !(decide (Prod.fst (wallP c (rdN (Prod.snd p - Cut.half c) F, rdN (Prod.fst p + Cut.half c) G)) = Prod.fst p) && (decide (Prod.snd (wallP c (rdN (Prod.snd p - Cut.half c) F, rdN (Prod.fst p + Cut.half c) G)) = Prod.snd p) && true)))), pc (45 : Nat) (True ∧ ((!decide ((if sE (rdN (Prod.snd p - Cut.half c) F, rdN (Prod.fst p + Cut.half c) G) = true then (0 : Int) else (2 : Int)) = (0 : Int))) = false → ((!decide ((if sE (rdN (Prod.snd p - Cut.half c) F, rdN (Prod.fst p + Cut.half c) G) = true then (0 : Int) else (2 : Int)) = (0 : Int))) == false) = true)) (V.b (!decide ((if sE (rdN (Prod.snd p - Cut.half c) F, rdN (Prod.fst p + Cut.half c) G) = true then (0 : Int) else (2 : Int)) = (0 : Int)) || !(decide (Prod.fst (wallP c (rdN (Prod.snd p - Cut.half c) F, rdN (Prod.fst p + Cut.half c) G)) = Prod.fst p) && (decide (Prod.snd (wallP c (rdN (Prod.snd p - Cut.half c) F, rdN (Prod.fst p + Cut.half c) G)) = Prod.snd p) && true))))] (by kernel_rfl) (by kernel_rfl) ⟨⟨⟨True.intro, True.intro⟩, (fun _ => True.intro)⟩, ⟨⟨(by (exact fun h => h)), ⟨(by (exact fun h => h)), True.intro⟩⟩, (fun _ => True.intro)⟩, ⟨True.intro, (by (intro h; rw [h]; rfl))⟩, True.intro⟩ ?_
  refine aops_nil ⟨by kernel_rfl, ?_⟩
  refine xt_n ?_
  refine hK _ ?_
  clear hK K
  refine w_cond (t := !decide ((if sE (rdN (Prod.snd p - Cut.half c) F, rdN (Prod.fst p + Cut.half c) G) = true then (0 : Int) else (2 : Int)) = (0 : Int)) || !(decide (Prod.fst (wallP c (rdN (Prod.snd p - Cut.half c) F, rdN (Prod.fst p + Cut.half c) G)) = Prod.fst p) && (decide (Prod.snd (wallP c (rdN (Prod.snd p - Cut.half c) F, rdN (Prod.fst p + Cut.half c) G)) = Prod.snd p) && true))) (by kernel_rfl) (fun c3 => ?_) (fun c3 => ?_)
  · refine aw_seq_k fun K hK => ?_
    refine w_region (n' := 9) (by kernel_rfl) (by kernel_rfl) ?_
    refine aops_n hTT (M := []) (n := 3) [pv (46 : Nat) (V.agg [V.i (0 : Int), V.i (0 : Int)]), pw ((0 : Nat) + (2 : Nat) ≤ (2 : Nat)) (100004 : Nat) (Ob.box (87 : Nat) [V.i (0 : Int), V.i (0 : Int)]), pv (5 : Nat) (V.i (5 : Int))] (by kernel_rfl) (by kernel_rfl) ⟨(by omega), True.intro⟩ ?_
    refine aops_nil ?_
    refine xt_n ?_
    refine hK _ ?_
    clear hK K
    refine aw_ret ?_
    refine xt_r ?_
    refine ret_of_le (le_freezeBox (t := (87 : Nat)) (cs := [V.i (0 : Int), V.i (0 : Int)]) 100004 (by kernel_rfl) (by kernel_rfl)) ?_
    rw [backR_2 ⟨h, h2⟩ fun h3 => by
      obtain ⟨h3, h4⟩ := h3
      rw [h3, h4] at c3
      simp at c3]
    refine ret_pure (v' := V.tup [V.agg [V.i (0 : Int), V.i (0 : Int)], V.i (5 : Int)]) (.inr rfl) (by kernel_rfl) (by kernel_rfl) (by kernel_rfl)
  · have h3 : sE (rdN (p.2 - c.half) F, rdN (p.1 + c.half) G) = true ∧ wallP c (rdN (p.2 - c.half) F, rdN (p.1 + c.half) G) = p := by
      simp at c3
      exact ⟨c3.1, Prod.ext c3.2.1 c3.2.2⟩
    refine aw_skip ?_
    refine xt_n ?_
    refine hK _ ?_
    clear hK K
    refine aw_seq_k fun K hK => ?_
    refine w_region (n' := 9) (by kernel_rfl) (by kernel_rfl) ?_
    refine aops_n hTT (M := []) (n := 3) [pc (47 : Nat) ((0 : Nat) ≤ (2 : Nat)) (V.agg [V.i (rdN (Prod.snd p - Cut.half c) F), V.i (rdN (Prod.fst p + Cut.half c) G)]), pw ((0 : Nat) + (2 : Nat) ≤ (2 : Nat)) (100004 : Nat) (Ob.box (87 : Nat) [V.i (rdN (Prod.snd p - Cut.half c) F), V.i (rdN (Prod.fst p + Cut.half c) G)]), pv (5 : Nat) (V.i (0 : Int))] (by kernel_rfl) (by kernel_rfl) ⟨(by omega), (by omega), True.intro⟩ ?_
    refine aops_nil ?_
    refine xt_n ?_
    refine hK _ ?_
    clear hK K
    refine aw_ret ?_
    refine ret_of_le (le_freezeBox (t := (87 : Nat)) (cs := [V.i (rdN (Prod.snd p - Cut.half c) F), V.i (rdN (Prod.fst p + Cut.half c) G)]) 100004 (by kernel_rfl) (by kernel_rfl)) ?_
    rw [backR_3 ⟨h, h2⟩ h3]
    refine ret_pure (v' := V.tup [V.agg [V.i (rdN (Prod.snd p - Cut.half c) F), V.i (rdN (Prod.fst p + Cut.half c) G)], V.i (0 : Int)]) (.inr rfl) (by kernel_rfl) (by kernel_rfl) (by kernel_rfl)
/-! ### the reference -/
def chQ (g d : Int) : Int := (1000 * gAmt d + g - 1).tdiv g
def chN (g d : Int) : Int := if d = 0 then 0 else if g = 0 then 0 else if d < 0 then -chQ g d else chQ g d
def chOk (g d : Int) : Bool := if d = 0 then true else if g = 0 then false else decide (chE g (chN g d) = d) && betB (chN g d) (-32767) 32767
theorem chQ_bd {g d : Int} (hg : 1 ≤ g ∧ g ≤ 100000) (hd : -8388608 ≤ d ∧ d ≤ 8388608) : 0 ≤ chQ g d ∧ chQ g d ≤ 8388708000 := by
  unfold chQ
  have h1 : 0 ≤ 1000 * gAmt d := by unfold gAmt; omega
  have h2 : 1000 * gAmt d ≤ 8388608000 := by unfold gAmt; omega
  rw [Int.tdiv_eq_ediv_of_nonneg (by omega)]
  have e1 := Int.ediv_nonneg (show 0 ≤ 1000 * gAmt d + g - 1 by omega) (show 0 ≤ g by omega)
  have e2 := Int.ediv_le_self g (show 0 ≤ 1000 * gAmt d + g - 1 by omega)
  omega
theorem gAmt0 {d : Int} : gAmt d = 0 ↔ d = 0 := by unfold gAmt; omega
/-- both ways to a sample's channel agree -/
theorem chan_eq {g d F : Int} (hg : 0 ≤ g ∧ g ≤ 100000) (hF : IsFst (dstB g d) 32768 F) : (chOk g d = true ↔ (-32767 ≤ rdN d F ∧ rdN d F ≤ 32767) ∧ chE g (rdN d F) = d) ∧ (chOk g d = true → chN g d = rdN d F) := by
  have hb := hF.b
  by_cases h1 : d = 0
  · subst h1
    have hF0 : F = 0 := by
      have p0 : dstB g 0 0 = true := by
        have : chE g 0 = 0 := by unfold chE; simp
        unfold dstB; rw [this]; decide
      have := (hF.iff (n := 0) (by decide) (by decide)).1 p0
      omega
    subst hF0
    have e0 : chE g 0 = 0 := by unfold chE; simp
    simp [chOk, chN, rdN, e0]
  · by_cases h2 : g = 0
    · subst h2
      have hF0 : F = 32768 := by
        have : ¬ F ≤ 32767 := fun h => by
          have := hF.hi 32767 h (by decide)
          unfold dstB chE at this
          rw [decide_eq_true_eq] at this
          simp at this
          unfold gAmt at this
          omega
        omega
      subst hF0
      refine ⟨?_, fun h => ?_⟩
      · rw [chOk, if_neg h1, if_pos rfl]
        constructor
        · intro h; cases h
        · rintro ⟨h, _⟩
          unfold rdN at h
          split at h <;> omega
      · rw [chOk, if_neg h1, if_pos rfl] at h; cases h
    · have g1 : 1 ≤ g := by omega
      have a1 : 1 ≤ gAmt d := by unfold gAmt; omega
      have qn : 0 ≤ chQ g d := by
        unfold chQ
        rw [Int.tdiv_eq_ediv_of_nonneg (by omega)]
        exact Int.ediv_nonneg (by omega) (by omega)
      have key : ∀ n, 0 ≤ n → (dstB g d n = true ↔ chQ g d ≤ n) := by
        intro n hn
        unfold dstB chQ
        rw [decide_eq_true_eq, chE_nn hg.1 hn, Int.tdiv_eq_ediv_of_nonneg (by omega), Int.le_ediv_iff_mul_le (by decide)]
        have e : (1000 * gAmt d + g - 1) / g ≤ n ↔ (1000 * gAmt d + g - 1) / g < n + 1 := by omega
        rw [e, Int.ediv_lt_iff_lt_mul (by omega), Int.add_mul]
        omega
      have hQ : F = min (chQ g d) 32768 := by
        by_cases h : chQ g d ≤ 32767
        · have p1 := (hF.iff (n := chQ g d) qn (by omega)).1 ((key _ qn).2 (Int.le_refl _))
          have p2 := (key F hb.1).1 (hF.hi F (Int.le_refl _) (by omega))
          omega
        · have : ¬ F ≤ 32767 := fun h3 => by
            have := (key 32767 (by decide)).1 (hF.hi 32767 h3 (by decide))
            omega
          omega
      by_cases h : chQ g d ≤ 32767
      · have hFq : F = chQ g d := by omega
        have hN : chN g d = rdN d F := by rw [chN, if_neg h1, if_neg h2, rdN, hFq]
        refine ⟨?_, fun _ => hN⟩
        rw [chOk, if_neg h1, if_neg h2, hN]
        simp only [Bool.and_eq_true, decide_eq_true_eq, betB]
        constructor
        · rintro ⟨x, y⟩; exact ⟨y, x⟩
        · rintro ⟨x, y⟩; exact ⟨y, x⟩
      · have hFq : F = 32768 := by omega
        have hno : chOk g d = false := by
          have e : betB (chN g d) (-32767) 32767 = false := by
            rw [chN, if_neg h1, if_neg h2]
            unfold betB
            split <;> simp <;> omega
          rw [chOk, if_neg h1, if_neg h2, e, Bool.and_false]
        rw [hno]
        refine ⟨⟨fun h => (by cases h), fun ⟨h, _⟩ => ?_⟩, fun h => (by cases h)⟩
        unfold rdN at h
        rw [hFq] at h
        split at h <;> omega
end Go.Proofs.Ytlfaaddoemcokaa
