/-
  Round tips, checked: both copies. No condition.
-/
import Derived.Test.YtlfaaddoemcokaaPAb21
namespace Go.Proofs.Ytlfaaddoemcokaa
open Go.Ab Go.RowKit Go.Dw Go.Shelf

def roundE (r a : Int) : Int := if r < 0 ∨ 1024 < r ∨ a < 1 ∨ 4194304 < a then 3 else if 64 < eltN r a then 6 else 0
theorem roundE_ok {r a : Int} : roundE r a = 0 ↔ 0 ≤ r ∧ r ≤ 1024 ∧ 1 ≤ a ∧ a ≤ 4194304 ∧ eltN r a ≤ 64 := by
  unfold roundE
  split
  · simp; omega
  · split
    · simp; omega
    · simp; omega
set_option maxRecDepth 100000 in
theorem Round_ok (r a : Int) (up : Bool) (h : roundE r a = 0) : AC Try.prog 38 [.i r, .i a, .b up] (.tup [.agg [V.ints (eltL r a up)], .i 0]) [] := by
  obtain ⟨h1, h2, h3, h4, h5⟩ := roundE_ok.1 h
  refine ac_intro hTT hMX (fn := Try.f38) (N := _) ⟨Try.func38, rfl, Try.ntmps38, by kernel_rfl⟩ (by simp) fun C hC hF => ?_
  refine aw_seq_k fun K hK => ?_
  refine w_region (n' := 2) (by kernel_rfl) (by kernel_rfl) ?_
  refine aops_n hTT (M := []) (n := 2) [pn (6 : Nat) (V.ref (100006 : Nat) (0 : Nat)) (100006 : Nat) (Ob.box (24 : Nat) [V.nil]), pv (7 : Nat) (V.i (0 : Int))] (by kernel_rfl) (by kernel_rfl) True.intro ?_
  refine aops_nil ?_
  refine xt_n ?_
  refine hK _ ?_
  clear hK K
  refine aw_seq_k fun K hK => ?_
  refine aw_seq_k fun K hK => ?_
  refine w_region (n' := 3) (by kernel_rfl) (by kernel_rfl) ?_
  refine aops_n hTT (M := []) (n := 14) [pv (8 : Nat) (V.i r), pv (9 : Nat) (V.b (decide (r < (0 : Int)))), pv (10 : Nat) (V.b (decide (r < (0 : Int)))), pc (11 : Nat) ((True ∧ True) ∧ ((decide (r < (0 : Int)) == false) = true → True)) (V.gd (decide (r < (0 : Int)) == false) (V.i r)), pc (12 : Nat) ((((decide (r < (0 : Int)) == false) = true → (decide (r < (0 : Int)) == false) = true) ∧ True ∧ True) ∧ ((decide (r < (0 : Int)) == false) = true → True)) (V.gd (decide (r < (0 : Int)) == false) (V.b (decide ((1024 : Int) < r)))), pc (13 : Nat) (True ∧ (decide (r < (0 : Int)) = false → (decide (r < (0 : Int)) == false) = true)) (V.b (decide (r < (0 : Int)) || decide ((1024 : Int) < r))), pv (14 : Nat) (V.b (decide (r < (0 : Int)) || decide ((1024 : Int) < r))), pc (15 : Nat) ((True ∧ True) ∧ (((decide (r < (0 : Int)) || decide ((1024 : Int) < r)) == false) = true → True)) (V.gd ((decide (r < (0 : Int)) || decide ((1024 : Int) < r)) == false) (V.i a)), pc (16 : Nat) (((((decide (r < (0 : Int)) || decide ((1024 : Int) < r)) == false) = true → ((decide (r < (0 : Int)) || decide ((1024 : Int) < r)) == false) = true) ∧ True ∧ True) ∧ (((decide (r < (0 : Int)) || decide ((1024 : Int) < r)) == false) = true → True)) (V.gd ((decide (r < (0 : Int)) || decide ((1024 : Int) < r)) == false) (V.b (decide (a < (1 : Int))))), pc (17 : Nat) (True ∧ ((decide (r < (0 : Int)) || decide ((1024 : Int) < r)) = false → ((decide (r < (0 : Int)) || decide ((1024 : Int) < r)) == false) = true)) (V.b (decide (r < (0 : Int)) || decide ((1024 : Int) < r) || decide (a < (1 : Int)))), pv (18 : Nat) (V.b (decide (r < (0 : Int)) || decide ((1024 : Int) < r) || decide (a < (1 : Int)))), pc (19 : Nat) ((True ∧ True) ∧ (((decide (r < (0 : Int)) || decide ((1024 : Int) < r) || decide (a < (1 : Int))) == false) = true → True)) (V.gd ((decide (r < (0 : Int)) || decide ((1024 : Int) < r) || decide (a < (1 : Int))) == false) (V.i a)), pc (20 : Nat) (((((decide (r < (0 : Int)) || decide ((1024 : Int) < r) || decide (a < (1 : Int))) == false) = true → ((decide (r < (0 : Int)) || decide ((1024 : Int) < r) || decide (a < (1 : Int))) == false) = true) ∧ True ∧ True) ∧ (((decide (r < (0 : Int)) || decide ((1024 : Int) < r) || decide (a < (1 : Int))) == false) = true → True)) (V.gd ((decide (r < (0 : Int)) || decide ((1024 : Int) < r) || decide (a < (1 : Int))) == false) (V.b (decide ((4194304 : Int) < a)))), pc (21 : Nat) (True ∧ ((decide (r < (0 : Int)) || decide ((1024 : Int) < r) || decide (a < (1 : Int))) = false → ((decide (r < (0 : Int)) || decide ((1024 : Int) < r) || decide (a < (1 : Int))) == false) = true)) (V.b (decide (r < (0 : Int)) || decide ((1024 : Int) < r) || decide (a < (1 : Int)) || decide ((4194304 : Int) < a)))] (by kernel_rfl) (by kernel_rfl) ⟨⟨⟨True.intro, True.intro⟩, (fun _ => True.intro)⟩, ⟨⟨(by (exact fun h => h)), ⟨True.intro, True.intro⟩⟩, (fun _ => True.intro)⟩, ⟨True.intro, (by (intro h; rw [h]; rfl))⟩, ⟨⟨True.intro, True.intro⟩, (fun _ => True.intro)⟩, ⟨⟨(by (exact fun h => h)), ⟨True.intro, True.intro⟩⟩, (fun _ => True.intro)⟩, ⟨True.intro, (by (intro h; rw [h]; rfl))⟩, ⟨⟨True.intro, True.intro⟩, (fun _ => True.intro)⟩, ⟨⟨(by (exact fun h => h)), ⟨True.intro, True.intro⟩⟩, (fun _ => True.intro)⟩, ⟨True.intro, (by (intro h; rw [h]; rfl))⟩, True.intro⟩ ?_
  refine aops_nil ?_
  refine xt_n ?_
  refine hK _ ?_
  clear hK K
  refine w_cond (t := decide (r < (0 : Int)) || decide ((1024 : Int) < r) || decide (a < (1 : Int)) || decide ((4194304 : Int) < a)) (by kernel_rfl) (fun c1 => ?_) (fun c1 => ?_)
  · simp at c1
    omega
  refine aw_skip ?_
  refine xt_n ?_
  refine hK _ ?_
  clear hK K
  refine aw_seq_k fun K hK => ?_
  refine w_region (n' := 4) (by kernel_rfl) (by kernel_rfl) ?_
  refine aops_n hTT (M := []) (n := 3) [pv (23 : Nat) (V.i r), pv (24 : Nat) (V.i a), pv (25 : Nat) (V.b up)] (by kernel_rfl) (by kernel_rfl) True.intro ?_
  refine e_call (first := []) (caps := []) (round_ac r a up ⟨h1, h2⟩ ⟨h3, h4⟩ h5) (by kernel_rfl) (by kernel_rfl) (by kernel_rfl) (by kernel_rfl) (by kernel_rfl) ?_
  refine aops_n hTT (M := []) (n := 4) [pv (27 : Nat) (V.agg [V.sl (1 : Nat) (List.length (eltL r a up)) fun (k : Nat) => [V.i (gi (eltL r a up) k)]]), pv (28 : Nat) (V.i (0 : Int)), pw ((0 : Nat) + (1 : Nat) ≤ (1 : Nat)) (100006 : Nat) (Ob.box (24 : Nat) [V.sl (1 : Nat) (List.length (eltL r a up)) fun (k : Nat) => [V.i (gi (eltL r a up) k)]]), pv (7 : Nat) (V.i (0 : Int))] (by kernel_rfl) (by kernel_rfl) ⟨(by omega), True.intro⟩ ?_
  refine aops_nil ?_
  refine xt_n ?_
  refine hK _ ?_
  clear hK K
  refine aw_ret ?_
  refine ret_pure (v' := V.tup [V.agg [V.sl (1 : Nat) (List.length (eltL r a up)) fun (k : Nat) => [V.i (gi (eltL r a up) k)]], V.i (0 : Int)]) (.inr rfl) (by kernel_rfl) (by kernel_rfl) (by kernel_rfl)
set_option maxRecDepth 100000 in
theorem Round_no (r a : Int) (up : Bool) (h : ¬ roundE r a = 0) : AC Try.prog 38 [.i r, .i a, .b up] (.tup [.agg [.nil], .i (roundE r a)]) [] := by
  refine ac_intro hTT hMX (fn := Try.f38) (N := _) ⟨Try.func38, rfl, Try.ntmps38, by kernel_rfl⟩ (by simp) fun C hC hF => ?_
  refine aw_seq_k fun K hK => ?_
  refine w_region (n' := 2) (by kernel_rfl) (by kernel_rfl) ?_
  refine aops_n hTT (M := []) (n := 2) [pn (6 : Nat) (V.ref (100006 : Nat) (0 : Nat)) (100006 : Nat) (Ob.box (24 : Nat) [V.nil]), pv (7 : Nat) (V.i (0 : Int))] (by kernel_rfl) (by kernel_rfl) True.intro ?_
  refine aops_nil ?_
  refine xt_n ?_
  refine hK _ ?_
  clear hK K
  refine aw_seq_k fun K hK => ?_
  refine aw_seq_k fun K hK => ?_
  refine w_region (n' := 3) (by kernel_rfl) (by kernel_rfl) ?_
  refine aops_n hTT (M := []) (n := 14) [pv (8 : Nat) (V.i r), pv (9 : Nat) (V.b (decide (r < (0 : Int)))), pv (10 : Nat) (V.b (decide (r < (0 : Int)))), pc (11 : Nat) ((True ∧ True) ∧ ((decide (r < (0 : Int)) == false) = true → True)) (V.gd (decide (r < (0 : Int)) == false) (V.i r)), pc (12 : Nat) ((((decide (r < (0 : Int)) == false) = true → (decide (r < (0 : Int)) == false) = true) ∧ True ∧ True) ∧ ((decide (r < (0 : Int)) == false) = true → True)) (V.gd (decide (r < (0 : Int)) == false) (V.b (decide ((1024 : Int) < r)))), pc (13 : Nat) (True ∧ (decide (r < (0 : Int)) = false → (decide (r < (0 : Int)) == false) = true)) (V.b (decide (r < (0 : Int)) || decide ((1024 : Int) < r))), pv (14 : Nat) (V.b (decide (r < (0 : Int)) || decide ((1024 : Int) < r))), pc (15 : Nat) ((True ∧ True) ∧ (((decide (r < (0 : Int)) || decide ((1024 : Int) < r)) == false) = true → True)) (V.gd ((decide (r < (0 : Int)) || decide ((1024 : Int) < r)) == false) (V.i a)), pc (16 : Nat) (((((decide (r < (0 : Int)) || decide ((1024 : Int) < r)) == false) = true → ((decide (r < (0 : Int)) || decide ((1024 : Int) < r)) == false) = true) ∧ True ∧ True) ∧ (((decide (r < (0 : Int)) || decide ((1024 : Int) < r)) == false) = true → True)) (V.gd ((decide (r < (0 : Int)) || decide ((1024 : Int) < r)) == false) (V.b (decide (a < (1 : Int))))), pc (17 : Nat) (True ∧ ((decide (r < (0 : Int)) || decide ((1024 : Int) < r)) = false → ((decide (r < (0 : Int)) || decide ((1024 : Int) < r)) == false) = true)) (V.b (decide (r < (0 : Int)) || decide ((1024 : Int) < r) || decide (a < (1 : Int)))), pv (18 : Nat) (V.b (decide (r < (0 : Int)) || decide ((1024 : Int) < r) || decide (a < (1 : Int)))), pc (19 : Nat) ((True ∧ True) ∧ (((decide (r < (0 : Int)) || decide ((1024 : Int) < r) || decide (a < (1 : Int))) == false) = true → True)) (V.gd ((decide (r < (0 : Int)) || decide ((1024 : Int) < r) || decide (a < (1 : Int))) == false) (V.i a)), pc (20 : Nat) (((((decide (r < (0 : Int)) || decide ((1024 : Int) < r) || decide (a < (1 : Int))) == false) = true → ((decide (r < (0 : Int)) || decide ((1024 : Int) < r) || decide (a < (1 : Int))) == false) = true) ∧ True ∧ True) ∧ (((decide (r < (0 : Int)) || decide ((1024 : Int) < r) || decide (a < (1 : Int))) == false) = true → True)) (V.gd ((decide (r < (0 : Int)) || decide ((1024 : Int) < r) || decide (a < (1 : Int))) == false) (V.b (decide ((4194304 : Int) < a)))), pc (21 : Nat) (True ∧ ((decide (r < (0 : Int)) || decide ((1024 : Int) < r) || decide (a < (1 : Int))) = false → ((decide (r < (0 : Int)) || decide ((1024 : Int) < r) || decide (a < (1 : Int))) == false) = true)) (V.b (decide (r < (0 : Int)) || decide ((1024 : Int) < r) || decide (a < (1 : Int)) || decide ((4194304 : Int) < a)))] (by kernel_rfl) (by kernel_rfl) ⟨⟨⟨True.intro, True.intro⟩, (fun _ => True.intro)⟩, ⟨⟨(by (exact fun h => h)), ⟨True.intro, True.intro⟩⟩, (fun _ => True.intro)⟩, ⟨True.intro, (by (intro h; rw [h]; rfl))⟩, ⟨⟨True.intro, True.intro⟩, (fun _ => True.intro)⟩, ⟨⟨(by (exact fun h => h)), ⟨True.intro, True.intro⟩⟩, (fun _ => True.intro)⟩, ⟨True.intro, (by (intro h; rw [h]; rfl))⟩, ⟨⟨True.intro, True.intro⟩, (fun _ => True.intro)⟩, ⟨⟨(by (exact fun h => h)), ⟨True.intro, True.intro⟩⟩, (fun _ => True.intro)⟩, ⟨True.intro, (by (intro h; rw [h]; rfl))⟩, True.intro⟩ ?_
  refine aops_nil ?_
  refine xt_n ?_
  refine hK _ ?_
  clear hK K
  refine w_cond (t := decide (r < (0 : Int)) || decide ((1024 : Int) < r) || decide (a < (1 : Int)) || decide ((4194304 : Int) < a)) (by kernel_rfl) (fun c1 => ?_) (fun c1 => ?_)
  · simp at c1
    refine aw_seq_k fun K hK => ?_
    refine w_region (n' := 4) (by kernel_rfl) (by kernel_rfl) ?_
    refine aops_n hTT (M := []) (n := 3) [pv (22 : Nat) (V.agg [V.nil]), pw ((0 : Nat) + (1 : Nat) ≤ (1 : Nat)) (100006 : Nat) (Ob.box (24 : Nat) [V.nil]), pv (7 : Nat) (V.i (3 : Int))] (by kernel_rfl) (by kernel_rfl) ⟨(by omega), True.intro⟩ ?_
    refine aops_nil ?_
    refine xt_n ?_
    refine hK _ ?_
    clear hK K
    refine aw_ret ?_
    refine xt_r ?_
    rw [show roundE r a = 3 by rw [roundE, if_pos (by omega)]]
    refine ret_pure (v' := V.tup [V.agg [V.nil], V.i (3 : Int)]) (.inr rfl) (by kernel_rfl) (by kernel_rfl) (by kernel_rfl)
  simp at c1
  have h6 : 64 < eltN r a := by
    have := roundE_ok (r := r) (a := a)
    omega
  have e6 : roundE r a = 6 := by rw [roundE, if_neg (by omega), if_pos h6]
  refine aw_skip ?_
  refine xt_n ?_
  refine hK _ ?_
  clear hK K
  refine aw_seq_k fun K hK => ?_
  refine w_region (n' := 4) (by kernel_rfl) (by kernel_rfl) ?_
  refine aops_n hTT (M := []) (n := 3) [pv (23 : Nat) (V.i r), pv (24 : Nat) (V.i a), pv (25 : Nat) (V.b up)] (by kernel_rfl) (by kernel_rfl) True.intro ?_
  refine e_call (first := []) (caps := []) (round_many r a up ⟨by omega, by omega⟩ ⟨by omega, by omega⟩ h6) (by kernel_rfl) (by kernel_rfl) (by kernel_rfl) (by kernel_rfl) (by kernel_rfl) ?_
  refine aops_n hTT (M := []) (n := 4) [pv (27 : Nat) (V.agg [V.nil]), pv (28 : Nat) (V.i (6 : Int)), pw ((0 : Nat) + (1 : Nat) ≤ (1 : Nat)) (100006 : Nat) (Ob.box (24 : Nat) [V.nil]), pv (7 : Nat) (V.i (6 : Int))] (by kernel_rfl) (by kernel_rfl) ⟨(by omega), True.intro⟩ ?_
  refine aops_nil ?_
  refine xt_n ?_
  refine hK _ ?_
  clear hK K
  refine aw_ret ?_
  rw [e6]
  refine ret_pure (v' := V.tup [V.agg [V.nil], V.i (6 : Int)]) (.inr rfl) (by kernel_rfl) (by kernel_rfl) (by kernel_rfl)
set_option maxRecDepth 100000 in
theorem refRound_ok (r a : Int) (up : Bool) (h : roundE r a = 0) : AC Try.prog 39 [.i r, .i a, .b up] (.tup [.agg [V.ints (eltL r a up)], .i 0]) [] := by
  obtain ⟨h1, h2, h3, h4, h5⟩ := roundE_ok.1 h
  have H := refround_ac r a up ⟨h1, h2⟩ ⟨h3, h4⟩
  have hl := eltL_len r a up
  rw [List.take_of_length_le (by omega)] at H
  refine ac_intro hTT hMX (fn := Try.f39) (N := _) ⟨Try.func39, rfl, Try.ntmps39, by kernel_rfl⟩ (by simp) fun C hC hF => ?_
  refine aw_seq_k fun K hK => ?_
  refine w_region (n' := 2) (by kernel_rfl) (by kernel_rfl) ?_
  refine aops_n hTT (M := []) (n := 2) [pn (6 : Nat) (V.ref (100006 : Nat) (0 : Nat)) (100006 : Nat) (Ob.box (24 : Nat) [V.nil]), pv (7 : Nat) (V.i (0 : Int))] (by kernel_rfl) (by kernel_rfl) True.intro ?_
  refine aops_nil ?_
  refine xt_n ?_
  refine hK _ ?_
  clear hK K
  refine aw_seq_k fun K hK => ?_
  refine aw_seq_k fun K hK => ?_
  refine w_region (n' := 3) (by kernel_rfl) (by kernel_rfl) ?_
  refine aops_n hTT (M := []) (n := 14) [pv (9 : Nat) (V.i r), pv (10 : Nat) (V.b (decide (r < (0 : Int)))), pv (11 : Nat) (V.b (decide (r < (0 : Int)))), pc (12 : Nat) ((True ∧ True) ∧ ((decide (r < (0 : Int)) == false) = true → True)) (V.gd (decide (r < (0 : Int)) == false) (V.i r)), pc (13 : Nat) ((((decide (r < (0 : Int)) == false) = true → (decide (r < (0 : Int)) == false) = true) ∧ True ∧ True) ∧ ((decide (r < (0 : Int)) == false) = true → True)) (V.gd (decide (r < (0 : Int)) == false) (V.b (decide ((1024 : Int) < r)))), pc (14 : Nat) (True ∧ (decide (r < (0 : Int)) = false → (decide (r < (0 : Int)) == false) = true)) (V.b (decide (r < (0 : Int)) || decide ((1024 : Int) < r))), pv (15 : Nat) (V.b (decide (r < (0 : Int)) || decide ((1024 : Int) < r))), pc (16 : Nat) ((True ∧ True) ∧ (((decide (r < (0 : Int)) || decide ((1024 : Int) < r)) == false) = true → True)) (V.gd ((decide (r < (0 : Int)) || decide ((1024 : Int) < r)) == false) (V.i a)), pc (17 : Nat) (((((decide (r < (0 : Int)) || decide ((1024 : Int) < r)) == false) = true → ((decide (r < (0 : Int)) || decide ((1024 : Int) < r)) == false) = true) ∧ True ∧ True) ∧ (((decide (r < (0 : Int)) || decide ((1024 : Int) < r)) == false) = true → True)) (V.gd ((decide (r < (0 : Int)) || decide ((1024 : Int) < r)) == false) (V.b (decide (a < (1 : Int))))), pc (18 : Nat) (True ∧ ((decide (r < (0 : Int)) || decide ((1024 : Int) < r)) = false → ((decide (r < (0 : Int)) || decide ((1024 : Int) < r)) == false) = true)) (V.b (decide (r < (0 : Int)) || decide ((1024 : Int) < r) || decide (a < (1 : Int)))), pv (19 : Nat) (V.b (decide (r < (0 : Int)) || decide ((1024 : Int) < r) || decide (a < (1 : Int)))), pc (20 : Nat) ((True ∧ True) ∧ (((decide (r < (0 : Int)) || decide ((1024 : Int) < r) || decide (a < (1 : Int))) == false) = true → True)) (V.gd ((decide (r < (0 : Int)) || decide ((1024 : Int) < r) || decide (a < (1 : Int))) == false) (V.i a)), pc (21 : Nat) (((((decide (r < (0 : Int)) || decide ((1024 : Int) < r) || decide (a < (1 : Int))) == false) = true → ((decide (r < (0 : Int)) || decide ((1024 : Int) < r) || decide (a < (1 : Int))) == false) = true) ∧ True ∧ True) ∧ (((decide (r < (0 : Int)) || decide ((1024 : Int) < r) || decide (a < (1 : Int))) == false) = true → True)) (V.gd ((decide (r < (0 : Int)) || decide ((1024 : Int) < r) || decide (a < (1 : Int))) == false) (V.b (decide ((4194304 : Int) < a)))), pc (22 : Nat) (True ∧ ((decide (r < (0 : Int)) || decide ((1024 : Int) < r) || decide (a < (1 : Int))) = false → ((decide (r < (0 : Int)) || decide ((1024 : Int) < r) || decide (a < (1 : Int))) == false) = true)) (V.b (decide (r < (0 : Int)) || decide ((1024 : Int) < r) || decide (a < (1 : Int)) || decide ((4194304 : Int) < a)))] (by kernel_rfl) (by kernel_rfl) ⟨⟨⟨True.intro, True.intro⟩, (fun _ => True.intro)⟩, ⟨⟨(by (exact fun h => h)), ⟨True.intro, True.intro⟩⟩, (fun _ => True.intro)⟩, ⟨True.intro, (by (intro h; rw [h]; rfl))⟩, ⟨⟨True.intro, True.intro⟩, (fun _ => True.intro)⟩, ⟨⟨(by (exact fun h => h)), ⟨True.intro, True.intro⟩⟩, (fun _ => True.intro)⟩, ⟨True.intro, (by (intro h; rw [h]; rfl))⟩, ⟨⟨True.intro, True.intro⟩, (fun _ => True.intro)⟩, ⟨⟨(by (exact fun h => h)), ⟨True.intro, True.intro⟩⟩, (fun _ => True.intro)⟩, ⟨True.intro, (by (intro h; rw [h]; rfl))⟩, True.intro⟩ ?_
  refine aops_nil ?_
  refine xt_n ?_
  refine hK _ ?_
  clear hK K
  refine w_cond (t := decide (r < (0 : Int)) || decide ((1024 : Int) < r) || decide (a < (1 : Int)) || decide ((4194304 : Int) < a)) (by kernel_rfl) (fun c1 => ?_) (fun c1 => ?_)
  · simp at c1
    omega
  refine aw_skip ?_
  refine xt_n ?_
  refine hK _ ?_
  clear hK K
  refine aw_seq_k fun K hK => ?_
  refine w_region (n' := 4) (by kernel_rfl) (by kernel_rfl) ?_
  refine aops_n hTT (M := []) (n := 3) [pv (24 : Nat) (V.i r), pv (25 : Nat) (V.i a), pv (26 : Nat) (V.b up)] (by kernel_rfl) (by kernel_rfl) True.intro ?_
  refine e_call (first := []) (caps := []) (H) (by kernel_rfl) (by kernel_rfl) (by kernel_rfl) (by kernel_rfl) (by kernel_rfl) ?_
  refine aops_n hTT (M := []) (n := 1) [pv (8 : Nat) (V.sl (1 : Nat) (List.length (eltL r a up)) fun (k : Nat) => [V.i (gi (eltL r a up) k)])] (by kernel_rfl) (by kernel_rfl) True.intro ?_
  refine aops_nil ?_
  refine xt_n ?_
  refine hK _ ?_
  clear hK K
  refine aw_seq_k fun K hK => ?_
  refine aw_seq_k fun K hK => ?_
  refine w_region (n' := 5) (by kernel_rfl) (by kernel_rfl) ?_
  refine aops_n hTT (M := []) (n := 3) [pv (28 : Nat) (V.sl (1 : Nat) (List.length (eltL r a up)) fun (k : Nat) => [V.i (gi (eltL r a up) k)]), pv (29 : Nat) (V.i (↑(List.length (eltL r a up)) : Int)), pv (30 : Nat) (V.b (decide ((64 : Int) < (↑(List.length (eltL r a up)) : Int))))] (by kernel_rfl) (by kernel_rfl) True.intro ?_
  refine aops_nil ?_
  refine xt_n ?_
  refine hK _ ?_
  clear hK K
  refine w_cond (t := decide ((64 : Int) < (↑(List.length (eltL r a up)) : Int))) (by kernel_rfl) (fun c2 => ?_) (fun c2 => ?_)
  · simp at c2
    omega
  refine aw_skip ?_
  refine xt_n ?_
  refine hK _ ?_
  clear hK K
  refine aw_seq_k fun K hK => ?_
  refine w_region (n' := 6) (by kernel_rfl) (by kernel_rfl) ?_
  refine aops_n hTT (M := []) (n := 4) [pv (32 : Nat) (V.sl (1 : Nat) (List.length (eltL r a up)) fun (k : Nat) => [V.i (gi (eltL r a up) k)]), pv (33 : Nat) (V.agg [V.sl (1 : Nat) (List.length (eltL r a up)) fun (k : Nat) => [V.i (gi (eltL r a up) k)]]), pw ((0 : Nat) + (1 : Nat) ≤ (1 : Nat)) (100006 : Nat) (Ob.box (24 : Nat) [V.sl (1 : Nat) (List.length (eltL r a up)) fun (k : Nat) => [V.i (gi (eltL r a up) k)]]), pv (7 : Nat) (V.i (0 : Int))] (by kernel_rfl) (by kernel_rfl) ⟨(by omega), True.intro⟩ ?_
  refine aops_nil ?_
  refine xt_n ?_
  refine hK _ ?_
  clear hK K
  refine aw_ret ?_
  refine ret_pure (v' := V.tup [V.agg [V.sl (1 : Nat) (List.length (eltL r a up)) fun (k : Nat) => [V.i (gi (eltL r a up) k)]], V.i (0 : Int)]) (.inr rfl) (by kernel_rfl) (by kernel_rfl) (by kernel_rfl)
set_option maxRecDepth 100000 in
theorem refRound_no (r a : Int) (up : Bool) (h : ¬ roundE r a = 0) : AC Try.prog 39 [.i r, .i a, .b up] (.tup [.agg [.nil], .i (roundE r a)]) [] := by
  refine ac_intro hTT hMX (fn := Try.f39) (N := _) ⟨Try.func39, rfl, Try.ntmps39, by kernel_rfl⟩ (by simp) fun C hC hF => ?_
  refine aw_seq_k fun K hK => ?_
  refine w_region (n' := 2) (by kernel_rfl) (by kernel_rfl) ?_
  refine aops_n hTT (M := []) (n := 2) [pn (6 : Nat) (V.ref (100006 : Nat) (0 : Nat)) (100006 : Nat) (Ob.box (24 : Nat) [V.nil]), pv (7 : Nat) (V.i (0 : Int))] (by kernel_rfl) (by kernel_rfl) True.intro ?_
  refine aops_nil ?_
  refine xt_n ?_
  refine hK _ ?_
  clear hK K
  refine aw_seq_k fun K hK => ?_
  refine aw_seq_k fun K hK => ?_
  refine w_region (n' := 3) (by kernel_rfl) (by kernel_rfl) ?_
  refine aops_n hTT (M := []) (n := 14) [pv (9 : Nat) (V.i r), pv (10 : Nat) (V.b (decide (r < (0 : Int)))), pv (11 : Nat) (V.b (decide (r < (0 : Int)))), pc (12 : Nat) ((True ∧ True) ∧ ((decide (r < (0 : Int)) == false) = true → True)) (V.gd (decide (r < (0 : Int)) == false) (V.i r)), pc (13 : Nat) ((((decide (r < (0 : Int)) == false) = true → (decide (r < (0 : Int)) == false) = true) ∧ True ∧ True) ∧ ((decide (r < (0 : Int)) == false) = true → True)) (V.gd (decide (r < (0 : Int)) == false) (V.b (decide ((1024 : Int) < r)))), pc (14 : Nat) (True ∧ (decide (r < (0 : Int)) = false → (decide (r < (0 : Int)) == false) = true)) (V.b (decide (r < (0 : Int)) || decide ((1024 : Int) < r))), pv (15 : Nat) (V.b (decide (r < (0 : Int)) || decide ((1024 : Int) < r))), pc (16 : Nat) ((True ∧ True) ∧ (((decide (r < (0 : Int)) || decide ((1024 : Int) < r)) == false) = true → True)) (V.gd ((decide (r < (0 : Int)) || decide ((1024 : Int) < r)) == false) (V.i a)), pc (17 : Nat) (((((decide (r < (0 : Int)) || decide ((1024 : Int) < r)) == false) = true → ((decide (r < (0 : Int)) || decide ((1024 : Int) < r)) == false) = true) ∧ True ∧ True) ∧ (((decide (r < (0 : Int)) || decide ((1024 : Int) < r)) == false) = true → True)) (V.gd ((decide (r < (0 : Int)) || decide ((1024 : Int) < r)) == false) (V.b (decide (a < (1 : Int))))), pc (18 : Nat) (True ∧ ((decide (r < (0 : Int)) || decide ((1024 : Int) < r)) = false → ((decide (r < (0 : Int)) || decide ((1024 : Int) < r)) == false) = true)) (V.b (decide (r < (0 : Int)) || decide ((1024 : Int) < r) || decide (a < (1 : Int)))), pv (19 : Nat) (V.b (decide (r < (0 : Int)) || decide ((1024 : Int) < r) || decide (a < (1 : Int)))), pc (20 : Nat) ((True ∧ True) ∧ (((decide (r < (0 : Int)) || decide ((1024 : Int) < r) || decide (a < (1 : Int))) == false) = true → True)) (V.gd ((decide (r < (0 : Int)) || decide ((1024 : Int) < r) || decide (a < (1 : Int))) == false) (V.i a)), pc (21 : Nat) (((((decide (r < (0 : Int)) || decide ((1024 : Int) < r) || decide (a < (1 : Int))) == false) = true → ((decide (r < (0 : Int)) || decide ((1024 : Int) < r) || decide (a < (1 : Int))) == false) = true) ∧ True ∧ True) ∧ (((decide (r < (0 : Int)) || decide ((1024 : Int) < r) || decide (a < (1 : Int))) == false) = true → True)) (V.gd ((decide (r < (0 : Int)) || decide ((1024 : Int) < r) || decide (a < (1 : Int))) == false) (V.b (decide ((4194304 : Int) < a)))), pc (22 : Nat) (True ∧ ((decide (r < (0 : Int)) || decide ((1024 : Int) < r) || decide (a < (1 : Int))) = false → ((decide (r < (0 : Int)) || decide ((1024 : Int) < r) || decide (a < (1 : Int))) == false) = true)) (V.b (decide (r < (0 : Int)) || decide ((1024 : Int) < r) || decide (a < (1 : Int)) || decide ((4194304 : Int) < a)))] (by kernel_rfl) (by kernel_rfl) ⟨⟨⟨True.intro, True.intro⟩, (fun _ => True.intro)⟩, ⟨⟨(by (exact fun h => h)), ⟨True.intro, True.intro⟩⟩, (fun _ => True.intro)⟩, ⟨True.intro, (by (intro h; rw [h]; rfl))⟩, ⟨⟨True.intro, True.intro⟩, (fun _ => True.intro)⟩, ⟨⟨(by (exact fun h => h)), ⟨True.intro, True.intro⟩⟩, (fun _ => True.intro)⟩, ⟨True.intro, (by (intro h; rw [h]; rfl))⟩, ⟨⟨True.intro, True.intro⟩, (fun _ => True.intro)⟩, ⟨⟨(by (exact fun h => h)), ⟨True.intro, True.intro⟩⟩, (fun _ => True.intro)⟩, ⟨True.intro, (by (intro h; rw [h]; rfl))⟩, True.intro⟩ ?_
  refine aops_nil ?_
  refine xt_n ?_
  refine hK _ ?_
  clear hK K
  refine w_cond (t := decide (r < (0 : Int)) || decide ((1024 : Int) < r) || decide (a < (1 : Int)) || decide ((4194304 : Int) < a)) (by kernel_rfl) (fun c1 => ?_) (fun c1 => ?_)
  · simp at c1
    refine aw_seq_k fun K hK => ?_
    refine w_region (n' := 4) (by kernel_rfl) (by kernel_rfl) ?_
    refine aops_n hTT (M := []) (n := 3) [pv (23 : Nat) (V.agg [V.nil]), pw ((0 : Nat) + (1 : Nat) ≤ (1 : Nat)) (100006 : Nat) (Ob.box (24 : Nat) [V.nil]), pv (7 : Nat) (V.i (3 : Int))] (by kernel_rfl) (by kernel_rfl) ⟨(by omega), True.intro⟩ ?_
    refine aops_nil ?_
    refine xt_n ?_
    refine hK _ ?_
    clear hK K
    refine aw_ret ?_
    refine xt_r ?_
    rw [show roundE r a = 3 by rw [roundE, if_pos (by omega)]]
    refine ret_pure (v' := V.tup [V.agg [V.nil], V.i (3 : Int)]) (.inr rfl) (by kernel_rfl) (by kernel_rfl) (by kernel_rfl)
  simp at c1
  have h6 : 64 < eltN r a := by
    have := roundE_ok (r := r) (a := a)
    omega
  have e6 : roundE r a = 6 := by rw [roundE, if_neg (by omega), if_pos h6]
  refine aw_skip ?_
  refine xt_n ?_
  refine hK _ ?_
  clear hK K
  refine aw_seq_k fun K hK => ?_
  refine w_region (n' := 4) (by kernel_rfl) (by kernel_rfl) ?_
  refine aops_n hTT (M := []) (n := 3) [pv (24 : Nat) (V.i r), pv (25 : Nat) (V.i a), pv (26 : Nat) (V.b up)] (by kernel_rfl) (by kernel_rfl) True.intro ?_
  refine e_call (first := []) (caps := []) (refround_ac r a up ⟨by omega, by omega⟩ ⟨by omega, by omega⟩) (by kernel_rfl) (by kernel_rfl) (by kernel_rfl) (by kernel_rfl) (by kernel_rfl) ?_
  have hl : ((eltL r a up).take 65).length = 65 := by rw [List.length_take, eltL_len]; omega
  refine aops_n hTT (M := []) (n := 1) [pv (8 : Nat) (V.sl (1 : Nat) (List.length (List.take (65 : Nat) (eltL r a up))) fun (k : Nat) => [V.i (gi (List.take (65 : Nat) (eltL r a up)) k)])] (by kernel_rfl) (by kernel_rfl) True.intro ?_
  refine aops_nil ?_
  refine xt_n ?_
  refine hK _ ?_
  clear hK K
  refine aw_seq_k fun K hK => ?_
  refine aw_seq_k fun K hK => ?_
  refine w_region (n' := 5) (by kernel_rfl) (by kernel_rfl) ?_
  refine aops_n hTT (M := []) (n := 3) [pv (28 : Nat) (V.sl (1 : Nat) (List.length (List.take (65 : Nat) (eltL r a up))) fun (k : Nat) => [V.i (gi (List.take (65 : Nat) (eltL r a up)) k)]), pv (29 : Nat) (V.i (↑(List.length (List.take (65 : Nat) (eltL r a up))) : Int)), pv (30 : Nat) (V.b (decide ((64 : Int) < (↑(List.length (List.take (65 : Nat) (eltL r a up))) : Int))))] (by kernel_rfl) (by kernel_rfl) True.intro ?_
  refine aops_nil ?_
  refine xt_n ?_
  refine hK _ ?_
  clear hK K
  refine w_cond (t := decide ((64 : Int) < (↑(List.length (List.take (65 : Nat) (eltL r a up))) : Int))) (by kernel_rfl) (fun c2 => ?_) (fun c2 => ?_)
  · refine aw_seq_k fun K hK => ?_
    refine w_region (n' := 6) (by kernel_rfl) (by kernel_rfl) ?_
    refine aops_n hTT (M := []) (n := 3) [pv (31 : Nat) (V.agg [V.nil]), pw ((0 : Nat) + (1 : Nat) ≤ (1 : Nat)) (100006 : Nat) (Ob.box (24 : Nat) [V.nil]), pv (7 : Nat) (V.i (6 : Int))] (by kernel_rfl) (by kernel_rfl) ⟨(by omega), True.intro⟩ ?_
    refine aops_nil ?_
    refine xt_n ?_
    refine hK _ ?_
    clear hK K
    refine aw_ret ?_
    refine xt_r ?_
    rw [e6]
    refine ret_pure (v' := V.tup [V.agg [V.nil], V.i (6 : Int)]) (.inr rfl) (by kernel_rfl) (by kernel_rfl) (by kernel_rfl)
  rw [hl] at c2
  simp at c2
end Go.Proofs.Ytlfaaddoemcokaa
