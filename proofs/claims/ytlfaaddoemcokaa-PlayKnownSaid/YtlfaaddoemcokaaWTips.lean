/-
  PlayTips: the walk of the law. No condition.
-/
import Derived.Test.YtlfaaddoemcokaaPAb22
import Derived.Test.YtlfaaddoemcokaaPAb9
import Derived.Test.YtlfaaddoemcokaaPC
import Derived.Test.YtlfaaddoemcokaaMC
namespace Go.Proofs.Ytlfaaddoemcokaa
open Go.Ab Go.RowKit Go.Dw Go.Shelf

set_option maxRecDepth 100000 in
theorem shapes_same (l : List Int) (hl : l.length ≤ 4611686018427387904) : AC Try.prog 42 [V.ints l, V.ints l] (.b true) [] := by
  refine ac_intro hTT hMX (fn := Try.f42) (N := _) ⟨Try.func42, rfl, Try.ntmps42, by kernel_rfl⟩ (by simp) fun C hC hF => ?_
  refine aw_seq_k fun K hK => ?_
  refine w_region (n' := 2) (by kernel_rfl) (by kernel_rfl) ?_
  refine aops_n hTT (M := []) (n := 1) [pv (4 : Nat) (V.b false)] (by kernel_rfl) (by kernel_rfl) True.intro ?_
  refine aops_nil ?_
  refine xt_n ?_
  refine hK _ ?_
  clear hK K
  refine aw_seq_k fun K hK => ?_
  refine aw_seq_k fun K hK => ?_
  refine w_region (n' := 3) (by kernel_rfl) (by kernel_rfl) ?_
  refine aops_n hTT (M := []) (n := 5) [pv (6 : Nat) (V.sl (1 : Nat) (List.length l) fun (k : Nat) => [V.i (gi l k)]), pv (7 : Nat) (V.i (↑(List.length l) : Int)), pv (8 : Nat) (V.sl (1 : Nat) (List.length l) fun (k : Nat) => [V.i (gi l k)]), pv (9 : Nat) (V.i (↑(List.length l) : Int)), pv (10 : Nat) (V.b !decide ((↑(List.length l) : Int) = (↑(List.length l) : Int)))] (by kernel_rfl) (by kernel_rfl) True.intro ?_
  refine aops_nil ?_
  refine xt_n ?_
  refine hK _ ?_
  clear hK K
  refine w_cond (t := !decide ((↑(List.length l) : Int) = (↑(List.length l) : Int))) (by kernel_rfl) (fun c1 => ?_) (fun c1 => ?_)
  · simp at c1
  refine aw_skip ?_
  refine xt_n ?_
  refine hK _ ?_
  clear hK K
  refine aw_seq_k fun K hK => ?_
  refine aw_seq_k fun K hK => ?_
  refine w_region (n' := 4) (by kernel_rfl) (by kernel_rfl) ?_
  refine aops_n hTT (M := []) (n := 1) [pv (5 : Nat) (V.i (0 : Int))] (by kernel_rfl) (by kernel_rfl) True.intro ?_
  refine aops_nil ?_
  refine xt_n ?_
  refine hK _ ?_
  clear hK K
  refine aw_block ?_
  refine w_loop (ι := Nat) (fun k => [(0, V.ints l), (1, V.ints l), (5, .i k)]) (fun _ => []) (fun k => k ≤ l.length) (fun k => l.length - k) 0 (by omega) ?_ ?_
  · refine le_ren [] (.cons (by kernel_rfl) (.cons (by kernel_rfl) (.cons (by kernel_rfl) .nil))) .nil (by kernel_rfl) (by kernel_rfl)
  intro k hk
  refine aw_seq_k fun K hK => ?_
  refine aw_seq_k fun K hK => ?_
  refine w_region (n' := 2) (by kernel_rfl) (by kernel_rfl) ?_
  refine aops_n hTT (M := []) (n := 4) [pv (11 : Nat) (V.i (↑k : Int)), pv (12 : Nat) (V.sl (1 : Nat) (List.length l) fun (k : Nat) => [V.i (gi l k)]), pv (13 : Nat) (V.i (↑(List.length l) : Int)), pv (14 : Nat) (V.b (decide ((↑k : Int) < (↑(List.length l) : Int))))] (by kernel_rfl) (by kernel_rfl) True.intro ?_
  refine aops_nil ?_
  refine xt_n ?_
  refine hK _ ?_
  clear hK K
  refine w_cond (t := decide ((↑k : Int) < (↑(List.length l) : Int))) (by kernel_rfl) (fun c2 => ?_) (fun c2 => ?_)
  · simp at c2
    refine aw_skip ?_
    refine xt_n ?_
    refine hK _ ?_
    clear hK K
    refine aw_seq_k fun K hK => ?_
    refine aw_block ?_
    refine aw_seq_k fun K hK => ?_
    refine w_regionD (n' := 3) (by kernel_rfl) (by kernel_rfl) ?_
    refine aops_n hTT (M := []) (n := 9) [pv (17 : Nat) (V.sl (1 : Nat) (List.length l) fun (k : Nat) => [V.i (gi l k)]), pv (18 : Nat) (V.i (↑k : Int)), pc (19 : Nat) ((0 : Int) ≤ (↑k : Int) ∧ (↑k : Int) < (↑(List.length l) : Int)) (V.ptr [V.i (gi l k)]), pv (20 : Nat) (V.i (gi l k)), pv (21 : Nat) (V.sl (1 : Nat) (List.length l) fun (k : Nat) => [V.i (gi l k)]), pv (22 : Nat) (V.i (↑k : Int)), pc (23 : Nat) ((0 : Int) ≤ (↑k : Int) ∧ (↑k : Int) < (↑(List.length l) : Int)) (V.ptr [V.i (gi l k)]), pv (24 : Nat) (V.i (gi l k)), pv (25 : Nat) (V.b !decide (gi l k = gi l k))] (by kernel_rfl) (by kernel_rfl) ⟨(by omega), (by omega), True.intro⟩ ?_
    refine aops_nil ⟨by kernel_rfl, ?_⟩
    refine xt_n ?_
    refine hK _ ?_
    clear hK K
    refine w_cond (t := !decide (gi l k = gi l k)) (by kernel_rfl) (fun c3 => ?_) (fun c3 => ?_)
    · simp at c3
    · refine aw_skip ?_
      refine xb_n ?_
      refine xt_n ?_
      refine hK _ ?_
      clear hK K
      refine w_region (n' := 4) (by kernel_rfl) (by kernel_rfl) ?_
      refine aops_n hTT (M := []) (n := 3) [pv (15 : Nat) (V.i (↑k : Int)), pc (16 : Nat) ((-9223372036854775808 : Int) ≤ (↑k : Int) + (1 : Int) ∧ (↑k : Int) + (1 : Int) ≤ (9223372036854775807 : Int)) (V.i ((↑k : Int) + (1 : Int))), pv (5 : Nat) (V.i ((↑k : Int) + (1 : Int)))] (by kernel_rfl) (by kernel_rfl) ⟨(by omega), True.intro⟩ ?_
      refine aops_nil ?_
      refine xt_n ?_
      exact ⟨k + 1, by omega, by refine le_ren [] (.cons (by kernel_rfl) (.cons (by kernel_rfl) (.cons (by kernel_rfl) .nil))) .nil (by kernel_rfl) (by kernel_rfl), by omega⟩
  · refine aw_exit ?_
    refine xt_x ?_
    refine xt_x ?_
    refine xb_same ?_
    refine xt_n ?_
    clear hK K
    refine hK _ ?_
    clear hK K
    refine aw_seq_k fun K hK => ?_
    refine w_region (n' := 3) (by kernel_rfl) (by kernel_rfl) ?_
    refine aops_n hTT (M := []) (n := 1) [pv (4 : Nat) (V.b true)] (by kernel_rfl) (by kernel_rfl) True.intro ?_
    refine aops_nil ?_
    refine xt_n ?_
    refine hK _ ?_
    clear hK K
    refine aw_ret ?_
    refine ret_pure (v' := V.b true) (.inr rfl) (by kernel_rfl) (by kernel_rfl) (by kernel_rfl)
set_option maxRecDepth 100000 in
theorem shapes_nil : AC Try.prog 42 [.nil, .nil] (.b true) [] := by
  refine ac_intro hTT hMX (fn := Try.f42) (N := _) ⟨Try.func42, rfl, Try.ntmps42, by kernel_rfl⟩ (by simp) fun C hC hF => ?_
  refine aw_seq_k fun K hK => ?_
  refine w_region (n' := 2) (by kernel_rfl) (by kernel_rfl) ?_
  refine aops_n hTT (M := []) (n := 1) [pv (4 : Nat) (V.b false)] (by kernel_rfl) (by kernel_rfl) True.intro ?_
  refine aops_nil ?_
  refine xt_n ?_
  refine hK _ ?_
  clear hK K
  refine aw_seq_k fun K hK => ?_
  refine aw_seq_k fun K hK => ?_
  refine w_region (n' := 3) (by kernel_rfl) (by kernel_rfl) ?_
  refine aops_n hTT (M := []) (n := 5) [pv (6 : Nat) V.nil, pv (7 : Nat) (V.i (0 : Int)), pv (8 : Nat) V.nil, pv (9 : Nat) (V.i (0 : Int)), pv (10 : Nat) (V.b false)] (by kernel_rfl) (by kernel_rfl) True.intro ?_
  refine aops_nil ?_
  refine xt_n ?_
  refine hK _ ?_
  clear hK K
  refine w_false (t := false) (by kernel_rfl) rfl ?_
  refine aw_skip ?_
  refine xt_n ?_
  refine hK _ ?_
  clear hK K
  refine aw_seq_k fun K hK => ?_
  refine aw_seq_k fun K hK => ?_
  refine w_region (n' := 4) (by kernel_rfl) (by kernel_rfl) ?_
  refine aops_n hTT (M := []) (n := 1) [pv (5 : Nat) (V.i (0 : Int))] (by kernel_rfl) (by kernel_rfl) True.intro ?_
  refine aops_nil ?_
  refine xt_n ?_
  refine hK _ ?_
  clear hK K
  refine aw_block ?_
  refine w_loop (ι := Nat) (fun _ => [(0, .nil), (1, .nil), (5, .i 0)]) (fun _ => []) (fun _ => True) (fun _ => 0) 0 True.intro ?_ ?_
  · refine le_ren [] (.cons (by kernel_rfl) (.cons (by kernel_rfl) (.cons (by kernel_rfl) .nil))) .nil (by kernel_rfl) (by kernel_rfl)
  intro k _
  refine aw_seq_k fun K hK => ?_
  refine aw_seq_k fun K hK => ?_
  refine w_region (n' := 2) (by kernel_rfl) (by kernel_rfl) ?_
  refine aops_n hTT (M := []) (n := 4) [pv (11 : Nat) (V.i (0 : Int)), pv (12 : Nat) V.nil, pv (13 : Nat) (V.i (0 : Int)), pv (14 : Nat) (V.b false)] (by kernel_rfl) (by kernel_rfl) True.intro ?_
  refine aops_nil ?_
  refine xt_n ?_
  refine hK _ ?_
  clear hK K
  refine w_false (t := false) (by kernel_rfl) rfl ?_
  refine aw_exit ?_
  refine xt_x ?_
  refine xt_x ?_
  refine xb_same ?_
  refine xt_n ?_
  clear hK K
  refine hK _ ?_
  clear hK K
  refine aw_seq_k fun K hK => ?_
  refine w_region (n' := 3) (by kernel_rfl) (by kernel_rfl) ?_
  refine aops_n hTT (M := []) (n := 1) [pv (4 : Nat) (V.b true)] (by kernel_rfl) (by kernel_rfl) True.intro ?_
  refine aops_nil ?_
  refine xt_n ?_
  refine hK _ ?_
  clear hK K
  refine aw_ret ?_
  refine ret_pure (v' := V.b true) (.inr rfl) (by kernel_rfl) (by kernel_rfl) (by kernel_rfl)
set_option maxRecDepth 100000 in
theorem tips_ac (t : List Int) (r a : Int) (up : Bool) (ht : t.length ≤ 4611686018427387904) : AC Try.prog 10 [.agg [V.ints t], .i r, .i a, .b up] (.b true) [] := by
  refine ac_intro hTT hMX (fn := Try.f10) (N := _) ⟨Try.func10, rfl, Try.ntmps10, by kernel_rfl⟩ (by simp) fun C hC hF => ?_
  refine aw_seq_k fun K hK => ?_
  refine w_region (n' := 2) (by kernel_rfl) (by kernel_rfl) ?_
  refine aops_n hTT (M := []) (n := 2) [pv (4 : Nat) (V.ptr [V.sl (1 : Nat) (List.length t) fun (k : Nat) => [V.i (gi t k)]]), pv (8 : Nat) (V.b false)] (by kernel_rfl) (by kernel_rfl) True.intro ?_
  refine aops_nil ?_
  refine xt_n ?_
  refine hK _ ?_
  clear hK K
  refine aw_seq_k fun K hK => ?_
  refine aw_seq_k fun K hK => ?_
  refine w_region (n' := 3) (by kernel_rfl) (by kernel_rfl) ?_
  refine aops_n hTT (M := []) (n := 4) [pv (13 : Nat) (V.ptr [V.sl (1 : Nat) (List.length t) fun (k : Nat) => [V.i (gi t k)]]), pv (14 : Nat) (V.sl (1 : Nat) (List.length t) fun (k : Nat) => [V.i (gi t k)]), pv (15 : Nat) (V.i (↑(List.length t) : Int)), pv (16 : Nat) (V.b (decide ((80 : Int) < (↑(List.length t) : Int))))] (by kernel_rfl) (by kernel_rfl) True.intro ?_
  refine aops_nil ?_
  refine xt_n ?_
  refine hK _ ?_
  clear hK K
  refine w_cond (t := decide ((80 : Int) < (↑(List.length t) : Int))) (by kernel_rfl) (fun c1 => ?_) (fun c1 => ?_)
  · refine aw_seq_k fun K hK => ?_
    refine w_region (n' := 4) (by kernel_rfl) (by kernel_rfl) ?_
    refine e_call (first := []) (caps := []) (works_ac) (by kernel_rfl) (by kernel_rfl) (by kernel_rfl) (by kernel_rfl) (by kernel_rfl) ?_
    refine aops_n hTT (M := []) (n := 1) [pv (8 : Nat) (V.b true)] (by kernel_rfl) (by kernel_rfl) True.intro ?_
    refine aops_nil ?_
    refine xt_n ?_
    refine hK _ ?_
    clear hK K
    refine aw_ret ?_
    refine xt_r ?_
    refine ret_pure (v' := V.b true) (.inr rfl) (by kernel_rfl) (by kernel_rfl) (by kernel_rfl)
  by_cases h : roundE r a = 0
  · refine aw_skip ?_
    refine xt_n ?_
    refine hK _ ?_
    clear hK K
    refine aw_seq_k fun K hK => ?_
    refine w_region (n' := 4) (by kernel_rfl) (by kernel_rfl) ?_
    refine aops_n hTT (M := []) (n := 3) [pv (19 : Nat) (V.i r), pv (20 : Nat) (V.i a), pv (21 : Nat) (V.b up)] (by kernel_rfl) (by kernel_rfl) True.intro ?_
    refine e_call (first := []) (caps := []) (Round_ok r a up h) (by kernel_rfl) (by kernel_rfl) (by kernel_rfl) (by kernel_rfl) (by kernel_rfl) ?_
    refine aops_n hTT (M := []) (n := 6) [pv (18 : Nat) (V.tup [V.agg [V.sl (1 : Nat) (List.length (eltL r a up)) fun (k : Nat) => [V.i (gi (eltL r a up) k)]], V.i (0 : Int)]), pv (23 : Nat) (V.agg [V.sl (1 : Nat) (List.length (eltL r a up)) fun (k : Nat) => [V.i (gi (eltL r a up) k)]]), pv (24 : Nat) (V.i (0 : Int)), pn (9 : Nat) (V.ref (300009 : Nat) (0 : Nat)) (300009 : Nat) (Ob.box (24 : Nat) [V.nil]), pw ((0 : Nat) + (1 : Nat) ≤ (1 : Nat)) (300009 : Nat) (Ob.box (24 : Nat) [V.sl (1 : Nat) (List.length (eltL r a up)) fun (k : Nat) => [V.i (gi (eltL r a up) k)]]), pv (10 : Nat) (V.i (0 : Int))] (by kernel_rfl) (by kernel_rfl) ⟨(by omega), True.intro⟩ ?_
    refine aops_nil ?_
    refine xt_n ?_
    refine hK _ ?_
    clear hK K
    refine aw_seq_k fun K hK => ?_
    refine w_region (n' := 5) (by kernel_rfl) (by kernel_rfl) ?_
    refine aops_n hTT (M := []) (n := 3) [pv (26 : Nat) (V.i r), pv (27 : Nat) (V.i a), pv (28 : Nat) (V.b up)] (by kernel_rfl) (by kernel_rfl) True.intro ?_
    refine e_call (first := []) (caps := []) (refRound_ok r a up h) (by kernel_rfl) (by kernel_rfl) (by kernel_rfl) (by kernel_rfl) (by kernel_rfl) ?_
    refine aops_n hTT (M := []) (n := 6) [pv (25 : Nat) (V.tup [V.agg [V.sl (1 : Nat) (List.length (eltL r a up)) fun (k : Nat) => [V.i (gi (eltL r a up) k)]], V.i (0 : Int)]), pv (30 : Nat) (V.agg [V.sl (1 : Nat) (List.length (eltL r a up)) fun (k : Nat) => [V.i (gi (eltL r a up) k)]]), pv (31 : Nat) (V.i (0 : Int)), pn (11 : Nat) (V.ref (400011 : Nat) (0 : Nat)) (400011 : Nat) (Ob.box (24 : Nat) [V.nil]), pw ((0 : Nat) + (1 : Nat) ≤ (1 : Nat)) (400011 : Nat) (Ob.box (24 : Nat) [V.sl (1 : Nat) (List.length (eltL r a up)) fun (k : Nat) => [V.i (gi (eltL r a up) k)]]), pv (12 : Nat) (V.i (0 : Int))] (by kernel_rfl) (by kernel_rfl) ⟨(by omega), True.intro⟩ ?_
    refine aops_nil ?_
    refine xt_n ?_
    refine hK _ ?_
    clear hK K
    refine aw_seq_k fun K hK => ?_
    refine w_regionD (n' := 6) (by kernel_rfl) (by kernel_rfl) ?_
    refine aops_n hTT (M := []) (n := 1) [pv (32 : Nat) (V.agg [V.sl (1 : Nat) (List.length t) fun (k : Nat) => [V.i (gi t k)]])] (by kernel_rfl) (by kernel_rfl) True.intro ?_
    refine e_call (first := []) (caps := []) (checkTip_ac t ht) (by kernel_rfl) (by kernel_rfl) (by kernel_rfl) (by kernel_rfl) (by kernel_rfl) ?_
    refine aops_n hTT (M := []) (n := 1) [pv (34 : Nat) (V.agg [V.sl (1 : Nat) (List.length t) fun (k : Nat) => [V.i (gi t k)]])] (by kernel_rfl) (by kernel_rfl) True.intro ?_
    refine e_call (first := []) (caps := []) (refCheckTip_ac t ht) (by kernel_rfl) (by kernel_rfl) (by kernel_rfl) (by kernel_rfl) (by kernel_rfl) ?_
    refine aops_n hTT (M := []) (n := 11) [pv (36 : Nat) (V.b (decide (checkTip t = checkTip t))), pv (37 : Nat) (V.b (decide (checkTip t = checkTip t))), pc (38 : Nat) ((True ∧ True) ∧ ((decide (checkTip t = checkTip t) == true) = true → True)) (V.gd (decide (checkTip t = checkTip t) == true) (V.i (0 : Int))), pc (39 : Nat) ((True ∧ True) ∧ ((decide (checkTip t = checkTip t) == true) = true → True)) (V.gd (decide (checkTip t = checkTip t) == true) (V.i (0 : Int))), pc (40 : Nat) ((((decide (checkTip t = checkTip t) == true) = true → (decide (checkTip t = checkTip t) == true) = true) ∧ ((decide (checkTip t = checkTip t) == true) = true → (decide (checkTip t = checkTip t) == true) = true) ∧ True) ∧ ((decide (checkTip t = checkTip t) == true) = true → True)) (V.gd (decide (checkTip t = checkTip t) == true) (V.b true)), pc (41 : Nat) ((decide (checkTip t = checkTip t) = true → (decide (checkTip t = checkTip t) == true) = true) ∧ True) (V.b (decide (checkTip t = checkTip t) && true)), pv (42 : Nat) (V.b (decide (checkTip t = checkTip t) && true)), pc (43 : Nat) ((True ∧ True) ∧ (((decide (checkTip t = checkTip t) && true) == true) = true → True)) (V.gd ((decide (checkTip t = checkTip t) && true) == true) (V.ref (300009 : Nat) (0 : Nat))), pc (44 : Nat) (((((decide (checkTip t = checkTip t) && true) == true) = true → ((decide (checkTip t = checkTip t) && true) == true) = true) ∧ True) ∧ (((decide (checkTip t = checkTip t) && true) == true) = true → (0 : Nat) ≤ (1 : Nat))) (V.gd ((decide (checkTip t = checkTip t) && true) == true) (V.sl (1 : Nat) (List.length (eltL r a up)) fun (k : Nat) => [V.i (gi (eltL r a up) k)])), pc (45 : Nat) ((True ∧ True) ∧ (((decide (checkTip t = checkTip t) && true) == true) = true → True)) (V.gd ((decide (checkTip t = checkTip t) && true) == true) (V.ref (400011 : Nat) (0 : Nat))), pc (46 : Nat) (((((decide (checkTip t = checkTip t) && true) == true) = true → ((decide (checkTip t = checkTip t) && true) == true) = true) ∧ True) ∧ (((decide (checkTip t = checkTip t) && true) == true) = true → (0 : Nat) ≤ (1 : Nat))) (V.gd ((decide (checkTip t = checkTip t) && true) == true) (V.sl (1 : Nat) (List.length (eltL r a up)) fun (k : Nat) => [V.i (gi (eltL r a up) k)]))] (by kernel_rfl) (by kernel_rfl) ⟨⟨⟨True.intro, True.intro⟩, (fun _ => True.intro)⟩, ⟨⟨True.intro, True.intro⟩, (fun _ => True.intro)⟩, ⟨⟨(by (exact fun h => h)), ⟨(by (exact fun h => h)), True.intro⟩⟩, (fun _ => True.intro)⟩, ⟨(by (intro h; rw [h]; rfl)), True.intro⟩, ⟨⟨True.intro, True.intro⟩, (fun _ => True.intro)⟩, ⟨⟨(by (exact fun h => h)), True.intro⟩, (by (simp only [inR]; omega))⟩, ⟨⟨True.intro, True.intro⟩, (fun _ => True.intro)⟩, ⟨⟨(by (exact fun h => h)), True.intro⟩, (by (simp only [inR]; omega))⟩, True.intro⟩ ?_
    refine e_callG 2 (g := (decide (checkTip t = checkTip t) && true) == true) (first := []) (caps := []) (by kernel_rfl) (fun _ => shapes_same (eltL r a up) (by have := (roundE_ok.1 h).2.2.2.2; rw [eltL_len]; omega)) (by kernel_rfl) (by kernel_rfl) (by kernel_rfl) (by kernel_rfl) (by kernel_rfl) (by kernel_rfl) ?_
    refine aops_n hTT (M := []) (n := 2) [pc (48 : Nat) (((decide (checkTip t = checkTip t) && true) = true → ((decide (checkTip t = checkTip t) && true) == true) = true) ∧ True) (V.b (decide (checkTip t = checkTip t) && true && true)), pv (49 : Nat) (V.b (decide (checkTip t = checkTip t) && true && true))] (by kernel_rfl) (by kernel_rfl) ⟨⟨(by (intro h; rw [h]; rfl)), True.intro⟩, True.intro⟩ ?_
    refine e_callG 0 (g := (decide (checkTip t = checkTip t) && true && true) == true) (first := []) (caps := []) (by kernel_rfl) (fun _ => works_ac) (by kernel_rfl) (by kernel_rfl) (by kernel_rfl) (by kernel_rfl) (by kernel_rfl) (by kernel_rfl) ?_
    refine aops_n hTT (M := []) (n := 2) [pc (51 : Nat) (((decide (checkTip t = checkTip t) && true && true) = true → ((decide (checkTip t = checkTip t) && true && true) == true) = true) ∧ True) (V.b (decide (checkTip t = checkTip t) && true && true && true)), pv (8 : Nat) (V.b (decide (checkTip t = checkTip t) && true && true && true))] (by kernel_rfl) (by kernel_rfl) ⟨⟨(by (intro h; rw [h]; rfl)), True.intro⟩, True.intro⟩ ?_
    refine aops_nil ⟨by kernel_rfl, ?_⟩
    refine xt_n ?_
    refine hK _ ?_
    clear hK K
    refine aw_ret ?_
    refine ret_pure (v' := V.b (decide (checkTip t = checkTip t) && true && true && true)) (.inr rfl) (by kernel_rfl) ?_ (by kernel_rfl)
    simp
  · refine aw_skip ?_
    refine xt_n ?_
    refine hK _ ?_
    clear hK K
    refine aw_seq_k fun K hK => ?_
    refine w_region (n' := 4) (by kernel_rfl) (by kernel_rfl) ?_
    refine aops_n hTT (M := []) (n := 3) [pv (19 : Nat) (V.i r), pv (20 : Nat) (V.i a), pv (21 : Nat) (V.b up)] (by kernel_rfl) (by kernel_rfl) True.intro ?_
    refine e_call (first := []) (caps := []) (Round_no r a up h) (by kernel_rfl) (by kernel_rfl) (by kernel_rfl) (by kernel_rfl) (by kernel_rfl) ?_
    refine aops_n hTT (M := []) (n := 6) [pv (18 : Nat) (V.tup [V.agg [V.nil], V.i (roundE r a)]), pv (23 : Nat) (V.agg [V.nil]), pv (24 : Nat) (V.i (roundE r a)), pn (9 : Nat) (V.ref (300009 : Nat) (0 : Nat)) (300009 : Nat) (Ob.box (24 : Nat) [V.nil]), pw ((0 : Nat) + (1 : Nat) ≤ (1 : Nat)) (300009 : Nat) (Ob.box (24 : Nat) [V.nil]), pv (10 : Nat) (V.i (roundE r a))] (by kernel_rfl) (by kernel_rfl) ⟨(by omega), True.intro⟩ ?_
    refine aops_nil ?_
    refine xt_n ?_
    refine hK _ ?_
    clear hK K
    refine aw_seq_k fun K hK => ?_
    refine w_region (n' := 5) (by kernel_rfl) (by kernel_rfl) ?_
    refine aops_n hTT (M := []) (n := 3) [pv (26 : Nat) (V.i r), pv (27 : Nat) (V.i a), pv (28 : Nat) (V.b up)] (by kernel_rfl) (by kernel_rfl) True.intro ?_
    refine e_call (first := []) (caps := []) (refRound_no r a up h) (by kernel_rfl) (by kernel_rfl) (by kernel_rfl) (by kernel_rfl) (by kernel_rfl) ?_
    refine aops_n hTT (M := []) (n := 6) [pv (25 : Nat) (V.tup [V.agg [V.nil], V.i (roundE r a)]), pv (30 : Nat) (V.agg [V.nil]), pv (31 : Nat) (V.i (roundE r a)), pn (11 : Nat) (V.ref (400011 : Nat) (0 : Nat)) (400011 : Nat) (Ob.box (24 : Nat) [V.nil]), pw ((0 : Nat) + (1 : Nat) ≤ (1 : Nat)) (400011 : Nat) (Ob.box (24 : Nat) [V.nil]), pv (12 : Nat) (V.i (roundE r a))] (by kernel_rfl) (by kernel_rfl) ⟨(by omega), True.intro⟩ ?_
    refine aops_nil ?_
    refine xt_n ?_
    refine hK _ ?_
    clear hK K
    refine aw_seq_k fun K hK => ?_
    refine w_regionD (n' := 6) (by kernel_rfl) (by kernel_rfl) ?_
    refine aops_n hTT (M := []) (n := 1) [pv (32 : Nat) (V.agg [V.sl (1 : Nat) (List.length t) fun (k : Nat) => [V.i (gi t k)]])] (by kernel_rfl) (by kernel_rfl) True.intro ?_
    refine e_call (first := []) (caps := []) (checkTip_ac t ht) (by kernel_rfl) (by kernel_rfl) (by kernel_rfl) (by kernel_rfl) (by kernel_rfl) ?_
    refine aops_n hTT (M := []) (n := 1) [pv (34 : Nat) (V.agg [V.sl (1 : Nat) (List.length t) fun (k : Nat) => [V.i (gi t k)]])] (by kernel_rfl) (by kernel_rfl) True.intro ?_
    refine e_call (first := []) (caps := []) (refCheckTip_ac t ht) (by kernel_rfl) (by kernel_rfl) (by kernel_rfl) (by kernel_rfl) (by kernel_rfl) ?_
    refine aops_n hTT (M := []) (n := 11) [pv (36 : Nat) (V.b (decide (checkTip t = checkTip t))), pv (37 : Nat) (V.b (decide (checkTip t = checkTip t))), pc (38 : Nat) ((True ∧ True) ∧ ((decide (checkTip t = checkTip t) == true) = true → True)) (V.gd (decide (checkTip t = checkTip t) == true) (V.i (roundE r a))), pc (39 : Nat) ((True ∧ True) ∧ ((decide (checkTip t = checkTip t) == true) = true → True)) (V.gd (decide (checkTip t = checkTip t) == true) (V.i (roundE r a))), pc (40 : Nat) ((((decide (checkTip t = checkTip t) == true) = true → (decide (checkTip t = checkTip t) == true) = true) ∧ ((decide (checkTip t = checkTip t) == true) = true → (decide (checkTip t = checkTip t) == true) = true) ∧ True) ∧ ((decide (checkTip t = checkTip t) == true) = true → True)) (V.gd (decide (checkTip t = checkTip t) == true) (V.b (decide (roundE r a = roundE r a)))), pc (41 : Nat) ((decide (checkTip t = checkTip t) = true → (decide (checkTip t = checkTip t) == true) = true) ∧ True) (V.b (decide (checkTip t = checkTip t) && decide (roundE r a = roundE r a))), pv (42 : Nat) (V.b (decide (checkTip t = checkTip t) && decide (roundE r a = roundE r a))), pc (43 : Nat) ((True ∧ True) ∧ (((decide (checkTip t = checkTip t) && decide (roundE r a = roundE r a)) == true) = true → True)) (V.gd ((decide (checkTip t = checkTip t) && decide (roundE r a = roundE r a)) == true) (V.ref (300009 : Nat) (0 : Nat))), pc (44 : Nat) (((((decide (checkTip t = checkTip t) && decide (roundE r a = roundE r a)) == true) = true → ((decide (checkTip t = checkTip t) && decide (roundE r a = roundE r a)) == true) = true) ∧ True) ∧ (((decide (checkTip t = checkTip t) && decide (roundE r a = roundE r a)) == true) = true → (0 : Nat) ≤ (1 : Nat))) (V.gd ((decide (checkTip t = checkTip t) && decide (roundE r a = roundE r a)) == true) V.nil), pc (45 : Nat) ((True ∧ True) ∧ (((decide (checkTip t = checkTip t) && decide (roundE r a = roundE r a)) == true) = true → True)) (V.gd ((decide (checkTip t = checkTip t) && decide (roundE r a = roundE r a)) == true) (V.ref (400011 : Nat) (0 : Nat))), pc (46 : Nat) (((((decide (checkTip t = checkTip t) && decide (roundE r a = roundE r a)) == true) = true → ((decide (checkTip t = checkTip t) && decide (roundE r a = roundE r a)) == true) = true) ∧ True) ∧ (((decide (checkTip t = checkTip t) && decide (roundE r a = roundE r a)) == true) = true → (0 : Nat) ≤ (1 : Nat))) (V.gd ((decide (checkTip t = checkTip t) && decide (roundE r a = roundE r a)) == true) V.nil)] (by kernel_rfl) (by kernel_rfl) ⟨⟨⟨True.intro, True.intro⟩, (fun _ => True.intro)⟩, ⟨⟨True.intro, True.intro⟩, (fun _ => True.intro)⟩, ⟨⟨(by (exact fun h => h)), ⟨(by (exact fun h => h)), True.intro⟩⟩, (fun _ => True.intro)⟩, ⟨(by (intro h; rw [h]; rfl)), True.intro⟩, ⟨⟨True.intro, True.intro⟩, (fun _ => True.intro)⟩, ⟨⟨(by (exact fun h => h)), True.intro⟩, (by (simp only [inR]; omega))⟩, ⟨⟨True.intro, True.intro⟩, (fun _ => True.intro)⟩, ⟨⟨(by (exact fun h => h)), True.intro⟩, (by (simp only [inR]; omega))⟩, True.intro⟩ ?_
    refine e_callG 2 (g := (decide (checkTip t = checkTip t) && decide (roundE r a = roundE r a)) == true) (first := []) (caps := []) (by kernel_rfl) (fun _ => shapes_nil) (by kernel_rfl) (by kernel_rfl) (by kernel_rfl) (by kernel_rfl) (by kernel_rfl) (by kernel_rfl) ?_
    refine aops_n hTT (M := []) (n := 2) [pc (48 : Nat) (((decide (checkTip t = checkTip t) && decide (roundE r a = roundE r a)) = true → ((decide (checkTip t = checkTip t) && decide (roundE r a = roundE r a)) == true) = true) ∧ True) (V.b (decide (checkTip t = checkTip t) && decide (roundE r a = roundE r a) && true)), pv (49 : Nat) (V.b (decide (checkTip t = checkTip t) && decide (roundE r a = roundE r a) && true))] (by kernel_rfl) (by kernel_rfl) ⟨⟨(by (intro h; rw [h]; rfl)), True.intro⟩, True.intro⟩ ?_
    refine e_callG 0 (g := (decide (checkTip t = checkTip t) && decide (roundE r a = roundE r a) && true) == true) (first := []) (caps := []) (by kernel_rfl) (fun _ => works_ac) (by kernel_rfl) (by kernel_rfl) (by kernel_rfl) (by kernel_rfl) (by kernel_rfl) (by kernel_rfl) ?_
    refine aops_n hTT (M := []) (n := 2) [pc (51 : Nat) (((decide (checkTip t = checkTip t) && decide (roundE r a = roundE r a) && true) = true → ((decide (checkTip t = checkTip t) && decide (roundE r a = roundE r a) && true) == true) = true) ∧ True) (V.b (decide (checkTip t = checkTip t) && decide (roundE r a = roundE r a) && true && true)), pv (8 : Nat) (V.b (decide (checkTip t = checkTip t) && decide (roundE r a = roundE r a) && true && true))] (by kernel_rfl) (by kernel_rfl) ⟨⟨(by (intro h; rw [h]; rfl)), True.intro⟩, True.intro⟩ ?_
    refine aops_nil ⟨by kernel_rfl, ?_⟩
    refine xt_n ?_
    refine hK _ ?_
    clear hK K
    refine aw_ret ?_
    refine ret_pure (v' := V.b (decide (checkTip t = checkTip t) && decide (roundE r a = roundE r a) && true && true)) (.inr rfl) (by kernel_rfl) ?_ (by kernel_rfl)
    simp
def tipsSh : List Sh := [(.lst (.sl (.int .i64))), (.int .i64), (.int .i64), .bool]
theorem tips_all (x : TL tipsSh) (hx : wfL tipsSh x) : AC Try.prog 10 (valL tipsSh x) (V.b true) [] := by
  obtain ⟨t, r, a, up, _⟩ := x
  obtain ⟨⟨h1, _⟩, _⟩ := hx
  exact tips_ac t r a up h1
end Go.Proofs.Ytlfaaddoemcokaa
