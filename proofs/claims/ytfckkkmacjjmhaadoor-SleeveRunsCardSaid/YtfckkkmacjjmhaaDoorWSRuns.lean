/-
  SleeveRuns: the walk of the law. No condition.
-/
import Derived.Test.YtfckkkmacjjmhaaDoorSR1
import Derived.Test.YtfckkkmacjjmhaaDoorSN9
import Derived.Test.YtfckkkmacjjmhaaDoorMC
namespace Go.Proofs.YtfckkkmacjjmhaaDoor
open Go.Ab Go.RowKit Go.Dw Go.Shelf

set_option maxRecDepth 100000 in
theorem slongs_ac (l : List Int) (hl : l.length ≤ 4611686018427387904) : AC Tryd.prog 23 [V.ints l, V.ints l] (.b true) [] := by
  refine ac_intro hTT hMX (fn := Tryd.f23) (N := _) ⟨Tryd.func23, rfl, Tryd.ntmps23, by kernel_rfl⟩ (by simp) fun C hC hF => ?_
  refine aw_seq_k fun K hK => ?_
  refine w_region (n' := 2) (by kernel_rfl) (by kernel_rfl) ?_
  refine aops_n hTT (M := []) (n := 1) [pv (4 : Nat) (V.b false)] (by kernel_rfl) (by kernel_rfl) True.intro ?_
  refine aops_nil ?_
  refine xt_n ?_
  refine hK _ ?_
  clear hK K
  refine aw_seq_k fun K hK => ?_
  refine aw_seq_k fun K hK => ?_
  refine w_region (n' := 3) (by kernel_rfl) (by kernel_rfl) ?_
  refine aops_n hTT (M := []) (n := 5) [pv (6 : Nat) (V.sl (1 : Nat) (List.length l) fun (k : Nat) => [V.i (gi l k)]), pv (7 : Nat) (V.i (↑(List.length l) : Int)), pv (8 : Nat) (V.sl (1 : Nat) (List.length l) fun (k : Nat) => [V.i (gi l k)]), pv (9 : Nat) (V.i (↑(List.length l) : Int)), pv (10 : Nat) (V.b !decide ((↑(List.length l) : Int) = (↑(List.length l) : Int)))] (by kernel_rfl) (by kernel_rfl) True.intro ?_
  refine aops_nil ?_
  refine xt_n ?_
  refine hK _ ?_
  clear hK K
  refine w_cond (t := !decide ((↑(List.length l) : Int) = (↑(List.length l) : Int))) (by kernel_rfl) (fun c0 => ?_) (fun c0 => ?_)
  · simp at c0
  refine aw_skip ?_
  refine xt_n ?_
  refine hK _ ?_
  clear hK K
  refine aw_seq_k fun K hK => ?_
  refine aw_seq_k fun K hK => ?_
  refine w_region (n' := 4) (by kernel_rfl) (by kernel_rfl) ?_
  refine aops_n hTT (M := []) (n := 1) [pv (5 : Nat) (V.i (0 : Int))] (by kernel_rfl) (by kernel_rfl) True.intro ?_
  refine aops_nil ?_
  refine xt_n ?_
  refine hK _ ?_
  clear hK K
  refine aw_block ?_
  refine w_loop (ι := Nat) (fun k => [(0, V.ints l), (1, V.ints l), (5, .i k)]) (fun _ => []) (fun k => k ≤ l.length) (fun k => l.length - k) 0 (Nat.zero_le _) ?_ ?_
  · refine le_ren [] (.cons (by kernel_rfl) (.cons (by kernel_rfl) (.cons (by kernel_rfl) .nil))) .nil (by kernel_rfl) (by kernel_rfl)
  intro k hk
  refine aw_seq_k fun K hK => ?_
  refine aw_seq_k fun K hK => ?_
  refine w_region (n' := 2) (by kernel_rfl) (by kernel_rfl) ?_
  refine aops_n hTT (M := []) (n := 4) [pv (11 : Nat) (V.i (↑k : Int)), pv (12 : Nat) (V.sl (1 : Nat) (List.length l) fun (k : Nat) => [V.i (gi l k)]), pv (13 : Nat) (V.i (↑(List.length l) : Int)), pv (14 : Nat) (V.b (decide ((↑k : Int) < (↑(List.length l) : Int))))] (by kernel_rfl) (by kernel_rfl) True.intro ?_
  refine aops_nil ?_
  refine xt_n ?_
  refine hK _ ?_
  clear hK K
  refine w_cond (t := decide ((↑k : Int) < (↑(List.length l) : Int))) (by kernel_rfl) (fun c1 => ?_) (fun c1 => ?_)
  · simp at c1
    refine aw_skip ?_
    refine xt_n ?_
    refine hK _ ?_
    clear hK K
    refine aw_seq_k fun K hK => ?_
    refine aw_block ?_
    refine aw_seq_k fun K hK => ?_
    refine w_regionD (n' := 3) (by kernel_rfl) (by kernel_rfl) ?_
    refine aops_n hTT (M := []) (n := 9) [pv (17 : Nat) (V.sl (1 : Nat) (List.length l) fun (k : Nat) => [V.i (gi l k)]), pv (18 : Nat) (V.i (↑k : Int)), pc (19 : Nat) ((0 : Int) ≤ (↑k : Int) ∧ (↑k : Int) < (↑(List.length l) : Int)) (V.ptr [V.i (gi l k)]), pv (20 : Nat) (V.i (gi l k)), pv (21 : Nat) (V.sl (1 : Nat) (List.length l) fun (k : Nat) => [V.i (gi l k)]), pv (22 : Nat) (V.i (↑k : Int)), pc (23 : Nat) ((0 : Int) ≤ (↑k : Int) ∧ (↑k : Int) < (↑(List.length l) : Int)) (V.ptr [V.i (gi l k)]), pv (24 : Nat) (V.i (gi l k)), pv (25 : Nat) (V.b !decide (gi l k = gi l k))] (by kernel_rfl) (by kernel_rfl) ⟨(by omega), (by omega), True.intro⟩ ?_
    refine aops_nil ⟨by kernel_rfl, ?_⟩
    refine xt_n ?_
    refine hK _ ?_
    clear hK K
    refine w_cond (t := !decide (gi l k = gi l k)) (by kernel_rfl) (fun c2 => ?_) (fun c2 => ?_)
    · simp at c2
    refine aw_skip ?_
    refine xb_n ?_
    refine xt_n ?_
    refine hK _ ?_
    clear hK K
    refine w_region (n' := 4) (by kernel_rfl) (by kernel_rfl) ?_
    refine aops_n hTT (M := []) (n := 3) [pv (15 : Nat) (V.i (↑k : Int)), pc (16 : Nat) ((-9223372036854775808 : Int) ≤ (↑k : Int) + (1 : Int) ∧ (↑k : Int) + (1 : Int) ≤ (9223372036854775807 : Int)) (V.i ((↑k : Int) + (1 : Int))), pv (5 : Nat) (V.i ((↑k : Int) + (1 : Int)))] (by kernel_rfl) (by kernel_rfl) ⟨(by omega), True.intro⟩ ?_
    refine aops_nil ?_
    refine xt_n ?_
    refine ⟨k + 1, by omega, by refine le_ren [] (.cons (by kernel_rfl) (.cons (by kernel_rfl) (.cons (by kernel_rfl) .nil))) .nil (by kernel_rfl) (by kernel_rfl), by omega⟩
  simp at c1
  obtain rfl : k = l.length := by omega
  refine aw_exit ?_
  refine xt_x ?_
  refine xt_x ?_
  refine xb_same ?_
  refine xt_n ?_
  clear hK K
  refine hK _ ?_
  clear hK K
  refine aw_seq_k fun K hK => ?_
  refine w_region (n' := 3) (by kernel_rfl) (by kernel_rfl) ?_
  refine aops_n hTT (M := []) (n := 1) [pv (4 : Nat) (V.b true)] (by kernel_rfl) (by kernel_rfl) True.intro ?_
  refine aops_nil ?_
  refine xt_n ?_
  refine hK _ ?_
  clear hK K
  refine aw_ret ?_
  refine ret_pure (v' := V.b true) (.inr rfl) (by kernel_rfl) (by kernel_rfl) (by kernel_rfl)
theorem runL_len {c : List Int} {s : Int} : (runL c s).length ≤ c.length := by
  unfold runL; split <;> simp
set_option maxRecDepth 100000 in
theorem sruns_law (c : List Int) (slots plate : Int) (hl : c.length ≤ 4611686018427387904) : AC Tryd.prog 4 [V.ints c, .i slots, .i plate] (.b true) [] := by
  refine ac_intro hTT hMX (fn := Tryd.f4) (N := _) ⟨Tryd.func4, rfl, Tryd.ntmps4, by kernel_rfl⟩ (by simp) fun C hC hF => ?_
  refine aw_seq_k fun K hK => ?_
  refine w_region (n' := 2) (by kernel_rfl) (by kernel_rfl) ?_
  refine aops_n hTT (M := []) (n := 1) [pv (6 : Nat) (V.b false)] (by kernel_rfl) (by kernel_rfl) True.intro ?_
  refine aops_nil ?_
  refine xt_n ?_
  refine hK _ ?_
  clear hK K
  refine aw_seq_k fun K hK => ?_
  refine aw_seq_k fun K hK => ?_
  refine w_region (n' := 3) (by kernel_rfl) (by kernel_rfl) ?_
  refine aops_n hTT (M := []) (n := 3) [pv (13 : Nat) (V.sl (1 : Nat) (List.length c) fun (k : Nat) => [V.i (gi c k)]), pv (14 : Nat) (V.i (↑(List.length c) : Int)), pv (15 : Nat) (V.b (decide ((12 : Int) < (↑(List.length c) : Int))))] (by kernel_rfl) (by kernel_rfl) True.intro ?_
  refine aops_nil ?_
  refine xt_n ?_
  refine hK _ ?_
  clear hK K
  refine w_cond (t := decide ((12 : Int) < (↑(List.length c) : Int))) (by kernel_rfl) (fun c1 => ?_) (fun c1 => ?_)
  · refine aw_seq_k fun K hK => ?_
    refine w_region (n' := 4) (by kernel_rfl) (by kernel_rfl) ?_
    refine e_call (first := []) (caps := []) (sWorks_ac) (by kernel_rfl) (by kernel_rfl) (by kernel_rfl) (by kernel_rfl) (by kernel_rfl) ?_
    refine aops_n hTT (M := []) (n := 1) [pv (6 : Nat) (V.b true)] (by kernel_rfl) (by kernel_rfl) True.intro ?_
    refine aops_nil ?_
    refine xt_n ?_
    refine hK _ ?_
    clear hK K
    refine aw_ret ?_
    refine xt_r ?_
    refine ret_pure (v' := V.b true) (.inr rfl) (by kernel_rfl) (by kernel_rfl) (by kernel_rfl)
  refine aw_skip ?_
  refine xt_n ?_
  refine hK _ ?_
  clear hK K
  refine aw_seq_k fun K hK => ?_
  refine w_region (n' := 4) (by kernel_rfl) (by kernel_rfl) ?_
  refine aops_n hTT (M := []) (n := 2) [pv (18 : Nat) (V.sl (1 : Nat) (List.length c) fun (k : Nat) => [V.i (gi c k)]), pv (19 : Nat) (V.i slots)] (by kernel_rfl) (by kernel_rfl) True.intro ?_
  refine e_call (first := []) (caps := []) (Run_ac c slots hl) (by kernel_rfl) (by kernel_rfl) (by kernel_rfl) (by kernel_rfl) (by kernel_rfl) ?_
  refine aops_n hTT (M := []) (n := 7) [pv (17 : Nat) (V.tup [V.i (runS c slots), V.sl (1 : Nat) (List.length (runL c slots)) fun (k : Nat) => [V.i (gi (runL c slots) k)], V.i (runE c slots)]), pv (21 : Nat) (V.i (runS c slots)), pv (22 : Nat) (V.sl (1 : Nat) (List.length (runL c slots)) fun (k : Nat) => [V.i (gi (runL c slots) k)]), pv (23 : Nat) (V.i (runE c slots)), pv (7 : Nat) (V.i (runS c slots)), pv (8 : Nat) (V.sl (1 : Nat) (List.length (runL c slots)) fun (k : Nat) => [V.i (gi (runL c slots) k)]), pv (9 : Nat) (V.i (runE c slots))] (by kernel_rfl) (by kernel_rfl) True.intro ?_
  refine aops_nil ?_
  refine xt_n ?_
  refine hK _ ?_
  clear hK K
  refine aw_seq_k fun K hK => ?_
  refine w_region (n' := 5) (by kernel_rfl) (by kernel_rfl) ?_
  refine aops_n hTT (M := []) (n := 2) [pv (25 : Nat) (V.sl (1 : Nat) (List.length c) fun (k : Nat) => [V.i (gi c k)]), pv (26 : Nat) (V.i slots)] (by kernel_rfl) (by kernel_rfl) True.intro ?_
  refine e_call (first := []) (caps := []) (rRun_ac c slots hl) (by kernel_rfl) (by kernel_rfl) (by kernel_rfl) (by kernel_rfl) (by kernel_rfl) ?_
  refine aops_n hTT (M := []) (n := 7) [pv (24 : Nat) (V.tup [V.i (runS c slots), V.sl (1 : Nat) (List.length (runL c slots)) fun (k : Nat) => [V.i (gi (runL c slots) k)], V.i (runE c slots)]), pv (28 : Nat) (V.i (runS c slots)), pv (29 : Nat) (V.sl (1 : Nat) (List.length (runL c slots)) fun (k : Nat) => [V.i (gi (runL c slots) k)]), pv (30 : Nat) (V.i (runE c slots)), pv (10 : Nat) (V.i (runS c slots)), pv (11 : Nat) (V.sl (1 : Nat) (List.length (runL c slots)) fun (k : Nat) => [V.i (gi (runL c slots) k)]), pv (12 : Nat) (V.i (runE c slots))] (by kernel_rfl) (by kernel_rfl) True.intro ?_
  refine aops_nil ?_
  refine xt_n ?_
  refine hK _ ?_
  clear hK K
  refine aw_seq_k fun K hK => ?_
  refine w_region (n' := 6) (by kernel_rfl) (by kernel_rfl) ?_
  refine aops_n hTT (M := []) (n := 6) [pv (31 : Nat) (V.i (runS c slots)), pv (32 : Nat) (V.i (runS c slots)), pv (33 : Nat) (V.b (decide (runS c slots = runS c slots))), pv (34 : Nat) (V.b (decide (runS c slots = runS c slots))), pc (35 : Nat) ((True ∧ True) ∧ ((decide (runS c slots = runS c slots) == true) = true → True)) (V.gd (decide (runS c slots = runS c slots) == true) (V.sl (1 : Nat) (List.length (runL c slots)) fun (k : Nat) => [V.i (gi (runL c slots) k)])), pc (36 : Nat) ((True ∧ True) ∧ ((decide (runS c slots = runS c slots) == true) = true → True)) (V.gd (decide (runS c slots = runS c slots) == true) (V.sl (1 : Nat) (List.length (runL c slots)) fun (k : Nat) => [V.i (gi (runL c slots) k)]))] (by kernel_rfl) (by kernel_rfl) ⟨⟨⟨True.intro, True.intro⟩, (fun _ => True.intro)⟩, ⟨⟨True.intro, True.intro⟩, (fun _ => True.intro)⟩, True.intro⟩ ?_
  have hr := runL_len (c := c) (s := slots)
  refine e_callG 2 (g := decide (runS c slots = runS c slots) == true) (first := []) (caps := []) (by kernel_rfl) (fun h => slongs_ac (runL c slots) (by omega)) (by kernel_rfl) (by kernel_rfl) (by kernel_rfl) (by kernel_rfl) (by kernel_rfl) (by kernel_rfl) ?_
  refine aops_n hTT (M := []) (n := 10) [pc (38 : Nat) ((decide (runS c slots = runS c slots) = true → (decide (runS c slots = runS c slots) == true) = true) ∧ True) (V.b (decide (runS c slots = runS c slots) && true)), pv (39 : Nat) (V.b (decide (runS c slots = runS c slots) && true)), pc (40 : Nat) ((True ∧ True) ∧ (((decide (runS c slots = runS c slots) && true) == true) = true → True)) (V.gd ((decide (runS c slots = runS c slots) && true) == true) (V.i (runE c slots))), pc (41 : Nat) ((True ∧ True) ∧ (((decide (runS c slots = runS c slots) && true) == true) = true → True)) (V.gd ((decide (runS c slots = runS c slots) && true) == true) (V.i (runE c slots))), pc (42 : Nat) (((((decide (runS c slots = runS c slots) && true) == true) = true → ((decide (runS c slots = runS c slots) && true) == true) = true) ∧ (((decide (runS c slots = runS c slots) && true) == true) = true → ((decide (runS c slots = runS c slots) && true) == true) = true) ∧ True) ∧ (((decide (runS c slots = runS c slots) && true) == true) = true → True)) (V.gd ((decide (runS c slots = runS c slots) && true) == true) (V.b (decide (runE c slots = runE c slots)))), pc (43 : Nat) (((decide (runS c slots = runS c slots) && true) = true → ((decide (runS c slots = runS c slots) && true) == true) = true) ∧ True) (V.b (decide (runS c slots = runS c slots) && true && decide (runE c slots = runE c slots))), pv (44 : Nat) (V.b (decide (runS c slots = runS c slots) && true && decide (runE c slots = runE c slots))), pc (45 : Nat) ((True ∧ True) ∧ (((decide (runS c slots = runS c slots) && true && decide (runE c slots = runE c slots)) == true) = true → True)) (V.gd ((decide (runS c slots = runS c slots) && true && decide (runE c slots = runE c slots)) == true) (V.sl (1 : Nat) (List.length c) fun (k : Nat) => [V.i (gi c k)])), pc (46 : Nat) ((True ∧ True) ∧ (((decide (runS c slots = runS c slots) && true && decide (runE c slots = runE c slots)) == true) = true → True)) (V.gd ((decide (runS c slots = runS c slots) && true && decide (runE c slots = runE c slots)) == true) (V.i slots)), pc (47 : Nat) ((True ∧ True) ∧ (((decide (runS c slots = runS c slots) && true && decide (runE c slots = runE c slots)) == true) = true → True)) (V.gd ((decide (runS c slots = runS c slots) && true && decide (runE c slots = runE c slots)) == true) (V.i plate))] (by kernel_rfl) (by kernel_rfl) ⟨⟨(by (intro h; rw [h]; rfl)), True.intro⟩, ⟨⟨True.intro, True.intro⟩, (fun _ => True.intro)⟩, ⟨⟨True.intro, True.intro⟩, (fun _ => True.intro)⟩, ⟨⟨(by (exact fun h => h)), ⟨(by (exact fun h => h)), True.intro⟩⟩, (fun _ => True.intro)⟩, ⟨(by (intro h; rw [h]; rfl)), True.intro⟩, ⟨⟨True.intro, True.intro⟩, (fun _ => True.intro)⟩, ⟨⟨True.intro, True.intro⟩, (fun _ => True.intro)⟩, ⟨⟨True.intro, True.intro⟩, (fun _ => True.intro)⟩, True.intro⟩ ?_
  refine e_callG 3 (g := (decide (runS c slots = runS c slots) && true && decide (runE c slots = runE c slots)) == true) (first := []) (caps := []) (by kernel_rfl) (fun h => CheckCopies_ac c slots plate hl) (by kernel_rfl) (by kernel_rfl) (by kernel_rfl) (by kernel_rfl) (by kernel_rfl) (by kernel_rfl) ?_
  refine aops_n hTT (M := []) (n := 3) [pc (49 : Nat) ((True ∧ True) ∧ (((decide (runS c slots = runS c slots) && true && decide (runE c slots = runE c slots)) == true) = true → True)) (V.gd ((decide (runS c slots = runS c slots) && true && decide (runE c slots = runE c slots)) == true) (V.sl (1 : Nat) (List.length c) fun (k : Nat) => [V.i (gi c k)])), pc (50 : Nat) ((True ∧ True) ∧ (((decide (runS c slots = runS c slots) && true && decide (runE c slots = runE c slots)) == true) = true → True)) (V.gd ((decide (runS c slots = runS c slots) && true && decide (runE c slots = runE c slots)) == true) (V.i slots)), pc (51 : Nat) ((True ∧ True) ∧ (((decide (runS c slots = runS c slots) && true && decide (runE c slots = runE c slots)) == true) = true → True)) (V.gd ((decide (runS c slots = runS c slots) && true && decide (runE c slots = runE c slots)) == true) (V.i plate))] (by kernel_rfl) (by kernel_rfl) ⟨⟨⟨True.intro, True.intro⟩, (fun _ => True.intro)⟩, ⟨⟨True.intro, True.intro⟩, (fun _ => True.intro)⟩, ⟨⟨True.intro, True.intro⟩, (fun _ => True.intro)⟩, True.intro⟩ ?_
  refine e_callG 3 (g := (decide (runS c slots = runS c slots) && true && decide (runE c slots = runE c slots)) == true) (first := []) (caps := []) (by kernel_rfl) (fun h => rCheckCopies_ac c slots plate hl) (by kernel_rfl) (by kernel_rfl) (by kernel_rfl) (by kernel_rfl) (by kernel_rfl) (by kernel_rfl) ?_
  refine aops_n hTT (M := []) (n := 3) [pc (53 : Nat) (((((decide (runS c slots = runS c slots) && true && decide (runE c slots = runE c slots)) == true) = true → ((decide (runS c slots = runS c slots) && true && decide (runE c slots = runE c slots)) == true) = true) ∧ (((decide (runS c slots = runS c slots) && true && decide (runE c slots = runE c slots)) == true) = true → ((decide (runS c slots = runS c slots) && true && decide (runE c slots = runE c slots)) == true) = true) ∧ True) ∧ (((decide (runS c slots = runS c slots) && true && decide (runE c slots = runE c slots)) == true) = true → True)) (V.gd ((decide (runS c slots = runS c slots) && true && decide (runE c slots = runE c slots)) == true) (V.b (decide (chkC c slots plate = chkC c slots plate)))), pc (54 : Nat) (((decide (runS c slots = runS c slots) && true && decide (runE c slots = runE c slots)) = true → ((decide (runS c slots = runS c slots) && true && decide (runE c slots = runE c slots)) == true) = true) ∧ True) (V.b (decide (runS c slots = runS c slots) && true && decide (runE c slots = runE c slots) && decide (chkC c slots plate = chkC c slots plate))), pv (55 : Nat) (V.b (decide (runS c slots = runS c slots) && true && decide (runE c slots = runE c slots) && decide (chkC c slots plate = chkC c slots plate)))] (by kernel_rfl) (by kernel_rfl) ⟨⟨⟨(by (exact fun h => h)), ⟨(by (exact fun h => h)), True.intro⟩⟩, (fun _ => True.intro)⟩, ⟨(by (intro h; rw [h]; rfl)), True.intro⟩, True.intro⟩ ?_
  refine e_callG 0 (g := (decide (runS c slots = runS c slots) && true && decide (runE c slots = runE c slots) && decide (chkC c slots plate = chkC c slots plate)) == true) (first := []) (caps := []) (by kernel_rfl) (fun h => sWorks_ac) (by kernel_rfl) (by kernel_rfl) (by kernel_rfl) (by kernel_rfl) (by kernel_rfl) (by kernel_rfl) ?_
  refine aops_n hTT (M := []) (n := 2) [pc (57 : Nat) (((decide (runS c slots = runS c slots) && true && decide (runE c slots = runE c slots) && decide (chkC c slots plate = chkC c slots plate)) = true → ((decide (runS c slots = runS c slots) && true && decide (runE c slots = runE c slots) && decide (chkC c slots plate = chkC c slots plate)) == true) = true) ∧ True) (V.b (decide (runS c slots = runS c slots) && true && decide (runE c slots = runE c slots) && decide (chkC c slots plate = chkC c slots plate) && true)), pv (6 : Nat) (V.b (decide (runS c slots = runS c slots) && true && decide (runE c slots = runE c slots) && decide (chkC c slots plate = chkC c slots plate) && true))] (by kernel_rfl) (by kernel_rfl) ⟨⟨(by (intro h; rw [h]; rfl)), True.intro⟩, True.intro⟩ ?_
  refine aops_nil ?_
  refine xt_n ?_
  refine hK _ ?_
  clear hK K
  refine aw_ret ?_
  refine ret_pure (v' := V.b (decide (runS c slots = runS c slots) && true && decide (runE c slots = runE c slots) && decide (chkC c slots plate = chkC c slots plate) && true)) (.inr rfl) (by kernel_rfl) ?_ (by kernel_rfl)
  simp
def srunsSh : List Sh := [(.sl (.int .i64)), (.int .i64), (.int .i64)]
theorem sruns_all (x : TL srunsSh) (hx : wfL srunsSh x) : AC Tryd.prog 4 (valL srunsSh x) (V.b true) [] := by
  obtain ⟨l, a, b, _⟩ := x
  obtain ⟨⟨h4, _⟩, _⟩ := hx
  exact sruns_law l a b h4
end Go.Proofs.YtfckkkmacjjmhaaDoor
