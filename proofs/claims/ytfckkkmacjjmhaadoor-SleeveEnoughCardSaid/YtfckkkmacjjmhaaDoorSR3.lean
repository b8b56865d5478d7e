/-
  Runs whose results are rows of the caller's own; copies. No condition.
-/
import Derived.Test.YtfckkkmacjjmhaaDoorSR1
import Derived.Test.YtfckkkmacjjmhaaDoorSR2
import Derived.Test.YtfckkkmacjjmhaaDoorAbs38
namespace Go.Proofs.YtfckkkmacjjmhaaDoor
open Go.Ab Go.RowKit Go.Dw Go.Shelf

set_option maxRecDepth 100000 in
theorem placesO_ac (c : List Int) (s : Int) (h : CO c) (hl : c.length ≤ 4096) (hs : 1 ≤ s ∧ s ≤ 1048576) : AC Tryd.prog 54 [V.ints c, .i s] (.tup [.own 0, .i (plcS c s c.length)]) [.row 2 1 c.length fun k => [.i (plc (gi c k) s)]] := by
  obtain ⟨s1, s2⟩ := hs
  refine ac_intro hTT hMX (fn := Tryd.f54) (N := _) ⟨Tryd.func54, rfl, Tryd.ntmps54, by kernel_rfl⟩ (by simp) fun C hC hF => ?_
  refine aw_seq_k fun K hK => ?_
  refine w_region (n' := 2) (by kernel_rfl) (by kernel_rfl) ?_
  refine aops_n hTT (M := []) (n := 2) [pv (4 : Nat) V.nil, pv (5 : Nat) (V.i (0 : Int))] (by kernel_rfl) (by kernel_rfl) True.intro ?_
  refine aops_nil ?_
  refine xt_n ?_
  refine hK _ ?_
  clear hK K
  refine aw_seq_k fun K hK => ?_
  refine w_region (n' := 3) (by kernel_rfl) (by kernel_rfl) ?_
  refine aops_n hTT (M := []) (n := 1) [pv (6 : Nat) V.nil] (by kernel_rfl) (by kernel_rfl) True.intro ?_
  refine aops_nil ?_
  refine xt_n ?_
  refine hK _ ?_
  clear hK K
  refine aw_seq_k fun K hK => ?_
  refine w_region (n' := 4) (by kernel_rfl) (by kernel_rfl) ?_
  refine aops_n hTT (M := []) (n := 1) [pv (7 : Nat) (V.i (0 : Int))] (by kernel_rfl) (by kernel_rfl) True.intro ?_
  refine aops_nil ?_
  refine xt_n ?_
  refine hK _ ?_
  clear hK K
  refine aw_seq_k fun K hK => ?_
  refine aw_seq_k fun K hK => ?_
  refine w_region (n' := 5) (by kernel_rfl) (by kernel_rfl) ?_
  refine aops_n hTT (M := []) (n := 3) [pv (11 : Nat) (V.sl (1 : Nat) (List.length c) fun (k : Nat) => [V.i (gi c k)]), pv (12 : Nat) (V.i (↑(List.length c) : Int)), pv (13 : Nat) (V.i (0 : Int))] (by kernel_rfl) (by kernel_rfl) True.intro ?_
  refine aops_nil ?_
  refine xt_n ?_
  refine hK _ ?_
  clear hK K
  refine aw_block ?_
  refine w_le (le_open 6 2 1 (fun k => [.i (plc (gi c k) s)]) (by kernel_rfl) rfl) ?_
  refine w_loop (ι := Nat) (fun k => [(1, .i s), (6, .own 6), (7, .i (plcS c s k)), (11, V.ints c), (12, .i c.length), (13, .i k)]) (fun k => [(6, .row 2 1 k fun k => [.i (plc (gi c k) s)])]) (fun k => k ≤ c.length) (fun k => c.length - k) 0 (Nat.zero_le _) ?_ ?_
  · refine le_ren (sl := [(6, Ob.row (2 : Nat) (1 : Nat) (0 : Nat) fun (k : Nat) => [V.i (plc (gi c k) s)])]) [(6, 500006)] (.cons (by kernel_rfl) (.cons (by kernel_rfl) (.cons (by kernel_rfl) (.cons (by kernel_rfl) (.cons (by kernel_rfl) (.cons (by kernel_rfl) .nil)))))) (.cons ⟨Ob.row (2 : Nat) (1 : Nat) (0 : Nat) fun (k : Nat) => [V.i (plc (gi c k) s)], (by kernel_rfl), .row (by kernel_rfl) (fun _ _ => rfl)⟩ .nil) (by kernel_rfl) (by kernel_rfl)
  intro k hk
  have hb := plcS_bd h s1 k hk
  refine aw_seq_k fun K hK => ?_
  refine w_region (n' := 2) (by kernel_rfl) (by kernel_rfl) ?_
  refine aops_n hTT (M := []) (n := 1) [pv (14 : Nat) (V.b (decide ((↑k : Int) < (↑(List.length c) : Int))))] (by kernel_rfl) (by kernel_rfl) True.intro ?_
  refine aops_nil ?_
  refine xt_n ?_
  refine hK _ ?_
  clear hK K
  refine aw_seq_k fun K hK => ?_
  refine w_cond (t := decide ((↑k : Int) < (↑(List.length c) : Int))) (by kernel_rfl) (fun c1 => ?_) (fun c1 => ?_)
  · simp at c1
    obtain ⟨q1, q2⟩ := h.gi c1
    have e1 := tdiv_plc q1 s1
    have p1 := plc_pos q1 s1
    have p2 := plc_le q1 s1
    refine aw_skip ?_
    refine xt_n ?_
    refine hK _ ?_
    clear hK K
    refine aw_seq_k fun K hK => ?_
    refine aw_block ?_
    refine aw_seq_k fun K hK => ?_
    refine w_region (n' := 3) (by kernel_rfl) (by kernel_rfl) ?_
    refine aops_n hTT (M := []) (n := 3) [pc (15 : Nat) ((0 : Int) ≤ (↑k : Int) ∧ (↑k : Int) < (↑(List.length c) : Int)) (V.ptr [V.i (gi c k)]), pv (16 : Nat) (V.i (gi c k)), pv (9 : Nat) (V.i (gi c k))] (by kernel_rfl) (by kernel_rfl) ⟨(by omega), True.intro⟩ ?_
    refine aops_nil ?_
    refine xt_n ?_
    refine hK _ ?_
    clear hK K
    refine aw_seq_k fun K hK => ?_
    refine w_region (n' := 4) (by kernel_rfl) (by kernel_rfl) ?_
    refine aops_n hTT (M := []) (n := 7) [pv (17 : Nat) (V.i (gi c k)), pv (18 : Nat) (V.i s), pc (19 : Nat) ((-9223372036854775808 : Int) ≤ gi c k + s ∧ gi c k + s ≤ (9223372036854775807 : Int)) (V.i (gi c k + s)), pc (20 : Nat) ((-9223372036854775808 : Int) ≤ gi c k + s - (1 : Int) ∧ gi c k + s - (1 : Int) ≤ (9223372036854775807 : Int)) (V.i (gi c k + s - (1 : Int))), pv (21 : Nat) (V.i s), pc (22 : Nat) ((0 : Int) < s ∧ (-9223372036854775808 : Int) ≤ gi c k + s - (1 : Int) ∧ gi c k + s - (1 : Int) ≤ (9223372036854775807 : Int)) (V.i (Int.tdiv (gi c k + s - (1 : Int)) s)), pv (10 : Nat) (V.i (Int.tdiv (gi c k + s - (1 : Int)) s))] (by kernel_rfl) (by kernel_rfl) ⟨(by omega), (by omega), ⟨(by omega), (by omega)⟩, True.intro⟩ ?_
    refine aops_nil ?_
    refine xt_n ?_
    refine hK _ ?_
    clear hK K
    refine aw_seq_k fun K hK => ?_
    rw [e1]
    refine w_region (n' := 5) (by kernel_rfl) (by kernel_rfl) ?_
    refine aops_n hTT (M := []) (n := 5) [pv (23 : Nat) (V.own (6 : Nat)), pv (24 : Nat) (V.i (plc (gi c k) s)), pv (25 : Nat) (V.sl (1 : Nat) (1 : Nat) fun (i : Nat) => List.take (1 : Nat) (List.drop (i * (1 : Nat)) [V.i (plc (gi c k) s)])), PR.mk (some (26 : Nat)) (some (k + (1 : Nat) ≤ (1099511627776 : Nat))) (V.own (400026 : Nat)) [((6 : Nat), none), ((400026 : Nat), some (Ob.row (2 : Nat) (1 : Nat) (k + (1 : Nat)) (appRow k (fun (k : Nat) => [V.i (plc (gi c k) s)]) fun (i : Nat) => List.take (1 : Nat) (List.drop (i * (1 : Nat)) [V.i (plc (gi c k) s)]))))] false, pv (6 : Nat) (V.own (400026 : Nat))] (by kernel_rfl) (by kernel_rfl) ⟨(by omega), True.intro⟩ ?_
    refine aops_nil ?_
    refine xt_n ?_
    refine hK _ ?_
    clear hK K
    refine w_region (n' := 6) (by kernel_rfl) (by kernel_rfl) ?_
    refine aops_n hTT (M := []) (n := 4) [pv (27 : Nat) (V.i (plcS c s k)), pv (28 : Nat) (V.i (plc (gi c k) s)), pc (29 : Nat) ((-9223372036854775808 : Int) ≤ plcS c s k + plc (gi c k) s ∧ plcS c s k + plc (gi c k) s ≤ (9223372036854775807 : Int)) (V.i (plcS c s k + plc (gi c k) s)), pv (7 : Nat) (V.i (plcS c s k + plc (gi c k) s))] (by kernel_rfl) (by kernel_rfl) ⟨(by omega), True.intro⟩ ?_
    refine aops_nil ?_
    refine xb_n ?_
    refine xt_n ?_
    refine hK _ ?_
    clear hK K
    refine w_region (n' := 7) (by kernel_rfl) (by kernel_rfl) ?_
    refine aops_n hTT (M := []) (n := 2) [pc (30 : Nat) ((-9223372036854775808 : Int) ≤ (↑k : Int) + (1 : Int) ∧ (↑k : Int) + (1 : Int) ≤ (9223372036854775807 : Int)) (V.i ((↑k : Int) + (1 : Int))), pv (13 : Nat) (V.i ((↑k : Int) + (1 : Int)))] (by kernel_rfl) (by kernel_rfl) ⟨(by omega), True.intro⟩ ?_
    refine aops_nil ?_
    refine xt_n ?_
    refine ⟨k + 1, by omega, ?_, by omega⟩
    refine le_ren (tl := [(1, V.i s), (6, V.own (6 : Nat)), (7, V.i (plcS c s (k + (1 : Nat)))), (11, V.sl (1 : Nat) (List.length c) fun (k : Nat) => [V.i (gi c k)]), (12, V.i (↑(List.length c) : Int)), (13, V.i (↑(k + (1 : Nat)) : Int))]) (sl := [(6, Ob.row (2 : Nat) (1 : Nat) (k + (1 : Nat)) fun (k : Nat) => [V.i (plc (gi c k) s)])]) [(6, 400026)] (.cons (by kernel_rfl) (.cons (by kernel_rfl) (.cons (by kernel_rfl) (.cons (by kernel_rfl) (.cons (by kernel_rfl) (.cons (by kernel_rfl) .nil)))))) (.cons ⟨Ob.row (2 : Nat) (1 : Nat) (k + (1 : Nat)) (appRow k (fun (k : Nat) => [V.i (plc (gi c k) s)]) fun (i : Nat) => List.take (1 : Nat) (List.drop (i * (1 : Nat)) [V.i (plc (gi c k) s)])), (by kernel_rfl), .row (by kernel_rfl) ?_⟩ .nil) (by kernel_rfl) (by kernel_rfl)
    exact appRow_i rfl rfl
  simp at c1
  obtain rfl : k = c.length := by omega
  refine aw_exit ?_
  refine xt_x ?_
  refine xt_x ?_
  refine xb_same ?_
  refine xt_n ?_
  clear hK K
  refine hK _ ?_
  clear hK K
  refine aw_seq_k fun K hK => ?_
  refine w_region (n' := 3) (by kernel_rfl) (by kernel_rfl) ?_
  refine aops_n hTT (M := []) (n := 4) [pv (31 : Nat) (V.own (6 : Nat)), pv (32 : Nat) (V.i (plcS c s (List.length c))), pv (4 : Nat) (V.own (6 : Nat)), pv (5 : Nat) (V.i (plcS c s (List.length c)))] (by kernel_rfl) (by kernel_rfl) True.intro ?_
  refine aops_nil ?_
  refine xt_n ?_
  refine hK _ ?_
  clear hK K
  refine aw_ret ?_
  refine ret_own [(0, 6)] [(4, V.own (0 : Nat)), (5, V.i (plcS c s (List.length c)))] (.inr rfl) (.cons (by kernel_rfl) (.cons (by kernel_rfl) .nil)) (.cons ⟨Ob.row (2 : Nat) (1 : Nat) (List.length c) fun (k : Nat) => [V.i (plc (gi c k) s)], (by kernel_rfl), .row (by kernel_rfl) (fun _ _ => rfl)⟩ .nil) (by kernel_rfl) (by kernel_rfl) (by kernel_rfl) (by kernel_rfl)
set_option maxRecDepth 100000 in
theorem Run1_ac (c : List Int) (slots : Int) (hl : c.length ≤ 4096) (h : chkC c slots 0 = 0) (h2 : slots < c.length) : AC Tryd.prog 21 [V.ints c, .i slots] (.tup [.i 0, .nil, .i 14]) [] := by
  refine ac_intro hTT hMX (fn := Tryd.f21) (N := _) ⟨Tryd.func21, rfl, Tryd.ntmps21, by kernel_rfl⟩ (by simp) fun C hC hF => ?_
  obtain ⟨l8, hco, hs, _⟩ := chkC_inv h
  have A := run_ac c slots hco (by omega)
  rw [runV, if_pos h2, decide_eq_false (by omega)] at A
  refine aw_seq_k fun K hK => ?_
  refine w_region (n' := 2) (by kernel_rfl) (by kernel_rfl) ?_
  refine aops_n hTT (M := []) (n := 3) [pv (4 : Nat) (V.i (0 : Int)), pv (5 : Nat) V.nil, pv (6 : Nat) (V.i (0 : Int))] (by kernel_rfl) (by kernel_rfl) True.intro ?_
  refine aops_nil ?_
  refine xt_n ?_
  refine hK _ ?_
  clear hK K
  refine aw_seq_k fun K hK => ?_
  refine aw_seq_k fun K hK => ?_
  refine w_region (n' := 3) (by kernel_rfl) (by kernel_rfl) ?_
  refine aops_n hTT (M := []) (n := 2) [pv (12 : Nat) (V.sl (1 : Nat) (List.length c) fun (k : Nat) => [V.i (gi c k)]), pv (13 : Nat) (V.i slots)] (by kernel_rfl) (by kernel_rfl) True.intro ?_
  refine e_call (first := []) (caps := []) (CheckCopies_ac c slots 0 (by omega)) (by kernel_rfl) (by kernel_rfl) (by kernel_rfl) (by kernel_rfl) (by kernel_rfl) ?_
  refine aops_n hTT (M := []) (n := 1) [pv (7 : Nat) (V.i (chkC c slots (0 : Int)))] (by kernel_rfl) (by kernel_rfl) True.intro ?_
  refine aops_nil ?_
  refine xt_n ?_
  refine hK _ ?_
  clear hK K
  refine aw_seq_k fun K hK => ?_
  refine w_region (n' := 4) (by kernel_rfl) (by kernel_rfl) ?_
  refine aops_n hTT (M := []) (n := 2) [pv (15 : Nat) (V.i (chkC c slots (0 : Int))), pv (16 : Nat) (V.b !decide (chkC c slots (0 : Int) = (0 : Int)))] (by kernel_rfl) (by kernel_rfl) True.intro ?_
  refine aops_nil ?_
  refine xt_n ?_
  refine hK _ ?_
  clear hK K
  refine w_cond (t := !decide (chkC c slots (0 : Int) = (0 : Int))) (by kernel_rfl) (fun c1 => ?_) (fun c1 => ?_)
  · simp [h] at c1
  refine aw_skip ?_
  refine xt_n ?_
  refine hK _ ?_
  clear hK K
  refine aw_seq_k fun K hK => ?_
  refine w_region (n' := 5) (by kernel_rfl) (by kernel_rfl) ?_
  refine aops_n hTT (M := []) (n := 2) [pv (19 : Nat) (V.sl (1 : Nat) (List.length c) fun (k : Nat) => [V.i (gi c k)]), pv (20 : Nat) (V.i slots)] (by kernel_rfl) (by kernel_rfl) True.intro ?_
  refine e_call (first := []) (caps := []) (A) (by kernel_rfl) (by kernel_rfl) (by kernel_rfl) (by kernel_rfl) (by kernel_rfl) ?_
  refine aops_n hTT (M := []) (n := 5) [pv (18 : Nat) (V.tup [V.i (0 : Int), V.b false]), pv (22 : Nat) (V.i (0 : Int)), pv (23 : Nat) (V.b false), pv (8 : Nat) (V.i (0 : Int)), pv (9 : Nat) (V.b false)] (by kernel_rfl) (by kernel_rfl) True.intro ?_
  refine aops_nil ?_
  refine xt_n ?_
  refine hK _ ?_
  clear hK K
  refine aw_seq_k fun K hK => ?_
  refine aw_seq_k fun K hK => ?_
  refine w_region (n' := 6) (by kernel_rfl) (by kernel_rfl) ?_
  refine aops_n hTT (M := []) (n := 2) [pv (24 : Nat) (V.b false), pv (25 : Nat) (V.b true)] (by kernel_rfl) (by kernel_rfl) True.intro ?_
  refine aops_nil ?_
  refine xt_n ?_
  refine hK _ ?_
  clear hK K
  refine w_true (t := true) (by kernel_rfl) rfl ?_
  refine aw_seq_k fun K hK => ?_
  refine w_region (n' := 7) (by kernel_rfl) (by kernel_rfl) ?_
  refine aops_n hTT (M := []) (n := 3) [pv (4 : Nat) (V.i (0 : Int)), pv (5 : Nat) V.nil, pv (6 : Nat) (V.i (14 : Int))] (by kernel_rfl) (by kernel_rfl) True.intro ?_
  refine aops_nil ?_
  refine xt_n ?_
  refine hK _ ?_
  clear hK K
  refine aw_ret ?_
  refine xt_r ?_
  refine ret_pure (v' := V.tup [V.i (0 : Int), V.nil, V.i (14 : Int)]) (.inr rfl) (by kernel_rfl) (by kernel_rfl) (by kernel_rfl)
set_option maxRecDepth 100000 in
theorem Run2_ac (slots : Int) (h : chkC [] slots 0 = 0) : AC Tryd.prog 21 [V.ints [], .i slots] (.tup [.i 0, .nil, .i 0]) [] := by
  refine ac_intro hTT hMX (fn := Tryd.f21) (N := _) ⟨Tryd.func21, rfl, Tryd.ntmps21, by kernel_rfl⟩ (by simp) fun C hC hF => ?_
  obtain ⟨l8, hco, hs, _⟩ := chkC_inv h
  have A := run_ac [] slots hco (by simp)
  rw [runV, if_neg (by simp; omega), decide_eq_true (by simp; omega), fewN_nil rfl] at A
  refine aw_seq_k fun K hK => ?_
  refine w_region (n' := 2) (by kernel_rfl) (by kernel_rfl) ?_
  refine aops_n hTT (M := []) (n := 3) [pv (4 : Nat) (V.i (0 : Int)), pv (5 : Nat) V.nil, pv (6 : Nat) (V.i (0 : Int))] (by kernel_rfl) (by kernel_rfl) True.intro ?_
  refine aops_nil ?_
  refine xt_n ?_
  refine hK _ ?_
  clear hK K
  refine aw_seq_k fun K hK => ?_
  refine aw_seq_k fun K hK => ?_
  refine w_region (n' := 3) (by kernel_rfl) (by kernel_rfl) ?_
  refine aops_n hTT (M := []) (n := 2) [pv (12 : Nat) (V.sl (1 : Nat) (0 : Nat) fun (k : Nat) => [V.i (gi [] k)]), pv (13 : Nat) (V.i slots)] (by kernel_rfl) (by kernel_rfl) True.intro ?_
  refine e_call (first := []) (caps := []) (CheckCopies_ac [] slots 0 (by simp)) (by kernel_rfl) (by kernel_rfl) (by kernel_rfl) (by kernel_rfl) (by kernel_rfl) ?_
  refine aops_n hTT (M := []) (n := 1) [pv (7 : Nat) (V.i (chkC [] slots (0 : Int)))] (by kernel_rfl) (by kernel_rfl) True.intro ?_
  refine aops_nil ?_
  refine xt_n ?_
  refine hK _ ?_
  clear hK K
  refine aw_seq_k fun K hK => ?_
  refine w_region (n' := 4) (by kernel_rfl) (by kernel_rfl) ?_
  refine aops_n hTT (M := []) (n := 2) [pv (15 : Nat) (V.i (chkC [] slots (0 : Int))), pv (16 : Nat) (V.b !decide (chkC [] slots (0 : Int) = (0 : Int)))] (by kernel_rfl) (by kernel_rfl) True.intro ?_
  refine aops_nil ?_
  refine xt_n ?_
  refine hK _ ?_
  clear hK K
  refine w_cond (t := !decide (chkC [] slots (0 : Int) = (0 : Int))) (by kernel_rfl) (fun c1 => ?_) (fun c1 => ?_)
  · simp [h] at c1
  refine aw_skip ?_
  refine xt_n ?_
  refine hK _ ?_
  clear hK K
  refine aw_seq_k fun K hK => ?_
  refine w_region (n' := 5) (by kernel_rfl) (by kernel_rfl) ?_
  refine aops_n hTT (M := []) (n := 2) [pv (19 : Nat) (V.sl (1 : Nat) (0 : Nat) fun (k : Nat) => [V.i (gi [] k)]), pv (20 : Nat) (V.i slots)] (by kernel_rfl) (by kernel_rfl) True.intro ?_
  refine e_call (first := []) (caps := []) (A) (by kernel_rfl) (by kernel_rfl) (by kernel_rfl) (by kernel_rfl) (by kernel_rfl) ?_
  refine aops_n hTT (M := []) (n := 5) [pv (18 : Nat) (V.tup [V.i (0 : Int), V.b true]), pv (22 : Nat) (V.i (0 : Int)), pv (23 : Nat) (V.b true), pv (8 : Nat) (V.i (0 : Int)), pv (9 : Nat) (V.b true)] (by kernel_rfl) (by kernel_rfl) True.intro ?_
  refine aops_nil ?_
  refine xt_n ?_
  refine hK _ ?_
  clear hK K
  refine aw_seq_k fun K hK => ?_
  refine aw_seq_k fun K hK => ?_
  refine w_region (n' := 6) (by kernel_rfl) (by kernel_rfl) ?_
  refine aops_n hTT (M := []) (n := 2) [pv (24 : Nat) (V.b true), pv (25 : Nat) (V.b false)] (by kernel_rfl) (by kernel_rfl) True.intro ?_
  refine aops_nil ?_
  refine xt_n ?_
  refine hK _ ?_
  clear hK K
  refine w_false (t := false) (by kernel_rfl) rfl ?_
  refine aw_skip ?_
  refine xt_n ?_
  refine hK _ ?_
  clear hK K
  refine aw_seq_k fun K hK => ?_
  refine aw_seq_k fun K hK => ?_
  refine w_region (n' := 7) (by kernel_rfl) (by kernel_rfl) ?_
  refine aops_n hTT (M := []) (n := 2) [pv (26 : Nat) (V.i (0 : Int)), pv (27 : Nat) (V.b true)] (by kernel_rfl) (by kernel_rfl) True.intro ?_
  refine aops_nil ?_
  refine xt_n ?_
  refine hK _ ?_
  clear hK K
  refine w_true (t := true) (by kernel_rfl) rfl ?_
  refine aw_seq_k fun K hK => ?_
  refine w_region (n' := 8) (by kernel_rfl) (by kernel_rfl) ?_
  refine aops_n hTT (M := []) (n := 3) [pv (4 : Nat) (V.i (0 : Int)), pv (5 : Nat) V.nil, pv (6 : Nat) (V.i (0 : Int))] (by kernel_rfl) (by kernel_rfl) True.intro ?_
  refine aops_nil ?_
  refine xt_n ?_
  refine hK _ ?_
  clear hK K
  refine aw_ret ?_
  refine xt_r ?_
  refine ret_pure (v' := V.tup [V.i (0 : Int), V.nil, V.i (0 : Int)]) (.inr rfl) (by kernel_rfl) (by kernel_rfl) (by kernel_rfl)
set_option maxRecDepth 100000 in
theorem Run3_ac (c : List Int) (slots : Int) (hl : c.length ≤ 4096) (h : chkC c slots 0 = 0) (h2 : ¬ slots < c.length) (h0 : c.length ≠ 0) :
    AC Tryd.prog 21 [V.ints c, .i slots] (.tup [.i (fewN c slots), .own 0, .i 0]) [.row 2 1 c.length fun k => [.i (plc (gi c k) (fewN c slots))]] := by
  refine ac_intro hTT hMX (fn := Tryd.f21) (N := _) ⟨Tryd.func21, rfl, Tryd.ntmps21, by kernel_rfl⟩ (by simp) fun C hC hF => ?_
  obtain ⟨l8, hco, hs, _⟩ := chkC_inv h
  have A := run_ac c slots hco (by omega)
  rw [runV, if_neg h2, decide_eq_true (by omega)] at A
  have hr := fewN_spec (slots := slots) hco (by omega) h0
  have hp := hr.1.pos
  refine aw_seq_k fun K hK => ?_
  refine w_region (n' := 2) (by kernel_rfl) (by kernel_rfl) ?_
  refine aops_n hTT (M := []) (n := 3) [pv (4 : Nat) (V.i (0 : Int)), pv (5 : Nat) V.nil, pv (6 : Nat) (V.i (0 : Int))] (by kernel_rfl) (by kernel_rfl) True.intro ?_
  refine aops_nil ?_
  refine xt_n ?_
  refine hK _ ?_
  clear hK K
  refine aw_seq_k fun K hK => ?_
  refine aw_seq_k fun K hK => ?_
  refine w_region (n' := 3) (by kernel_rfl) (by kernel_rfl) ?_
  refine aops_n hTT (M := []) (n := 2) [pv (12 : Nat) (V.sl (1 : Nat) (List.length c) fun (k : Nat) => [V.i (gi c k)]), pv (13 : Nat) (V.i slots)] (by kernel_rfl) (by kernel_rfl) True.intro ?_
  refine e_call (first := []) (caps := []) (CheckCopies_ac c slots 0 (by omega)) (by kernel_rfl) (by kernel_rfl) (by kernel_rfl) (by kernel_rfl) (by kernel_rfl) ?_
  refine aops_n hTT (M := []) (n := 1) [pv (7 : Nat) (V.i (chkC c slots (0 : Int)))] (by kernel_rfl) (by kernel_rfl) True.intro ?_
  refine aops_nil ?_
  refine xt_n ?_
  refine hK _ ?_
  clear hK K
  refine aw_seq_k fun K hK => ?_
  refine w_region (n' := 4) (by kernel_rfl) (by kernel_rfl) ?_
  refine aops_n hTT (M := []) (n := 2) [pv (15 : Nat) (V.i (chkC c slots (0 : Int))), pv (16 : Nat) (V.b !decide (chkC c slots (0 : Int) = (0 : Int)))] (by kernel_rfl) (by kernel_rfl) True.intro ?_
  refine aops_nil ?_
  refine xt_n ?_
  refine hK _ ?_
  clear hK K
  refine w_cond (t := !decide (chkC c slots (0 : Int) = (0 : Int))) (by kernel_rfl) (fun c1 => ?_) (fun c1 => ?_)
  · simp [h] at c1
  refine aw_skip ?_
  refine xt_n ?_
  refine hK _ ?_
  clear hK K
  refine aw_seq_k fun K hK => ?_
  refine w_region (n' := 5) (by kernel_rfl) (by kernel_rfl) ?_
  refine aops_n hTT (M := []) (n := 2) [pv (19 : Nat) (V.sl (1 : Nat) (List.length c) fun (k : Nat) => [V.i (gi c k)]), pv (20 : Nat) (V.i slots)] (by kernel_rfl) (by kernel_rfl) True.intro ?_
  refine e_call (first := []) (caps := []) (A) (by kernel_rfl) (by kernel_rfl) (by kernel_rfl) (by kernel_rfl) (by kernel_rfl) ?_
  refine aops_n hTT (M := []) (n := 5) [pv (18 : Nat) (V.tup [V.i (fewN c slots), V.b true]), pv (22 : Nat) (V.i (fewN c slots)), pv (23 : Nat) (V.b true), pv (8 : Nat) (V.i (fewN c slots)), pv (9 : Nat) (V.b true)] (by kernel_rfl) (by kernel_rfl) True.intro ?_
  refine aops_nil ?_
  refine xt_n ?_
  refine hK _ ?_
  clear hK K
  refine aw_seq_k fun K hK => ?_
  refine aw_seq_k fun K hK => ?_
  refine w_region (n' := 6) (by kernel_rfl) (by kernel_rfl) ?_
  refine aops_n hTT (M := []) (n := 2) [pv (24 : Nat) (V.b true), pv (25 : Nat) (V.b false)] (by kernel_rfl) (by kernel_rfl) True.intro ?_
  refine aops_nil ?_
  refine xt_n ?_
  refine hK _ ?_
  clear hK K
  refine w_false (t := false) (by kernel_rfl) rfl ?_
  refine aw_skip ?_
  refine xt_n ?_
  refine hK _ ?_
  clear hK K
  refine aw_seq_k fun K hK => ?_
  refine aw_seq_k fun K hK => ?_
  refine w_region (n' := 7) (by kernel_rfl) (by kernel_rfl) ?_
  refine aops_n hTT (M := []) (n := 2) [pv (26 : Nat) (V.i (fewN c slots)), pv (27 : Nat) (V.b (decide (fewN c slots = (0 : Int))))] (by kernel_rfl) (by kernel_rfl) True.intro ?_
  refine aops_nil ?_
  refine xt_n ?_
  refine hK _ ?_
  clear hK K
  refine w_cond (t := decide (fewN c slots = (0 : Int))) (by kernel_rfl) (fun c3 => ?_) (fun c3 => ?_)
  · simp at c3; omega
  refine aw_skip ?_
  refine xt_n ?_
  refine hK _ ?_
  clear hK K
  refine aw_seq_k fun K hK => ?_
  refine w_region (n' := 8) (by kernel_rfl) (by kernel_rfl) ?_
  refine aops_n hTT (M := []) (n := 2) [pv (29 : Nat) (V.sl (1 : Nat) (List.length c) fun (k : Nat) => [V.i (gi c k)]), pv (30 : Nat) (V.i (fewN c slots))] (by kernel_rfl) (by kernel_rfl) True.intro ?_
  refine e_callO (first := []) (caps := []) (k := 700031) (v' := V.tup [V.own (700031 : Nat), V.i (plcS c (fewN c slots) (List.length c))]) (ob' := Ob.row (2 : Nat) (1 : Nat) (List.length c) fun (i : Nat) => V.renL (callG (7 : Nat) (some 31)) [V.i (plc (gi c i) (fewN c slots))]) (placesO_ac c (fewN c slots) hco (by omega) ⟨hr.1.pos, hr.2⟩) (by kernel_rfl) (by kernel_rfl) (by kernel_rfl) (by kernel_rfl) (by kernel_rfl) (by kernel_rfl) (by kernel_rfl) ?_
  refine aops_n hTT (M := []) (n := 5) [pv (28 : Nat) (V.tup [V.own (700031 : Nat), V.i (plcS c (fewN c slots) (List.length c))]), pv (32 : Nat) (V.own (700031 : Nat)), pv (33 : Nat) (V.i (plcS c (fewN c slots) (List.length c))), pv (10 : Nat) (V.own (700031 : Nat)), pv (11 : Nat) (V.i (plcS c (fewN c slots) (List.length c)))] (by kernel_rfl) (by kernel_rfl) True.intro ?_
  refine aops_nil ?_
  refine xt_n ?_
  refine hK _ ?_
  clear hK K
  refine aw_seq_k fun K hK => ?_
  refine w_region (n' := 9) (by kernel_rfl) (by kernel_rfl) ?_
  refine aops_n hTT (M := []) (n := 5) [pv (34 : Nat) (V.i (fewN c slots)), pv (35 : Nat) (V.own (700031 : Nat)), pv (4 : Nat) (V.i (fewN c slots)), pv (5 : Nat) (V.own (700031 : Nat)), pv (6 : Nat) (V.i (0 : Int))] (by kernel_rfl) (by kernel_rfl) True.intro ?_
  refine aops_nil ?_
  refine xt_n ?_
  refine hK _ ?_
  clear hK K
  refine aw_ret ?_
  refine ret_own [(0, 700031)] [(4, V.i (fewN c slots)), (5, V.own (0 : Nat)), (6, V.i (0 : Int))] (.inr rfl) (.cons (by kernel_rfl) (.cons (by kernel_rfl) (.cons (by kernel_rfl) .nil))) (.cons ⟨Ob.row (2 : Nat) (1 : Nat) (List.length c) fun (i : Nat) => V.renL (callG (7 : Nat) (some (31 : Tmp))) [V.i (plc (gi c i) (fewN c slots))], (by kernel_rfl), .row (by kernel_rfl) (fun _ _ => rfl)⟩ .nil) (by kernel_rfl) (by kernel_rfl) (by kernel_rfl) (by kernel_rfl)
/-- valid numbers of copies -/
def cpL (l : List Int) (m : Nat) : List Int := (l.take m).map (1 + ·)
def V.u16s (l : List Int) : V := .sl 1 l.length fun k => [.c (.int .u16 (gi l k))]
theorem cpL_at {l : List Int} {m k : Nat} (h : k < l.length) (h2 : k < m) : gi (cpL l m) k = 1 + gi l k := by
  simp [gi, cpL, List.getD_eq_getElem?_getD, List.getElem?_take, h2, List.getElem?_eq_getElem h]
theorem cpL_len (l : List Int) (m : Nat) : (cpL l m).length = min m l.length := by simp [cpL]
theorem cpL_ok {l : List Int} {m : Nat} (hu : ∀ x ∈ l, 0 ≤ x ∧ x ≤ 65535) : ∀ x ∈ cpL l m, 1 ≤ x ∧ x ≤ 65536 := fun x hx => by
  simp only [cpL, List.mem_map] at hx
  obtain ⟨y, hy, rfl⟩ := hx
  have := hu y (List.mem_of_mem_take hy)
  omega
set_option maxRecDepth 100000 in
theorem copies_ac (l : List Int) (hl : l.length ≤ 4611686018427387904) (hu : ∀ x ∈ l, 0 ≤ x ∧ x ≤ 65535) : AC Tryd.prog 26 [V.u16s l, .i 8] (.own 0) [.row 2 1 (cpL l 8).length fun k => [.i (gi (cpL l 8) k)]] := by
  refine ac_intro hTT hMX (fn := Tryd.f26) (N := _) ⟨Tryd.func26, rfl, Tryd.ntmps26, by kernel_rfl⟩ (by simp) fun C hC hF => ?_
  refine aw_seq_k fun K hK => ?_
  refine w_region (n' := 2) (by kernel_rfl) (by kernel_rfl) ?_
  refine aops_n hTT (M := []) (n := 1) [pv (4 : Nat) V.nil] (by kernel_rfl) (by kernel_rfl) True.intro ?_
  refine aops_nil ?_
  refine xt_n ?_
  refine hK _ ?_
  clear hK K
  refine aw_seq_k fun K hK => ?_
  refine w_region (n' := 3) (by kernel_rfl) (by kernel_rfl) ?_
  refine aops_n hTT (M := []) (n := 1) [pv (5 : Nat) V.nil] (by kernel_rfl) (by kernel_rfl) True.intro ?_
  refine aops_nil ?_
  refine xt_n ?_
  refine hK _ ?_
  clear hK K
  refine aw_seq_k fun K hK => ?_
  refine aw_seq_k fun K hK => ?_
  refine w_region (n' := 4) (by kernel_rfl) (by kernel_rfl) ?_
  refine aops_n hTT (M := []) (n := 1) [pv (6 : Nat) (V.i (0 : Int))] (by kernel_rfl) (by kernel_rfl) True.intro ?_
  refine aops_nil ?_
  refine xt_n ?_
  refine hK _ ?_
  clear hK K
  refine aw_block ?_
  refine w_le (le_open 5 2 1 (fun k => [.i (gi (cpL l 8) k)]) (by kernel_rfl) rfl) ?_
  refine w_loop (ι := Nat) (fun k => [(0, V.u16s l), (1, .i 8), (5, .own 5), (6, .i k)]) (fun k => [(5, .row 2 1 k fun k => [.i (gi (cpL l 8) k)])]) (fun k => k ≤ l.length ∧ k ≤ 8) (fun k => 8 - k) 0 ⟨Nat.zero_le _, Nat.zero_le _⟩ ?_ ?_
  · refine le_ren (sl := [(5, Ob.row (2 : Nat) (1 : Nat) (0 : Nat) fun (k : Nat) => [V.i (gi (cpL l (8 : Nat)) k)])]) [(5, 400005)] (.cons (by kernel_rfl) (.cons (by kernel_rfl) (.cons (by kernel_rfl) (.cons (by kernel_rfl) .nil)))) (.cons ⟨Ob.row (2 : Nat) (1 : Nat) (0 : Nat) fun (k : Nat) => [V.i (gi (cpL l (8 : Nat)) k)], (by kernel_rfl), .row (by kernel_rfl) (fun _ _ => rfl)⟩ .nil) (by kernel_rfl) (by kernel_rfl)
  rintro k ⟨hk, hk8⟩
  refine aw_seq_k fun K hK => ?_
  refine aw_seq_k fun K hK => ?_
  refine w_region (n' := 2) (by kernel_rfl) (by kernel_rfl) ?_
  refine aops_n hTT (M := []) (n := 9) [pv (7 : Nat) (V.i (↑k : Int)), pv (8 : Nat) (V.sl (1 : Nat) (List.length l) fun (k : Nat) => [V.c (Value.int IntKind.u16 (gi l k))]), pv (9 : Nat) (V.i (↑(List.length l) : Int)), pv (10 : Nat) (V.b (decide ((↑k : Int) < (↑(List.length l) : Int)))), pv (11 : Nat) (V.b (decide ((↑k : Int) < (↑(List.length l) : Int)))), pc (12 : Nat) ((True ∧ True) ∧ ((decide ((↑k : Int) < (↑(List.length l) : Int)) == true) = true → True)) (V.gd (decide ((↑k : Int) < (↑(List.length l) : Int)) == true) (V.i (↑k : Int))), pc (13 : Nat) ((True ∧ True) ∧ ((decide ((↑k : Int) < (↑(List.length l) : Int)) == true) = true → True)) (V.gd (decide ((↑k : Int) < (↑(List.length l) : Int)) == true) (V.i (8 : Int))), pc (14 : Nat) ((((decide ((↑k : Int) < (↑(List.length l) : Int)) == true) = true → (decide ((↑k : Int) < (↑(List.length l) : Int)) == true) = true) ∧ ((decide ((↑k : Int) < (↑(List.length l) : Int)) == true) = true → (decide ((↑k : Int) < (↑(List.length l) : Int)) == true) = true) ∧ True) ∧ ((decide ((↑k : Int) < (↑(List.length l) : Int)) == true) = true → True)) (V.gd (decide ((↑k : Int) < (↑(List.length l) : Int)) == true) (V.b (decide ((↑k : Int) < (8 : Int))))), pc (15 : Nat) ((decide ((↑k : Int) < (↑(List.length l) : Int)) = true → (decide ((↑k : Int) < (↑(List.length l) : Int)) == true) = true) ∧ True) (V.b (decide ((↑k : Int) < (↑(List.length l) : Int)) && decide ((↑k : Int) < (8 : Int))))] (by kernel_rfl) (by kernel_rfl) ⟨⟨⟨True.intro, True.intro⟩, (fun _ => True.intro)⟩, ⟨⟨True.intro, True.intro⟩, (fun _ => True.intro)⟩, ⟨⟨(by (exact fun h => h)), ⟨(by (exact fun h => h)), True.intro⟩⟩, (fun _ => True.intro)⟩, ⟨(by (intro h; rw [h]; rfl)), True.intro⟩, True.intro⟩ ?_
  refine aops_nil ?_
  refine xt_n ?_
  refine hK _ ?_
  clear hK K
  refine w_cond (t := decide ((↑k : Int) < (↑(List.length l) : Int)) && decide ((↑k : Int) < (8 : Int))) (by kernel_rfl) (fun c1 => ?_) (fun c1 => ?_)
  · simp at c1
    have hv : 0 ≤ gi l k ∧ gi l k ≤ 65535 := by
      have := hu (gi l k) (by rw [gi, List.getD_eq_getElem?_getD, List.getElem?_eq_getElem (by omega)]; exact List.getElem_mem _)
      exact this
    refine aw_skip ?_
    refine xt_n ?_
    refine hK _ ?_
    clear hK K
    refine aw_seq_k fun K hK => ?_
    refine aw_block ?_
    refine w_region (n' := 3) (by kernel_rfl) (by kernel_rfl) ?_
    refine aops_n hTT (M := []) (n := 10) [pv (18 : Nat) (V.own (5 : Nat)), pv (19 : Nat) (V.sl (1 : Nat) (List.length l) fun (k : Nat) => [V.c (Value.int IntKind.u16 (gi l k))]), pv (20 : Nat) (V.i (↑k : Int)), pc (21 : Nat) ((0 : Int) ≤ (↑k : Int) ∧ (↑k : Int) < (↑(List.length l) : Int)) (V.ptr [V.c (Value.int IntKind.u16 (gi l k))]), pv (22 : Nat) (V.c (Value.int IntKind.u16 (gi l k))), pc (23 : Nat) ((-9223372036854775808 : Int) ≤ gi l k ∧ gi l k ≤ (9223372036854775807 : Int)) (V.i (gi l k)), pc (24 : Nat) ((-9223372036854775808 : Int) ≤ (1 : Int) + gi l k ∧ (1 : Int) + gi l k ≤ (9223372036854775807 : Int)) (V.i ((1 : Int) + gi l k)), pv (25 : Nat) (V.sl (1 : Nat) (1 : Nat) fun (i : Nat) => List.take (1 : Nat) (List.drop (i * (1 : Nat)) [V.i ((1 : Int) + gi l k)])), PR.mk (some (26 : Nat)) (some (k + (1 : Nat) ≤ (1099511627776 : Nat))) (V.own (200026 : Nat)) [((5 : Nat), none), ((200026 : Nat), some (Ob.row (2 : Nat) (1 : Nat) (k + (1 : Nat)) (appRow k (fun (k : Nat) => [V.i (gi (cpL l (8 : Nat)) k)]) fun (i : Nat) => List.take (1 : Nat) (List.drop (i * (1 : Nat)) [V.i ((1 : Int) + gi l k)]))))] false, pv (5 : Nat) (V.own (200026 : Nat))] (by kernel_rfl) (by kernel_rfl) ⟨(by omega), (by omega), (by omega), (by omega), True.intro⟩ ?_
    refine aops_nil ?_
    refine xb_n ?_
    refine xt_n ?_
    refine hK _ ?_
    clear hK K
    refine w_region (n' := 4) (by kernel_rfl) (by kernel_rfl) ?_
    refine aops_n hTT (M := []) (n := 3) [pv (16 : Nat) (V.i (↑k : Int)), pc (17 : Nat) ((-9223372036854775808 : Int) ≤ (↑k : Int) + (1 : Int) ∧ (↑k : Int) + (1 : Int) ≤ (9223372036854775807 : Int)) (V.i ((↑k : Int) + (1 : Int))), pv (6 : Nat) (V.i ((↑k : Int) + (1 : Int)))] (by kernel_rfl) (by kernel_rfl) ⟨(by omega), True.intro⟩ ?_
    refine aops_nil ?_
    refine xt_n ?_
    refine ⟨k + 1, ⟨by omega, by omega⟩, ?_, by omega⟩
    refine le_ren (tl := [(0, V.sl (1 : Nat) (List.length l) fun (k : Nat) => [V.c (Value.int IntKind.u16 (gi l k))]), (1, V.i (8 : Int)), (5, V.own (5 : Nat)), (6, V.i (↑(k + (1 : Nat)) : Int))]) (sl := [(5, Ob.row (2 : Nat) (1 : Nat) (k + (1 : Nat)) fun (k : Nat) => [V.i (gi (cpL l (8 : Nat)) k)])]) [(5, 200026)] (.cons (by kernel_rfl) (.cons (by kernel_rfl) (.cons (by kernel_rfl) (.cons (by kernel_rfl) .nil)))) (.cons ⟨Ob.row (2 : Nat) (1 : Nat) (k + (1 : Nat)) (appRow k (fun (k : Nat) => [V.i (gi (cpL l (8 : Nat)) k)]) fun (i : Nat) => List.take (1 : Nat) (List.drop (i * (1 : Nat)) [V.i ((1 : Int) + gi l k)])), (by kernel_rfl), .row (by kernel_rfl) ?_⟩ .nil) (by kernel_rfl) (by kernel_rfl)
    exact appRow_i rfl (cpL_at (by omega) (by omega)).symm
  simp at c1
  obtain rfl : k = (cpL l 8).length := by rw [cpL_len]; omega
  refine aw_exit ?_
  refine xt_x ?_
  refine xt_x ?_
  refine xb_same ?_
  refine xt_n ?_
  clear hK K
  refine hK _ ?_
  clear hK K
  refine aw_seq_k fun K hK => ?_
  refine w_region (n' := 3) (by kernel_rfl) (by kernel_rfl) ?_
  refine aops_n hTT (M := []) (n := 2) [pv (27 : Nat) (V.own (5 : Nat)), pv (4 : Nat) (V.own (5 : Nat))] (by kernel_rfl) (by kernel_rfl) True.intro ?_
  refine aops_nil ?_
  refine xt_n ?_
  refine hK _ ?_
  clear hK K
  refine aw_ret ?_
  refine ret_own [(0, 5)] [(4, V.own (0 : Nat))] (.inr rfl) (.cons (by kernel_rfl) .nil) (.cons ⟨Ob.row (2 : Nat) (1 : Nat) (List.length (cpL l (8 : Nat))) fun (k : Nat) => [V.i (gi (cpL l (8 : Nat)) k)], (by kernel_rfl), .row (by kernel_rfl) (fun _ _ => rfl)⟩ .nil) (by kernel_rfl) (by kernel_rfl) (by kernel_rfl) (by kernel_rfl)
/-- the same, for a row of the caller's that stays -/
theorem EnoughK_ac (c : List Int) (slots s : Int) (h : CO c) (hl : c.length ≤ 4096) (hs : s ≤ 1048576) : AM Tryd.prog 27 [.own 500, .i slots, .i s] [.row 2 1 c.length fun k => [.i (gi c k)]] (.b (enB c slots s)) [some (.row 2 1 c.length fun k => [.i (gi c k)])] [] :=
  (Enough_ac c slots s h hl hs).rowK 2 (sz := 1) (n := c.length) (row := fun k => [.i (gi c k)]) rfl rfl (by simp) (fun _ => rfl) rfl (by simp)
theorem Run1K_ac (c : List Int) (slots : Int) (hl : c.length ≤ 4096) (h : chkC c slots 0 = 0) (h2 : slots < c.length) : AM Tryd.prog 21 [.own 500, .i slots] [.row 2 1 c.length fun k => [.i (gi c k)]] (.tup [.i 0, .nil, .i 14]) [some (.row 2 1 c.length fun k => [.i (gi c k)])] [] :=
  (Run1_ac c slots hl h h2).rowK 2 (sz := 1) (n := c.length) (row := fun k => [.i (gi c k)]) rfl rfl (by simp) (fun _ => rfl) rfl (by simp)
theorem Run2K_ac (slots : Int) (h : chkC [] slots 0 = 0) : AM Tryd.prog 21 [.own 500, .i slots] [.row 2 1 0 fun k => [.i (gi [] k)]] (.tup [.i 0, .nil, .i 0]) [some (.row 2 1 0 fun k => [.i (gi [] k)])] [] :=
  (Run2_ac slots h).rowK 2 (sz := 1) (n := 0) (row := fun k => [.i (gi [] k)]) rfl rfl (by simp) (fun _ => rfl) rfl (by simp)
theorem Run3K_ac (c : List Int) (slots : Int) (hl : c.length ≤ 4096) (h : chkC c slots 0 = 0) (h2 : ¬ slots < c.length) (h0 : c.length ≠ 0) :
    AM Tryd.prog 21 [.own 500, .i slots] [.row 2 1 c.length fun k => [.i (gi c k)]] (.tup [.i (fewN c slots), .own 0, .i 0]) [some (.row 2 1 c.length fun k => [.i (gi c k)])] [.row 2 1 c.length fun k => [.i (plc (gi c k) (fewN c slots))]] :=
  (Run3_ac c slots hl h h2 h0).rowK 2 (sz := 1) (n := c.length) (row := fun k => [.i (gi c k)]) rfl rfl (by simp) (fun _ => rfl) rfl (fun o ho => by
    simp only [List.mem_singleton] at ho
    subst ho
    exact fun i _ u hu => by
      simp only [List.mem_singleton] at hu
      subst hu; rfl)
end Go.Proofs.YtfckkkmacjjmhaaDoor
