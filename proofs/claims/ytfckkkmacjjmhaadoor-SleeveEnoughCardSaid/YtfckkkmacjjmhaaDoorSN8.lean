/-
  Runs of sheets: the walks of both copies. No condition but the length of a list that is in memory.
-/
import Derived.Test.YtfckkkmacjjmhaaDoorSPl3
import Derived.Test.YtfckkkmacjjmhaaDoorSN7
namespace Go.Proofs.YtfckkkmacjjmhaaDoor
open Go.Ab Go.RowKit Go.Dw Go.Shelf

set_option maxRecDepth 100000 in
theorem copB_ac (n : Int) : AC Tryd.prog 58 [.i n] (.b (copB n)) [] := by
  refine ac_intro hTT hMX (fn := Tryd.f58) (N := _) ⟨Tryd.func58, rfl, Tryd.ntmps58, by kernel_rfl⟩ (by simp) fun C hC hF => ?_
  refine aw_seq_k fun K hK => ?_
  refine w_region (n' := 2) (by kernel_rfl) (by kernel_rfl) ?_
  refine aops_n hTT (M := []) (n := 1) [pv (2 : Nat) (V.b false)] (by kernel_rfl) (by kernel_rfl) True.intro ?_
  refine aops_nil ?_
  refine xt_n ?_
  refine hK _ ?_
  clear hK K
  refine aw_seq_k fun K hK => ?_
  refine w_region (n' := 3) (by kernel_rfl) (by kernel_rfl) ?_
  refine aops_n hTT (M := []) (n := 1) [pv (3 : Nat) (V.i n)] (by kernel_rfl) (by kernel_rfl) True.intro ?_
  refine e_call (first := []) (caps := []) (soutside_ac n 1 1048576) (by kernel_rfl) (by kernel_rfl) (by kernel_rfl) (by kernel_rfl) (by kernel_rfl) ?_
  refine aops_n hTT (M := []) (n := 1) [pv (2 : Nat) (V.b (decide (n < (1 : Int)) || decide ((1048576 : Int) < n)))] (by kernel_rfl) (by kernel_rfl) True.intro ?_
  refine aops_nil ?_
  refine xt_n ?_
  refine hK _ ?_
  clear hK K
  refine aw_ret ?_
  refine ret_pure (v' := V.b (decide (n < (1 : Int)) || decide ((1048576 : Int) < n))) (.inr rfl) (by kernel_rfl) (by kernel_rfl) (by kernel_rfl)
set_option maxRecDepth 100000 in
theorem indexCop_ac (l : List Int) (hl : l.length ≤ 4611686018427387904) : AC Tryd.prog 80 [V.ints l, .fn (.func 58) [] []] (.i (idxF (fun k => copB (gi l k)) l.length)) [] := by
  refine ac_intro hTT hMX (fn := Tryd.f80) (N := _) ⟨Tryd.func80, rfl, Tryd.ntmps80, by kernel_rfl⟩ (by simp) fun C hC hF => ?_
  refine aw_seq_k fun K hK => ?_
  refine w_region (n' := 2) (by kernel_rfl) (by kernel_rfl) ?_
  refine aops_n hTT (M := []) (n := 1) [pv (4 : Nat) (V.i (0 : Int))] (by kernel_rfl) (by kernel_rfl) True.intro ?_
  refine aops_nil ?_
  refine xt_n ?_
  refine hK _ ?_
  clear hK K
  refine aw_seq_k fun K hK => ?_
  refine aw_seq_k fun K hK => ?_
  refine w_region (n' := 3) (by kernel_rfl) (by kernel_rfl) ?_
  refine aops_n hTT (M := []) (n := 3) [pv (6 : Nat) (V.sl (1 : Nat) (List.length l) fun (k : Nat) => [V.i (gi l k)]), pv (7 : Nat) (V.i (↑(List.length l) : Int)), pv (8 : Nat) (V.i (0 : Int))] (by kernel_rfl) (by kernel_rfl) True.intro ?_
  refine aops_nil ?_
  refine xt_n ?_
  refine hK _ ?_
  clear hK K
  refine aw_block ?_
  refine w_loop (ι := Nat) (fun k => [(0, V.ints l), (1, .fn (.func 58) [] []), (7, .i l.length), (8, .i k)]) (fun _ => []) (fun k => k ≤ l.length ∧ ∀ j, j < k → (fun k => copB (gi l k)) j = false) (fun k => l.length - k) 0 ⟨Nat.zero_le _, fun _ h => by omega⟩ ?_ ?_
  · refine le_ren [] (.cons (by kernel_rfl) (.cons (by kernel_rfl) (.cons (by kernel_rfl) (.cons (by kernel_rfl) .nil)))) .nil (by kernel_rfl) (by kernel_rfl)
  rintro k ⟨hk, h0⟩
  refine aw_seq_k fun K hK => ?_
  refine w_region (n' := 2) (by kernel_rfl) (by kernel_rfl) ?_
  refine aops_n hTT (M := []) (n := 1) [pv (9 : Nat) (V.b (decide ((↑k : Int) < (↑(List.length l) : Int))))] (by kernel_rfl) (by kernel_rfl) True.intro ?_
  refine aops_nil ?_
  refine xt_n ?_
  refine hK _ ?_
  clear hK K
  refine aw_seq_k fun K hK => ?_
  refine w_cond (t := decide ((↑k : Int) < (↑(List.length l) : Int))) (by kernel_rfl) (fun c1 => ?_) (fun c1 => ?_)
  · simp at c1
    refine aw_skip ?_
    refine xt_n ?_
    refine hK _ ?_
    clear hK K
    refine aw_seq_k fun K hK => ?_
    refine aw_block ?_
    refine aw_seq_k fun K hK => ?_
    refine w_region (n' := 3) (by kernel_rfl) (by kernel_rfl) ?_
    refine aops_n hTT (M := []) (n := 2) [pv (10 : Nat) (V.i (↑k : Int)), pv (5 : Nat) (V.i (↑k : Int))] (by kernel_rfl) (by kernel_rfl) True.intro ?_
    refine aops_nil ?_
    refine xt_n ?_
    refine hK _ ?_
    clear hK K
    refine aw_seq_k fun K hK => ?_
    refine w_region (n' := 4) (by kernel_rfl) (by kernel_rfl) ?_
    refine aops_n hTT (M := []) (n := 5) [pv (11 : Nat) (V.fn (Fn.func (58 : Nat)) [] []), pv (12 : Nat) (V.sl (1 : Nat) (List.length l) fun (k : Nat) => [V.i (gi l k)]), pv (13 : Nat) (V.i (↑k : Int)), pc (14 : Nat) ((0 : Int) ≤ (↑k : Int) ∧ (↑k : Int) < (↑(List.length l) : Int)) (V.ptr [V.i (gi l k)]), pv (15 : Nat) (V.i (gi l k))] (by kernel_rfl) (by kernel_rfl) ⟨(by omega), True.intro⟩ ?_
    refine e_call (first := []) (caps := []) (copB_ac (gi l k)) (by kernel_rfl) (by kernel_rfl) (by kernel_rfl) (by kernel_rfl) (by kernel_rfl) ?_
    refine aops_nil ?_
    refine xt_n ?_
    refine hK _ ?_
    clear hK K
    refine w_cond (t := copB (gi l k)) (by kernel_rfl) (fun c2 => ?_) (fun c2 => ?_)
    · refine aw_seq_k fun K hK => ?_
      refine w_region (n' := 5) (by kernel_rfl) (by kernel_rfl) ?_
      refine aops_n hTT (M := []) (n := 2) [pv (17 : Nat) (V.i (↑k : Int)), pv (4 : Nat) (V.i (↑k : Int))] (by kernel_rfl) (by kernel_rfl) True.intro ?_
      refine aops_nil ?_
      refine xt_n ?_
      refine hK _ ?_
      clear hK K
      refine aw_ret ?_
      refine xb_r ?_
      refine xt_r ?_
      refine xt_r ?_
      refine xb_r ?_
      refine xt_r ?_
      rw [idxF_some (p := fun k => copB (gi l k)) c1 c2 h0]
      refine ret_pure (v' := V.i (↑k : Int)) (.inr rfl) (by kernel_rfl) (by kernel_rfl) (by kernel_rfl)
    refine aw_skip ?_
    refine xb_n ?_
    refine xt_n ?_
    refine hK _ ?_
    clear hK K
    refine w_region (n' := 5) (by kernel_rfl) (by kernel_rfl) ?_
    refine aops_n hTT (M := []) (n := 2) [pc (18 : Nat) ((-9223372036854775808 : Int) ≤ (↑k : Int) + (1 : Int) ∧ (↑k : Int) + (1 : Int) ≤ (9223372036854775807 : Int)) (V.i ((↑k : Int) + (1 : Int))), pv (8 : Nat) (V.i ((↑k : Int) + (1 : Int)))] (by kernel_rfl) (by kernel_rfl) ⟨(by omega), True.intro⟩ ?_
    refine aops_nil ?_
    refine xt_n ?_
    refine ⟨k + 1, ⟨by omega, fun j hj => ?_⟩, by refine le_ren [] (.cons (by kernel_rfl) (.cons (by kernel_rfl) (.cons (by kernel_rfl) (.cons (by kernel_rfl) .nil)))) .nil (by kernel_rfl) (by kernel_rfl), by omega⟩
    by_cases he : j = k
    · subst he; exact c2
    · exact h0 j (by omega)
  simp at c1
  obtain rfl : k = l.length := by omega
  refine aw_exit ?_
  refine xt_x ?_
  refine xt_x ?_
  refine xb_same ?_
  refine xt_n ?_
  clear hK K
  refine hK _ ?_
  clear hK K
  refine aw_seq_k fun K hK => ?_
  refine w_region (n' := 3) (by kernel_rfl) (by kernel_rfl) ?_
  refine aops_n hTT (M := []) (n := 1) [pv (4 : Nat) (V.i (-1 : Int))] (by kernel_rfl) (by kernel_rfl) True.intro ?_
  refine aops_nil ?_
  refine xt_n ?_
  refine hK _ ?_
  clear hK K
  refine aw_ret ?_
  rw [idxF_none h0]
  refine ret_pure (v' := V.i (-1 : Int)) (.inr rfl) (by kernel_rfl) (by kernel_rfl) (by kernel_rfl)
set_option maxRecDepth 100000 in
theorem containsCop_ac (l : List Int) (hl : l.length ≤ 4611686018427387904) : AC Tryd.prog 57 [V.ints l, .fn (.func 58) [] []] (.b (decide (0 ≤ idxF (fun k => copB (gi l k)) l.length))) [] := by
  refine ac_intro hTT hMX (fn := Tryd.f57) (N := _) ⟨Tryd.func57, rfl, Tryd.ntmps57, by kernel_rfl⟩ (by simp) fun C hC hF => ?_
  refine aw_seq_k fun K hK => ?_
  refine w_region (n' := 2) (by kernel_rfl) (by kernel_rfl) ?_
  refine aops_n hTT (M := []) (n := 1) [pv (4 : Nat) (V.b false)] (by kernel_rfl) (by kernel_rfl) True.intro ?_
  refine aops_nil ?_
  refine xt_n ?_
  refine hK _ ?_
  clear hK K
  refine aw_seq_k fun K hK => ?_
  refine w_region (n' := 3) (by kernel_rfl) (by kernel_rfl) ?_
  refine aops_n hTT (M := []) (n := 2) [pv (5 : Nat) (V.sl (1 : Nat) (List.length l) fun (k : Nat) => [V.i (gi l k)]), pv (6 : Nat) (V.fn (Fn.func (58 : Nat)) [] [])] (by kernel_rfl) (by kernel_rfl) True.intro ?_
  refine e_call (first := []) (caps := []) (indexCop_ac l hl) (by kernel_rfl) (by kernel_rfl) (by kernel_rfl) (by kernel_rfl) (by kernel_rfl) ?_
  refine aops_n hTT (M := []) (n := 2) [pv (8 : Nat) (V.b (decide ((0 : Int) ≤ idxF (fun (k : Nat) => copB (gi l k)) (List.length l)))), pv (4 : Nat) (V.b (decide ((0 : Int) ≤ idxF (fun (k : Nat) => copB (gi l k)) (List.length l))))] (by kernel_rfl) (by kernel_rfl) True.intro ?_
  refine aops_nil ?_
  refine xt_n ?_
  refine hK _ ?_
  clear hK K
  refine aw_ret ?_
  refine ret_pure (v' := V.b (decide ((0 : Int) ≤ idxF (fun (k : Nat) => copB (gi l k)) (List.length l)))) (.inr rfl) (by kernel_rfl) (by kernel_rfl) (by kernel_rfl)
set_option maxRecDepth 100000 in
theorem CheckCopies_ac (c : List Int) (slots plate : Int) (hl : c.length ≤ 4611686018427387904) : AC Tryd.prog 24 [V.ints c, .i slots, .i plate] (.i (chkC c slots plate)) [] := by
  refine ac_intro hTT hMX (fn := Tryd.f24) (N := _) ⟨Tryd.func24, rfl, Tryd.ntmps24, by kernel_rfl⟩ (by simp) fun C hC hF => ?_
  refine aw_seq_k fun K hK => ?_
  refine w_region (n' := 2) (by kernel_rfl) (by kernel_rfl) ?_
  refine aops_n hTT (M := []) (n := 1) [pv (6 : Nat) (V.i (0 : Int))] (by kernel_rfl) (by kernel_rfl) True.intro ?_
  refine aops_nil ?_
  refine xt_n ?_
  refine hK _ ?_
  clear hK K
  refine aw_seq_k fun K hK => ?_
  refine aw_block ?_
  refine aw_seq_k fun K hK => ?_
  refine w_region (n' := 3) (by kernel_rfl) (by kernel_rfl) ?_
  refine aops_n hTT (M := []) (n := 4) [pv (8 : Nat) (V.sl (1 : Nat) (List.length c) fun (k : Nat) => [V.i (gi c k)]), pv (9 : Nat) (V.i (↑(List.length c) : Int)), pv (10 : Nat) (V.b (decide ((8 : Int) < (↑(List.length c) : Int)))), pv (7 : Nat) (V.b (decide ((8 : Int) < (↑(List.length c) : Int))))] (by kernel_rfl) (by kernel_rfl) True.intro ?_
  refine aops_nil ?_
  refine xt_n ?_
  refine hK _ ?_
  clear hK K
  refine w_cond (t := decide ((8 : Int) < (↑(List.length c) : Int))) (by kernel_rfl) (fun c1 => ?_) (fun c1 => ?_)
  · have h1 : 8 < c.length := by simp at c1; omega
    refine aw_seq_k fun K hK => ?_
    refine w_region (n' := 4) (by kernel_rfl) (by kernel_rfl) ?_
    refine aops_n hTT (M := []) (n := 1) [pv (6 : Nat) (V.i (6 : Int))] (by kernel_rfl) (by kernel_rfl) True.intro ?_
    refine aops_nil ?_
    refine xt_n ?_
    refine hK _ ?_
    clear hK K
    refine aw_ret ?_
    refine xb_r ?_
    refine xt_r ?_
    rw [chkC_1 h1]
    refine ret_pure (v' := V.i (6 : Int)) (.inr rfl) (by kernel_rfl) (by kernel_rfl) (by kernel_rfl)
  have h1 : ¬ 8 < c.length := by simp at c1; omega
  refine aw_seq_k fun K hK => ?_
  refine w_region (n' := 4) (by kernel_rfl) (by kernel_rfl) ?_
  refine aops_n hTT (M := []) (n := 1) [pv (12 : Nat) (V.sl (1 : Nat) (List.length c) fun (k : Nat) => [V.i (gi c k)])] (by kernel_rfl) (by kernel_rfl) True.intro ?_
  refine e_call (first := []) (caps := []) (containsCop_ac c hl) (by kernel_rfl) (by kernel_rfl) (by kernel_rfl) (by kernel_rfl) (by kernel_rfl) ?_
  refine aops_n hTT (M := []) (n := 1) [pv (11 : Nat) (V.b (decide ((0 : Int) ≤ idxF (fun (k : Nat) => copB (gi c k)) (List.length c))))] (by kernel_rfl) (by kernel_rfl) True.intro ?_
  refine aops_nil ?_
  refine xt_n ?_
  refine hK _ ?_
  clear hK K
  rcases idxF_inv (p := fun k => copB (gi c k)) (n := c.length) with ⟨e, h⟩ | ⟨i, hi, e, h, _⟩
  · rw [e]
    refine w_false (t := false) (by kernel_rfl) rfl ?_
    refine aw_seq_k fun K hK => ?_
    refine w_region (n' := 5) (by kernel_rfl) (by kernel_rfl) ?_
    refine aops_n hTT (M := []) (n := 1) [pv (15 : Nat) (V.i slots)] (by kernel_rfl) (by kernel_rfl) True.intro ?_
    refine e_call (first := []) (caps := []) (soutside_ac slots 1 64) (by kernel_rfl) (by kernel_rfl) (by kernel_rfl) (by kernel_rfl) (by kernel_rfl) ?_
    refine aops_n hTT (M := []) (n := 2) [pv (17 : Nat) (V.b (decide (slots < (1 : Int)) || decide ((64 : Int) < slots))), pc (18 : Nat) ((True ∧ True) ∧ (((decide (slots < (1 : Int)) || decide ((64 : Int) < slots)) == false) = true → True)) (V.gd ((decide (slots < (1 : Int)) || decide ((64 : Int) < slots)) == false) (V.i plate))] (by kernel_rfl) (by kernel_rfl) ⟨⟨⟨True.intro, True.intro⟩, (fun _ => True.intro)⟩, True.intro⟩ ?_
    refine e_callG 1 (g := (decide (slots < (1 : Int)) || decide ((64 : Int) < slots)) == false) (first := []) (caps := []) (by kernel_rfl) (fun g => soutside_ac plate 0 1048576) (by kernel_rfl) (by kernel_rfl) (by kernel_rfl) (by kernel_rfl) (by kernel_rfl) (by kernel_rfl) ?_
    refine aops_n hTT (M := []) (n := 2) [pc (20 : Nat) (True ∧ ((decide (slots < (1 : Int)) || decide ((64 : Int) < slots)) = false → ((decide (slots < (1 : Int)) || decide ((64 : Int) < slots)) == false) = true)) (V.b (decide (slots < (1 : Int)) || decide ((64 : Int) < slots) || (decide (plate < (0 : Int)) || decide ((1048576 : Int) < plate)))), pv (14 : Nat) (V.b (decide (slots < (1 : Int)) || decide ((64 : Int) < slots) || (decide (plate < (0 : Int)) || decide ((1048576 : Int) < plate))))] (by kernel_rfl) (by kernel_rfl) ⟨⟨True.intro, (by (intro h; rw [h]; rfl))⟩, True.intro⟩ ?_
    refine aops_nil ?_
    refine xt_n ?_
    refine hK _ ?_
    clear hK K
    refine w_cond (t := decide (slots < (1 : Int)) || decide ((64 : Int) < slots) || (decide (plate < (0 : Int)) || decide ((1048576 : Int) < plate))) (by kernel_rfl) (fun c2 => ?_) (fun c2 => ?_)
    · refine aw_seq_k fun K hK => ?_
      refine w_region (n' := 6) (by kernel_rfl) (by kernel_rfl) ?_
      refine aops_n hTT (M := []) (n := 1) [pv (6 : Nat) (V.i (3 : Int))] (by kernel_rfl) (by kernel_rfl) True.intro ?_
      refine aops_nil ?_
      refine xt_n ?_
      refine hK _ ?_
      clear hK K
      refine aw_ret ?_
      refine xb_r ?_
      refine xt_r ?_
      rw [chkC_3 h1 h c2]
      refine ret_pure (v' := V.i (3 : Int)) (.inr rfl) (by kernel_rfl) (by kernel_rfl) (by kernel_rfl)
    · refine aw_skip ?_
      refine xb_n ?_
      refine xt_n ?_
      refine hK _ ?_
      clear hK K
      refine aw_seq_k fun K hK => ?_
      refine w_region (n' := 6) (by kernel_rfl) (by kernel_rfl) ?_
      refine aops_n hTT (M := []) (n := 1) [pv (6 : Nat) (V.i (0 : Int))] (by kernel_rfl) (by kernel_rfl) True.intro ?_
      refine aops_nil ?_
      refine xt_n ?_
      refine hK _ ?_
      clear hK K
      refine aw_ret ?_
      rw [chkC_4 h1 h (by rw [outB, outB, c2]; simp)]
      refine ret_pure (v' := V.i (0 : Int)) (.inr rfl) (by kernel_rfl) (by kernel_rfl) (by kernel_rfl)
  · rw [e]
    refine w_cond (t := decide ((0 : Int) ≤ (↑i : Int))) (by kernel_rfl) (fun c2 => ?_) (fun c2 => ?_)
    · refine aw_seq_k fun K hK => ?_
      refine w_region (n' := 5) (by kernel_rfl) (by kernel_rfl) ?_
      refine aops_n hTT (M := []) (n := 1) [pv (6 : Nat) (V.i (2 : Int))] (by kernel_rfl) (by kernel_rfl) True.intro ?_
      refine aops_nil ?_
      refine xt_n ?_
      refine hK _ ?_
      clear hK K
      refine aw_ret ?_
      refine xb_r ?_
      refine xt_r ?_
      rw [chkC_2 h1 hi h]
      refine ret_pure (v' := V.i (2 : Int)) (.inr rfl) (by kernel_rfl) (by kernel_rfl) (by kernel_rfl)
    · simp at c2
set_option maxRecDepth 100000 in
theorem places_ac (c : List Int) (s : Int) (h : CO c) (hl : c.length ≤ 4096) (hs : 1 ≤ s ∧ s ≤ 1048576) : AC Tryd.prog 54 [V.ints c, .i s] (.tup [V.ints (c.map fun n => plc n s), .i (plcS c s c.length)]) [] := by
  obtain ⟨s1, s2⟩ := hs
  refine ac_intro hTT hMX (fn := Tryd.f54) (N := _) ⟨Tryd.func54, rfl, Tryd.ntmps54, by kernel_rfl⟩ (by simp) fun C hC hF => ?_
  refine aw_seq_k fun K hK => ?_
  refine w_region (n' := 2) (by kernel_rfl) (by kernel_rfl) ?_
  refine aops_n hTT (M := []) (n := 2) [pv (4 : Nat) V.nil, pv (5 : Nat) (V.i (0 : Int))] (by kernel_rfl) (by kernel_rfl) True.intro ?_
  refine aops_nil ?_
  refine xt_n ?_
  refine hK _ ?_
  clear hK K
  refine aw_seq_k fun K hK => ?_
  refine w_region (n' := 3) (by kernel_rfl) (by kernel_rfl) ?_
  refine aops_n hTT (M := []) (n := 1) [pv (6 : Nat) V.nil] (by kernel_rfl) (by kernel_rfl) True.intro ?_
  refine aops_nil ?_
  refine xt_n ?_
  refine hK _ ?_
  clear hK K
  refine aw_seq_k fun K hK => ?_
  refine w_region (n' := 4) (by kernel_rfl) (by kernel_rfl) ?_
  refine aops_n hTT (M := []) (n := 1) [pv (7 : Nat) (V.i (0 : Int))] (by kernel_rfl) (by kernel_rfl) True.intro ?_
  refine aops_nil ?_
  refine xt_n ?_
  refine hK _ ?_
  clear hK K
  refine aw_seq_k fun K hK => ?_
  refine aw_seq_k fun K hK => ?_
  refine w_region (n' := 5) (by kernel_rfl) (by kernel_rfl) ?_
  refine aops_n hTT (M := []) (n := 3) [pv (11 : Nat) (V.sl (1 : Nat) (List.length c) fun (k : Nat) => [V.i (gi c k)]), pv (12 : Nat) (V.i (↑(List.length c) : Int)), pv (13 : Nat) (V.i (0 : Int))] (by kernel_rfl) (by kernel_rfl) True.intro ?_
  refine aops_nil ?_
  refine xt_n ?_
  refine hK _ ?_
  clear hK K
  refine aw_block ?_
  refine w_le (le_open 6 2 1 (fun k => [.i (plc (gi c k) s)]) (by kernel_rfl) rfl) ?_
  refine w_loop (ι := Nat) (fun k => [(1, .i s), (6, .own 6), (7, .i (plcS c s k)), (11, V.ints c), (12, .i c.length), (13, .i k)]) (fun k => [(6, .row 2 1 k fun k => [.i (plc (gi c k) s)])]) (fun k => k ≤ c.length) (fun k => c.length - k) 0 (Nat.zero_le _) ?_ ?_
  · refine le_ren (sl := [(6, Ob.row (2 : Nat) (1 : Nat) (0 : Nat) fun (k : Nat) => [V.i (plc (gi c k) s)])]) [(6, 500006)] (.cons (by kernel_rfl) (.cons (by kernel_rfl) (.cons (by kernel_rfl) (.cons (by kernel_rfl) (.cons (by kernel_rfl) (.cons (by kernel_rfl) .nil)))))) (.cons ⟨Ob.row (2 : Nat) (1 : Nat) (0 : Nat) fun (k : Nat) => [V.i (plc (gi c k) s)], (by kernel_rfl), .row (by kernel_rfl) (fun _ _ => rfl)⟩ .nil) (by kernel_rfl) (by kernel_rfl)
  intro k hk
  have hb := plcS_bd h s1 k hk
  refine aw_seq_k fun K hK => ?_
  refine w_region (n' := 2) (by kernel_rfl) (by kernel_rfl) ?_
  refine aops_n hTT (M := []) (n := 1) [pv (14 : Nat) (V.b (decide ((↑k : Int) < (↑(List.length c) : Int))))] (by kernel_rfl) (by kernel_rfl) True.intro ?_
  refine aops_nil ?_
  refine xt_n ?_
  refine hK _ ?_
  clear hK K
  refine aw_seq_k fun K hK => ?_
  refine w_cond (t := decide ((↑k : Int) < (↑(List.length c) : Int))) (by kernel_rfl) (fun c1 => ?_) (fun c1 => ?_)
  · simp at c1
    obtain ⟨q1, q2⟩ := h.gi c1
    have e1 := tdiv_plc q1 s1
    have p1 := plc_pos q1 s1
    have p2 := plc_le q1 s1
    refine aw_skip ?_
    refine xt_n ?_
    refine hK _ ?_
    clear hK K
    refine aw_seq_k fun K hK => ?_
    refine aw_block ?_
    refine aw_seq_k fun K hK => ?_
    refine w_region (n' := 3) (by kernel_rfl) (by kernel_rfl) ?_
    refine aops_n hTT (M := []) (n := 3) [pc (15 : Nat) ((0 : Int) ≤ (↑k : Int) ∧ (↑k : Int) < (↑(List.length c) : Int)) (V.ptr [V.i (gi c k)]), pv (16 : Nat) (V.i (gi c k)), pv (9 : Nat) (V.i (gi c k))] (by kernel_rfl) (by kernel_rfl) ⟨(by omega), True.intro⟩ ?_
    refine aops_nil ?_
    refine xt_n ?_
    refine hK _ ?_
    clear hK K
    refine aw_seq_k fun K hK => ?_
    refine w_region (n' := 4) (by kernel_rfl) (by kernel_rfl) ?_
    refine aops_n hTT (M := []) (n := 7) [pv (17 : Nat) (V.i (gi c k)), pv (18 : Nat) (V.i s), pc (19 : Nat) ((-9223372036854775808 : Int) ≤ gi c k + s ∧ gi c k + s ≤ (9223372036854775807 : Int)) (V.i (gi c k + s)), pc (20 : Nat) ((-9223372036854775808 : Int) ≤ gi c k + s - (1 : Int) ∧ gi c k + s - (1 : Int) ≤ (9223372036854775807 : Int)) (V.i (gi c k + s - (1 : Int))), pv (21 : Nat) (V.i s), pc (22 : Nat) ((0 : Int) < s ∧ (-9223372036854775808 : Int) ≤ gi c k + s - (1 : Int) ∧ gi c k + s - (1 : Int) ≤ (9223372036854775807 : Int)) (V.i (Int.tdiv (gi c k + s - (1 : Int)) s)), pv (10 : Nat) (V.i (Int.tdiv (gi c k + s - (1 : Int)) s))] (by kernel_rfl) (by kernel_rfl) ⟨(by omega), (by omega), ⟨(by omega), (by omega)⟩, True.intro⟩ ?_
    refine aops_nil ?_
    refine xt_n ?_
    refine hK _ ?_
    clear hK K
    refine aw_seq_k fun K hK => ?_
    rw [e1]
    refine w_region (n' := 5) (by kernel_rfl) (by kernel_rfl) ?_
    refine aops_n hTT (M := []) (n := 5) [pv (23 : Nat) (V.own (6 : Nat)), pv (24 : Nat) (V.i (plc (gi c k) s)), pv (25 : Nat) (V.sl (1 : Nat) (1 : Nat) fun (i : Nat) => List.take (1 : Nat) (List.drop (i * (1 : Nat)) [V.i (plc (gi c k) s)])), PR.mk (some (26 : Nat)) (some (k + (1 : Nat) ≤ (1099511627776 : Nat))) (V.own (400026 : Nat)) [((6 : Nat), none), ((400026 : Nat), some (Ob.row (2 : Nat) (1 : Nat) (k + (1 : Nat)) (appRow k (fun (k : Nat) => [V.i (plc (gi c k) s)]) fun (i : Nat) => List.take (1 : Nat) (List.drop (i * (1 : Nat)) [V.i (plc (gi c k) s)]))))] false, pv (6 : Nat) (V.own (400026 : Nat))] (by kernel_rfl) (by kernel_rfl) ⟨(by omega), True.intro⟩ ?_
    refine aops_nil ?_
    refine xt_n ?_
    refine hK _ ?_
    clear hK K
    refine w_region (n' := 6) (by kernel_rfl) (by kernel_rfl) ?_
    refine aops_n hTT (M := []) (n := 4) [pv (27 : Nat) (V.i (plcS c s k)), pv (28 : Nat) (V.i (plc (gi c k) s)), pc (29 : Nat) ((-9223372036854775808 : Int) ≤ plcS c s k + plc (gi c k) s ∧ plcS c s k + plc (gi c k) s ≤ (9223372036854775807 : Int)) (V.i (plcS c s k + plc (gi c k) s)), pv (7 : Nat) (V.i (plcS c s k + plc (gi c k) s))] (by kernel_rfl) (by kernel_rfl) ⟨(by omega), True.intro⟩ ?_
    refine aops_nil ?_
    refine xb_n ?_
    refine xt_n ?_
    refine hK _ ?_
    clear hK K
    refine w_region (n' := 7) (by kernel_rfl) (by kernel_rfl) ?_
    refine aops_n hTT (M := []) (n := 2) [pc (30 : Nat) ((-9223372036854775808 : Int) ≤ (↑k : Int) + (1 : Int) ∧ (↑k : Int) + (1 : Int) ≤ (9223372036854775807 : Int)) (V.i ((↑k : Int) + (1 : Int))), pv (13 : Nat) (V.i ((↑k : Int) + (1 : Int)))] (by kernel_rfl) (by kernel_rfl) ⟨(by omega), True.intro⟩ ?_
    refine aops_nil ?_
    refine xt_n ?_
    refine ⟨k + 1, by omega, ?_, by omega⟩
    refine le_ren (tl := [(1, V.i s), (6, V.own (6 : Nat)), (7, V.i (plcS c s (k + (1 : Nat)))), (11, V.sl (1 : Nat) (List.length c) fun (k : Nat) => [V.i (gi c k)]), (12, V.i (↑(List.length c) : Int)), (13, V.i (↑(k + (1 : Nat)) : Int))]) (sl := [(6, Ob.row (2 : Nat) (1 : Nat) (k + (1 : Nat)) fun (k : Nat) => [V.i (plc (gi c k) s)])]) [(6, 400026)] (.cons (by kernel_rfl) (.cons (by kernel_rfl) (.cons (by kernel_rfl) (.cons (by kernel_rfl) (.cons (by kernel_rfl) (.cons (by kernel_rfl) .nil)))))) (.cons ⟨Ob.row (2 : Nat) (1 : Nat) (k + (1 : Nat)) (appRow k (fun (k : Nat) => [V.i (plc (gi c k) s)]) fun (i : Nat) => List.take (1 : Nat) (List.drop (i * (1 : Nat)) [V.i (plc (gi c k) s)])), (by kernel_rfl), .row (by kernel_rfl) ?_⟩ .nil) (by kernel_rfl) (by kernel_rfl)
    exact appRow_i rfl rfl
  simp at c1
  obtain rfl : k = c.length := by omega
  refine aw_exit ?_
  refine xt_x ?_
  refine xt_x ?_
  refine xb_same ?_
  refine xt_n ?_
  clear hK K
  refine hK _ ?_
  clear hK K
  refine aw_seq_k fun K hK => ?_
  refine w_region (n' := 3) (by kernel_rfl) (by kernel_rfl) ?_
  refine aops_n hTT (M := []) (n := 4) [pv (31 : Nat) (V.own (6 : Nat)), pv (32 : Nat) (V.i (plcS c s (List.length c))), pv (4 : Nat) (V.own (6 : Nat)), pv (5 : Nat) (V.i (plcS c s (List.length c)))] (by kernel_rfl) (by kernel_rfl) True.intro ?_
  refine aops_nil ?_
  refine xt_n ?_
  refine hK _ ?_
  clear hK K
  refine aw_ret ?_
  refine ret_of_le (le_shut 4 6 (e := (2 : Nat)) (sz := (1 : Nat)) (n := List.length c) (n' := (c.map fun n => plc n s).length) (row := fun (k : Nat) => [V.i (plc (gi c k) s)]) (row' := (fun k => [.i (gi (c.map fun n => plc n s) k)])) (by kernel_rfl) (by kernel_rfl) (fun _ _ => rfl) ?_ ?_) ?_
  · simp
  · intro i hi; rw [gi_map hi]
  refine ret_pure (v' := V.tup [V.sl (1 : Nat) (List.length (List.map (fun (n : Int) => plc n s) c)) fun (k : Nat) => [V.i (gi (List.map (fun (n : Int) => plc n s) c) k)], V.i (plcS c s (List.length c))]) (.inr rfl) (by kernel_rfl) (by kernel_rfl) (by kernel_rfl)
def mxP (c : List Int) : Nat → Int
  | 0 => gi c 0
  | k + 1 => max (mxP c k) (gi c (k + 1))
theorem mxP_ge {c : List Int} : ∀ {k i : Nat}, i ≤ k → gi c i ≤ mxP c k
  | 0, i, h => by
    obtain rfl : i = 0 := by omega
    exact Int.le_refl _
  | k + 1, i, h => by
    rw [mxP]
    by_cases he : i = k + 1
    · subst he; omega
    · have := mxP_ge (c := c) (k := k) (i := i) (by omega); omega
theorem mxP_bd {c : List Int} (h : CO c) : ∀ {k : Nat}, k < c.length → 1 ≤ mxP c k ∧ mxP c k ≤ 1048576
  | 0, hk => h.gi hk
  | k + 1, hk => by
    have := mxP_bd h (k := k) (by omega)
    have := h.gi hk
    rw [mxP]; omega
set_option maxRecDepth 100000 in
theorem Max_ac (c : List Int) (h0 : 0 < c.length) (hl : c.length ≤ 4096) : AC Tryd.prog 79 [V.ints c] (.i (mxP c (c.length - 1))) [] := by
  refine ac_intro hTT hMX (fn := Tryd.f79) (N := _) ⟨Tryd.func79, rfl, Tryd.ntmps79, by kernel_rfl⟩ (by simp) fun C hC hF => ?_
  refine aw_seq_k fun K hK => ?_
  refine w_region (n' := 2) (by kernel_rfl) (by kernel_rfl) ?_
  refine aops_n hTT (M := []) (n := 1) [pv (2 : Nat) (V.i (0 : Int))] (by kernel_rfl) (by kernel_rfl) True.intro ?_
  refine aops_nil ?_
  refine xt_n ?_
  refine hK _ ?_
  clear hK K
  refine aw_seq_k fun K hK => ?_
  refine aw_seq_k fun K hK => ?_
  refine w_region (n' := 3) (by kernel_rfl) (by kernel_rfl) ?_
  refine aops_n hTT (M := []) (n := 3) [pv (5 : Nat) (V.sl (1 : Nat) (List.length c) fun (k : Nat) => [V.i (gi c k)]), pv (6 : Nat) (V.i (↑(List.length c) : Int)), pv (7 : Nat) (V.b (decide ((↑(List.length c) : Int) < (1 : Int))))] (by kernel_rfl) (by kernel_rfl) True.intro ?_
  refine aops_nil ?_
  refine xt_n ?_
  refine hK _ ?_
  clear hK K
  refine w_cond (t := decide ((↑(List.length c) : Int) < (1 : Int))) (by kernel_rfl) (fun c1 => ?_) (fun c1 => ?_)
  · simp at c1
    omega
  refine aw_skip ?_
  refine xt_n ?_
  refine hK _ ?_
  clear hK K
  refine aw_seq_k fun K hK => ?_
  refine w_region (n' := 4) (by kernel_rfl) (by kernel_rfl) ?_
  refine aops_n hTT (M := []) (n := 4) [pv (9 : Nat) (V.sl (1 : Nat) (List.length c) fun (k : Nat) => [V.i (gi c k)]), pc (10 : Nat) ((0 : Int) ≤ (0 : Int) ∧ (0 : Int) < (↑(List.length c) : Int)) (V.ptr [V.i (gi c (0 : Nat))]), pv (11 : Nat) (V.i (gi c (0 : Nat))), pv (3 : Nat) (V.i (gi c (0 : Nat)))] (by kernel_rfl) (by kernel_rfl) ⟨(by omega), True.intro⟩ ?_
  refine aops_nil ?_
  refine xt_n ?_
  refine hK _ ?_
  clear hK K
  refine aw_seq_k fun K hK => ?_
  refine aw_seq_k fun K hK => ?_
  refine w_region (n' := 5) (by kernel_rfl) (by kernel_rfl) ?_
  refine aops_n hTT (M := []) (n := 1) [pv (4 : Nat) (V.i (1 : Int))] (by kernel_rfl) (by kernel_rfl) True.intro ?_
  refine aops_nil ?_
  refine xt_n ?_
  refine hK _ ?_
  clear hK K
  refine aw_block ?_
  refine w_loop (ι := Nat) (fun k => [(0, V.ints c), (3, .i (mxP c k)), (4, .i (k + 1 : Nat))]) (fun k => []) (fun k => k < c.length) (fun k => c.length - k) 0 h0 ?_ ?_
  · refine le_ren [] (.cons (by kernel_rfl) (.cons (by kernel_rfl) (.cons (by kernel_rfl) .nil))) .nil (by kernel_rfl) (by kernel_rfl)
  intro k hk
  refine aw_seq_k fun K hK => ?_
  refine aw_seq_k fun K hK => ?_
  refine w_region (n' := 2) (by kernel_rfl) (by kernel_rfl) ?_
  refine aops_n hTT (M := []) (n := 4) [pv (12 : Nat) (V.i (↑(k + (1 : Nat)) : Int)), pv (13 : Nat) (V.sl (1 : Nat) (List.length c) fun (k : Nat) => [V.i (gi c k)]), pv (14 : Nat) (V.i (↑(List.length c) : Int)), pv (15 : Nat) (V.b (decide ((↑(k + (1 : Nat)) : Int) < (↑(List.length c) : Int))))] (by kernel_rfl) (by kernel_rfl) True.intro ?_
  refine aops_nil ?_
  refine xt_n ?_
  refine hK _ ?_
  clear hK K
  refine w_cond (t := decide ((↑(k + (1 : Nat)) : Int) < (↑(List.length c) : Int))) (by kernel_rfl) (fun c2 => ?_) (fun c2 => ?_)
  · simp at c2
    refine aw_skip ?_
    refine xt_n ?_
    refine hK _ ?_
    clear hK K
    refine aw_seq_k fun K hK => ?_
    refine aw_block ?_
    refine w_region (n' := 3) (by kernel_rfl) (by kernel_rfl) ?_
    refine aops_n hTT (M := []) (n := 7) [pv (18 : Nat) (V.i (mxP c k)), pv (19 : Nat) (V.sl (1 : Nat) (List.length c) fun (k : Nat) => [V.i (gi c k)]), pv (20 : Nat) (V.i (↑(k + (1 : Nat)) : Int)), pc (21 : Nat) ((0 : Int) ≤ (↑(k + (1 : Nat)) : Int) ∧ (↑(k + (1 : Nat)) : Int) < (↑(List.length c) : Int)) (V.ptr [V.i (gi c (k + (1 : Nat)))]), pv (22 : Nat) (V.i (gi c (k + (1 : Nat)))), pv (23 : Nat) (V.i (max (mxP c k) (gi c (k + (1 : Nat))))), pv (3 : Nat) (V.i (max (mxP c k) (gi c (k + (1 : Nat)))))] (by kernel_rfl) (by kernel_rfl) ⟨(by omega), True.intro⟩ ?_
    refine aops_nil ?_
    refine xb_n ?_
    refine xt_n ?_
    refine hK _ ?_
    clear hK K
    refine w_region (n' := 4) (by kernel_rfl) (by kernel_rfl) ?_
    refine aops_n hTT (M := []) (n := 3) [pv (16 : Nat) (V.i (↑(k + (1 : Nat)) : Int)), pc (17 : Nat) ((-9223372036854775808 : Int) ≤ (↑(k + (1 : Nat)) : Int) + (1 : Int) ∧ (↑(k + (1 : Nat)) : Int) + (1 : Int) ≤ (9223372036854775807 : Int)) (V.i ((↑(k + (1 : Nat)) : Int) + (1 : Int))), pv (4 : Nat) (V.i ((↑(k + (1 : Nat)) : Int) + (1 : Int)))] (by kernel_rfl) (by kernel_rfl) ⟨(by omega), True.intro⟩ ?_
    refine aops_nil ?_
    refine xt_n ?_
    refine ⟨k + 1, by omega, by refine le_ren [] (.cons (by kernel_rfl) (.cons (by kernel_rfl) (.cons (by kernel_rfl) .nil))) .nil (by kernel_rfl) (by kernel_rfl), by omega⟩
  simp at c2
  obtain rfl : k = c.length - 1 := by omega
  refine aw_exit ?_
  refine xt_x ?_
  refine xt_x ?_
  refine xb_same ?_
  refine xt_n ?_
  clear hK K
  refine hK _ ?_
  clear hK K
  refine aw_seq_k fun K hK => ?_
  refine w_region (n' := 3) (by kernel_rfl) (by kernel_rfl) ?_
  refine aops_n hTT (M := []) (n := 2) [pv (24 : Nat) (V.i (mxP c (List.length c - (1 : Nat)))), pv (2 : Nat) (V.i (mxP c (List.length c - (1 : Nat))))] (by kernel_rfl) (by kernel_rfl) True.intro ?_
  refine aops_nil ?_
  refine xt_n ?_
  refine hK _ ?_
  clear hK K
  refine aw_ret ?_
  refine ret_pure (v' := V.i (mxP c (List.length c - (1 : Nat)))) (.inr rfl) (by kernel_rfl) (by kernel_rfl) (by kernel_rfl)
theorem half {a b : Int} (h0 : 0 ≤ a) (h : a < b) : a ≤ (a + b).tdiv 2 ∧ (a + b).tdiv 2 < b := by
  rw [Int.tdiv_eq_ediv_of_nonneg (by omega)]
  omega
def runV (c : List Int) (slots : Int) : V := .tup [.i (if slots < c.length then 0 else fewN c slots), .b (decide ((c.length : Int) ≤ slots))]
set_option maxRecDepth 100000 in
theorem run_ac (c : List Int) (slots : Int) (h : CO c) (hl : c.length ≤ 4096) : AC Tryd.prog 53 [V.ints c, .i slots] (runV c slots) [] := by
  refine ac_intro hTT hMX (fn := Tryd.f53) (N := _) ⟨Tryd.func53, rfl, Tryd.ntmps53, by kernel_rfl⟩ (by simp) fun C hC hF => ?_
  refine aw_seq_k fun K hK => ?_
  refine w_region (n' := 2) (by kernel_rfl) (by kernel_rfl) ?_
  refine aops_n hTT (M := []) (n := 2) [pv (4 : Nat) (V.i (0 : Int)), pv (5 : Nat) (V.b false)] (by kernel_rfl) (by kernel_rfl) True.intro ?_
  refine aops_nil ?_
  refine xt_n ?_
  refine hK _ ?_
  clear hK K
  refine aw_seq_k fun K hK => ?_
  refine aw_seq_k fun K hK => ?_
  refine w_region (n' := 3) (by kernel_rfl) (by kernel_rfl) ?_
  refine aops_n hTT (M := []) (n := 4) [pv (11 : Nat) (V.sl (1 : Nat) (List.length c) fun (k : Nat) => [V.i (gi c k)]), pv (12 : Nat) (V.i (↑(List.length c) : Int)), pv (13 : Nat) (V.i slots), pv (14 : Nat) (V.b (decide (slots < (↑(List.length c) : Int))))] (by kernel_rfl) (by kernel_rfl) True.intro ?_
  refine aops_nil ?_
  refine xt_n ?_
  refine hK _ ?_
  clear hK K
  refine w_cond (t := decide (slots < (↑(List.length c) : Int))) (by kernel_rfl) (fun c1 => ?_) (fun c1 => ?_)
  · simp at c1
    refine aw_seq_k fun K hK => ?_
    refine w_region (n' := 4) (by kernel_rfl) (by kernel_rfl) ?_
    refine aops_n hTT (M := []) (n := 2) [pv (4 : Nat) (V.i (0 : Int)), pv (5 : Nat) (V.b false)] (by kernel_rfl) (by kernel_rfl) True.intro ?_
    refine aops_nil ?_
    refine xt_n ?_
    refine hK _ ?_
    clear hK K
    refine aw_ret ?_
    refine xt_r ?_
    rw [runV, if_pos c1, decide_eq_false (by omega)]
    refine ret_pure (v' := V.tup [V.i (0 : Int), V.b false]) (.inr rfl) (by kernel_rfl) (by kernel_rfl) (by kernel_rfl)
  simp at c1
  refine aw_skip ?_
  refine xt_n ?_
  refine hK _ ?_
  clear hK K
  refine aw_seq_k fun K hK => ?_
  refine aw_seq_k fun K hK => ?_
  refine w_region (n' := 4) (by kernel_rfl) (by kernel_rfl) ?_
  refine aops_n hTT (M := []) (n := 3) [pv (15 : Nat) (V.sl (1 : Nat) (List.length c) fun (k : Nat) => [V.i (gi c k)]), pv (16 : Nat) (V.i (↑(List.length c) : Int)), pv (17 : Nat) (V.b (decide ((↑(List.length c) : Int) = (0 : Int))))] (by kernel_rfl) (by kernel_rfl) True.intro ?_
  refine aops_nil ?_
  refine xt_n ?_
  refine hK _ ?_
  clear hK K
  refine w_cond (t := decide ((↑(List.length c) : Int) = (0 : Int))) (by kernel_rfl) (fun c2 => ?_) (fun c2 => ?_)
  · have h0 : c.length = 0 := by
      simp at c2
      exact List.length_eq_zero_iff.2 c2
    refine aw_seq_k fun K hK => ?_
    refine w_region (n' := 5) (by kernel_rfl) (by kernel_rfl) ?_
    refine aops_n hTT (M := []) (n := 2) [pv (4 : Nat) (V.i (0 : Int)), pv (5 : Nat) (V.b true)] (by kernel_rfl) (by kernel_rfl) True.intro ?_
    refine aops_nil ?_
    refine xt_n ?_
    refine hK _ ?_
    clear hK K
    refine aw_ret ?_
    refine xt_r ?_
    rw [runV, if_neg (by omega), decide_eq_true c1, fewN_nil h0]
    refine ret_pure (v' := V.tup [V.i (0 : Int), V.b true]) (.inr rfl) (by kernel_rfl) (by kernel_rfl) (by kernel_rfl)
  have h0 : c.length ≠ 0 := by
    simp at c2
    exact fun h => c2 (List.length_eq_zero_iff.1 h)
  have hm := mxP_bd h (k := c.length - 1) (by omega)
  have htop := plcS_top (c := c) (s := mxP c (c.length - 1)) hm.1 (fun i hi => mxP_ge (by omega)) c.length (Nat.le_refl _)
  refine aw_skip ?_
  refine xt_n ?_
  refine hK _ ?_
  clear hK K
  refine aw_seq_k fun K hK => ?_
  refine w_region (n' := 5) (by kernel_rfl) (by kernel_rfl) ?_
  refine aops_n hTT (M := []) (n := 1) [pv (18 : Nat) (V.sl (1 : Nat) (List.length c) fun (k : Nat) => [V.i (gi c k)])] (by kernel_rfl) (by kernel_rfl) True.intro ?_
  refine e_call (first := []) (caps := []) (Max_ac c (by omega) hl) (by kernel_rfl) (by kernel_rfl) (by kernel_rfl) (by kernel_rfl) (by kernel_rfl) ?_
  refine aops_n hTT (M := []) (n := 2) [pv (6 : Nat) (V.i (1 : Int)), pv (7 : Nat) (V.i (mxP c (List.length c - (1 : Nat))))] (by kernel_rfl) (by kernel_rfl) True.intro ?_
  refine aops_nil ?_
  refine xt_n ?_
  refine hK _ ?_
  clear hK K
  refine aw_seq_k fun K hK => ?_
  refine aw_block ?_
  refine w_loop (ι := Int × Int) (fun x => [(0, V.ints c), (1, .i slots), (6, .i x.1), (7, .i x.2)]) (fun _ => []) (fun x => (1 ≤ x.1 ∧ x.1 ≤ x.2 ∧ x.2 ≤ 1048576) ∧ plcS c x.2 c.length ≤ slots ∧ ∀ s, 1 ≤ s → s < x.1 → slots < plcS c s c.length) (fun x => (x.2 - x.1).toNat) (1, mxP c (c.length - 1)) ⟨⟨by omega, hm.1, hm.2⟩, by simp only; omega, fun s h1 h2 => by simp only at h2; omega⟩ ?_ ?_
  · refine le_ren [] (.cons (by kernel_rfl) (.cons (by kernel_rfl) (.cons (by kernel_rfl) (.cons (by kernel_rfl) .nil)))) .nil (by kernel_rfl) (by kernel_rfl)
  rintro ⟨lo, hi⟩ ⟨⟨l1, l2, l3⟩, h1, h2⟩
  simp only at l1 l2 l3 h1 h2
  refine aw_seq_k fun K hK => ?_
  refine aw_seq_k fun K hK => ?_
  refine w_region (n' := 2) (by kernel_rfl) (by kernel_rfl) ?_
  refine aops_n hTT (M := []) (n := 3) [pv (20 : Nat) (V.i lo), pv (21 : Nat) (V.i hi), pv (22 : Nat) (V.b (decide (lo < hi)))] (by kernel_rfl) (by kernel_rfl) True.intro ?_
  refine aops_nil ?_
  refine xt_n ?_
  refine hK _ ?_
  clear hK K
  refine w_cond (t := decide (lo < hi)) (by kernel_rfl) (fun c3 => ?_) (fun c3 => ?_)
  · simp at c3
    have hh := half (by omega) c3
    refine aw_skip ?_
    refine xt_n ?_
    refine hK _ ?_
    clear hK K
    refine aw_block ?_
    refine aw_seq_k fun K hK => ?_
    refine w_region (n' := 3) (by kernel_rfl) (by kernel_rfl) ?_
    refine aops_n hTT (M := []) (n := 5) [pv (23 : Nat) (V.i lo), pv (24 : Nat) (V.i hi), pc (25 : Nat) ((-9223372036854775808 : Int) ≤ lo + hi ∧ lo + hi ≤ (9223372036854775807 : Int)) (V.i (lo + hi)), pc (26 : Nat) ((0 : Int) < (2 : Int) ∧ (-9223372036854775808 : Int) ≤ lo + hi ∧ lo + hi ≤ (9223372036854775807 : Int)) (V.i (Int.tdiv (lo + hi) (2 : Int))), pv (8 : Nat) (V.i (Int.tdiv (lo + hi) (2 : Int)))] (by kernel_rfl) (by kernel_rfl) ⟨(by omega), ⟨(by omega), (by omega)⟩, True.intro⟩ ?_
    refine aops_nil ?_
    refine xt_n ?_
    refine hK _ ?_
    clear hK K
    refine aw_seq_k fun K hK => ?_
    refine w_region (n' := 4) (by kernel_rfl) (by kernel_rfl) ?_
    refine aops_n hTT (M := []) (n := 2) [pv (28 : Nat) (V.sl (1 : Nat) (List.length c) fun (k : Nat) => [V.i (gi c k)]), pv (29 : Nat) (V.i (Int.tdiv (lo + hi) (2 : Int)))] (by kernel_rfl) (by kernel_rfl) True.intro ?_
    refine e_call (first := []) (caps := []) (places_ac c ((lo + hi).tdiv 2) h hl (by omega)) (by kernel_rfl) (by kernel_rfl) (by kernel_rfl) (by kernel_rfl) (by kernel_rfl) ?_
    refine aops_n hTT (M := []) (n := 5) [pv (27 : Nat) (V.tup [V.sl (1 : Nat) (List.length (List.map (fun (n : Int) => plc n (Int.tdiv (lo + hi) (2 : Int))) c)) fun (k : Nat) => [V.i (gi (List.map (fun (n : Int) => plc n (Int.tdiv (lo + hi) (2 : Int))) c) k)], V.i (plcS c (Int.tdiv (lo + hi) (2 : Int)) (List.length c))]), pv (31 : Nat) (V.sl (1 : Nat) (List.length (List.map (fun (n : Int) => plc n (Int.tdiv (lo + hi) (2 : Int))) c)) fun (k : Nat) => [V.i (gi (List.map (fun (n : Int) => plc n (Int.tdiv (lo + hi) (2 : Int))) c) k)]), pv (32 : Nat) (V.i (plcS c (Int.tdiv (lo + hi) (2 : Int)) (List.length c))), pv (9 : Nat) (V.sl (1 : Nat) (List.length (List.map (fun (n : Int) => plc n (Int.tdiv (lo + hi) (2 : Int))) c)) fun (k : Nat) => [V.i (gi (List.map (fun (n : Int) => plc n (Int.tdiv (lo + hi) (2 : Int))) c) k)]), pv (10 : Nat) (V.i (plcS c (Int.tdiv (lo + hi) (2 : Int)) (List.length c)))] (by kernel_rfl) (by kernel_rfl) True.intro ?_
    refine aops_nil ?_
    refine xt_n ?_
    refine hK _ ?_
    clear hK K
    refine aw_seq_k fun K hK => ?_
    refine w_region (n' := 5) (by kernel_rfl) (by kernel_rfl) ?_
    refine aops_n hTT (M := []) (n := 3) [pv (33 : Nat) (V.i (plcS c (Int.tdiv (lo + hi) (2 : Int)) (List.length c))), pv (34 : Nat) (V.i slots), pv (35 : Nat) (V.b (decide (plcS c (Int.tdiv (lo + hi) (2 : Int)) (List.length c) ≤ slots)))] (by kernel_rfl) (by kernel_rfl) True.intro ?_
    refine aops_nil ?_
    refine xt_n ?_
    refine hK _ ?_
    clear hK K
    refine w_cond (t := decide (plcS c (Int.tdiv (lo + hi) (2 : Int)) (List.length c) ≤ slots)) (by kernel_rfl) (fun c4 => ?_) (fun c4 => ?_)
    · simp at c4
      refine w_region (n' := 6) (by kernel_rfl) (by kernel_rfl) ?_
      refine aops_n hTT (M := []) (n := 2) [pv (36 : Nat) (V.i (Int.tdiv (lo + hi) (2 : Int))), pv (7 : Nat) (V.i (Int.tdiv (lo + hi) (2 : Int)))] (by kernel_rfl) (by kernel_rfl) True.intro ?_
      refine aops_nil ?_
      refine xb_n ?_
      refine xt_n ?_
      refine ⟨(lo, (lo + hi).tdiv 2), ⟨⟨l1, hh.1, by simp only; omega⟩, c4, h2⟩, by refine le_ren [] (.cons (by kernel_rfl) (.cons (by kernel_rfl) (.cons (by kernel_rfl) (.cons (by kernel_rfl) .nil)))) .nil (by kernel_rfl) (by kernel_rfl), by simp only; omega⟩
    · simp at c4
      refine w_region (n' := 6) (by kernel_rfl) (by kernel_rfl) ?_
      refine aops_n hTT (M := []) (n := 3) [pv (37 : Nat) (V.i (Int.tdiv (lo + hi) (2 : Int))), pc (38 : Nat) ((-9223372036854775808 : Int) ≤ Int.tdiv (lo + hi) (2 : Int) + (1 : Int) ∧ Int.tdiv (lo + hi) (2 : Int) + (1 : Int) ≤ (9223372036854775807 : Int)) (V.i (Int.tdiv (lo + hi) (2 : Int) + (1 : Int))), pv (6 : Nat) (V.i (Int.tdiv (lo + hi) (2 : Int) + (1 : Int)))] (by kernel_rfl) (by kernel_rfl) ⟨(by omega), True.intro⟩ ?_
      refine aops_nil ?_
      refine xb_n ?_
      refine xt_n ?_
      refine ⟨((lo + hi).tdiv 2 + 1, hi), ⟨⟨by simp only; omega, by simp only; omega, l3⟩, h1, fun s hs1 hs2 => ?_⟩, by refine le_ren [] (.cons (by kernel_rfl) (.cons (by kernel_rfl) (.cons (by kernel_rfl) (.cons (by kernel_rfl) .nil)))) .nil (by kernel_rfl) (by kernel_rfl), by simp only; omega⟩
      simp only at hs2
      have := plcS_mono h hs1 (show s ≤ (lo + hi).tdiv 2 by omega) c.length (Nat.le_refl _)
      omega
  · simp at c3
    obtain rfl : lo = hi := by omega
    refine aw_exit ?_
    refine xt_x ?_
    refine xt_x ?_
    refine xb_same ?_
    refine xt_n ?_
    clear hK K
    refine hK _ ?_
    clear hK K
    refine aw_seq_k fun K hK => ?_
    refine w_region (n' := 3) (by kernel_rfl) (by kernel_rfl) ?_
    refine aops_n hTT (M := []) (n := 3) [pv (39 : Nat) (V.i lo), pv (4 : Nat) (V.i lo), pv (5 : Nat) (V.b true)] (by kernel_rfl) (by kernel_rfl) True.intro ?_
    refine aops_nil ?_
    refine xt_n ?_
    refine hK _ ?_
    clear hK K
    refine aw_ret ?_
    rw [runV, if_neg (by omega), decide_eq_true c1, fewN_eq h c1 h0 ⟨l1, h1, h2⟩]
    refine ret_pure (v' := V.tup [V.i lo, V.b true]) (.inr rfl) (by kernel_rfl) (by kernel_rfl) (by kernel_rfl)
theorem runS_1 {c : List Int} {slots : Int} (h : chkC c slots 0 ≠ 0) : runE c slots = chkC c slots 0 ∧ runS c slots = 0 ∧ runL c slots = [] := by
  have e : runE c slots = chkC c slots 0 := by rw [runE, if_pos h]
  exact ⟨e, by rw [runS, e, if_neg h], by rw [runL, e, if_neg h]⟩
theorem runS_2 {c : List Int} {slots : Int} (h : chkC c slots 0 = 0) (h2 : slots < c.length) : runE c slots = 14 ∧ runS c slots = 0 ∧ runL c slots = [] := by
  have e : runE c slots = 14 := by rw [runE, if_neg (fun k => k h), if_pos h2]
  exact ⟨e, by rw [runS, e, if_neg (by omega)], by rw [runL, e, if_neg (by omega)]⟩
theorem runS_3 {c : List Int} {slots : Int} (h : chkC c slots 0 = 0) (h2 : ¬ slots < c.length) : runE c slots = 0 ∧ runS c slots = fewN c slots ∧ runL c slots = c.map fun n => plc n (fewN c slots) := by
  have e : runE c slots = 0 := by rw [runE, if_neg (fun k => k h), if_neg h2]
  exact ⟨e, by rw [runS, e, if_pos rfl], by rw [runL, e, if_pos rfl]⟩
set_option maxRecDepth 100000 in
theorem Run_ac (c : List Int) (slots : Int) (hl : c.length ≤ 4611686018427387904) : AC Tryd.prog 21 [V.ints c, .i slots] (.tup [.i (runS c slots), V.ints (runL c slots), .i (runE c slots)]) [] := by
  refine ac_intro hTT hMX (fn := Tryd.f21) (N := _) ⟨Tryd.func21, rfl, Tryd.ntmps21, by kernel_rfl⟩ (by simp) fun C hC hF => ?_
  refine aw_seq_k fun K hK => ?_
  refine w_region (n' := 2) (by kernel_rfl) (by kernel_rfl) ?_
  refine aops_n hTT (M := []) (n := 3) [pv (4 : Nat) (V.i (0 : Int)), pv (5 : Nat) V.nil, pv (6 : Nat) (V.i (0 : Int))] (by kernel_rfl) (by kernel_rfl) True.intro ?_
  refine aops_nil ?_
  refine xt_n ?_
  refine hK _ ?_
  clear hK K
  refine aw_seq_k fun K hK => ?_
  refine aw_seq_k fun K hK => ?_
  refine w_region (n' := 3) (by kernel_rfl) (by kernel_rfl) ?_
  refine aops_n hTT (M := []) (n := 2) [pv (12 : Nat) (V.sl (1 : Nat) (List.length c) fun (k : Nat) => [V.i (gi c k)]), pv (13 : Nat) (V.i slots)] (by kernel_rfl) (by kernel_rfl) True.intro ?_
  refine e_call (first := []) (caps := []) (CheckCopies_ac c slots 0 hl) (by kernel_rfl) (by kernel_rfl) (by kernel_rfl) (by kernel_rfl) (by kernel_rfl) ?_
  refine aops_n hTT (M := []) (n := 1) [pv (7 : Nat) (V.i (chkC c slots (0 : Int)))] (by kernel_rfl) (by kernel_rfl) True.intro ?_
  refine aops_nil ?_
  refine xt_n ?_
  refine hK _ ?_
  clear hK K
  refine aw_seq_k fun K hK => ?_
  refine w_region (n' := 4) (by kernel_rfl) (by kernel_rfl) ?_
  refine aops_n hTT (M := []) (n := 2) [pv (15 : Nat) (V.i (chkC c slots (0 : Int))), pv (16 : Nat) (V.b !decide (chkC c slots (0 : Int) = (0 : Int)))] (by kernel_rfl) (by kernel_rfl) True.intro ?_
  refine aops_nil ?_
  refine xt_n ?_
  refine hK _ ?_
  clear hK K
  refine w_cond (t := !decide (chkC c slots (0 : Int) = (0 : Int))) (by kernel_rfl) (fun c1 => ?_) (fun c1 => ?_)
  · obtain ⟨e1, e2, e3⟩ := runS_1 (c := c) (slots := slots) (by simpa using c1)
    refine aw_seq_k fun K hK => ?_
    refine w_region (n' := 5) (by kernel_rfl) (by kernel_rfl) ?_
    refine aops_n hTT (M := []) (n := 4) [pv (17 : Nat) (V.i (chkC c slots (0 : Int))), pv (4 : Nat) (V.i (0 : Int)), pv (5 : Nat) V.nil, pv (6 : Nat) (V.i (chkC c slots (0 : Int)))] (by kernel_rfl) (by kernel_rfl) True.intro ?_
    refine aops_nil ?_
    refine xt_n ?_
    refine hK _ ?_
    clear hK K
    refine aw_ret ?_
    refine xt_r ?_
    rw [e1, e2, e3]
    refine ret_of_le (le_nil 5 (sz := 1) 0 (fun k => [.i (gi [] k)]) (by kernel_rfl) ?_) ?_
    · rfl
    refine ret_pure (v' := V.tup [V.i (0 : Int), V.sl (1 : Nat) (0 : Nat) fun (k : Nat) => [V.i (gi [] k)], V.i (chkC c slots (0 : Int))]) (.inr rfl) (by kernel_rfl) (by kernel_rfl) (by kernel_rfl)
  have h1 : chkC c slots 0 = 0 := by simpa using c1
  obtain ⟨l8, hco, hs, _⟩ := chkC_inv h1
  have A := run_ac c slots hco (by omega)
  refine aw_skip ?_
  refine xt_n ?_
  refine hK _ ?_
  clear hK K
  refine aw_seq_k fun K hK => ?_
  refine w_region (n' := 5) (by kernel_rfl) (by kernel_rfl) ?_
  refine aops_n hTT (M := []) (n := 2) [pv (19 : Nat) (V.sl (1 : Nat) (List.length c) fun (k : Nat) => [V.i (gi c k)]), pv (20 : Nat) (V.i slots)] (by kernel_rfl) (by kernel_rfl) True.intro ?_
  by_cases h2 : slots < c.length
  · obtain ⟨e1, e2, e3⟩ := runS_2 h1 h2
    rw [runV, if_pos h2, decide_eq_false (by omega)] at A
    refine e_call (first := []) (caps := []) (A) (by kernel_rfl) (by kernel_rfl) (by kernel_rfl) (by kernel_rfl) (by kernel_rfl) ?_
    refine aops_n hTT (M := []) (n := 5) [pv (18 : Nat) (V.tup [V.i (0 : Int), V.b false]), pv (22 : Nat) (V.i (0 : Int)), pv (23 : Nat) (V.b false), pv (8 : Nat) (V.i (0 : Int)), pv (9 : Nat) (V.b false)] (by kernel_rfl) (by kernel_rfl) True.intro ?_
    refine aops_nil ?_
    refine xt_n ?_
    refine hK _ ?_
    clear hK K
    refine aw_seq_k fun K hK => ?_
    refine aw_seq_k fun K hK => ?_
    refine w_region (n' := 6) (by kernel_rfl) (by kernel_rfl) ?_
    refine aops_n hTT (M := []) (n := 2) [pv (24 : Nat) (V.b false), pv (25 : Nat) (V.b true)] (by kernel_rfl) (by kernel_rfl) True.intro ?_
    refine aops_nil ?_
    refine xt_n ?_
    refine hK _ ?_
    clear hK K
    refine w_true (t := true) (by kernel_rfl) rfl ?_
    refine aw_seq_k fun K hK => ?_
    refine w_region (n' := 7) (by kernel_rfl) (by kernel_rfl) ?_
    refine aops_n hTT (M := []) (n := 3) [pv (4 : Nat) (V.i (0 : Int)), pv (5 : Nat) V.nil, pv (6 : Nat) (V.i (14 : Int))] (by kernel_rfl) (by kernel_rfl) True.intro ?_
    refine aops_nil ?_
    refine xt_n ?_
    refine hK _ ?_
    clear hK K
    refine aw_ret ?_
    refine xt_r ?_
    rw [e1, e2, e3]
    refine ret_of_le (le_nil 5 (sz := 1) 0 (fun k => [.i (gi [] k)]) (by kernel_rfl) ?_) ?_
    · rfl
    refine ret_pure (v' := V.tup [V.i (0 : Int), V.sl (1 : Nat) (0 : Nat) fun (k : Nat) => [V.i (gi [] k)], V.i (14 : Int)]) (.inr rfl) (by kernel_rfl) (by kernel_rfl) (by kernel_rfl)
  obtain ⟨e1, e2, e3⟩ := runS_3 h1 h2
  rw [runV, if_neg h2, decide_eq_true (by omega)] at A
  refine e_call (first := []) (caps := []) (A) (by kernel_rfl) (by kernel_rfl) (by kernel_rfl) (by kernel_rfl) (by kernel_rfl) ?_
  refine aops_n hTT (M := []) (n := 5) [pv (18 : Nat) (V.tup [V.i (fewN c slots), V.b true]), pv (22 : Nat) (V.i (fewN c slots)), pv (23 : Nat) (V.b true), pv (8 : Nat) (V.i (fewN c slots)), pv (9 : Nat) (V.b true)] (by kernel_rfl) (by kernel_rfl) True.intro ?_
  refine aops_nil ?_
  refine xt_n ?_
  refine hK _ ?_
  clear hK K
  refine aw_seq_k fun K hK => ?_
  refine aw_seq_k fun K hK => ?_
  refine w_region (n' := 6) (by kernel_rfl) (by kernel_rfl) ?_
  refine aops_n hTT (M := []) (n := 2) [pv (24 : Nat) (V.b true), pv (25 : Nat) (V.b false)] (by kernel_rfl) (by kernel_rfl) True.intro ?_
  refine aops_nil ?_
  refine xt_n ?_
  refine hK _ ?_
  clear hK K
  refine w_false (t := false) (by kernel_rfl) rfl ?_
  refine aw_skip ?_
  refine xt_n ?_
  refine hK _ ?_
  clear hK K
  refine aw_seq_k fun K hK => ?_
  refine aw_seq_k fun K hK => ?_
  refine w_region (n' := 7) (by kernel_rfl) (by kernel_rfl) ?_
  refine aops_n hTT (M := []) (n := 2) [pv (26 : Nat) (V.i (fewN c slots)), pv (27 : Nat) (V.b (decide (fewN c slots = (0 : Int))))] (by kernel_rfl) (by kernel_rfl) True.intro ?_
  refine aops_nil ?_
  refine xt_n ?_
  refine hK _ ?_
  clear hK K
  refine w_cond (t := decide (fewN c slots = (0 : Int))) (by kernel_rfl) (fun c3 => ?_) (fun c3 => ?_)
  · have h0 : c.length = 0 := by
      simp at c3
      by_cases h0 : c.length = 0
      · exact h0
      · have := (fewN_spec (slots := slots) hco (by omega) h0).1.pos; omega
    have hn : c = [] := List.length_eq_zero_iff.1 h0
    refine aw_seq_k fun K hK => ?_
    refine w_region (n' := 8) (by kernel_rfl) (by kernel_rfl) ?_
    refine aops_n hTT (M := []) (n := 3) [pv (4 : Nat) (V.i (0 : Int)), pv (5 : Nat) V.nil, pv (6 : Nat) (V.i (0 : Int))] (by kernel_rfl) (by kernel_rfl) True.intro ?_
    refine aops_nil ?_
    refine xt_n ?_
    refine hK _ ?_
    clear hK K
    refine aw_ret ?_
    refine xt_r ?_
    rw [e1, e2, e3, fewN_nil h0, hn]
    refine ret_of_le (le_nil 5 (sz := 1) 0 (fun k => [.i (gi [] k)]) (by kernel_rfl) ?_) ?_
    · rfl
    refine ret_pure (v' := V.tup [V.i (0 : Int), V.sl (1 : Nat) (0 : Nat) fun (k : Nat) => [V.i (gi [] k)], V.i (0 : Int)]) (.inr rfl) (by kernel_rfl) (by kernel_rfl) (by kernel_rfl)
  have h0 : c.length ≠ 0 := fun h => by simp at c3; exact absurd (fewN_nil h) c3
  have hr := fewN_spec (slots := slots) hco (by omega) h0
  refine aw_skip ?_
  refine xt_n ?_
  refine hK _ ?_
  clear hK K
  refine aw_seq_k fun K hK => ?_
  refine w_region (n' := 8) (by kernel_rfl) (by kernel_rfl) ?_
  refine aops_n hTT (M := []) (n := 2) [pv (29 : Nat) (V.sl (1 : Nat) (List.length c) fun (k : Nat) => [V.i (gi c k)]), pv (30 : Nat) (V.i (fewN c slots))] (by kernel_rfl) (by kernel_rfl) True.intro ?_
  refine e_call (first := []) (caps := []) (places_ac c (fewN c slots) hco (by omega) ⟨hr.1.pos, hr.2⟩) (by kernel_rfl) (by kernel_rfl) (by kernel_rfl) (by kernel_rfl) (by kernel_rfl) ?_
  refine aops_n hTT (M := []) (n := 5) [pv (28 : Nat) (V.tup [V.sl (1 : Nat) (List.length (List.map (fun (n : Int) => plc n (fewN c slots)) c)) fun (k : Nat) => [V.i (gi (List.map (fun (n : Int) => plc n (fewN c slots)) c) k)], V.i (plcS c (fewN c slots) (List.length c))]), pv (32 : Nat) (V.sl (1 : Nat) (List.length (List.map (fun (n : Int) => plc n (fewN c slots)) c)) fun (k : Nat) => [V.i (gi (List.map (fun (n : Int) => plc n (fewN c slots)) c) k)]), pv (33 : Nat) (V.i (plcS c (fewN c slots) (List.length c))), pv (10 : Nat) (V.sl (1 : Nat) (List.length (List.map (fun (n : Int) => plc n (fewN c slots)) c)) fun (k : Nat) => [V.i (gi (List.map (fun (n : Int) => plc n (fewN c slots)) c) k)]), pv (11 : Nat) (V.i (plcS c (fewN c slots) (List.length c)))] (by kernel_rfl) (by kernel_rfl) True.intro ?_
  refine aops_nil ?_
  refine xt_n ?_
  refine hK _ ?_
  clear hK K
  refine aw_seq_k fun K hK => ?_
  refine w_region (n' := 9) (by kernel_rfl) (by kernel_rfl) ?_
  refine aops_n hTT (M := []) (n := 5) [pv (34 : Nat) (V.i (fewN c slots)), pv (35 : Nat) (V.sl (1 : Nat) (List.length (List.map (fun (n : Int) => plc n (fewN c slots)) c)) fun (k : Nat) => [V.i (gi (List.map (fun (n : Int) => plc n (fewN c slots)) c) k)]), pv (4 : Nat) (V.i (fewN c slots)), pv (5 : Nat) (V.sl (1 : Nat) (List.length (List.map (fun (n : Int) => plc n (fewN c slots)) c)) fun (k : Nat) => [V.i (gi (List.map (fun (n : Int) => plc n (fewN c slots)) c) k)]), pv (6 : Nat) (V.i (0 : Int))] (by kernel_rfl) (by kernel_rfl) True.intro ?_
  refine aops_nil ?_
  refine xt_n ?_
  refine hK _ ?_
  clear hK K
  refine aw_ret ?_
  rw [e1, e2, e3]
  refine ret_pure (v' := V.tup [V.i (fewN c slots), V.sl (1 : Nat) (List.length (List.map (fun (n : Int) => plc n (fewN c slots)) c)) fun (k : Nat) => [V.i (gi (List.map (fun (n : Int) => plc n (fewN c slots)) c) k)], V.i (0 : Int)]) (.inr rfl) (by kernel_rfl) (by kernel_rfl) (by kernel_rfl)
end Go.Proofs.YtfckkkmacjjmhaaDoor
