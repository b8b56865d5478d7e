/-
  Runs of sheets: the walks of the document's copy. No condition but the length of a list that is in memory.
-/
import Derived.Test.YtfckkkmacjjmhaaDoorSN8
namespace Go.Proofs.YtfckkkmacjjmhaaDoor
open Go.Ab Go.RowKit Go.Dw Go.Shelf

set_option maxRecDepth 100000 in
theorem rCheckCopies_ac (c : List Int) (slots plate : Int) (hl : c.length ≤ 4611686018427387904) : AC Tryd.prog 25 [V.ints c, .i slots, .i plate] (.i (chkC c slots plate)) [] := by
  refine ac_intro hTT hMX (fn := Tryd.f25) (N := _) ⟨Tryd.func25, rfl, Tryd.ntmps25, by kernel_rfl⟩ (by simp) fun C hC hF => ?_
  refine aw_seq_k fun K hK => ?_
  refine w_region (n' := 2) (by kernel_rfl) (by kernel_rfl) ?_
  refine aops_n hTT (M := []) (n := 1) [pv (6 : Nat) (V.i (0 : Int))] (by kernel_rfl) (by kernel_rfl) True.intro ?_
  refine aops_nil ?_
  refine xt_n ?_
  refine hK _ ?_
  clear hK K
  refine aw_seq_k fun K hK => ?_
  refine aw_seq_k fun K hK => ?_
  refine w_region (n' := 3) (by kernel_rfl) (by kernel_rfl) ?_
  refine aops_n hTT (M := []) (n := 3) [pv (8 : Nat) (V.sl (1 : Nat) (List.length c) fun (k : Nat) => [V.i (gi c k)]), pv (9 : Nat) (V.i (↑(List.length c) : Int)), pv (10 : Nat) (V.b (decide ((8 : Int) < (↑(List.length c) : Int))))] (by kernel_rfl) (by kernel_rfl) True.intro ?_
  refine aops_nil ?_
  refine xt_n ?_
  refine hK _ ?_
  clear hK K
  refine w_cond (t := decide ((8 : Int) < (↑(List.length c) : Int))) (by kernel_rfl) (fun c1 => ?_) (fun c1 => ?_)
  · have h1 : 8 < c.length := by simp at c1; omega
    refine aw_seq_k fun K hK => ?_
    refine w_region (n' := 4) (by kernel_rfl) (by kernel_rfl) ?_
    refine aops_n hTT (M := []) (n := 1) [pv (6 : Nat) (V.i (6 : Int))] (by kernel_rfl) (by kernel_rfl) True.intro ?_
    refine aops_nil ?_
    refine xt_n ?_
    refine hK _ ?_
    clear hK K
    refine aw_ret ?_
    refine xt_r ?_
    rw [chkC_1 h1]
    refine ret_pure (v' := V.i (6 : Int)) (.inr rfl) (by kernel_rfl) (by kernel_rfl) (by kernel_rfl)
  have h1 : ¬ 8 < c.length := by simp at c1; omega
  refine aw_skip ?_
  refine xt_n ?_
  refine hK _ ?_
  clear hK K
  refine aw_seq_k fun K hK => ?_
  refine aw_seq_k fun K hK => ?_
  refine w_region (n' := 4) (by kernel_rfl) (by kernel_rfl) ?_
  refine aops_n hTT (M := []) (n := 1) [pv (7 : Nat) (V.i (0 : Int))] (by kernel_rfl) (by kernel_rfl) True.intro ?_
  refine aops_nil ?_
  refine xt_n ?_
  refine hK _ ?_
  clear hK K
  refine aw_block ?_
  refine w_loop (ι := Nat) (fun k => [(0, V.ints c), (1, .i slots), (2, .i plate), (7, .i k)]) (fun _ => []) (fun k => k ≤ c.length ∧ ∀ i, i < k → copB (gi c i) = false) (fun k => c.length - k) 0 ⟨Nat.zero_le _, fun i hi => by omega⟩ ?_ ?_
  · refine le_ren [] (.cons (by kernel_rfl) (.cons (by kernel_rfl) (.cons (by kernel_rfl) (.cons (by kernel_rfl) .nil)))) .nil (by kernel_rfl) (by kernel_rfl)
  rintro k ⟨hk, hb⟩
  refine aw_seq_k fun K hK => ?_
  refine aw_seq_k fun K hK => ?_
  refine w_region (n' := 2) (by kernel_rfl) (by kernel_rfl) ?_
  refine aops_n hTT (M := []) (n := 4) [pv (11 : Nat) (V.i (↑k : Int)), pv (12 : Nat) (V.sl (1 : Nat) (List.length c) fun (k : Nat) => [V.i (gi c k)]), pv (13 : Nat) (V.i (↑(List.length c) : Int)), pv (14 : Nat) (V.b (decide ((↑k : Int) < (↑(List.length c) : Int))))] (by kernel_rfl) (by kernel_rfl) True.intro ?_
  refine aops_nil ?_
  refine xt_n ?_
  refine hK _ ?_
  clear hK K
  refine w_cond (t := decide ((↑k : Int) < (↑(List.length c) : Int))) (by kernel_rfl) (fun c2 => ?_) (fun c2 => ?_)
  · simp at c2
    refine aw_skip ?_
    refine xt_n ?_
    refine hK _ ?_
    clear hK K
    refine aw_seq_k fun K hK => ?_
    refine aw_block ?_
    refine aw_seq_k fun K hK => ?_
    refine w_region (n' := 3) (by kernel_rfl) (by kernel_rfl) ?_
    refine aops_n hTT (M := []) (n := 4) [pv (17 : Nat) (V.sl (1 : Nat) (List.length c) fun (k : Nat) => [V.i (gi c k)]), pv (18 : Nat) (V.i (↑k : Int)), pc (19 : Nat) ((0 : Int) ≤ (↑k : Int) ∧ (↑k : Int) < (↑(List.length c) : Int)) (V.ptr [V.i (gi c k)]), pv (20 : Nat) (V.i (gi c k))] (by kernel_rfl) (by kernel_rfl) ⟨(by omega), True.intro⟩ ?_
    refine e_call (first := []) (caps := []) (rwithin_ac (gi c k) 1 1048576) (by kernel_rfl) (by kernel_rfl) (by kernel_rfl) (by kernel_rfl) (by kernel_rfl) ?_
    refine aops_n hTT (M := []) (n := 1) [pv (22 : Nat) (V.b !(decide ((1 : Int) ≤ gi c k) && decide (gi c k ≤ (1048576 : Int))))] (by kernel_rfl) (by kernel_rfl) True.intro ?_
    refine aops_nil ?_
    refine xt_n ?_
    refine hK _ ?_
    clear hK K
    refine w_cond (t := !(decide ((1 : Int) ≤ gi c k) && decide (gi c k ≤ (1048576 : Int)))) (by kernel_rfl) (fun c3 => ?_) (fun c3 => ?_)
    · refine aw_seq_k fun K hK => ?_
      refine w_region (n' := 4) (by kernel_rfl) (by kernel_rfl) ?_
      refine aops_n hTT (M := []) (n := 1) [pv (6 : Nat) (V.i (2 : Int))] (by kernel_rfl) (by kernel_rfl) True.intro ?_
      refine aops_nil ?_
      refine xt_n ?_
      refine hK _ ?_
      clear hK K
      refine aw_ret ?_
      refine xb_r ?_
      refine xt_r ?_
      refine xt_r ?_
      refine xb_r ?_
      refine xt_r ?_
      rw [chkC_2 h1 c2 (by simp [copB, outB]; simp at c3; omega)]
      refine ret_pure (v' := V.i (2 : Int)) (.inr rfl) (by kernel_rfl) (by kernel_rfl) (by kernel_rfl)
    refine aw_skip ?_
    refine xb_n ?_
    refine xt_n ?_
    refine hK _ ?_
    clear hK K
    refine w_region (n' := 4) (by kernel_rfl) (by kernel_rfl) ?_
    refine aops_n hTT (M := []) (n := 3) [pv (15 : Nat) (V.i (↑k : Int)), pc (16 : Nat) ((-9223372036854775808 : Int) ≤ (↑k : Int) + (1 : Int) ∧ (↑k : Int) + (1 : Int) ≤ (9223372036854775807 : Int)) (V.i ((↑k : Int) + (1 : Int))), pv (7 : Nat) (V.i ((↑k : Int) + (1 : Int)))] (by kernel_rfl) (by kernel_rfl) ⟨(by omega), True.intro⟩ ?_
    refine aops_nil ?_
    refine xt_n ?_
    refine ⟨k + 1, ⟨by omega, fun i hi => ?_⟩, by refine le_ren [] (.cons (by kernel_rfl) (.cons (by kernel_rfl) (.cons (by kernel_rfl) (.cons (by kernel_rfl) .nil)))) .nil (by kernel_rfl) (by kernel_rfl), by omega⟩
    by_cases he : i = k
    · subst he; simp [copB, outB]; simp at c3; omega
    · exact hb i (by omega)
  simp at c2
  obtain rfl : k = c.length := by omega
  refine aw_exit ?_
  refine xt_x ?_
  refine xt_x ?_
  refine xb_same ?_
  refine xt_n ?_
  clear hK K
  refine hK _ ?_
  clear hK K
  refine aw_seq_k fun K hK => ?_
  refine aw_seq_k fun K hK => ?_
  refine w_region (n' := 3) (by kernel_rfl) (by kernel_rfl) ?_
  refine aops_n hTT (M := []) (n := 1) [pv (23 : Nat) (V.i slots)] (by kernel_rfl) (by kernel_rfl) True.intro ?_
  refine e_call (first := []) (caps := []) (rwithin_ac slots 1 64) (by kernel_rfl) (by kernel_rfl) (by kernel_rfl) (by kernel_rfl) (by kernel_rfl) ?_
  refine aops_n hTT (M := []) (n := 3) [pv (25 : Nat) (V.b !(decide ((1 : Int) ≤ slots) && decide (slots ≤ (64 : Int)))), pv (26 : Nat) (V.b !(decide ((1 : Int) ≤ slots) && decide (slots ≤ (64 : Int)))), pc (27 : Nat) ((True ∧ True) ∧ (((!(decide ((1 : Int) ≤ slots) && decide (slots ≤ (64 : Int)))) == false) = true → True)) (V.gd ((!(decide ((1 : Int) ≤ slots) && decide (slots ≤ (64 : Int)))) == false) (V.i plate))] (by kernel_rfl) (by kernel_rfl) ⟨⟨⟨True.intro, True.intro⟩, (fun _ => True.intro)⟩, True.intro⟩ ?_
  refine e_callG 1 (g := (!(decide ((1 : Int) ≤ slots) && decide (slots ≤ (64 : Int)))) == false) (first := []) (caps := []) (by kernel_rfl) (fun h => rwithin_ac plate 0 1048576) (by kernel_rfl) (by kernel_rfl) (by kernel_rfl) (by kernel_rfl) (by kernel_rfl) (by kernel_rfl) ?_
  refine aops_n hTT (M := []) (n := 2) [pc (29 : Nat) (((((!(decide ((1 : Int) ≤ slots) && decide (slots ≤ (64 : Int)))) == false) = true → ((!(decide ((1 : Int) ≤ slots) && decide (slots ≤ (64 : Int)))) == false) = true) ∧ True) ∧ (((!(decide ((1 : Int) ≤ slots) && decide (slots ≤ (64 : Int)))) == false) = true → True)) (V.gd ((!(decide ((1 : Int) ≤ slots) && decide (slots ≤ (64 : Int)))) == false) (V.b !(decide ((0 : Int) ≤ plate) && decide (plate ≤ (1048576 : Int))))), pc (30 : Nat) (True ∧ ((!(decide ((1 : Int) ≤ slots) && decide (slots ≤ (64 : Int)))) = false → ((!(decide ((1 : Int) ≤ slots) && decide (slots ≤ (64 : Int)))) == false) = true)) (V.b (!(decide ((1 : Int) ≤ slots) && decide (slots ≤ (64 : Int))) || !(decide ((0 : Int) ≤ plate) && decide (plate ≤ (1048576 : Int)))))] (by kernel_rfl) (by kernel_rfl) ⟨⟨⟨(by (exact fun h => h)), True.intro⟩, (fun _ => True.intro)⟩, ⟨True.intro, (by (intro h; rw [h]; rfl))⟩, True.intro⟩ ?_
  refine aops_nil ?_
  refine xt_n ?_
  refine hK _ ?_
  clear hK K
  refine w_cond (t := !(decide ((1 : Int) ≤ slots) && decide (slots ≤ (64 : Int))) || !(decide ((0 : Int) ≤ plate) && decide (plate ≤ (1048576 : Int)))) (by kernel_rfl) (fun c3 => ?_) (fun c3 => ?_)
  · refine aw_seq_k fun K hK => ?_
    refine w_region (n' := 4) (by kernel_rfl) (by kernel_rfl) ?_
    refine aops_n hTT (M := []) (n := 1) [pv (6 : Nat) (V.i (3 : Int))] (by kernel_rfl) (by kernel_rfl) True.intro ?_
    refine aops_nil ?_
    refine xt_n ?_
    refine hK _ ?_
    clear hK K
    refine aw_ret ?_
    refine xt_r ?_
    rw [chkC_3 h1 hb (by simp [outB]; simp at c3; omega)]
    refine ret_pure (v' := V.i (3 : Int)) (.inr rfl) (by kernel_rfl) (by kernel_rfl) (by kernel_rfl)
  · refine aw_skip ?_
    refine xt_n ?_
    refine hK _ ?_
    clear hK K
    refine aw_seq_k fun K hK => ?_
    refine w_region (n' := 4) (by kernel_rfl) (by kernel_rfl) ?_
    refine aops_n hTT (M := []) (n := 1) [pv (6 : Nat) (V.i (0 : Int))] (by kernel_rfl) (by kernel_rfl) True.intro ?_
    refine aops_nil ?_
    refine xt_n ?_
    refine hK _ ?_
    clear hK K
    refine aw_ret ?_
    rw [chkC_4 h1 hb (by simp [outB]; simp at c3; omega)]
    refine ret_pure (v' := V.i (0 : Int)) (.inr rfl) (by kernel_rfl) (by kernel_rfl) (by kernel_rfl)
set_option maxRecDepth 100000 in
theorem rPlaces_ac (c : List Int) (s : Int) (h : CO c) (hl : c.length ≤ 4096) (hs : 1 ≤ s ∧ s ≤ 1048576) : AC Tryd.prog 56 [V.ints c, .i s] (V.ints (c.map fun n => plc n s)) [] := by
  obtain ⟨s1, s2⟩ := hs
  refine ac_intro hTT hMX (fn := Tryd.f56) (N := _) ⟨Tryd.func56, rfl, Tryd.ntmps56, by kernel_rfl⟩ (by simp) fun C hC hF => ?_
  refine aw_seq_k fun K hK => ?_
  refine w_region (n' := 2) (by kernel_rfl) (by kernel_rfl) ?_
  refine aops_n hTT (M := []) (n := 1) [pv (4 : Nat) V.nil] (by kernel_rfl) (by kernel_rfl) True.intro ?_
  refine aops_nil ?_
  refine xt_n ?_
  refine hK _ ?_
  clear hK K
  refine aw_seq_k fun K hK => ?_
  refine w_region (n' := 3) (by kernel_rfl) (by kernel_rfl) ?_
  refine aops_n hTT (M := []) (n := 1) [pv (5 : Nat) V.nil] (by kernel_rfl) (by kernel_rfl) True.intro ?_
  refine aops_nil ?_
  refine xt_n ?_
  refine hK _ ?_
  clear hK K
  refine aw_seq_k fun K hK => ?_
  refine aw_seq_k fun K hK => ?_
  refine w_region (n' := 4) (by kernel_rfl) (by kernel_rfl) ?_
  refine aops_n hTT (M := []) (n := 1) [pv (6 : Nat) (V.i (0 : Int))] (by kernel_rfl) (by kernel_rfl) True.intro ?_
  refine aops_nil ?_
  refine xt_n ?_
  refine hK _ ?_
  clear hK K
  refine aw_block ?_
  refine w_le (le_open 5 2 1 (fun k => [.i (plc (gi c k) s)]) (by kernel_rfl) rfl) ?_
  refine w_loop (ι := Nat) (fun k => [(0, V.ints c), (1, .i s), (5, .own 5), (6, .i k)]) (fun k => [(5, .row 2 1 k fun k => [.i (plc (gi c k) s)])]) (fun k => k ≤ c.length) (fun k => c.length - k) 0 (Nat.zero_le _) ?_ ?_
  · refine le_ren (sl := [(5, Ob.row (2 : Nat) (1 : Nat) (0 : Nat) fun (k : Nat) => [V.i (plc (gi c k) s)])]) [(5, 400005)] (.cons (by kernel_rfl) (.cons (by kernel_rfl) (.cons (by kernel_rfl) (.cons (by kernel_rfl) .nil)))) (.cons ⟨Ob.row (2 : Nat) (1 : Nat) (0 : Nat) fun (k : Nat) => [V.i (plc (gi c k) s)], (by kernel_rfl), .row (by kernel_rfl) (fun _ _ => rfl)⟩ .nil) (by kernel_rfl) (by kernel_rfl)
  intro k hk
  refine aw_seq_k fun K hK => ?_
  refine aw_seq_k fun K hK => ?_
  refine w_region (n' := 2) (by kernel_rfl) (by kernel_rfl) ?_
  refine aops_n hTT (M := []) (n := 4) [pv (7 : Nat) (V.i (↑k : Int)), pv (8 : Nat) (V.sl (1 : Nat) (List.length c) fun (k : Nat) => [V.i (gi c k)]), pv (9 : Nat) (V.i (↑(List.length c) : Int)), pv (10 : Nat) (V.b (decide ((↑k : Int) < (↑(List.length c) : Int))))] (by kernel_rfl) (by kernel_rfl) True.intro ?_
  refine aops_nil ?_
  refine xt_n ?_
  refine hK _ ?_
  clear hK K
  refine w_cond (t := decide ((↑k : Int) < (↑(List.length c) : Int))) (by kernel_rfl) (fun c1 => ?_) (fun c1 => ?_)
  · simp at c1
    obtain ⟨q1, q2⟩ := h.gi c1
    have e1 := tdiv_plc q1 s1
    have p1 := plc_pos q1 s1
    have p2 := plc_le q1 s1
    refine aw_skip ?_
    refine xt_n ?_
    refine hK _ ?_
    clear hK K
    refine aw_seq_k fun K hK => ?_
    refine aw_block ?_
    refine w_region (n' := 3) (by kernel_rfl) (by kernel_rfl) ?_
    refine aops_n hTT (M := []) (n := 13) [pv (13 : Nat) (V.own (5 : Nat)), pv (14 : Nat) (V.sl (1 : Nat) (List.length c) fun (k : Nat) => [V.i (gi c k)]), pv (15 : Nat) (V.i (↑k : Int)), pc (16 : Nat) ((0 : Int) ≤ (↑k : Int) ∧ (↑k : Int) < (↑(List.length c) : Int)) (V.ptr [V.i (gi c k)]), pv (17 : Nat) (V.i (gi c k)), pv (18 : Nat) (V.i s), pc (19 : Nat) ((-9223372036854775808 : Int) ≤ gi c k + s ∧ gi c k + s ≤ (9223372036854775807 : Int)) (V.i (gi c k + s)), pc (20 : Nat) ((-9223372036854775808 : Int) ≤ gi c k + s - (1 : Int) ∧ gi c k + s - (1 : Int) ≤ (9223372036854775807 : Int)) (V.i (gi c k + s - (1 : Int))), pv (21 : Nat) (V.i s), pc (22 : Nat) ((0 : Int) < s ∧ (-9223372036854775808 : Int) ≤ gi c k + s - (1 : Int) ∧ gi c k + s - (1 : Int) ≤ (9223372036854775807 : Int)) (V.i (Int.tdiv (gi c k + s - (1 : Int)) s)), pv (23 : Nat) (V.sl (1 : Nat) (1 : Nat) fun (i : Nat) => List.take (1 : Nat) (List.drop (i * (1 : Nat)) [V.i (Int.tdiv (gi c k + s - (1 : Int)) s)])), PR.mk (some (24 : Nat)) (some (k + (1 : Nat) ≤ (1099511627776 : Nat))) (V.own (200024 : Nat)) [((5 : Nat), none), ((200024 : Nat), some (Ob.row (2 : Nat) (1 : Nat) (k + (1 : Nat)) (appRow k (fun (k : Nat) => [V.i (plc (gi c k) s)]) fun (i : Nat) => List.take (1 : Nat) (List.drop (i * (1 : Nat)) [V.i (Int.tdiv (gi c k + s - (1 : Int)) s)]))))] false, pv (5 : Nat) (V.own (200024 : Nat))] (by kernel_rfl) (by kernel_rfl) ⟨(by omega), (by omega), (by omega), ⟨(by omega), (by omega)⟩, (by omega), True.intro⟩ ?_
    refine aops_nil ?_
    refine xb_n ?_
    refine xt_n ?_
    refine hK _ ?_
    clear hK K
    refine w_region (n' := 4) (by kernel_rfl) (by kernel_rfl) ?_
    refine aops_n hTT (M := []) (n := 3) [pv (11 : Nat) (V.i (↑k : Int)), pc (12 : Nat) ((-9223372036854775808 : Int) ≤ (↑k : Int) + (1 : Int) ∧ (↑k : Int) + (1 : Int) ≤ (9223372036854775807 : Int)) (V.i ((↑k : Int) + (1 : Int))), pv (6 : Nat) (V.i ((↑k : Int) + (1 : Int)))] (by kernel_rfl) (by kernel_rfl) ⟨(by omega), True.intro⟩ ?_
    refine aops_nil ?_
    refine xt_n ?_
    refine ⟨k + 1, by omega, ?_, by omega⟩
    refine le_ren (tl := [(0, V.sl (1 : Nat) (List.length c) fun (k : Nat) => [V.i (gi c k)]), (1, V.i s), (5, V.own (5 : Nat)), (6, V.i (↑(k + (1 : Nat)) : Int))]) (sl := [(5, Ob.row (2 : Nat) (1 : Nat) (k + (1 : Nat)) fun (k : Nat) => [V.i (plc (gi c k) s)])]) [(5, 200024)] (.cons (by kernel_rfl) (.cons (by kernel_rfl) (.cons (by kernel_rfl) (.cons (by kernel_rfl) .nil)))) (.cons ⟨Ob.row (2 : Nat) (1 : Nat) (k + (1 : Nat)) (appRow k (fun (k : Nat) => [V.i (plc (gi c k) s)]) fun (i : Nat) => List.take (1 : Nat) (List.drop (i * (1 : Nat)) [V.i (Int.tdiv (gi c k + s - (1 : Int)) s)])), (by kernel_rfl), .row (by kernel_rfl) ?_⟩ .nil) (by kernel_rfl) (by kernel_rfl)
    exact appRow_i rfl e1
  simp at c1
  obtain rfl : k = c.length := by omega
  refine aw_exit ?_
  refine xt_x ?_
  refine xt_x ?_
  refine xb_same ?_
  refine xt_n ?_
  clear hK K
  refine hK _ ?_
  clear hK K
  refine aw_seq_k fun K hK => ?_
  refine w_region (n' := 3) (by kernel_rfl) (by kernel_rfl) ?_
  refine aops_n hTT (M := []) (n := 2) [pv (25 : Nat) (V.own (5 : Nat)), pv (4 : Nat) (V.own (5 : Nat))] (by kernel_rfl) (by kernel_rfl) True.intro ?_
  refine aops_nil ?_
  refine xt_n ?_
  refine hK _ ?_
  clear hK K
  refine aw_ret ?_
  refine ret_of_le (le_shut 4 5 (e := (2 : Nat)) (sz := (1 : Nat)) (n := List.length c) (n' := (c.map fun n => plc n s).length) (row := fun (k : Nat) => [V.i (plc (gi c k) s)]) (row' := (fun k => [.i (gi (c.map fun n => plc n s) k)])) (by kernel_rfl) (by kernel_rfl) (fun _ _ => rfl) ?_ ?_) ?_
  · simp
  · intro i hi; rw [gi_map hi]
  refine ret_pure (v' := V.sl (1 : Nat) (List.length (List.map (fun (n : Int) => plc n s) c)) fun (k : Nat) => [V.i (gi (List.map (fun (n : Int) => plc n s) c) k)]) (.inr rfl) (by kernel_rfl) (by kernel_rfl) (by kernel_rfl)
/-- so many sheets are enough -/
def enB (c : List Int) (slots s : Int) : Bool := if s < 1 then decide (c.length = 0) else decide (plcS c s c.length ≤ slots)
theorem sum_map {c : List Int} {s : Int} : ∀ k, k ≤ c.length → plcS c s (k + 0) = plcS c s k := fun _ _ => rfl
set_option maxRecDepth 100000 in
theorem Enough_ac (c : List Int) (slots s : Int) (h : CO c) (hl : c.length ≤ 4096) (hs : s ≤ 1048576) : AC Tryd.prog 27 [V.ints c, .i slots, .i s] (.b (enB c slots s)) [] := by
  refine ac_intro hTT hMX (fn := Tryd.f27) (N := _) ⟨Tryd.func27, rfl, Tryd.ntmps27, by kernel_rfl⟩ (by simp) fun C hC hF => ?_
  refine aw_seq_k fun K hK => ?_
  refine w_region (n' := 2) (by kernel_rfl) (by kernel_rfl) ?_
  refine aops_n hTT (M := []) (n := 1) [pv (6 : Nat) (V.b false)] (by kernel_rfl) (by kernel_rfl) True.intro ?_
  refine aops_nil ?_
  refine xt_n ?_
  refine hK _ ?_
  clear hK K
  refine aw_seq_k fun K hK => ?_
  refine aw_seq_k fun K hK => ?_
  refine w_region (n' := 3) (by kernel_rfl) (by kernel_rfl) ?_
  refine aops_n hTT (M := []) (n := 2) [pv (10 : Nat) (V.i s), pv (11 : Nat) (V.b (decide (s < (1 : Int))))] (by kernel_rfl) (by kernel_rfl) True.intro ?_
  refine aops_nil ?_
  refine xt_n ?_
  refine hK _ ?_
  clear hK K
  refine w_cond (t := decide (s < (1 : Int))) (by kernel_rfl) (fun c1 => ?_) (fun c1 => ?_)
  · simp at c1
    refine aw_seq_k fun K hK => ?_
    refine w_region (n' := 4) (by kernel_rfl) (by kernel_rfl) ?_
    refine aops_n hTT (M := []) (n := 4) [pv (12 : Nat) (V.sl (1 : Nat) (List.length c) fun (k : Nat) => [V.i (gi c k)]), pv (13 : Nat) (V.i (↑(List.length c) : Int)), pv (14 : Nat) (V.b (decide ((↑(List.length c) : Int) = (0 : Int)))), pv (6 : Nat) (V.b (decide ((↑(List.length c) : Int) = (0 : Int))))] (by kernel_rfl) (by kernel_rfl) True.intro ?_
    refine aops_nil ?_
    refine xt_n ?_
    refine hK _ ?_
    clear hK K
    refine aw_ret ?_
    refine xt_r ?_
    rw [enB, if_pos c1]
    refine ret_pure (v' := V.b (decide ((↑(List.length c) : Int) = (0 : Int)))) (.inr rfl) (by kernel_rfl) ?_ (by kernel_rfl)
    simp
  simp at c1
  refine aw_skip ?_
  refine xt_n ?_
  refine hK _ ?_
  clear hK K
  refine aw_seq_k fun K hK => ?_
  refine w_region (n' := 4) (by kernel_rfl) (by kernel_rfl) ?_
  refine aops_n hTT (M := []) (n := 2) [pv (15 : Nat) (V.sl (1 : Nat) (List.length c) fun (k : Nat) => [V.i (gi c k)]), pv (16 : Nat) (V.i s)] (by kernel_rfl) (by kernel_rfl) True.intro ?_
  refine e_call (first := []) (caps := []) (rPlaces_ac c s h hl (by omega)) (by kernel_rfl) (by kernel_rfl) (by kernel_rfl) (by kernel_rfl) (by kernel_rfl) ?_
  refine aops_n hTT (M := []) (n := 1) [pv (7 : Nat) (V.sl (1 : Nat) (List.length (List.map (fun (n : Int) => plc n s) c)) fun (k : Nat) => [V.i (gi (List.map (fun (n : Int) => plc n s) c) k)])] (by kernel_rfl) (by kernel_rfl) True.intro ?_
  refine aops_nil ?_
  refine xt_n ?_
  refine hK _ ?_
  clear hK K
  refine aw_seq_k fun K hK => ?_
  refine w_region (n' := 5) (by kernel_rfl) (by kernel_rfl) ?_
  refine aops_n hTT (M := []) (n := 1) [pv (8 : Nat) (V.i (0 : Int))] (by kernel_rfl) (by kernel_rfl) True.intro ?_
  refine aops_nil ?_
  refine xt_n ?_
  refine hK _ ?_
  clear hK K
  refine aw_seq_k fun K hK => ?_
  refine aw_seq_k fun K hK => ?_
  refine w_region (n' := 6) (by kernel_rfl) (by kernel_rfl) ?_
  refine aops_n hTT (M := []) (n := 1) [pv (9 : Nat) (V.i (0 : Int))] (by kernel_rfl) (by kernel_rfl) True.intro ?_
  refine aops_nil ?_
  refine xt_n ?_
  refine hK _ ?_
  clear hK K
  refine aw_block ?_
  refine w_loop (ι := Nat) (fun k => [(1, .i slots), (7, V.ints (c.map fun n => plc n s)), (8, .i (plcS c s k)), (9, .i k)]) (fun _ => []) (fun k => k ≤ c.length) (fun k => c.length - k) 0 (Nat.zero_le _) ?_ ?_
  · refine le_ren [] (.cons (by kernel_rfl) (.cons (by kernel_rfl) (.cons (by kernel_rfl) (.cons (by kernel_rfl) .nil)))) .nil (by kernel_rfl) (by kernel_rfl)
  intro k hk
  have hb := plcS_bd h c1 k hk
  refine aw_seq_k fun K hK => ?_
  refine aw_seq_k fun K hK => ?_
  refine w_region (n' := 2) (by kernel_rfl) (by kernel_rfl) ?_
  refine aops_n hTT (M := []) (n := 4) [pv (18 : Nat) (V.i (↑k : Int)), pv (19 : Nat) (V.sl (1 : Nat) (List.length (List.map (fun (n : Int) => plc n s) c)) fun (k : Nat) => [V.i (gi (List.map (fun (n : Int) => plc n s) c) k)]), pv (20 : Nat) (V.i (↑(List.length (List.map (fun (n : Int) => plc n s) c)) : Int)), pv (21 : Nat) (V.b (decide ((↑k : Int) < (↑(List.length (List.map (fun (n : Int) => plc n s) c)) : Int))))] (by kernel_rfl) (by kernel_rfl) True.intro ?_
  refine aops_nil ?_
  refine xt_n ?_
  refine hK _ ?_
  clear hK K
  refine w_cond (t := decide ((↑k : Int) < (↑(List.length (List.map (fun (n : Int) => plc n s) c)) : Int))) (by kernel_rfl) (fun c2 => ?_) (fun c2 => ?_)
  · simp at c2
    obtain ⟨q1, q2⟩ := h.gi c2
    have p1 := plc_pos q1 c1
    have p2 := plc_le q1 c1
    have e := gi_map (g := fun n => plc n s) c2
    refine aw_skip ?_
    refine xt_n ?_
    refine hK _ ?_
    clear hK K
    refine aw_seq_k fun K hK => ?_
    refine aw_block ?_
    refine w_region (n' := 3) (by kernel_rfl) (by kernel_rfl) ?_
    refine aops_n hTT (M := []) (n := 7) [pv (24 : Nat) (V.i (plcS c s k)), pv (25 : Nat) (V.sl (1 : Nat) (List.length (List.map (fun (n : Int) => plc n s) c)) fun (k : Nat) => [V.i (gi (List.map (fun (n : Int) => plc n s) c) k)]), pv (26 : Nat) (V.i (↑k : Int)), pc (27 : Nat) ((0 : Int) ≤ (↑k : Int) ∧ (↑k : Int) < (↑(List.length (List.map (fun (n : Int) => plc n s) c)) : Int)) (V.ptr [V.i (gi (List.map (fun (n : Int) => plc n s) c) k)]), pv (28 : Nat) (V.i (gi (List.map (fun (n : Int) => plc n s) c) k)), pc (29 : Nat) ((-9223372036854775808 : Int) ≤ plcS c s k + gi (List.map (fun (n : Int) => plc n s) c) k ∧ plcS c s k + gi (List.map (fun (n : Int) => plc n s) c) k ≤ (9223372036854775807 : Int)) (V.i (plcS c s k + gi (List.map (fun (n : Int) => plc n s) c) k)), pv (8 : Nat) (V.i (plcS c s k + gi (List.map (fun (n : Int) => plc n s) c) k))] (by kernel_rfl) (by kernel_rfl) ⟨⟨(by omega), (by (simp; omega))⟩, (by omega), True.intro⟩ ?_
    refine aops_nil ?_
    refine xb_n ?_
    refine xt_n ?_
    refine hK _ ?_
    clear hK K
    refine w_region (n' := 4) (by kernel_rfl) (by kernel_rfl) ?_
    refine aops_n hTT (M := []) (n := 3) [pv (22 : Nat) (V.i (↑k : Int)), pc (23 : Nat) ((-9223372036854775808 : Int) ≤ (↑k : Int) + (1 : Int) ∧ (↑k : Int) + (1 : Int) ≤ (9223372036854775807 : Int)) (V.i ((↑k : Int) + (1 : Int))), pv (9 : Nat) (V.i ((↑k : Int) + (1 : Int)))] (by kernel_rfl) (by kernel_rfl) ⟨(by omega), True.intro⟩ ?_
    refine aops_nil ?_
    refine xt_n ?_
    rw [e]
    skip
    refine ⟨k + 1, by omega, by refine le_ren [] (.cons (by kernel_rfl) (.cons (by kernel_rfl) (.cons (by kernel_rfl) (.cons (by kernel_rfl) .nil)))) .nil (by kernel_rfl) (by kernel_rfl), by omega⟩
  simp at c2
  obtain rfl : k = c.length := by omega
  refine aw_exit ?_
  refine xt_x ?_
  refine xt_x ?_
  refine xb_same ?_
  refine xt_n ?_
  clear hK K
  refine hK _ ?_
  clear hK K
  refine aw_seq_k fun K hK => ?_
  refine w_region (n' := 3) (by kernel_rfl) (by kernel_rfl) ?_
  refine aops_n hTT (M := []) (n := 4) [pv (30 : Nat) (V.i (plcS c s (List.length c))), pv (31 : Nat) (V.i slots), pv (32 : Nat) (V.b (decide (plcS c s (List.length c) ≤ slots))), pv (6 : Nat) (V.b (decide (plcS c s (List.length c) ≤ slots)))] (by kernel_rfl) (by kernel_rfl) True.intro ?_
  refine aops_nil ?_
  refine xt_n ?_
  refine hK _ ?_
  clear hK K
  refine aw_ret ?_
  rw [enB, if_neg (by omega)]
  refine ret_pure (v' := V.b (decide (plcS c s (List.length c) ≤ slots))) (.inr rfl) (by kernel_rfl) (by kernel_rfl) (by kernel_rfl)
set_option maxRecDepth 100000 in
theorem rrun_ac (c : List Int) (slots : Int) (h : CO c) (hl : c.length ≤ 4096) (hs : (c.length : Int) ≤ slots) : AC Tryd.prog 55 [V.ints c, .i slots] (.i (fewN c slots)) [] := by
  refine ac_intro hTT hMX (fn := Tryd.f55) (N := _) ⟨Tryd.func55, rfl, Tryd.ntmps55, by kernel_rfl⟩ (by simp) fun C hC hF => ?_
  refine aw_seq_k fun K hK => ?_
  refine w_region (n' := 2) (by kernel_rfl) (by kernel_rfl) ?_
  refine aops_n hTT (M := []) (n := 1) [pv (4 : Nat) (V.i (0 : Int))] (by kernel_rfl) (by kernel_rfl) True.intro ?_
  refine aops_nil ?_
  refine xt_n ?_
  refine hK _ ?_
  clear hK K
  refine aw_seq_k fun K hK => ?_
  refine w_region (n' := 3) (by kernel_rfl) (by kernel_rfl) ?_
  refine aops_n hTT (M := []) (n := 2) [pv (5 : Nat) (V.i (0 : Int)), pv (6 : Nat) (V.i (1048576 : Int))] (by kernel_rfl) (by kernel_rfl) True.intro ?_
  refine aops_nil ?_
  refine xt_n ?_
  refine hK _ ?_
  clear hK K
  refine aw_seq_k fun K hK => ?_
  refine aw_block ?_
  refine w_loop (ι := Int × Int) (fun x => [(0, V.ints c), (1, .i slots), (5, .i x.1), (6, .i x.2)]) (fun _ => []) (fun x => (0 ≤ x.1 ∧ x.1 ≤ x.2 ∧ x.2 ≤ 1048576) ∧ enB c slots x.2 = true ∧ ∀ s, 0 ≤ s → s < x.1 → enB c slots s = false) (fun x => (x.2 - x.1).toNat) (0, 1048576) ⟨⟨by omega, by omega, by omega⟩, ?_, fun s h1 h2 => by simp only at h2; omega⟩ ?_ ?_
  · have := plcS_top (c := c) (s := 1048576) (by omega) (fun i hi => (h.gi hi).2) c.length (Nat.le_refl _)
    simp [enB]; omega
  · refine le_ren [] (.cons (by kernel_rfl) (.cons (by kernel_rfl) (.cons (by kernel_rfl) (.cons (by kernel_rfl) .nil)))) .nil (by kernel_rfl) (by kernel_rfl)
  rintro ⟨lo, hi⟩ ⟨⟨l1, l2, l3⟩, h1, h2⟩
  simp only at l1 l2 l3 h1 h2
  refine aw_seq_k fun K hK => ?_
  refine aw_seq_k fun K hK => ?_
  refine w_region (n' := 2) (by kernel_rfl) (by kernel_rfl) ?_
  refine aops_n hTT (M := []) (n := 3) [pv (8 : Nat) (V.i lo), pv (9 : Nat) (V.i hi), pv (10 : Nat) (V.b (decide (lo < hi)))] (by kernel_rfl) (by kernel_rfl) True.intro ?_
  refine aops_nil ?_
  refine xt_n ?_
  refine hK _ ?_
  clear hK K
  refine w_cond (t := decide (lo < hi)) (by kernel_rfl) (fun c3 => ?_) (fun c3 => ?_)
  · simp at c3
    have hh : lo ≤ (lo + hi).tdiv 2 ∧ (lo + hi).tdiv 2 < hi := by
      rw [Int.tdiv_eq_ediv_of_nonneg (by omega)]; omega
    refine aw_skip ?_
    refine xt_n ?_
    refine hK _ ?_
    clear hK K
    refine aw_block ?_
    refine aw_seq_k fun K hK => ?_
    refine w_region (n' := 3) (by kernel_rfl) (by kernel_rfl) ?_
    refine aops_n hTT (M := []) (n := 5) [pv (11 : Nat) (V.i lo), pv (12 : Nat) (V.i hi), pc (13 : Nat) ((-9223372036854775808 : Int) ≤ lo + hi ∧ lo + hi ≤ (9223372036854775807 : Int)) (V.i (lo + hi)), pc (14 : Nat) ((0 : Int) < (2 : Int) ∧ (-9223372036854775808 : Int) ≤ lo + hi ∧ lo + hi ≤ (9223372036854775807 : Int)) (V.i (Int.tdiv (lo + hi) (2 : Int))), pv (7 : Nat) (V.i (Int.tdiv (lo + hi) (2 : Int)))] (by kernel_rfl) (by kernel_rfl) ⟨(by omega), ⟨(by omega), (by omega)⟩, True.intro⟩ ?_
    refine aops_nil ?_
    refine xt_n ?_
    refine hK _ ?_
    clear hK K
    refine aw_seq_k fun K hK => ?_
    refine w_region (n' := 4) (by kernel_rfl) (by kernel_rfl) ?_
    refine aops_n hTT (M := []) (n := 3) [pv (15 : Nat) (V.sl (1 : Nat) (List.length c) fun (k : Nat) => [V.i (gi c k)]), pv (16 : Nat) (V.i slots), pv (17 : Nat) (V.i (Int.tdiv (lo + hi) (2 : Int)))] (by kernel_rfl) (by kernel_rfl) True.intro ?_
    refine e_call (first := []) (caps := []) (Enough_ac c slots ((lo + hi).tdiv 2) h hl (by omega)) (by kernel_rfl) (by kernel_rfl) (by kernel_rfl) (by kernel_rfl) (by kernel_rfl) ?_
    refine aops_nil ?_
    refine xt_n ?_
    refine hK _ ?_
    clear hK K
    refine w_cond (t := enB c slots (Int.tdiv (lo + hi) (2 : Int))) (by kernel_rfl) (fun c4 => ?_) (fun c4 => ?_)
    · refine w_region (n' := 5) (by kernel_rfl) (by kernel_rfl) ?_
      refine aops_n hTT (M := []) (n := 2) [pv (19 : Nat) (V.i (Int.tdiv (lo + hi) (2 : Int))), pv (6 : Nat) (V.i (Int.tdiv (lo + hi) (2 : Int)))] (by kernel_rfl) (by kernel_rfl) True.intro ?_
      refine aops_nil ?_
      refine xb_n ?_
      refine xt_n ?_
      refine ⟨(lo, (lo + hi).tdiv 2), ⟨⟨l1, hh.1, by simp only; omega⟩, c4, h2⟩, by refine le_ren [] (.cons (by kernel_rfl) (.cons (by kernel_rfl) (.cons (by kernel_rfl) (.cons (by kernel_rfl) .nil)))) .nil (by kernel_rfl) (by kernel_rfl), by simp only; omega⟩
    · refine w_region (n' := 5) (by kernel_rfl) (by kernel_rfl) ?_
      refine aops_n hTT (M := []) (n := 3) [pv (20 : Nat) (V.i (Int.tdiv (lo + hi) (2 : Int))), pc (21 : Nat) ((-9223372036854775808 : Int) ≤ Int.tdiv (lo + hi) (2 : Int) + (1 : Int) ∧ Int.tdiv (lo + hi) (2 : Int) + (1 : Int) ≤ (9223372036854775807 : Int)) (V.i (Int.tdiv (lo + hi) (2 : Int) + (1 : Int))), pv (5 : Nat) (V.i (Int.tdiv (lo + hi) (2 : Int) + (1 : Int)))] (by kernel_rfl) (by kernel_rfl) ⟨(by omega), True.intro⟩ ?_
      refine aops_nil ?_
      refine xb_n ?_
      refine xt_n ?_
      refine ⟨((lo + hi).tdiv 2 + 1, hi), ⟨⟨by simp only; omega, by simp only; omega, l3⟩, h1, fun s hs1 hs2 => ?_⟩, by refine le_ren [] (.cons (by kernel_rfl) (.cons (by kernel_rfl) (.cons (by kernel_rfl) (.cons (by kernel_rfl) .nil)))) .nil (by kernel_rfl) (by kernel_rfl), by simp only; omega⟩
      simp only at hs2
      have c4' : enB c slots ((lo + hi).tdiv 2) = false := by simpa using c4
      unfold enB at c4' ⊢
      by_cases hz : s < 1
      · rw [if_pos hz]
        by_cases h0 : c.length = 0
        · exfalso
          have : plcS c ((lo + hi).tdiv 2) c.length = 0 := by rw [h0]; rfl
          split at c4'
          · simp [h0] at c4'
          · rw [this] at c4'; simp at c4'; omega
        · exact decide_eq_false h0
      · rw [if_neg hz]
        rw [if_neg (by omega)] at c4'
        have := plcS_mono h (show 1 ≤ s by omega) (show s ≤ (lo + hi).tdiv 2 by omega) c.length (Nat.le_refl _)
        simp at c4' ⊢; omega
  · simp at c3
    obtain rfl : lo = hi := by omega
    refine aw_exit ?_
    refine xt_x ?_
    refine xt_x ?_
    refine xb_same ?_
    refine xt_n ?_
    clear hK K
    refine hK _ ?_
    clear hK K
    refine aw_seq_k fun K hK => ?_
    refine w_region (n' := 3) (by kernel_rfl) (by kernel_rfl) ?_
    refine aops_n hTT (M := []) (n := 2) [pv (22 : Nat) (V.i lo), pv (4 : Nat) (V.i lo)] (by kernel_rfl) (by kernel_rfl) True.intro ?_
    refine aops_nil ?_
    refine xt_n ?_
    refine hK _ ?_
    clear hK K
    refine aw_ret ?_
    have e : fewN c slots = lo := by
      by_cases h0 : c.length = 0
      · rw [fewN_nil h0]
        by_cases hz : lo = 0
        · omega
        · have := h2 0 (by omega) (by omega)
          simp [enB, h0] at this
      · have hp : 1 ≤ lo := by
          by_cases hz : lo < 1
          · rw [enB, if_pos hz] at h1; exact absurd (of_decide_eq_true h1) h0
          · omega
        refine fewN_eq h hs h0 ⟨hp, ?_, fun s s1 s2 => ?_⟩
        · rw [enB, if_neg (by omega)] at h1; exact of_decide_eq_true h1
        · have := h2 s (by omega) s2
          rw [enB, if_neg (by omega)] at this
          have := of_decide_eq_false this
          omega
    rw [e]
    refine ret_pure (v' := V.i lo) (.inr rfl) (by kernel_rfl) (by kernel_rfl) (by kernel_rfl)
set_option maxRecDepth 100000 in
theorem rRun_ac (c : List Int) (slots : Int) (hl : c.length ≤ 4611686018427387904) : AC Tryd.prog 22 [V.ints c, .i slots] (.tup [.i (runS c slots), V.ints (runL c slots), .i (runE c slots)]) [] := by
  refine ac_intro hTT hMX (fn := Tryd.f22) (N := _) ⟨Tryd.func22, rfl, Tryd.ntmps22, by kernel_rfl⟩ (by simp) fun C hC hF => ?_
  refine aw_seq_k fun K hK => ?_
  refine w_region (n' := 2) (by kernel_rfl) (by kernel_rfl) ?_
  refine aops_n hTT (M := []) (n := 3) [pv (4 : Nat) (V.i (0 : Int)), pv (5 : Nat) V.nil, pv (6 : Nat) (V.i (0 : Int))] (by kernel_rfl) (by kernel_rfl) True.intro ?_
  refine aops_nil ?_
  refine xt_n ?_
  refine hK _ ?_
  clear hK K
  refine aw_seq_k fun K hK => ?_
  refine w_region (n' := 3) (by kernel_rfl) (by kernel_rfl) ?_
  refine aops_n hTT (M := []) (n := 2) [pv (9 : Nat) (V.sl (1 : Nat) (List.length c) fun (k : Nat) => [V.i (gi c k)]), pv (10 : Nat) (V.i slots)] (by kernel_rfl) (by kernel_rfl) True.intro ?_
  refine e_call (first := []) (caps := []) (rCheckCopies_ac c slots 0 hl) (by kernel_rfl) (by kernel_rfl) (by kernel_rfl) (by kernel_rfl) (by kernel_rfl) ?_
  refine aops_n hTT (M := []) (n := 1) [pv (7 : Nat) (V.i (chkC c slots (0 : Int)))] (by kernel_rfl) (by kernel_rfl) True.intro ?_
  refine aops_nil ?_
  refine xt_n ?_
  refine hK _ ?_
  clear hK K
  refine aw_seq_k fun K hK => ?_
  refine aw_seq_k fun K hK => ?_
  refine w_region (n' := 4) (by kernel_rfl) (by kernel_rfl) ?_
  refine aops_n hTT (M := []) (n := 2) [pv (12 : Nat) (V.i (chkC c slots (0 : Int))), pv (13 : Nat) (V.b !decide (chkC c slots (0 : Int) = (0 : Int)))] (by kernel_rfl) (by kernel_rfl) True.intro ?_
  refine aops_nil ?_
  refine xt_n ?_
  refine hK _ ?_
  clear hK K
  refine w_cond (t := !decide (chkC c slots (0 : Int) = (0 : Int))) (by kernel_rfl) (fun c1 => ?_) (fun c1 => ?_)
  · obtain ⟨e1, e2, e3⟩ := runS_1 (c := c) (slots := slots) (by simpa using c1)
    refine aw_seq_k fun K hK => ?_
    refine w_region (n' := 5) (by kernel_rfl) (by kernel_rfl) ?_
    refine aops_n hTT (M := []) (n := 4) [pv (14 : Nat) (V.i (chkC c slots (0 : Int))), pv (4 : Nat) (V.i (0 : Int)), pv (5 : Nat) V.nil, pv (6 : Nat) (V.i (chkC c slots (0 : Int)))] (by kernel_rfl) (by kernel_rfl) True.intro ?_
    refine aops_nil ?_
    refine xt_n ?_
    refine hK _ ?_
    clear hK K
    refine aw_ret ?_
    refine xt_r ?_
    rw [e1, e2, e3]
    refine ret_of_le (le_nil 5 (sz := 1) 0 (fun k => [.i (gi [] k)]) (by kernel_rfl) ?_) ?_
    · rfl
    refine ret_pure (v' := V.tup [V.i (0 : Int), V.sl (1 : Nat) (0 : Nat) fun (k : Nat) => [V.i (gi [] k)], V.i (chkC c slots (0 : Int))]) (.inr rfl) (by kernel_rfl) (by kernel_rfl) (by kernel_rfl)
  have h1 : chkC c slots 0 = 0 := by simpa using c1
  obtain ⟨l8, hco, hs, _⟩ := chkC_inv h1
  refine aw_skip ?_
  refine xt_n ?_
  refine hK _ ?_
  clear hK K
  refine aw_seq_k fun K hK => ?_
  refine aw_seq_k fun K hK => ?_
  refine w_region (n' := 5) (by kernel_rfl) (by kernel_rfl) ?_
  refine aops_n hTT (M := []) (n := 4) [pv (15 : Nat) (V.sl (1 : Nat) (List.length c) fun (k : Nat) => [V.i (gi c k)]), pv (16 : Nat) (V.i (↑(List.length c) : Int)), pv (17 : Nat) (V.i slots), pv (18 : Nat) (V.b (decide (slots < (↑(List.length c) : Int))))] (by kernel_rfl) (by kernel_rfl) True.intro ?_
  refine aops_nil ?_
  refine xt_n ?_
  refine hK _ ?_
  clear hK K
  refine w_cond (t := decide (slots < (↑(List.length c) : Int))) (by kernel_rfl) (fun c2 => ?_) (fun c2 => ?_)
  · obtain ⟨e1, e2, e3⟩ := runS_2 h1 (by simpa using c2)
    refine aw_seq_k fun K hK => ?_
    refine w_region (n' := 6) (by kernel_rfl) (by kernel_rfl) ?_
    refine aops_n hTT (M := []) (n := 3) [pv (4 : Nat) (V.i (0 : Int)), pv (5 : Nat) V.nil, pv (6 : Nat) (V.i (14 : Int))] (by kernel_rfl) (by kernel_rfl) True.intro ?_
    refine aops_nil ?_
    refine xt_n ?_
    refine hK _ ?_
    clear hK K
    refine aw_ret ?_
    refine xt_r ?_
    rw [e1, e2, e3]
    refine ret_of_le (le_nil 5 (sz := 1) 0 (fun k => [.i (gi [] k)]) (by kernel_rfl) ?_) ?_
    · rfl
    refine ret_pure (v' := V.tup [V.i (0 : Int), V.sl (1 : Nat) (0 : Nat) fun (k : Nat) => [V.i (gi [] k)], V.i (14 : Int)]) (.inr rfl) (by kernel_rfl) (by kernel_rfl) (by kernel_rfl)
  have h2 : ¬ slots < c.length := by simpa using c2
  obtain ⟨e1, e2, e3⟩ := runS_3 h1 h2
  refine aw_skip ?_
  refine xt_n ?_
  refine hK _ ?_
  clear hK K
  refine aw_seq_k fun K hK => ?_
  refine w_region (n' := 6) (by kernel_rfl) (by kernel_rfl) ?_
  refine aops_n hTT (M := []) (n := 2) [pv (19 : Nat) (V.sl (1 : Nat) (List.length c) fun (k : Nat) => [V.i (gi c k)]), pv (20 : Nat) (V.i slots)] (by kernel_rfl) (by kernel_rfl) True.intro ?_
  refine e_call (first := []) (caps := []) (rrun_ac c slots hco (by omega) (by omega)) (by kernel_rfl) (by kernel_rfl) (by kernel_rfl) (by kernel_rfl) (by kernel_rfl) ?_
  refine aops_n hTT (M := []) (n := 1) [pv (8 : Nat) (V.i (fewN c slots))] (by kernel_rfl) (by kernel_rfl) True.intro ?_
  refine aops_nil ?_
  refine xt_n ?_
  refine hK _ ?_
  clear hK K
  refine aw_seq_k fun K hK => ?_
  refine aw_seq_k fun K hK => ?_
  refine w_region (n' := 7) (by kernel_rfl) (by kernel_rfl) ?_
  refine aops_n hTT (M := []) (n := 2) [pv (22 : Nat) (V.i (fewN c slots)), pv (23 : Nat) (V.b (decide (fewN c slots = (0 : Int))))] (by kernel_rfl) (by kernel_rfl) True.intro ?_
  refine aops_nil ?_
  refine xt_n ?_
  refine hK _ ?_
  clear hK K
  refine w_cond (t := decide (fewN c slots = (0 : Int))) (by kernel_rfl) (fun c3 => ?_) (fun c3 => ?_)
  · have h0 : c.length = 0 := by
      simp at c3
      by_cases h0 : c.length = 0
      · exact h0
      · have := (fewN_spec (slots := slots) hco (by omega) h0).1.pos; omega
    have hn : c = [] := List.length_eq_zero_iff.1 h0
    refine aw_seq_k fun K hK => ?_
    refine w_region (n' := 8) (by kernel_rfl) (by kernel_rfl) ?_
    refine aops_n hTT (M := []) (n := 3) [pv (4 : Nat) (V.i (0 : Int)), pv (5 : Nat) V.nil, pv (6 : Nat) (V.i (0 : Int))] (by kernel_rfl) (by kernel_rfl) True.intro ?_
    refine aops_nil ?_
    refine xt_n ?_
    refine hK _ ?_
    clear hK K
    refine aw_ret ?_
    refine xt_r ?_
    rw [e1, e2, e3, fewN_nil h0, hn]
    refine ret_of_le (le_nil 5 (sz := 1) 0 (fun k => [.i (gi [] k)]) (by kernel_rfl) ?_) ?_
    · rfl
    refine ret_pure (v' := V.tup [V.i (0 : Int), V.sl (1 : Nat) (0 : Nat) fun (k : Nat) => [V.i (gi [] k)], V.i (0 : Int)]) (.inr rfl) (by kernel_rfl) (by kernel_rfl) (by kernel_rfl)
  have h0 : c.length ≠ 0 := fun h => by simp at c3; exact absurd (fewN_nil h) c3
  have hr := fewN_spec (slots := slots) hco (by omega) h0
  refine aw_skip ?_
  refine xt_n ?_
  refine hK _ ?_
  clear hK K
  refine aw_seq_k fun K hK => ?_
  refine w_region (n' := 8) (by kernel_rfl) (by kernel_rfl) ?_
  refine aops_n hTT (M := []) (n := 3) [pv (24 : Nat) (V.i (fewN c slots)), pv (25 : Nat) (V.sl (1 : Nat) (List.length c) fun (k : Nat) => [V.i (gi c k)]), pv (26 : Nat) (V.i (fewN c slots))] (by kernel_rfl) (by kernel_rfl) True.intro ?_
  refine e_call (first := []) (caps := []) (rPlaces_ac c (fewN c slots) hco (by omega) ⟨hr.1.pos, hr.2⟩) (by kernel_rfl) (by kernel_rfl) (by kernel_rfl) (by kernel_rfl) (by kernel_rfl) ?_
  refine aops_n hTT (M := []) (n := 3) [pv (4 : Nat) (V.i (fewN c slots)), pv (5 : Nat) (V.sl (1 : Nat) (List.length (List.map (fun (n : Int) => plc n (fewN c slots)) c)) fun (k : Nat) => [V.i (gi (List.map (fun (n : Int) => plc n (fewN c slots)) c) k)]), pv (6 : Nat) (V.i (0 : Int))] (by kernel_rfl) (by kernel_rfl) True.intro ?_
  refine aops_nil ?_
  refine xt_n ?_
  refine hK _ ?_
  clear hK K
  refine aw_ret ?_
  rw [e1, e2, e3]
  refine ret_pure (v' := V.tup [V.i (fewN c slots), V.sl (1 : Nat) (List.length (List.map (fun (n : Int) => plc n (fewN c slots)) c)) fun (k : Nat) => [V.i (gi (List.map (fun (n : Int) => plc n (fewN c slots)) c) k)], V.i (0 : Int)]) (.inr rfl) (by kernel_rfl) (by kernel_rfl) (by kernel_rfl)
end Go.Proofs.YtfckkkmacjjmhaaDoor
