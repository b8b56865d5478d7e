/-
  Nets: the walks of the document's copy. No condition but the length of a list that is in memory.
-/
import Derived.Test.YtfckkkmacjjmhaaDoorSN5
namespace Go.Proofs.YtfckkkmacjjmhaaDoor
open Go.Ab Go.RowKit Go.Dw Go.Shelf

set_option maxHeartbeats 4000000 in
set_option maxRecDepth 100000 in
theorem net_ac (l : List Pan) (hl : l.length ≤ 4611686018427387904) : AC Tryd.prog 64 [V.pans l] (flatV l) [] := by
  refine ac_intro hTT hMX (fn := Tryd.f64) (N := _) ⟨Tryd.func64, rfl, Tryd.ntmps64, by kernel_rfl⟩ (by simp) fun C hC hF => ?_
  refine aw_seq_k fun K hK => ?_
  refine w_region (n' := 2) (by kernel_rfl) (by kernel_rfl) ?_
  refine aops_n hTT (M := []) (n := 2) [pv (2 : Nat) V.nil, pv (3 : Nat) (V.i (0 : Int))] (by kernel_rfl) (by kernel_rfl) True.intro ?_
  refine aops_nil ?_
  refine xt_n ?_
  refine hK _ ?_
  clear hK K
  refine aw_seq_k fun K hK => ?_
  refine aw_seq_k fun K hK => ?_
  refine w_region (n' := 3) (by kernel_rfl) (by kernel_rfl) ?_
  refine aops_n hTT (M := []) (n := 8) [pv (14 : Nat) (V.sl (5 : Nat) (List.length l) fun (k : Nat) => Pan.c (gpan l k)), pv (15 : Nat) (V.i (↑(List.length l) : Int)), pv (16 : Nat) (V.b (decide ((↑(List.length l) : Int) = (0 : Int)))), pv (17 : Nat) (V.b (decide ((↑(List.length l) : Int) = (0 : Int)))), pc (18 : Nat) ((True ∧ True) ∧ ((decide ((↑(List.length l) : Int) = (0 : Int)) == false) = true → True)) (V.gd (decide ((↑(List.length l) : Int) = (0 : Int)) == false) (V.sl (5 : Nat) (List.length l) fun (k : Nat) => Pan.c (gpan l k))), pc (19 : Nat) ((((decide ((↑(List.length l) : Int) = (0 : Int)) == false) = true → (decide ((↑(List.length l) : Int) = (0 : Int)) == false) = true) ∧ True) ∧ ((decide ((↑(List.length l) : Int) = (0 : Int)) == false) = true → True)) (V.gd (decide ((↑(List.length l) : Int) = (0 : Int)) == false) (V.i (↑(List.length l) : Int))), pc (20 : Nat) ((((decide ((↑(List.length l) : Int) = (0 : Int)) == false) = true → (decide ((↑(List.length l) : Int) = (0 : Int)) == false) = true) ∧ True ∧ True) ∧ ((decide ((↑(List.length l) : Int) = (0 : Int)) == false) = true → True)) (V.gd (decide ((↑(List.length l) : Int) = (0 : Int)) == false) (V.b (decide ((12 : Int) < (↑(List.length l) : Int))))), pc (21 : Nat) (True ∧ (decide ((↑(List.length l) : Int) = (0 : Int)) = false → (decide ((↑(List.length l) : Int) = (0 : Int)) == false) = true)) (V.b (decide ((↑(List.length l) : Int) = (0 : Int)) || decide ((12 : Int) < (↑(List.length l) : Int))))] (by kernel_rfl) (by kernel_rfl) ⟨⟨⟨True.intro, True.intro⟩, (fun _ => True.intro)⟩, ⟨⟨(by (exact fun h => h)), True.intro⟩, (fun _ => True.intro)⟩, ⟨⟨(by (exact fun h => h)), ⟨True.intro, True.intro⟩⟩, (fun _ => True.intro)⟩, ⟨True.intro, (by (intro h; rw [h]; rfl))⟩, True.intro⟩ ?_
  refine aops_nil ?_
  refine xt_n ?_
  refine hK _ ?_
  clear hK K
  refine w_cond (t := decide ((↑(List.length l) : Int) = (0 : Int)) || decide ((12 : Int) < (↑(List.length l) : Int))) (by kernel_rfl) (fun h0 => ?_) (fun h0 => ?_)
  · have h0' : l.length = 0 ∨ 12 < l.length := by
      simp at h0
      rcases h0 with h | h
      · exact .inl (by rw [h]; rfl)
      · exact .inr (by omega)
    refine aw_seq_k fun K hK => ?_
    refine w_region (n' := 4) (by kernel_rfl) (by kernel_rfl) ?_
    refine aops_n hTT (M := []) (n := 2) [pv (2 : Nat) V.nil, pv (3 : Nat) (V.i (6 : Int))] (by kernel_rfl) (by kernel_rfl) True.intro ?_
    refine aops_nil ?_
    refine xt_n ?_
    refine hK _ ?_
    clear hK K
    refine aw_ret ?_
    refine xt_r ?_
    rw [flatV, if_neg (by rw [netE_many h0']; omega), netE_many h0']
    refine ret_pure (v' := V.tup [V.nil, V.i (6 : Int)]) (.inr rfl) (by kernel_rfl) (by kernel_rfl) (by kernel_rfl)
  simp at h0
  have hne : ¬ (l.length = 0 ∨ 12 < l.length) := by
    intro h
    rcases h with h | h
    · exact h0.1 (by cases l; rfl; simp at h)
    · omega
  refine aw_skip ?_
  refine xt_n ?_
  refine hK _ ?_
  clear hK K
  refine aw_seq_k fun K hK => ?_
  refine w_region (n' := 4) (by kernel_rfl) (by kernel_rfl) ?_
  refine aops_n hTT (M := []) (n := 1) [pv (4 : Nat) V.nil] (by kernel_rfl) (by kernel_rfl) True.intro ?_
  refine aops_nil ?_
  refine xt_n ?_
  refine hK _ ?_
  clear hK K
  refine aw_seq_k fun K hK => ?_
  refine aw_seq_k fun K hK => ?_
  refine w_region (n' := 5) (by kernel_rfl) (by kernel_rfl) ?_
  refine aops_n hTT (M := []) (n := 1) [pv (5 : Nat) (V.i (0 : Int))] (by kernel_rfl) (by kernel_rfl) True.intro ?_
  refine aops_nil ?_
  refine xt_n ?_
  refine hK _ ?_
  clear hK K
  refine aw_block ?_
  refine w_le (le_open 4 52 5 (fun k => (rcF l k).c) (by kernel_rfl) rfl) ?_
  refine w_loop (ι := Nat) (fun k => [(0, V.pans l), (4, .own 4), (5, .i k)]) (fun k => [(4, .row 52 5 k fun j => (rcF l j).c)]) (fun k => k ≤ l.length ∧ fstE (panE l) k = 0) (fun k => l.length - k) 0 ⟨Nat.zero_le _, rfl⟩ ?_ ?_
  · refine le_ren (sl := [(4, Ob.row (52 : Nat) (5 : Nat) (0 : Nat) fun (j : Nat) => Rc.c (rcF l j))]) [(4, 500004)] (.cons (by kernel_rfl) (.cons (by kernel_rfl) (.cons (by kernel_rfl) .nil))) (.cons ⟨Ob.row (52 : Nat) (5 : Nat) (0 : Nat) fun (k : Nat) => Rc.c (rcF l k), (by kernel_rfl), .row (by kernel_rfl) (fun _ _ => rfl)⟩ .nil) (by kernel_rfl) (by kernel_rfl)
  rintro k ⟨hk, hE⟩
  refine aw_seq_k fun K hK => ?_
  refine aw_seq_k fun K hK => ?_
  refine w_region (n' := 2) (by kernel_rfl) (by kernel_rfl) ?_
  refine aops_n hTT (M := []) (n := 4) [pv (22 : Nat) (V.i (↑k : Int)), pv (23 : Nat) (V.sl (5 : Nat) (List.length l) fun (k : Nat) => Pan.c (gpan l k)), pv (24 : Nat) (V.i (↑(List.length l) : Int)), pv (25 : Nat) (V.b (decide ((↑k : Int) < (↑(List.length l) : Int))))] (by kernel_rfl) (by kernel_rfl) True.intro ?_
  refine aops_nil ?_
  refine xt_n ?_
  refine hK _ ?_
  clear hK K
  refine w_cond (t := decide ((↑k : Int) < (↑(List.length l) : Int))) (by kernel_rfl) (fun c1 => ?_) (fun c1 => ?_)
  · simp at c1
    refine aw_skip ?_
    refine xt_n ?_
    refine hK _ ?_
    clear hK K
    refine aw_seq_k fun K hK => ?_
    refine aw_block ?_
    refine aw_seq_k fun K hK => ?_
    refine w_region (n' := 3) (by kernel_rfl) (by kernel_rfl) ?_
    refine aops_n hTT (M := []) (n := 6) [pv (28 : Nat) (V.sl (5 : Nat) (List.length l) fun (k : Nat) => Pan.c (gpan l k)), pv (29 : Nat) (V.i (↑k : Int)), pc (30 : Nat) ((0 : Int) ≤ (↑k : Int) ∧ (↑k : Int) < (↑(List.length l) : Int)) (V.ptr [V.i (Pan.on (gpan l k)), V.i (Pan.edge (gpan l k)), V.i (Pan.off (gpan l k)), V.i (Pan.wide (gpan l k)), V.i (Pan.high (gpan l k))]), pv (31 : Nat) (V.agg [V.i (Pan.on (gpan l k)), V.i (Pan.edge (gpan l k)), V.i (Pan.off (gpan l k)), V.i (Pan.wide (gpan l k)), V.i (Pan.high (gpan l k))]), pn (6 : Nat) (V.ref (200006 : Nat) (0 : Nat)) (200006 : Nat) (Ob.box (54 : Nat) [V.i (0 : Int), V.i (0 : Int), V.i (0 : Int), V.i (0 : Int), V.i (0 : Int)]), pw ((0 : Nat) + (5 : Nat) ≤ (5 : Nat)) (200006 : Nat) (Ob.box (54 : Nat) [V.i (Pan.on (gpan l k)), V.i (Pan.edge (gpan l k)), V.i (Pan.off (gpan l k)), V.i (Pan.wide (gpan l k)), V.i (Pan.high (gpan l k))])] (by kernel_rfl) (by kernel_rfl) ⟨(by omega), (by omega), True.intro⟩ ?_
    refine aops_nil ?_
    refine xt_n ?_
    refine hK _ ?_
    clear hK K
    refine aw_seq_k fun K hK => ?_
    refine aw_seq_k fun K hK => ?_
    refine w_region (n' := 4) (by kernel_rfl) (by kernel_rfl) ?_
    refine aops_n hTT (M := []) (n := 2) [pv (32 : Nat) (V.ref (200006 : Nat) (3 : Nat)), pc (33 : Nat) ((3 : Nat) ≤ (5 : Nat)) (V.i (Pan.wide (gpan l k)))] (by kernel_rfl) (by kernel_rfl) ⟨(by omega), True.intro⟩ ?_
    refine e_call (first := []) (caps := []) (rwithin_ac (gpan l k).wide 1 65536) (by kernel_rfl) (by kernel_rfl) (by kernel_rfl) (by kernel_rfl) (by kernel_rfl) ?_
    refine aops_n hTT (M := []) (n := 4) [pv (35 : Nat) (V.b !(decide ((1 : Int) ≤ Pan.wide (gpan l k)) && decide (Pan.wide (gpan l k) ≤ (65536 : Int)))), pv (36 : Nat) (V.b !(decide ((1 : Int) ≤ Pan.wide (gpan l k)) && decide (Pan.wide (gpan l k) ≤ (65536 : Int)))), pc (37 : Nat) ((True ∧ True) ∧ (((!(decide ((1 : Int) ≤ Pan.wide (gpan l k)) && decide (Pan.wide (gpan l k) ≤ (65536 : Int)))) == false) = true → True)) (V.gd ((!(decide ((1 : Int) ≤ Pan.wide (gpan l k)) && decide (Pan.wide (gpan l k) ≤ (65536 : Int)))) == false) (V.ref (200006 : Nat) (4 : Nat))), pc (38 : Nat) (((((!(decide ((1 : Int) ≤ Pan.wide (gpan l k)) && decide (Pan.wide (gpan l k) ≤ (65536 : Int)))) == false) = true → ((!(decide ((1 : Int) ≤ Pan.wide (gpan l k)) && decide (Pan.wide (gpan l k) ≤ (65536 : Int)))) == false) = true) ∧ True) ∧ (((!(decide ((1 : Int) ≤ Pan.wide (gpan l k)) && decide (Pan.wide (gpan l k) ≤ (65536 : Int)))) == false) = true → (4 : Nat) ≤ (5 : Nat))) (V.gd ((!(decide ((1 : Int) ≤ Pan.wide (gpan l k)) && decide (Pan.wide (gpan l k) ≤ (65536 : Int)))) == false) (V.i (Pan.high (gpan l k))))] (by kernel_rfl) (by kernel_rfl) ⟨⟨⟨True.intro, True.intro⟩, (fun _ => True.intro)⟩, ⟨⟨(by (exact fun h => h)), True.intro⟩, (by (intro _; simp; done))⟩, True.intro⟩ ?_
    refine e_callG 1 (g := (!(decide ((1 : Int) ≤ Pan.wide (gpan l k)) && decide (Pan.wide (gpan l k) ≤ (65536 : Int)))) == false) (first := []) (caps := []) (by kernel_rfl) (fun h => rwithin_ac (gpan l k).high 1 65536) (by kernel_rfl) (by kernel_rfl) (by kernel_rfl) (by kernel_rfl) (by kernel_rfl) (by kernel_rfl) ?_
    refine aops_n hTT (M := []) (n := 2) [pc (40 : Nat) (((((!(decide ((1 : Int) ≤ Pan.wide (gpan l k)) && decide (Pan.wide (gpan l k) ≤ (65536 : Int)))) == false) = true → ((!(decide ((1 : Int) ≤ Pan.wide (gpan l k)) && decide (Pan.wide (gpan l k) ≤ (65536 : Int)))) == false) = true) ∧ True) ∧ (((!(decide ((1 : Int) ≤ Pan.wide (gpan l k)) && decide (Pan.wide (gpan l k) ≤ (65536 : Int)))) == false) = true → True)) (V.gd ((!(decide ((1 : Int) ≤ Pan.wide (gpan l k)) && decide (Pan.wide (gpan l k) ≤ (65536 : Int)))) == false) (V.b !(decide ((1 : Int) ≤ Pan.high (gpan l k)) && decide (Pan.high (gpan l k) ≤ (65536 : Int))))), pc (41 : Nat) (True ∧ ((!(decide ((1 : Int) ≤ Pan.wide (gpan l k)) && decide (Pan.wide (gpan l k) ≤ (65536 : Int)))) = false → ((!(decide ((1 : Int) ≤ Pan.wide (gpan l k)) && decide (Pan.wide (gpan l k) ≤ (65536 : Int)))) == false) = true)) (V.b (!(decide ((1 : Int) ≤ Pan.wide (gpan l k)) && decide (Pan.wide (gpan l k) ≤ (65536 : Int))) || !(decide ((1 : Int) ≤ Pan.high (gpan l k)) && decide (Pan.high (gpan l k) ≤ (65536 : Int)))))] (by kernel_rfl) (by kernel_rfl) ⟨⟨⟨(by (exact fun h => h)), True.intro⟩, (fun _ => True.intro)⟩, ⟨True.intro, (by (intro h; rw [h]; rfl))⟩, True.intro⟩ ?_
    refine aops_nil ?_
    refine xt_n ?_
    refine hK _ ?_
    clear hK K
    refine w_cond (t := !(decide ((1 : Int) ≤ Pan.wide (gpan l k)) && decide (Pan.wide (gpan l k) ≤ (65536 : Int))) || !(decide ((1 : Int) ≤ Pan.high (gpan l k)) && decide (Pan.high (gpan l k) ≤ (65536 : Int)))) (by kernel_rfl) (fun h1 => ?_) (fun h1 => ?_)
    · have hs : ¬ (gpan l k).szOk := by unfold Pan.szOk; simp at h1; omega
      have hE2 := netE_pan hne c1 hE (by rw [panE_sz hs]; omega)
      rw [panE_sz hs] at hE2
      refine aw_seq_k fun K hK => ?_
      refine w_region (n' := 5) (by kernel_rfl) (by kernel_rfl) ?_
      refine aops_n hTT (M := []) (n := 2) [pv (2 : Nat) V.nil, pv (3 : Nat) (V.i (2 : Int))] (by kernel_rfl) (by kernel_rfl) True.intro ?_
      refine aops_nil ?_
      refine xt_n ?_
      refine hK _ ?_
      clear hK K
      refine aw_ret ?_
      refine xt_r ?_
      refine xb_r ?_
      refine xt_r ?_
      refine xt_r ?_
      refine xb_r ?_
      refine xt_r ?_
      rw [flatV, if_neg (by omega), hE2]
      refine ret_pure (v' := V.tup [V.nil, V.i (2 : Int)]) (.inr rfl) (by kernel_rfl) (by kernel_rfl) (by kernel_rfl)
    have hs : (gpan l k).szOk := by unfold Pan.szOk; simp at h1; omega
    have hsz := hs
    obtain ⟨⟨z1, z2⟩, z3, z4⟩ := hsz
    clear h1
    refine aw_skip ?_
    refine xt_n ?_
    refine hK _ ?_
    clear hK K
    refine aw_seq_k fun K hK => ?_
    refine aw_seq_k fun K hK => ?_
    refine w_region (n' := 5) (by kernel_rfl) (by kernel_rfl) ?_
    refine aops_n hTT (M := []) (n := 2) [pv (42 : Nat) (V.i (↑k : Int)), pv (43 : Nat) (V.b (decide ((↑k : Int) = (0 : Int))))] (by kernel_rfl) (by kernel_rfl) True.intro ?_
    refine aops_nil ?_
    refine xt_n ?_
    refine hK _ ?_
    clear hK K
    refine w_cond (t := decide ((↑k : Int) = (0 : Int))) (by kernel_rfl) (fun c2 => ?_) (fun c2 => ?_)
    · simp at c2
      subst c2
      refine aw_seq_k fun K hK => ?_
      refine aw_seq_k fun K hK => ?_
      refine w_region (n' := 6) (by kernel_rfl) (by kernel_rfl) ?_
      refine aops_n hTT (M := []) (n := 13) [pv (44 : Nat) (V.ref (200006 : Nat) (0 : Nat)), pc (45 : Nat) ((0 : Nat) ≤ (5 : Nat)) (V.i (Pan.on (gpan l (0 : Nat)))), pv (46 : Nat) (V.b !decide (Pan.on (gpan l (0 : Nat)) = (-1 : Int))), pv (47 : Nat) (V.b !decide (Pan.on (gpan l (0 : Nat)) = (-1 : Int))), pc (48 : Nat) ((True ∧ True) ∧ (((!decide (Pan.on (gpan l (0 : Nat)) = (-1 : Int))) == false) = true → True)) (V.gd ((!decide (Pan.on (gpan l (0 : Nat)) = (-1 : Int))) == false) (V.ref (200006 : Nat) (1 : Nat))), pc (49 : Nat) (((((!decide (Pan.on (gpan l (0 : Nat)) = (-1 : Int))) == false) = true → ((!decide (Pan.on (gpan l (0 : Nat)) = (-1 : Int))) == false) = true) ∧ True) ∧ (((!decide (Pan.on (gpan l (0 : Nat)) = (-1 : Int))) == false) = true → (1 : Nat) ≤ (5 : Nat))) (V.gd ((!decide (Pan.on (gpan l (0 : Nat)) = (-1 : Int))) == false) (V.i (Pan.edge (gpan l (0 : Nat))))), pc (50 : Nat) (((((!decide (Pan.on (gpan l (0 : Nat)) = (-1 : Int))) == false) = true → ((!decide (Pan.on (gpan l (0 : Nat)) = (-1 : Int))) == false) = true) ∧ True ∧ True) ∧ (((!decide (Pan.on (gpan l (0 : Nat)) = (-1 : Int))) == false) = true → True)) (V.gd ((!decide (Pan.on (gpan l (0 : Nat)) = (-1 : Int))) == false) (V.b !decide (Pan.edge (gpan l (0 : Nat)) = (0 : Int)))), pc (51 : Nat) (True ∧ ((!decide (Pan.on (gpan l (0 : Nat)) = (-1 : Int))) = false → ((!decide (Pan.on (gpan l (0 : Nat)) = (-1 : Int))) == false) = true)) (V.b (!decide (Pan.on (gpan l (0 : Nat)) = (-1 : Int)) || !decide (Pan.edge (gpan l (0 : Nat)) = (0 : Int)))), pv (52 : Nat) (V.b (!decide (Pan.on (gpan l (0 : Nat)) = (-1 : Int)) || !decide (Pan.edge (gpan l (0 : Nat)) = (0 : Int)))), pc (53 : Nat) ((True ∧ True) ∧ (((!decide (Pan.on (gpan l (0 : Nat)) = (-1 : Int)) || !decide (Pan.edge (gpan l (0 : Nat)) = (0 : Int))) == false) = true → True)) (V.gd ((!decide (Pan.on (gpan l (0 : Nat)) = (-1 : Int)) || !decide (Pan.edge (gpan l (0 : Nat)) = (0 : Int))) == false) (V.ref (200006 : Nat) (2 : Nat))), pc (54 : Nat) (((((!decide (Pan.on (gpan l (0 : Nat)) = (-1 : Int)) || !decide (Pan.edge (gpan l (0 : Nat)) = (0 : Int))) == false) = true → ((!decide (Pan.on (gpan l (0 : Nat)) = (-1 : Int)) || !decide (Pan.edge (gpan l (0 : Nat)) = (0 : Int))) == false) = true) ∧ True) ∧ (((!decide (Pan.on (gpan l (0 : Nat)) = (-1 : Int)) || !decide (Pan.edge (gpan l (0 : Nat)) = (0 : Int))) == false) = true → (2 : Nat) ≤ (5 : Nat))) (V.gd ((!decide (Pan.on (gpan l (0 : Nat)) = (-1 : Int)) || !decide (Pan.edge (gpan l (0 : Nat)) = (0 : Int))) == false) (V.i (Pan.off (gpan l (0 : Nat))))), pc (55 : Nat) (((((!decide (Pan.on (gpan l (0 : Nat)) = (-1 : Int)) || !decide (Pan.edge (gpan l (0 : Nat)) = (0 : Int))) == false) = true → ((!decide (Pan.on (gpan l (0 : Nat)) = (-1 : Int)) || !decide (Pan.edge (gpan l (0 : Nat)) = (0 : Int))) == false) = true) ∧ True ∧ True) ∧ (((!decide (Pan.on (gpan l (0 : Nat)) = (-1 : Int)) || !decide (Pan.edge (gpan l (0 : Nat)) = (0 : Int))) == false) = true → True)) (V.gd ((!decide (Pan.on (gpan l (0 : Nat)) = (-1 : Int)) || !decide (Pan.edge (gpan l (0 : Nat)) = (0 : Int))) == false) (V.b !decide (Pan.off (gpan l (0 : Nat)) = (0 : Int)))), pc (56 : Nat) (True ∧ ((!decide (Pan.on (gpan l (0 : Nat)) = (-1 : Int)) || !decide (Pan.edge (gpan l (0 : Nat)) = (0 : Int))) = false → ((!decide (Pan.on (gpan l (0 : Nat)) = (-1 : Int)) || !decide (Pan.edge (gpan l (0 : Nat)) = (0 : Int))) == false) = true)) (V.b (!decide (Pan.on (gpan l (0 : Nat)) = (-1 : Int)) || !decide (Pan.edge (gpan l (0 : Nat)) = (0 : Int)) || !decide (Pan.off (gpan l (0 : Nat)) = (0 : Int))))] (by kernel_rfl) (by kernel_rfl) ⟨(by omega), ⟨⟨True.intro, True.intro⟩, (fun _ => True.intro)⟩, ⟨⟨(by (exact fun h => h)), True.intro⟩, (by (intro _; simp; done))⟩, ⟨⟨(by (exact fun h => h)), ⟨True.intro, True.intro⟩⟩, (fun _ => True.intro)⟩, ⟨True.intro, (by (intro h; rw [h]; rfl))⟩, ⟨⟨True.intro, True.intro⟩, (fun _ => True.intro)⟩, ⟨⟨(by (exact fun h => h)), True.intro⟩, (by (intro _; simp; done))⟩, ⟨⟨(by (exact fun h => h)), ⟨True.intro, True.intro⟩⟩, (fun _ => True.intro)⟩, ⟨True.intro, (by (intro h; rw [h]; rfl))⟩, True.intro⟩ ?_
      refine aops_nil ?_
      refine xt_n ?_
      refine hK _ ?_
      clear hK K
      refine w_cond (t := !decide (Pan.on (gpan l (0 : Nat)) = (-1 : Int)) || !decide (Pan.edge (gpan l (0 : Nat)) = (0 : Int)) || !decide (Pan.off (gpan l (0 : Nat)) = (0 : Int))) (by kernel_rfl) (fun h1 => ?_) (fun h1 => ?_)
      · have ho : ¬ (gpan l 0).ok0 := by unfold Pan.ok0; simp at h1; omega
        have hE2 := netE_pan hne c1 hE (by rw [panE_0 hs ho]; omega)
        rw [panE_0 hs ho] at hE2
        refine aw_seq_k fun K hK => ?_
        refine w_region (n' := 7) (by kernel_rfl) (by kernel_rfl) ?_
        refine aops_n hTT (M := []) (n := 2) [pv (2 : Nat) V.nil, pv (3 : Nat) (V.i (2 : Int))] (by kernel_rfl) (by kernel_rfl) True.intro ?_
        refine aops_nil ?_
        refine xt_n ?_
        refine hK _ ?_
        clear hK K
        refine aw_ret ?_
        refine xt_r ?_
        refine xt_r ?_
        refine xb_r ?_
        refine xt_r ?_
        refine xt_r ?_
        refine xb_r ?_
        refine xt_r ?_
        rw [flatV, if_neg (by omega), hE2]
        refine ret_pure (v' := V.tup [V.nil, V.i (2 : Int)]) (.inr rfl) (by kernel_rfl) (by kernel_rfl) (by kernel_rfl)
      have ho : (gpan l 0).ok0 := by unfold Pan.ok0; simp at h1; omega
      clear h1
      refine aw_skip ?_
      refine xt_n ?_
      refine hK _ ?_
      clear hK K
      refine aw_seq_k fun K hK => ?_
      refine w_region (n' := 7) (by kernel_rfl) (by kernel_rfl) ?_
      refine aops_n hTT (M := []) (n := 9) [pv (57 : Nat) (V.own (4 : Nat)), pv (58 : Nat) (V.ref (200006 : Nat) (3 : Nat)), pc (59 : Nat) ((3 : Nat) ≤ (5 : Nat)) (V.i (Pan.wide (gpan l (0 : Nat)))), pv (60 : Nat) (V.ref (200006 : Nat) (4 : Nat)), pc (61 : Nat) ((4 : Nat) ≤ (5 : Nat)) (V.i (Pan.high (gpan l (0 : Nat)))), pv (62 : Nat) (V.agg [V.i (0 : Int), V.i (0 : Int), V.i (Pan.wide (gpan l (0 : Nat))), V.i (Pan.high (gpan l (0 : Nat))), V.b false]), pv (63 : Nat) (V.sl (5 : Nat) (1 : Nat) fun (i : Nat) => List.take (5 : Nat) (List.drop (i * (5 : Nat)) [V.i (0 : Int), V.i (0 : Int), V.i (Pan.wide (gpan l (0 : Nat))), V.i (Pan.high (gpan l (0 : Nat))), V.b false])), PR.mk (some (64 : Nat)) (some ((0 : Nat) + (1 : Nat) ≤ (1099511627776 : Nat))) (V.own (600064 : Nat)) [((4 : Nat), none), ((600064 : Nat), some (Ob.row (52 : Nat) (5 : Nat) (1 : Nat) (appRow (0 : Nat) (fun (j : Nat) => Rc.c (rcF l j)) fun (i : Nat) => List.take (5 : Nat) (List.drop (i * (5 : Nat)) [V.i (0 : Int), V.i (0 : Int), V.i (Pan.wide (gpan l (0 : Nat))), V.i (Pan.high (gpan l (0 : Nat))), V.b false]))))] false, pv (4 : Nat) (V.own (600064 : Nat))] (by kernel_rfl) (by kernel_rfl) ⟨(by omega), (by omega), (by omega), True.intro⟩ ?_
      refine aops_nil ?_
      refine xt_n ?_
      refine hK _ ?_
      clear hK K
      refine aw_exit ?_
      refine xt_x ?_
      refine xb_same ?_
      refine xt_n ?_
      clear hK K
      refine hK _ ?_
      clear hK K
      refine w_region (n' := 8) (by kernel_rfl) (by kernel_rfl) ?_
      refine aops_n hTT (M := []) (n := 3) [pv (26 : Nat) (V.i (↑(0 : Nat) : Int)), pc (27 : Nat) ((-9223372036854775808 : Int) ≤ (↑(0 : Nat) : Int) + (1 : Int) ∧ (↑(0 : Nat) : Int) + (1 : Int) ≤ (9223372036854775807 : Int)) (V.i ((↑(0 : Nat) : Int) + (1 : Int))), pv (5 : Nat) (V.i ((↑(0 : Nat) : Int) + (1 : Int)))] (by kernel_rfl) (by kernel_rfl) ⟨(by omega), True.intro⟩ ?_
      refine aops_nil ?_
      refine xt_n ?_
      refine ⟨1, ⟨by omega, by rw [fstE, if_pos hE]; exact panE_0ok hs ho⟩, ?_, by omega⟩
      refine le_ren (tl := [(0, V.sl (5 : Nat) (List.length l) fun (k : Nat) => Pan.c (gpan l k)), (4, V.own (4 : Nat)), (5, V.i (↑(1 : Nat) : Int))]) (sl := [(4, Ob.row (52 : Nat) (5 : Nat) (1 : Nat) fun (j : Nat) => Rc.c (rcF l j))]) [(4, 600064)] (.cons (by kernel_rfl) (.cons (by kernel_rfl) (.cons (by kernel_rfl) .nil))) (.cons ⟨Ob.row (52 : Nat) (5 : Nat) (1 : Nat) (appRow (0 : Nat) (fun (j : Nat) => Rc.c (rcF l j)) fun (i : Nat) => List.take (5 : Nat) (List.drop (i * (5 : Nat)) [V.i (0 : Int), V.i (0 : Int), V.i (Pan.wide (gpan l (0 : Nat))), V.i (Pan.high (gpan l (0 : Nat))), V.b false])), (by kernel_rfl), .row (by kernel_rfl) ?_⟩ .nil) (by kernel_rfl) (by kernel_rfl)
      exact appRow_ok (fun _ _ => rfl) (by rw [rcF_zero]; rfl)
    simp at c2
    refine aw_skip ?_
    refine xt_n ?_
    refine hK _ ?_
    clear hK K
    refine aw_seq_k fun K hK => ?_
    refine aw_seq_k fun K hK => ?_
    refine w_region (n' := 6) (by kernel_rfl) (by kernel_rfl) ?_
    refine aops_n hTT (M := []) (n := 22) [pv (65 : Nat) (V.ref (200006 : Nat) (0 : Nat)), pc (66 : Nat) ((0 : Nat) ≤ (5 : Nat)) (V.i (Pan.on (gpan l k))), pv (67 : Nat) (V.b (decide (Pan.on (gpan l k) < (0 : Int)))), pv (68 : Nat) (V.b (decide (Pan.on (gpan l k) < (0 : Int)))), pc (69 : Nat) ((True ∧ True) ∧ ((decide (Pan.on (gpan l k) < (0 : Int)) == false) = true → True)) (V.gd (decide (Pan.on (gpan l k) < (0 : Int)) == false) (V.ref (200006 : Nat) (0 : Nat))), pc (70 : Nat) ((((decide (Pan.on (gpan l k) < (0 : Int)) == false) = true → (decide (Pan.on (gpan l k) < (0 : Int)) == false) = true) ∧ True) ∧ ((decide (Pan.on (gpan l k) < (0 : Int)) == false) = true → (0 : Nat) ≤ (5 : Nat))) (V.gd (decide (Pan.on (gpan l k) < (0 : Int)) == false) (V.i (Pan.on (gpan l k)))), pc (71 : Nat) ((True ∧ True) ∧ ((decide (Pan.on (gpan l k) < (0 : Int)) == false) = true → True)) (V.gd (decide (Pan.on (gpan l k) < (0 : Int)) == false) (V.i (↑k : Int))), pc (72 : Nat) ((((decide (Pan.on (gpan l k) < (0 : Int)) == false) = true → (decide (Pan.on (gpan l k) < (0 : Int)) == false) = true) ∧ ((decide (Pan.on (gpan l k) < (0 : Int)) == false) = true → (decide (Pan.on (gpan l k) < (0 : Int)) == false) = true) ∧ True) ∧ ((decide (Pan.on (gpan l k) < (0 : Int)) == false) = true → True)) (V.gd (decide (Pan.on (gpan l k) < (0 : Int)) == false) (V.b (decide ((↑k : Int) ≤ Pan.on (gpan l k))))), pc (73 : Nat) (True ∧ (decide (Pan.on (gpan l k) < (0 : Int)) = false → (decide (Pan.on (gpan l k) < (0 : Int)) == false) = true)) (V.b (decide (Pan.on (gpan l k) < (0 : Int)) || decide ((↑k : Int) ≤ Pan.on (gpan l k)))), pv (74 : Nat) (V.b (decide (Pan.on (gpan l k) < (0 : Int)) || decide ((↑k : Int) ≤ Pan.on (gpan l k)))), pc (75 : Nat) ((True ∧ True) ∧ (((decide (Pan.on (gpan l k) < (0 : Int)) || decide ((↑k : Int) ≤ Pan.on (gpan l k))) == false) = true → True)) (V.gd ((decide (Pan.on (gpan l k) < (0 : Int)) || decide ((↑k : Int) ≤ Pan.on (gpan l k))) == false) (V.ref (200006 : Nat) (1 : Nat))), pc (76 : Nat) (((((decide (Pan.on (gpan l k) < (0 : Int)) || decide ((↑k : Int) ≤ Pan.on (gpan l k))) == false) = true → ((decide (Pan.on (gpan l k) < (0 : Int)) || decide ((↑k : Int) ≤ Pan.on (gpan l k))) == false) = true) ∧ True) ∧ (((decide (Pan.on (gpan l k) < (0 : Int)) || decide ((↑k : Int) ≤ Pan.on (gpan l k))) == false) = true → (1 : Nat) ≤ (5 : Nat))) (V.gd ((decide (Pan.on (gpan l k) < (0 : Int)) || decide ((↑k : Int) ≤ Pan.on (gpan l k))) == false) (V.i (Pan.edge (gpan l k)))), pc (77 : Nat) (((((decide (Pan.on (gpan l k) < (0 : Int)) || decide ((↑k : Int) ≤ Pan.on (gpan l k))) == false) = true → ((decide (Pan.on (gpan l k) < (0 : Int)) || decide ((↑k : Int) ≤ Pan.on (gpan l k))) == false) = true) ∧ True ∧ True) ∧ (((decide (Pan.on (gpan l k) < (0 : Int)) || decide ((↑k : Int) ≤ Pan.on (gpan l k))) == false) = true → True)) (V.gd ((decide (Pan.on (gpan l k) < (0 : Int)) || decide ((↑k : Int) ≤ Pan.on (gpan l k))) == false) (V.b (decide (Pan.edge (gpan l k) < (0 : Int))))), pc (78 : Nat) (True ∧ ((decide (Pan.on (gpan l k) < (0 : Int)) || decide ((↑k : Int) ≤ Pan.on (gpan l k))) = false → ((decide (Pan.on (gpan l k) < (0 : Int)) || decide ((↑k : Int) ≤ Pan.on (gpan l k))) == false) = true)) (V.b (decide (Pan.on (gpan l k) < (0 : Int)) || decide ((↑k : Int) ≤ Pan.on (gpan l k)) || decide (Pan.edge (gpan l k) < (0 : Int)))), pv (79 : Nat) (V.b (decide (Pan.on (gpan l k) < (0 : Int)) || decide ((↑k : Int) ≤ Pan.on (gpan l k)) || decide (Pan.edge (gpan l k) < (0 : Int)))), pc (80 : Nat) ((True ∧ True) ∧ (((decide (Pan.on (gpan l k) < (0 : Int)) || decide ((↑k : Int) ≤ Pan.on (gpan l k)) || decide (Pan.edge (gpan l k) < (0 : Int))) == false) = true → True)) (V.gd ((decide (Pan.on (gpan l k) < (0 : Int)) || decide ((↑k : Int) ≤ Pan.on (gpan l k)) || decide (Pan.edge (gpan l k) < (0 : Int))) == false) (V.ref (200006 : Nat) (1 : Nat))), pc (81 : Nat) (((((decide (Pan.on (gpan l k) < (0 : Int)) || decide ((↑k : Int) ≤ Pan.on (gpan l k)) || decide (Pan.edge (gpan l k) < (0 : Int))) == false) = true → ((decide (Pan.on (gpan l k) < (0 : Int)) || decide ((↑k : Int) ≤ Pan.on (gpan l k)) || decide (Pan.edge (gpan l k) < (0 : Int))) == false) = true) ∧ True) ∧ (((decide (Pan.on (gpan l k) < (0 : Int)) || decide ((↑k : Int) ≤ Pan.on (gpan l k)) || decide (Pan.edge (gpan l k) < (0 : Int))) == false) = true → (1 : Nat) ≤ (5 : Nat))) (V.gd ((decide (Pan.on (gpan l k) < (0 : Int)) || decide ((↑k : Int) ≤ Pan.on (gpan l k)) || decide (Pan.edge (gpan l k) < (0 : Int))) == false) (V.i (Pan.edge (gpan l k)))), pc (82 : Nat) (((((decide (Pan.on (gpan l k) < (0 : Int)) || decide ((↑k : Int) ≤ Pan.on (gpan l k)) || decide (Pan.edge (gpan l k) < (0 : Int))) == false) = true → ((decide (Pan.on (gpan l k) < (0 : Int)) || decide ((↑k : Int) ≤ Pan.on (gpan l k)) || decide (Pan.edge (gpan l k) < (0 : Int))) == false) = true) ∧ True ∧ True) ∧ (((decide (Pan.on (gpan l k) < (0 : Int)) || decide ((↑k : Int) ≤ Pan.on (gpan l k)) || decide (Pan.edge (gpan l k) < (0 : Int))) == false) = true → True)) (V.gd ((decide (Pan.on (gpan l k) < (0 : Int)) || decide ((↑k : Int) ≤ Pan.on (gpan l k)) || decide (Pan.edge (gpan l k) < (0 : Int))) == false) (V.b (decide ((3 : Int) < Pan.edge (gpan l k))))), pc (83 : Nat) (True ∧ ((decide (Pan.on (gpan l k) < (0 : Int)) || decide ((↑k : Int) ≤ Pan.on (gpan l k)) || decide (Pan.edge (gpan l k) < (0 : Int))) = false → ((decide (Pan.on (gpan l k) < (0 : Int)) || decide ((↑k : Int) ≤ Pan.on (gpan l k)) || decide (Pan.edge (gpan l k) < (0 : Int))) == false) = true)) (V.b (decide (Pan.on (gpan l k) < (0 : Int)) || decide ((↑k : Int) ≤ Pan.on (gpan l k)) || decide (Pan.edge (gpan l k) < (0 : Int)) || decide ((3 : Int) < Pan.edge (gpan l k)))), pv (84 : Nat) (V.b (decide (Pan.on (gpan l k) < (0 : Int)) || decide ((↑k : Int) ≤ Pan.on (gpan l k)) || decide (Pan.edge (gpan l k) < (0 : Int)) || decide ((3 : Int) < Pan.edge (gpan l k)))), pc (85 : Nat) ((True ∧ True) ∧ (((decide (Pan.on (gpan l k) < (0 : Int)) || decide ((↑k : Int) ≤ Pan.on (gpan l k)) || decide (Pan.edge (gpan l k) < (0 : Int)) || decide ((3 : Int) < Pan.edge (gpan l k))) == false) = true → True)) (V.gd ((decide (Pan.on (gpan l k) < (0 : Int)) || decide ((↑k : Int) ≤ Pan.on (gpan l k)) || decide (Pan.edge (gpan l k) < (0 : Int)) || decide ((3 : Int) < Pan.edge (gpan l k))) == false) (V.ref (200006 : Nat) (2 : Nat))), pc (86 : Nat) (((((decide (Pan.on (gpan l k) < (0 : Int)) || decide ((↑k : Int) ≤ Pan.on (gpan l k)) || decide (Pan.edge (gpan l k) < (0 : Int)) || decide ((3 : Int) < Pan.edge (gpan l k))) == false) = true → ((decide (Pan.on (gpan l k) < (0 : Int)) || decide ((↑k : Int) ≤ Pan.on (gpan l k)) || decide (Pan.edge (gpan l k) < (0 : Int)) || decide ((3 : Int) < Pan.edge (gpan l k))) == false) = true) ∧ True) ∧ (((decide (Pan.on (gpan l k) < (0 : Int)) || decide ((↑k : Int) ≤ Pan.on (gpan l k)) || decide (Pan.edge (gpan l k) < (0 : Int)) || decide ((3 : Int) < Pan.edge (gpan l k))) == false) = true → (2 : Nat) ≤ (5 : Nat))) (V.gd ((decide (Pan.on (gpan l k) < (0 : Int)) || decide ((↑k : Int) ≤ Pan.on (gpan l k)) || decide (Pan.edge (gpan l k) < (0 : Int)) || decide ((3 : Int) < Pan.edge (gpan l k))) == false) (V.i (Pan.off (gpan l k))))] (by kernel_rfl) (by kernel_rfl) ⟨(by omega), ⟨⟨True.intro, True.intro⟩, (fun _ => True.intro)⟩, ⟨⟨(by (exact fun h => h)), True.intro⟩, (by (intro _; simp; done))⟩, ⟨⟨True.intro, True.intro⟩, (fun _ => True.intro)⟩, ⟨⟨(by (exact fun h => h)), ⟨(by (exact fun h => h)), True.intro⟩⟩, (fun _ => True.intro)⟩, ⟨True.intro, (by (intro h; rw [h]; rfl))⟩, ⟨⟨True.intro, True.intro⟩, (fun _ => True.intro)⟩, ⟨⟨(by (exact fun h => h)), True.intro⟩, (by (intro _; simp; done))⟩, ⟨⟨(by (exact fun h => h)), ⟨True.intro, True.intro⟩⟩, (fun _ => True.intro)⟩, ⟨True.intro, (by (intro h; rw [h]; rfl))⟩, ⟨⟨True.intro, True.intro⟩, (fun _ => True.intro)⟩, ⟨⟨(by (exact fun h => h)), True.intro⟩, (by (intro _; simp; done))⟩, ⟨⟨(by (exact fun h => h)), ⟨True.intro, True.intro⟩⟩, (fun _ => True.intro)⟩, ⟨True.intro, (by (intro h; rw [h]; rfl))⟩, ⟨⟨True.intro, True.intro⟩, (fun _ => True.intro)⟩, ⟨⟨(by (exact fun h => h)), True.intro⟩, (by (intro _; simp; done))⟩, True.intro⟩ ?_
    refine e_callG 1 (g := (decide (Pan.on (gpan l k) < (0 : Int)) || decide ((↑k : Int) ≤ Pan.on (gpan l k)) || decide (Pan.edge (gpan l k) < (0 : Int)) || decide ((3 : Int) < Pan.edge (gpan l k))) == false) (first := []) (caps := []) (by kernel_rfl) (fun h => rwithin_ac (gpan l k).off (-65536) 65536) (by kernel_rfl) (by kernel_rfl) (by kernel_rfl) (by kernel_rfl) (by kernel_rfl) (by kernel_rfl) ?_
    refine aops_n hTT (M := []) (n := 2) [pc (88 : Nat) (((((decide (Pan.on (gpan l k) < (0 : Int)) || decide ((↑k : Int) ≤ Pan.on (gpan l k)) || decide (Pan.edge (gpan l k) < (0 : Int)) || decide ((3 : Int) < Pan.edge (gpan l k))) == false) = true → ((decide (Pan.on (gpan l k) < (0 : Int)) || decide ((↑k : Int) ≤ Pan.on (gpan l k)) || decide (Pan.edge (gpan l k) < (0 : Int)) || decide ((3 : Int) < Pan.edge (gpan l k))) == false) = true) ∧ True) ∧ (((decide (Pan.on (gpan l k) < (0 : Int)) || decide ((↑k : Int) ≤ Pan.on (gpan l k)) || decide (Pan.edge (gpan l k) < (0 : Int)) || decide ((3 : Int) < Pan.edge (gpan l k))) == false) = true → True)) (V.gd ((decide (Pan.on (gpan l k) < (0 : Int)) || decide ((↑k : Int) ≤ Pan.on (gpan l k)) || decide (Pan.edge (gpan l k) < (0 : Int)) || decide ((3 : Int) < Pan.edge (gpan l k))) == false) (V.b !(decide ((-65536 : Int) ≤ Pan.off (gpan l k)) && decide (Pan.off (gpan l k) ≤ (65536 : Int))))), pc (89 : Nat) (True ∧ ((decide (Pan.on (gpan l k) < (0 : Int)) || decide ((↑k : Int) ≤ Pan.on (gpan l k)) || decide (Pan.edge (gpan l k) < (0 : Int)) || decide ((3 : Int) < Pan.edge (gpan l k))) = false → ((decide (Pan.on (gpan l k) < (0 : Int)) || decide ((↑k : Int) ≤ Pan.on (gpan l k)) || decide (Pan.edge (gpan l k) < (0 : Int)) || decide ((3 : Int) < Pan.edge (gpan l k))) == false) = true)) (V.b (decide (Pan.on (gpan l k) < (0 : Int)) || decide ((↑k : Int) ≤ Pan.on (gpan l k)) || decide (Pan.edge (gpan l k) < (0 : Int)) || decide ((3 : Int) < Pan.edge (gpan l k)) || !(decide ((-65536 : Int) ≤ Pan.off (gpan l k)) && decide (Pan.off (gpan l k) ≤ (65536 : Int)))))] (by kernel_rfl) (by kernel_rfl) ⟨⟨⟨(by (exact fun h => h)), True.intro⟩, (fun _ => True.intro)⟩, ⟨True.intro, (by (intro h; rw [h]; rfl))⟩, True.intro⟩ ?_
    refine aops_nil ?_
    refine xt_n ?_
    refine hK _ ?_
    clear hK K
    refine w_cond (t := decide (Pan.on (gpan l k) < (0 : Int)) || decide ((↑k : Int) ≤ Pan.on (gpan l k)) || decide (Pan.edge (gpan l k) < (0 : Int)) || decide ((3 : Int) < Pan.edge (gpan l k)) || !(decide ((-65536 : Int) ≤ Pan.off (gpan l k)) && decide (Pan.off (gpan l k) ≤ (65536 : Int)))) (by kernel_rfl) (fun h1 => ?_) (fun h1 => ?_)
    · have ho : ¬ (gpan l k).okI k := by unfold Pan.okI; simp at h1; omega
      have hE2 := netE_pan hne c1 hE (by rw [panE_I (by omega) hs ho]; omega)
      rw [panE_I (by omega) hs ho] at hE2
      refine aw_seq_k fun K hK => ?_
      refine w_region (n' := 7) (by kernel_rfl) (by kernel_rfl) ?_
      refine aops_n hTT (M := []) (n := 2) [pv (2 : Nat) V.nil, pv (3 : Nat) (V.i (2 : Int))] (by kernel_rfl) (by kernel_rfl) True.intro ?_
      refine aops_nil ?_
      refine xt_n ?_
      refine hK _ ?_
      clear hK K
      refine aw_ret ?_
      refine xt_r ?_
      refine xb_r ?_
      refine xt_r ?_
      refine xt_r ?_
      refine xb_r ?_
      refine xt_r ?_
      rw [flatV, if_neg (by omega), hE2]
      refine ret_pure (v' := V.tup [V.nil, V.i (2 : Int)]) (.inr rfl) (by kernel_rfl) (by kernel_rfl) (by kernel_rfl)
    have ho : (gpan l k).okI k := by unfold Pan.okI; simp at h1; omega
    have ho2 := ho
    obtain ⟨⟨o1, o2⟩, ⟨o3, o4⟩, o5⟩ := ho2
    clear h1
    have hall : ∀ j, j < k → (gpan l j).szOk ∧ (0 < j → (gpan l j).okI j) := fun j hj => by
      obtain ⟨p1, _, p3⟩ := panE_inv (fstE_ok.1 hE j hj)
      exact ⟨p1, fun h => (p3 h).1⟩
    have hall2 : ∀ j, j ≤ k → (gpan l j).szOk ∧ (0 < j → (gpan l j).okI j) := fun j hj => by
      by_cases he : j = k
      · subst he; exact ⟨hs, fun _ => ho⟩
      · exact hall j (by omega)
    have hon : (gpan l k).on.toNat < k := by omega
    have b1 : (rcF l (gpan l k).on.toNat).bd 1703936 := Rc.bd_mono (rcF_bd _ fun j hj => hall2 j (by omega)) (by omega)
    have b2 : (rcF l k).bd 1703936 := Rc.bd_mono (rcF_bd k hall2) (by omega)
    have A1 := rhang_ac _ _ (Rc.bd_mono b1 (by omega)) hs o5
    rw [← rcF_succ l (by omega) hon] at A1
    have A2 := rcommon_ac _ _ (Rc.bd_mono b1 (by omega)) (Rc.bd_mono b2 (by omega))
    refine aw_skip ?_
    refine xt_n ?_
    refine hK _ ?_
    clear hK K
    refine aw_seq_k fun K hK => ?_
    refine w_regionD (n' := 7) (by kernel_rfl) (by kernel_rfl) ?_
    refine aops_n hTT (M := []) (n := 6) [pv (90 : Nat) (V.own (4 : Nat)), pv (91 : Nat) (V.ref (200006 : Nat) (0 : Nat)), pc (92 : Nat) ((0 : Nat) ≤ (5 : Nat)) (V.i (Pan.on (gpan l k))), pc (93 : Nat) ((0 : Int) ≤ Pan.on (gpan l k) ∧ Pan.on (gpan l k) < (↑k : Int)) (V.oel (4 : Nat) (5 : Nat) (Int.toNat (Pan.on (gpan l k))) (0 : Nat)), pc (94 : Nat) (Int.toNat (Pan.on (gpan l k)) < k ∧ (0 : Nat) ≤ (5 : Nat)) (V.agg [V.i (Rc.x0 (rcF l (Int.toNat (Pan.on (gpan l k))))), V.i (Rc.y0 (rcF l (Int.toNat (Pan.on (gpan l k))))), V.i (Rc.x1 (rcF l (Int.toNat (Pan.on (gpan l k))))), V.i (Rc.y1 (rcF l (Int.toNat (Pan.on (gpan l k))))), V.b (Rc.down (rcF l (Int.toNat (Pan.on (gpan l k)))))]), pc (95 : Nat) ((0 : Nat) ≤ (5 : Nat)) (V.agg [V.i (Pan.on (gpan l k)), V.i (Pan.edge (gpan l k)), V.i (Pan.off (gpan l k)), V.i (Pan.wide (gpan l k)), V.i (Pan.high (gpan l k))])] (by kernel_rfl) (by kernel_rfl) ⟨(by omega), (by omega), (by omega), (by omega), True.intro⟩ ?_
    refine e_call (first := []) (caps := []) (A1) (by kernel_rfl) (by kernel_rfl) (by kernel_rfl) (by kernel_rfl) (by kernel_rfl) ?_
    refine aops_n hTT (M := []) (n := 2) [pn (7 : Nat) (V.ref (600007 : Nat) (0 : Nat)) (600007 : Nat) (Ob.box (52 : Nat) [V.i (0 : Int), V.i (0 : Int), V.i (0 : Int), V.i (0 : Int), V.b false]), pw ((0 : Nat) + (5 : Nat) ≤ (5 : Nat)) (600007 : Nat) (Ob.box (52 : Nat) [V.i (Rc.x0 (rcF l k)), V.i (Rc.y0 (rcF l k)), V.i (Rc.x1 (rcF l k)), V.i (Rc.y1 (rcF l k)), V.b (Rc.down (rcF l k))])] (by kernel_rfl) (by kernel_rfl) ⟨(by omega), True.intro⟩ ?_
    refine aops_nil ⟨by kernel_rfl, ?_⟩
    refine xt_n ?_
    refine hK _ ?_
    clear hK K
    refine aw_seq_k fun K hK => ?_
    refine w_regionD (n' := 8) (by kernel_rfl) (by kernel_rfl) ?_
    refine aops_n hTT (M := []) (n := 6) [pv (98 : Nat) (V.own (4 : Nat)), pv (99 : Nat) (V.ref (200006 : Nat) (0 : Nat)), pc (100 : Nat) ((0 : Nat) ≤ (5 : Nat)) (V.i (Pan.on (gpan l k))), pc (101 : Nat) ((0 : Int) ≤ Pan.on (gpan l k) ∧ Pan.on (gpan l k) < (↑k : Int)) (V.oel (4 : Nat) (5 : Nat) (Int.toNat (Pan.on (gpan l k))) (0 : Nat)), pc (102 : Nat) (Int.toNat (Pan.on (gpan l k)) < k ∧ (0 : Nat) ≤ (5 : Nat)) (V.agg [V.i (Rc.x0 (rcF l (Int.toNat (Pan.on (gpan l k))))), V.i (Rc.y0 (rcF l (Int.toNat (Pan.on (gpan l k))))), V.i (Rc.x1 (rcF l (Int.toNat (Pan.on (gpan l k))))), V.i (Rc.y1 (rcF l (Int.toNat (Pan.on (gpan l k))))), V.b (Rc.down (rcF l (Int.toNat (Pan.on (gpan l k)))))]), pc (103 : Nat) ((0 : Nat) ≤ (5 : Nat)) (V.agg [V.i (Rc.x0 (rcF l k)), V.i (Rc.y0 (rcF l k)), V.i (Rc.x1 (rcF l k)), V.i (Rc.y1 (rcF l k)), V.b (Rc.down (rcF l k))])] (by kernel_rfl) (by kernel_rfl) ⟨(by omega), (by omega), (by omega), (by omega), True.intro⟩ ?_
    refine e_call (first := []) (caps := []) (A2) (by kernel_rfl) (by kernel_rfl) (by kernel_rfl) (by kernel_rfl) (by kernel_rfl) ?_
    refine aops_n hTT (M := []) (n := 5) [pv (97 : Nat) (V.tup [V.i (comW (rcF l (Int.toNat (Pan.on (gpan l k)))) (rcF l k)), V.i (comH (rcF l (Int.toNat (Pan.on (gpan l k)))) (rcF l k))]), pv (105 : Nat) (V.i (comW (rcF l (Int.toNat (Pan.on (gpan l k)))) (rcF l k))), pv (106 : Nat) (V.i (comH (rcF l (Int.toNat (Pan.on (gpan l k)))) (rcF l k))), pv (8 : Nat) (V.i (comW (rcF l (Int.toNat (Pan.on (gpan l k)))) (rcF l k))), pv (9 : Nat) (V.i (comH (rcF l (Int.toNat (Pan.on (gpan l k)))) (rcF l k)))] (by kernel_rfl) (by kernel_rfl) True.intro ?_
    refine aops_nil ⟨by kernel_rfl, ?_⟩
    refine xt_n ?_
    refine hK _ ?_
    clear hK K
    refine aw_seq_k fun K hK => ?_
    refine aw_seq_k fun K hK => ?_
    refine w_region (n' := 9) (by kernel_rfl) (by kernel_rfl) ?_
    refine aops_n hTT (M := []) (n := 4) [pv (107 : Nat) (V.i (comW (rcF l (Int.toNat (Pan.on (gpan l k)))) (rcF l k))), pv (108 : Nat) (V.i (comH (rcF l (Int.toNat (Pan.on (gpan l k)))) (rcF l k))), pv (109 : Nat) (V.i (max (comW (rcF l (Int.toNat (Pan.on (gpan l k)))) (rcF l k)) (comH (rcF l (Int.toNat (Pan.on (gpan l k)))) (rcF l k)))), pv (110 : Nat) (V.b (decide (max (comW (rcF l (Int.toNat (Pan.on (gpan l k)))) (rcF l k)) (comH (rcF l (Int.toNat (Pan.on (gpan l k)))) (rcF l k)) ≤ (0 : Int))))] (by kernel_rfl) (by kernel_rfl) True.intro ?_
    refine aops_nil ?_
    refine xt_n ?_
    refine hK _ ?_
    clear hK K
    refine w_cond (t := decide (max (comW (rcF l (Int.toNat (Pan.on (gpan l k)))) (rcF l k)) (comH (rcF l (Int.toNat (Pan.on (gpan l k)))) (rcF l k)) ≤ (0 : Int))) (by kernel_rfl) (fun h1 => ?_) (fun h1 => ?_)
    · have ht : comW (rcF l (gpan l k).on.toNat) (rcF l k) ≤ 0 ∧ comH (rcF l (gpan l k).on.toNat) (rcF l k) ≤ 0 := by simp at h1; omega
      have hE2 := netE_pan hne c1 hE (by rw [panE_T (by omega) hs ho ht]; omega)
      rw [panE_T (by omega) hs ho ht] at hE2
      refine aw_seq_k fun K hK => ?_
      refine w_region (n' := 10) (by kernel_rfl) (by kernel_rfl) ?_
      refine aops_n hTT (M := []) (n := 2) [pv (2 : Nat) V.nil, pv (3 : Nat) (V.i (5 : Int))] (by kernel_rfl) (by kernel_rfl) True.intro ?_
      refine aops_nil ?_
      refine xt_n ?_
      refine hK _ ?_
      clear hK K
      refine aw_ret ?_
      refine xt_r ?_
      refine xb_r ?_
      refine xt_r ?_
      refine xt_r ?_
      refine xb_r ?_
      refine xt_r ?_
      rw [flatV, if_neg (by omega), hE2]
      refine ret_pure (v' := V.tup [V.nil, V.i (5 : Int)]) (.inr rfl) (by kernel_rfl) (by kernel_rfl) (by kernel_rfl)
    have ht : ¬ (comW (rcF l (gpan l k).on.toNat) (rcF l k) ≤ 0 ∧ comH (rcF l (gpan l k).on.toNat) (rcF l k) ≤ 0) := by simp at h1; omega
    clear h1
    refine aw_skip ?_
    refine xt_n ?_
    refine hK _ ?_
    clear hK K
    refine w_region (n' := 10) (by kernel_rfl) (by kernel_rfl) ?_
    refine aops_n hTT (M := []) (n := 5) [pv (111 : Nat) (V.own (4 : Nat)), pc (112 : Nat) ((0 : Nat) ≤ (5 : Nat)) (V.agg [V.i (Rc.x0 (rcF l k)), V.i (Rc.y0 (rcF l k)), V.i (Rc.x1 (rcF l k)), V.i (Rc.y1 (rcF l k)), V.b (Rc.down (rcF l k))]), pv (113 : Nat) (V.sl (5 : Nat) (1 : Nat) fun (i : Nat) => List.take (5 : Nat) (List.drop (i * (5 : Nat)) [V.i (Rc.x0 (rcF l k)), V.i (Rc.y0 (rcF l k)), V.i (Rc.x1 (rcF l k)), V.i (Rc.y1 (rcF l k)), V.b (Rc.down (rcF l k))])), PR.mk (some (114 : Nat)) (some (k + (1 : Nat) ≤ (1099511627776 : Nat))) (V.own (900114 : Nat)) [((4 : Nat), none), ((900114 : Nat), some (Ob.row (52 : Nat) (5 : Nat) (k + (1 : Nat)) (appRow k (fun (j : Nat) => Rc.c (rcF l j)) fun (i : Nat) => List.take (5 : Nat) (List.drop (i * (5 : Nat)) [V.i (Rc.x0 (rcF l k)), V.i (Rc.y0 (rcF l k)), V.i (Rc.x1 (rcF l k)), V.i (Rc.y1 (rcF l k)), V.b (Rc.down (rcF l k))]))))] false, pv (4 : Nat) (V.own (900114 : Nat))] (by kernel_rfl) (by kernel_rfl) ⟨(by omega), (by omega), True.intro⟩ ?_
    refine aops_nil ?_
    refine xb_n ?_
    refine xt_n ?_
    refine hK _ ?_
    clear hK K
    refine w_region (n' := 11) (by kernel_rfl) (by kernel_rfl) ?_
    refine aops_n hTT (M := []) (n := 3) [pv (26 : Nat) (V.i (↑k : Int)), pc (27 : Nat) ((-9223372036854775808 : Int) ≤ (↑k : Int) + (1 : Int) ∧ (↑k : Int) + (1 : Int) ≤ (9223372036854775807 : Int)) (V.i ((↑k : Int) + (1 : Int))), pv (5 : Nat) (V.i ((↑k : Int) + (1 : Int)))] (by kernel_rfl) (by kernel_rfl) ⟨(by omega), True.intro⟩ ?_
    refine aops_nil ?_
    refine xt_n ?_
    refine ⟨k + 1, ⟨by omega, by rw [fstE, if_pos hE]; exact panE_ok (by omega) hs ho ht⟩, ?_, by omega⟩
    refine le_ren (tl := [(0, V.sl (5 : Nat) (List.length l) fun (k : Nat) => Pan.c (gpan l k)), (4, V.own (4 : Nat)), (5, V.i (↑(k + (1 : Nat)) : Int))]) (sl := [(4, Ob.row (52 : Nat) (5 : Nat) (k + (1 : Nat)) fun (j : Nat) => Rc.c (rcF l j))]) [(4, 900114)] (.cons (by kernel_rfl) (.cons (by kernel_rfl) (.cons (by kernel_rfl) .nil))) (.cons ⟨Ob.row (52 : Nat) (5 : Nat) (k + (1 : Nat)) (appRow k (fun (j : Nat) => Rc.c (rcF l j)) fun (i : Nat) => List.take (5 : Nat) (List.drop (i * (5 : Nat)) [V.i (Rc.x0 (rcF l k)), V.i (Rc.y0 (rcF l k)), V.i (Rc.x1 (rcF l k)), V.i (Rc.y1 (rcF l k)), V.b (Rc.down (rcF l k))])), (by kernel_rfl), .row (by kernel_rfl) ?_⟩ .nil) (by kernel_rfl) (by kernel_rfl)
    exact appRow_ok (fun _ _ => rfl) rfl
  simp at c1
  obtain rfl : k = l.length := by omega
  have hbd : ∀ i, i < l.length → (rcF l i).bd 1703936 := fun i hi => Rc.bd_mono (rcF_bd i fun j hj => by
    obtain ⟨p1, _, p3⟩ := panE_inv (fstE_ok.1 hE j (by omega))
    exact ⟨p1, fun h => (p3 h).1⟩) (by omega)
  refine w_le (le_shut 4 4 (e := (52 : Nat)) (sz := (5 : Nat)) (n := List.length l) (n' := l.length) (row := fun (j : Nat) => Rc.c (rcF l j)) (row' := (fun j => (rcF l j).c)) (by kernel_rfl) (by kernel_rfl) (fun _ _ => rfl) ?_ ?_) ?_
  · rfl
  · exact fun _ _ => rfl
  refine aw_exit ?_
  refine xt_x ?_
  refine xt_x ?_
  refine xb_same ?_
  refine xt_n ?_
  clear hK K
  refine hK _ ?_
  clear hK K
  refine aw_seq_k fun K hK => ?_
  refine aw_seq_k fun K hK => ?_
  refine w_region (n' := 3) (by kernel_rfl) (by kernel_rfl) ?_
  refine aops_n hTT (M := []) (n := 1) [pv (10 : Nat) (V.i (0 : Int))] (by kernel_rfl) (by kernel_rfl) True.intro ?_
  refine aops_nil ?_
  refine xt_n ?_
  refine hK _ ?_
  clear hK K
  refine aw_block ?_
  refine w_loop (ι := Nat) (fun k => [(4, V.rcs l.length (rcF l)), (10, .i k)]) (fun k => []) (fun k => k ≤ l.length ∧ ∀ i j, j < i → i < k → ¬ lapB l i j) (fun k => l.length - k) 0 ⟨Nat.zero_le _, fun i j _ hi => by omega⟩ ?_ ?_
  · refine le_ren [] (.cons (by kernel_rfl) (.cons (by kernel_rfl) .nil)) .nil (by kernel_rfl) (by kernel_rfl)
  rintro i ⟨hi, hL⟩
  refine aw_seq_k fun K hK => ?_
  refine aw_seq_k fun K hK => ?_
  refine w_region (n' := 2) (by kernel_rfl) (by kernel_rfl) ?_
  refine aops_n hTT (M := []) (n := 4) [pv (115 : Nat) (V.i (↑i : Int)), pv (116 : Nat) (V.sl (5 : Nat) (List.length l) fun (k : Nat) => Rc.c (rcF l k)), pv (117 : Nat) (V.i (↑(List.length l) : Int)), pv (118 : Nat) (V.b (decide ((↑i : Int) < (↑(List.length l) : Int))))] (by kernel_rfl) (by kernel_rfl) True.intro ?_
  refine aops_nil ?_
  refine xt_n ?_
  refine hK _ ?_
  clear hK K
  refine w_cond (t := decide ((↑i : Int) < (↑(List.length l) : Int))) (by kernel_rfl) (fun c1 => ?_) (fun c1 => ?_)
  · simp at c1
    refine aw_skip ?_
    refine xt_n ?_
    refine hK _ ?_
    clear hK K
    refine aw_seq_k fun K hK => ?_
    refine aw_block ?_
    refine aw_seq_k fun K hK => ?_
    refine w_region (n' := 3) (by kernel_rfl) (by kernel_rfl) ?_
    refine aops_n hTT (M := []) (n := 1) [pv (11 : Nat) (V.i (0 : Int))] (by kernel_rfl) (by kernel_rfl) True.intro ?_
    refine aops_nil ?_
    refine xt_n ?_
    refine hK _ ?_
    clear hK K
    refine aw_block ?_
    refine w_loop (ι := Nat) (fun k => [(4, V.rcs l.length (rcF l)), (10, .i i), (11, .i k)]) (fun k => []) (fun k => k ≤ i ∧ ∀ j, j < k → ¬ lapB l i j) (fun k => i - k) 0 ⟨Nat.zero_le _, fun j hj => by omega⟩ ?_ ?_
    · refine le_ren [] (.cons (by kernel_rfl) (.cons (by kernel_rfl) (.cons (by kernel_rfl) .nil))) .nil (by kernel_rfl) (by kernel_rfl)
    rintro k ⟨hk, hM⟩
    refine aw_seq_k fun K hK => ?_
    refine aw_seq_k fun K hK => ?_
    refine w_region (n' := 2) (by kernel_rfl) (by kernel_rfl) ?_
    refine aops_n hTT (M := []) (n := 3) [pv (121 : Nat) (V.i (↑k : Int)), pv (122 : Nat) (V.i (↑i : Int)), pv (123 : Nat) (V.b (decide ((↑k : Int) < (↑i : Int))))] (by kernel_rfl) (by kernel_rfl) True.intro ?_
    refine aops_nil ?_
    refine xt_n ?_
    refine hK _ ?_
    clear hK K
    refine w_cond (t := decide ((↑k : Int) < (↑i : Int))) (by kernel_rfl) (fun c2 => ?_) (fun c2 => ?_)
    · simp at c2
      refine aw_skip ?_
      refine xt_n ?_
      refine hK _ ?_
      clear hK K
      refine aw_seq_k fun K hK => ?_
      refine aw_block ?_
      refine aw_seq_k fun K hK => ?_
      refine w_regionD (n' := 3) (by kernel_rfl) (by kernel_rfl) ?_
      refine aops_n hTT (M := []) (n := 8) [pv (127 : Nat) (V.sl (5 : Nat) (List.length l) fun (k : Nat) => Rc.c (rcF l k)), pv (128 : Nat) (V.i (↑i : Int)), pc (129 : Nat) ((0 : Int) ≤ (↑i : Int) ∧ (↑i : Int) < (↑(List.length l) : Int)) (V.ptr [V.i (Rc.x0 (rcF l i)), V.i (Rc.y0 (rcF l i)), V.i (Rc.x1 (rcF l i)), V.i (Rc.y1 (rcF l i)), V.b (Rc.down (rcF l i))]), pv (130 : Nat) (V.agg [V.i (Rc.x0 (rcF l i)), V.i (Rc.y0 (rcF l i)), V.i (Rc.x1 (rcF l i)), V.i (Rc.y1 (rcF l i)), V.b (Rc.down (rcF l i))]), pv (131 : Nat) (V.sl (5 : Nat) (List.length l) fun (k : Nat) => Rc.c (rcF l k)), pv (132 : Nat) (V.i (↑k : Int)), pc (133 : Nat) ((0 : Int) ≤ (↑k : Int) ∧ (↑k : Int) < (↑(List.length l) : Int)) (V.ptr [V.i (Rc.x0 (rcF l k)), V.i (Rc.y0 (rcF l k)), V.i (Rc.x1 (rcF l k)), V.i (Rc.y1 (rcF l k)), V.b (Rc.down (rcF l k))]), pv (134 : Nat) (V.agg [V.i (Rc.x0 (rcF l k)), V.i (Rc.y0 (rcF l k)), V.i (Rc.x1 (rcF l k)), V.i (Rc.y1 (rcF l k)), V.b (Rc.down (rcF l k))])] (by kernel_rfl) (by kernel_rfl) ⟨(by omega), (by omega), True.intro⟩ ?_
      refine e_call (first := []) (caps := []) (rcommon_ac _ _ (Rc.bd_mono (hbd i c1) (by omega)) (Rc.bd_mono (hbd k (by omega)) (by omega))) (by kernel_rfl) (by kernel_rfl) (by kernel_rfl) (by kernel_rfl) (by kernel_rfl) ?_
      refine aops_n hTT (M := []) (n := 5) [pv (126 : Nat) (V.tup [V.i (comW (rcF l i) (rcF l k)), V.i (comH (rcF l i) (rcF l k))]), pv (136 : Nat) (V.i (comW (rcF l i) (rcF l k))), pv (137 : Nat) (V.i (comH (rcF l i) (rcF l k))), pv (12 : Nat) (V.i (comW (rcF l i) (rcF l k))), pv (13 : Nat) (V.i (comH (rcF l i) (rcF l k)))] (by kernel_rfl) (by kernel_rfl) True.intro ?_
      refine aops_nil ⟨by kernel_rfl, ?_⟩
      refine xt_n ?_
      refine hK _ ?_
      clear hK K
      refine aw_seq_k fun K hK => ?_
      refine w_region (n' := 4) (by kernel_rfl) (by kernel_rfl) ?_
      refine aops_n hTT (M := []) (n := 6) [pv (138 : Nat) (V.i (comW (rcF l i) (rcF l k))), pv (139 : Nat) (V.b (decide ((0 : Int) < comW (rcF l i) (rcF l k)))), pv (140 : Nat) (V.b (decide ((0 : Int) < comW (rcF l i) (rcF l k)))), pc (141 : Nat) ((True ∧ True) ∧ ((decide ((0 : Int) < comW (rcF l i) (rcF l k)) == true) = true → True)) (V.gd (decide ((0 : Int) < comW (rcF l i) (rcF l k)) == true) (V.i (comH (rcF l i) (rcF l k)))), pc (142 : Nat) ((((decide ((0 : Int) < comW (rcF l i) (rcF l k)) == true) = true → (decide ((0 : Int) < comW (rcF l i) (rcF l k)) == true) = true) ∧ True ∧ True) ∧ ((decide ((0 : Int) < comW (rcF l i) (rcF l k)) == true) = true → True)) (V.gd (decide ((0 : Int) < comW (rcF l i) (rcF l k)) == true) (V.b (decide ((0 : Int) < comH (rcF l i) (rcF l k))))), pc (143 : Nat) ((decide ((0 : Int) < comW (rcF l i) (rcF l k)) = true → (decide ((0 : Int) < comW (rcF l i) (rcF l k)) == true) = true) ∧ True) (V.b (decide ((0 : Int) < comW (rcF l i) (rcF l k)) && decide ((0 : Int) < comH (rcF l i) (rcF l k))))] (by kernel_rfl) (by kernel_rfl) ⟨⟨⟨True.intro, True.intro⟩, (fun _ => True.intro)⟩, ⟨⟨(by (exact fun h => h)), ⟨True.intro, True.intro⟩⟩, (fun _ => True.intro)⟩, ⟨(by (intro h; rw [h]; rfl)), True.intro⟩, True.intro⟩ ?_
      refine aops_nil ?_
      refine xt_n ?_
      refine hK _ ?_
      clear hK K
      refine w_cond (t := decide ((0 : Int) < comW (rcF l i) (rcF l k)) && decide ((0 : Int) < comH (rcF l i) (rcF l k))) (by kernel_rfl) (fun h1 => ?_) (fun h1 => ?_)
      · have hl : lapB l i k := by unfold lapB; simp at h1; omega
        have hE2 := netE_lap hne hE c2 c1 hl
        refine aw_seq_k fun K hK => ?_
        refine w_region (n' := 5) (by kernel_rfl) (by kernel_rfl) ?_
        refine aops_n hTT (M := []) (n := 2) [pv (2 : Nat) V.nil, pv (3 : Nat) (V.i (20 : Int))] (by kernel_rfl) (by kernel_rfl) True.intro ?_
        refine aops_nil ?_
        refine xt_n ?_
        refine hK _ ?_
        clear hK K
        refine aw_ret ?_
        refine xb_r ?_
        refine xt_r ?_
        refine xt_r ?_
        refine xb_r ?_
        refine xb_r ?_
        refine xt_r ?_
        refine xt_r ?_
        refine xb_r ?_
        refine xt_r ?_
        rw [flatV, if_neg (by omega), hE2]
        refine ret_pure (v' := V.tup [V.nil, V.i (20 : Int)]) (.inr rfl) (by kernel_rfl) (by kernel_rfl) (by kernel_rfl)
      have hl : ¬ lapB l i k := by unfold lapB; simp at h1; omega
      clear h1
      refine aw_skip ?_
      refine xb_n ?_
      refine xt_n ?_
      refine hK _ ?_
      clear hK K
      refine w_region (n' := 5) (by kernel_rfl) (by kernel_rfl) ?_
      refine aops_n hTT (M := []) (n := 3) [pv (124 : Nat) (V.i (↑k : Int)), pc (125 : Nat) ((-9223372036854775808 : Int) ≤ (↑k : Int) + (1 : Int) ∧ (↑k : Int) + (1 : Int) ≤ (9223372036854775807 : Int)) (V.i ((↑k : Int) + (1 : Int))), pv (11 : Nat) (V.i ((↑k : Int) + (1 : Int)))] (by kernel_rfl) (by kernel_rfl) ⟨(by omega), True.intro⟩ ?_
      refine aops_nil ?_
      refine xt_n ?_
      refine ⟨k + 1, ⟨by omega, fun j hj => ?_⟩, by refine le_ren [] (.cons (by kernel_rfl) (.cons (by kernel_rfl) (.cons (by kernel_rfl) .nil))) .nil (by kernel_rfl) (by kernel_rfl), by omega⟩
      by_cases he : j = k
      · subst he; exact hl
      · exact hM j (by omega)
    simp at c2
    obtain rfl : k = i := by omega
    refine aw_exit ?_
    refine xt_x ?_
    refine xt_x ?_
    refine xb_same ?_
    refine xb_n ?_
    refine xt_n ?_
    clear hK K
    refine hK _ ?_
    clear hK K
    refine w_region (n' := 3) (by kernel_rfl) (by kernel_rfl) ?_
    refine aops_n hTT (M := []) (n := 3) [pv (119 : Nat) (V.i (↑k : Int)), pc (120 : Nat) ((-9223372036854775808 : Int) ≤ (↑k : Int) + (1 : Int) ∧ (↑k : Int) + (1 : Int) ≤ (9223372036854775807 : Int)) (V.i ((↑k : Int) + (1 : Int))), pv (10 : Nat) (V.i ((↑k : Int) + (1 : Int)))] (by kernel_rfl) (by kernel_rfl) ⟨(by omega), True.intro⟩ ?_
    refine aops_nil ?_
    refine xt_n ?_
    refine ⟨k + 1, ⟨by omega, fun a b hb ha => ?_⟩, by refine le_ren [] (.cons (by kernel_rfl) (.cons (by kernel_rfl) .nil)) .nil (by kernel_rfl) (by kernel_rfl), by omega⟩
    by_cases he : a = k
    · subst he; exact hM b (by omega)
    · exact hL a b hb (by omega)
  simp at c1
  obtain rfl : i = l.length := by omega
  refine aw_exit ?_
  refine xt_x ?_
  refine xt_x ?_
  refine xb_same ?_
  refine xt_n ?_
  clear hK K
  refine hK _ ?_
  clear hK K
  refine aw_seq_k fun K hK => ?_
  refine w_region (n' := 3) (by kernel_rfl) (by kernel_rfl) ?_
  refine aops_n hTT (M := []) (n := 3) [pv (144 : Nat) (V.sl (5 : Nat) (List.length l) fun (k : Nat) => Rc.c (rcF l k)), pv (2 : Nat) (V.sl (5 : Nat) (List.length l) fun (k : Nat) => Rc.c (rcF l k)), pv (3 : Nat) (V.i (0 : Int))] (by kernel_rfl) (by kernel_rfl) True.intro ?_
  refine aops_nil ?_
  refine xt_n ?_
  refine hK _ ?_
  clear hK K
  refine aw_ret ?_
  have hE2 := netE_ok hne hE hL
  rw [flatV, if_pos hE2]
  refine ret_pure (v' := V.tup [V.sl (5 : Nat) (List.length l) fun (k : Nat) => Rc.c (rcF l k), V.i (0 : Int)]) (.inr rfl) (by kernel_rfl) (by kernel_rfl) (by kernel_rfl)
set_option maxRecDepth 100000 in
theorem rCheckNet_ac (l : List Pan) (hl : l.length ≤ 4611686018427387904) : AC Tryd.prog 31 [V.pans l] (.i (netE l)) [] := by
  refine ac_intro hTT hMX (fn := Tryd.f31) (N := _) ⟨Tryd.func31, rfl, Tryd.ntmps31, by kernel_rfl⟩ (by simp) fun C hC hF => ?_
  have A := net_ac l hl
  refine aw_seq_k fun K hK => ?_
  refine w_region (n' := 2) (by kernel_rfl) (by kernel_rfl) ?_
  refine aops_n hTT (M := []) (n := 1) [pv (2 : Nat) (V.i (0 : Int))] (by kernel_rfl) (by kernel_rfl) True.intro ?_
  refine aops_nil ?_
  refine xt_n ?_
  refine hK _ ?_
  clear hK K
  refine aw_seq_k fun K hK => ?_
  refine w_region (n' := 3) (by kernel_rfl) (by kernel_rfl) ?_
  refine aops_n hTT (M := []) (n := 1) [pv (6 : Nat) (V.sl (5 : Nat) (List.length l) fun (k : Nat) => Pan.c (gpan l k))] (by kernel_rfl) (by kernel_rfl) True.intro ?_
  by_cases hE : netE l = 0
  · rw [flatV, if_pos hE] at A
    refine e_call (first := []) (caps := []) (A) (by kernel_rfl) (by kernel_rfl) (by kernel_rfl) (by kernel_rfl) (by kernel_rfl) ?_
    refine aops_n hTT (M := []) (n := 5) [pv (5 : Nat) (V.tup [V.sl (5 : Nat) (List.length l) fun (k : Nat) => Rc.c (rcF l k), V.i (0 : Int)]), pv (8 : Nat) (V.sl (5 : Nat) (List.length l) fun (k : Nat) => Rc.c (rcF l k)), pv (9 : Nat) (V.i (0 : Int)), pv (3 : Nat) (V.sl (5 : Nat) (List.length l) fun (k : Nat) => Rc.c (rcF l k)), pv (4 : Nat) (V.i (0 : Int))] (by kernel_rfl) (by kernel_rfl) True.intro ?_
    refine aops_nil ?_
    refine xt_n ?_
    refine hK _ ?_
    clear hK K
    refine aw_seq_k fun K hK => ?_
    refine w_region (n' := 4) (by kernel_rfl) (by kernel_rfl) ?_
    refine aops_n hTT (M := []) (n := 2) [pv (10 : Nat) (V.i (0 : Int)), pv (2 : Nat) (V.i (0 : Int))] (by kernel_rfl) (by kernel_rfl) True.intro ?_
    refine aops_nil ?_
    refine xt_n ?_
    refine hK _ ?_
    clear hK K
    refine aw_ret ?_
    rw [hE]
    refine ret_pure (v' := V.i (0 : Int)) (.inr rfl) (by kernel_rfl) (by kernel_rfl) (by kernel_rfl)
  · rw [flatV, if_neg hE] at A
    refine e_call (first := []) (caps := []) (A) (by kernel_rfl) (by kernel_rfl) (by kernel_rfl) (by kernel_rfl) (by kernel_rfl) ?_
    refine aops_n hTT (M := []) (n := 5) [pv (5 : Nat) (V.tup [V.nil, V.i (netE l)]), pv (8 : Nat) V.nil, pv (9 : Nat) (V.i (netE l)), pv (3 : Nat) V.nil, pv (4 : Nat) (V.i (netE l))] (by kernel_rfl) (by kernel_rfl) True.intro ?_
    refine aops_nil ?_
    refine xt_n ?_
    refine hK _ ?_
    clear hK K
    refine aw_seq_k fun K hK => ?_
    refine w_region (n' := 4) (by kernel_rfl) (by kernel_rfl) ?_
    refine aops_n hTT (M := []) (n := 2) [pv (10 : Nat) (V.i (netE l)), pv (2 : Nat) (V.i (netE l))] (by kernel_rfl) (by kernel_rfl) True.intro ?_
    refine aops_nil ?_
    refine xt_n ?_
    refine hK _ ?_
    clear hK K
    refine aw_ret ?_
    refine ret_pure (v' := V.i (netE l)) (.inr rfl) (by kernel_rfl) (by kernel_rfl) (by kernel_rfl)
end Go.Proofs.YtfckkkmacjjmhaaDoor
