/-
  Folded nets: the walks of the program's copy. No condition but the length of a list that is in memory.
-/
import Derived.Test.YtfckkkmacjjmhaaDoorSN4
namespace Go.Proofs.YtfckkkmacjjmhaaDoor
open Go.Ab Go.RowKit Go.Dw Go.Shelf

def foldV (l : List Pan) : V := if netE l = 0 then .tup [V.rcs l.length (foldR l), .i 0] else .tup [.nil, .i (netE l)]
set_option maxHeartbeats 4000000 in
set_option maxRecDepth 100000 in
theorem folded_ac (l : List Pan) (hl : l.length ≤ 4611686018427387904) : AC Tryd.prog 62 [V.pans l] (foldV l) [] := by
  refine ac_intro hTT hMX (fn := Tryd.f62) (N := _) ⟨Tryd.func62, rfl, Tryd.ntmps62, by kernel_rfl⟩ (by simp) fun C hC hF => ?_
  have A := flat_ac l hl
  refine aw_seq_k fun K hK => ?_
  refine w_region (n' := 2) (by kernel_rfl) (by kernel_rfl) ?_
  refine aops_n hTT (M := []) (n := 2) [pv (2 : Nat) V.nil, pv (3 : Nat) (V.i (0 : Int))] (by kernel_rfl) (by kernel_rfl) True.intro ?_
  refine aops_nil ?_
  refine xt_n ?_
  refine hK _ ?_
  clear hK K
  refine aw_seq_k fun K hK => ?_
  refine w_region (n' := 3) (by kernel_rfl) (by kernel_rfl) ?_
  refine aops_n hTT (M := []) (n := 1) [pv (11 : Nat) (V.sl (5 : Nat) (List.length l) fun (k : Nat) => Pan.c (gpan l k))] (by kernel_rfl) (by kernel_rfl) True.intro ?_
  by_cases hE : netE l = 0
  · rw [flatV, if_pos hE] at A
    have hN := netOk hE
    have hle := hN.le
    refine e_call (first := []) (caps := []) (A) (by kernel_rfl) (by kernel_rfl) (by kernel_rfl) (by kernel_rfl) (by kernel_rfl) ?_
    refine aops_n hTT (M := []) (n := 5) [pv (10 : Nat) (V.tup [V.sl (5 : Nat) (List.length l) fun (k : Nat) => Rc.c (rcF l k), V.i (0 : Int)]), pv (13 : Nat) (V.sl (5 : Nat) (List.length l) fun (k : Nat) => Rc.c (rcF l k)), pv (14 : Nat) (V.i (0 : Int)), pv (4 : Nat) (V.sl (5 : Nat) (List.length l) fun (k : Nat) => Rc.c (rcF l k)), pv (5 : Nat) (V.i (0 : Int))] (by kernel_rfl) (by kernel_rfl) True.intro ?_
    refine aops_nil ?_
    refine xt_n ?_
    refine hK _ ?_
    clear hK K
    refine aw_seq_k fun K hK => ?_
    refine aw_seq_k fun K hK => ?_
    refine w_region (n' := 4) (by kernel_rfl) (by kernel_rfl) ?_
    refine aops_n hTT (M := []) (n := 2) [pv (15 : Nat) (V.i (0 : Int)), pv (16 : Nat) (V.b false)] (by kernel_rfl) (by kernel_rfl) True.intro ?_
    refine aops_nil ?_
    refine xt_n ?_
    refine hK _ ?_
    clear hK K
    refine w_false (t := false) (by kernel_rfl) rfl ?_
    refine aw_skip ?_
    refine xt_n ?_
    refine hK _ ?_
    clear hK K
    refine aw_seq_k fun K hK => ?_
    refine w_region (n' := 5) (by kernel_rfl) (by kernel_rfl) ?_
    refine aops_n hTT (M := []) (n := 1) [pv (6 : Nat) V.nil] (by kernel_rfl) (by kernel_rfl) True.intro ?_
    refine aops_nil ?_
    refine xt_n ?_
    refine hK _ ?_
    clear hK K
    refine aw_seq_k fun K hK => ?_
    refine aw_seq_k fun K hK => ?_
    refine w_region (n' := 6) (by kernel_rfl) (by kernel_rfl) ?_
    refine aops_n hTT (M := []) (n := 3) [pv (18 : Nat) (V.sl (5 : Nat) (List.length l) fun (k : Nat) => Rc.c (rcF l k)), pv (19 : Nat) (V.i (↑(List.length l) : Int)), pv (20 : Nat) (V.i (0 : Int))] (by kernel_rfl) (by kernel_rfl) True.intro ?_
    refine aops_nil ?_
    refine xt_n ?_
    refine hK _ ?_
    clear hK K
    refine aw_block ?_
    refine w_le (le_open 6 95 5 (fun k => (foldR l k).c) (by kernel_rfl) rfl) ?_
    refine w_loop (ι := Nat) (fun k => [(0, V.pans l), (4, V.rcs l.length (rcF l)), (6, .own 6), (18, V.rcs l.length (rcF l)), (19, .i l.length), (20, .i k)]) (fun k => [(6, .row 95 5 k fun j => (foldR l j).c)]) (fun k => k ≤ l.length) (fun k => l.length - k) 0 (Nat.zero_le _) ?_ ?_
    · refine le_ren (sl := [(6, Ob.row (95 : Nat) (5 : Nat) (0 : Nat) fun (j : Nat) => Rc.c (foldR l j))]) [(6, 600006)] (.cons (by kernel_rfl) (.cons (by kernel_rfl) (.cons (by kernel_rfl) (.cons (by kernel_rfl) (.cons (by kernel_rfl) (.cons (by kernel_rfl) .nil)))))) (.cons ⟨Ob.row (95 : Nat) (5 : Nat) (0 : Nat) fun (k : Nat) => Rc.c (foldR l k), (by kernel_rfl), .row (by kernel_rfl) (fun _ _ => rfl)⟩ .nil) (by kernel_rfl) (by kernel_rfl)
    intro i hi
    refine aw_seq_k fun K hK => ?_
    refine w_region (n' := 2) (by kernel_rfl) (by kernel_rfl) ?_
    refine aops_n hTT (M := []) (n := 1) [pv (21 : Nat) (V.b (decide ((↑i : Int) < (↑(List.length l) : Int))))] (by kernel_rfl) (by kernel_rfl) True.intro ?_
    refine aops_nil ?_
    refine xt_n ?_
    refine hK _ ?_
    clear hK K
    refine aw_seq_k fun K hK => ?_
    refine w_cond (t := decide ((↑i : Int) < (↑(List.length l) : Int))) (by kernel_rfl) (fun c1 => ?_) (fun c1 => ?_)
    · simp at c1
      refine aw_skip ?_
      refine xt_n ?_
      refine hK _ ?_
      clear hK K
      refine aw_seq_k fun K hK => ?_
      refine aw_block ?_
      refine aw_seq_k fun K hK => ?_
      refine w_region (n' := 3) (by kernel_rfl) (by kernel_rfl) ?_
      refine aops_n hTT (M := []) (n := 6) [pv (22 : Nat) (V.i (↑i : Int)), pc (23 : Nat) ((0 : Int) ≤ (↑i : Int) ∧ (↑i : Int) < (↑(List.length l) : Int)) (V.ptr [V.i (Rc.x0 (rcF l i)), V.i (Rc.y0 (rcF l i)), V.i (Rc.x1 (rcF l i)), V.i (Rc.y1 (rcF l i)), V.b (Rc.down (rcF l i))]), pv (24 : Nat) (V.agg [V.i (Rc.x0 (rcF l i)), V.i (Rc.y0 (rcF l i)), V.i (Rc.x1 (rcF l i)), V.i (Rc.y1 (rcF l i)), V.b (Rc.down (rcF l i))]), pn (8 : Nat) (V.ref (200008 : Nat) (0 : Nat)) (200008 : Nat) (Ob.box (95 : Nat) [V.i (0 : Int), V.i (0 : Int), V.i (0 : Int), V.i (0 : Int), V.b false]), pv (7 : Nat) (V.i (↑i : Int)), pw ((0 : Nat) + (5 : Nat) ≤ (5 : Nat)) (200008 : Nat) (Ob.box (95 : Nat) [V.i (Rc.x0 (rcF l i)), V.i (Rc.y0 (rcF l i)), V.i (Rc.x1 (rcF l i)), V.i (Rc.y1 (rcF l i)), V.b (Rc.down (rcF l i))])] (by kernel_rfl) (by kernel_rfl) ⟨(by omega), (by omega), True.intro⟩ ?_
      refine aops_nil ?_
      refine xt_n ?_
      refine hK _ ?_
      clear hK K
      refine aw_seq_k fun K hK => ?_
      refine aw_seq_k fun K hK => ?_
      refine w_region (n' := 4) (by kernel_rfl) (by kernel_rfl) ?_
      refine aops_n hTT (M := []) (n := 2) [pv (25 : Nat) (V.i (↑i : Int)), pv (9 : Nat) (V.i (↑i : Int))] (by kernel_rfl) (by kernel_rfl) True.intro ?_
      refine aops_nil ?_
      refine xt_n ?_
      refine hK _ ?_
      clear hK K
      refine aw_block ?_
      refine w_loop (ι := Nat × Rc) (fun x => [(0, V.pans l), (4, V.rcs l.length (rcF l)), (6, .own 6), (8, .ref 8 0), (9, .i x.1), (18, V.rcs l.length (rcF l)), (19, .i l.length), (20, .i i)]) (fun x => [(6, .row 95 5 i fun j => (foldR l j).c), (8, .box 95 x.2.c)]) (fun x => x.1 ≤ i ∧ foldC l x.1 x.1 x.2 = foldR l i ∧ x.2.bd (1703936 * (1 + 2 * ((i : Int) - x.1)))) (fun x => x.1) (i, rcF l i) ⟨Nat.le_refl _, rfl, Rc.bd_mono (hN.bd i c1) (by omega)⟩ ?_ ?_
      · refine le_ren (sl := [(6, Ob.row (95 : Nat) (5 : Nat) i fun (j : Nat) => Rc.c (foldR l j)), (8, Ob.box (95 : Nat) [V.i (Rc.x0 (rcF l i)), V.i (Rc.y0 (rcF l i)), V.i (Rc.x1 (rcF l i)), V.i (Rc.y1 (rcF l i)), V.b (Rc.down (rcF l i))])]) [(6, 6), (8, 200008)] (.cons (by kernel_rfl) (.cons (by kernel_rfl) (.cons (by kernel_rfl) (.cons (by kernel_rfl) (.cons (by kernel_rfl) (.cons (by kernel_rfl) (.cons (by kernel_rfl) (.cons (by kernel_rfl) .nil)))))))) (.cons ⟨Ob.row (95 : Nat) (5 : Nat) i fun (j : Nat) => Rc.c (foldR l j), (by kernel_rfl), .row (by kernel_rfl) (fun _ _ => rfl)⟩ (.cons ⟨Ob.box (95 : Nat) [V.i (Rc.x0 (rcF l i)), V.i (Rc.y0 (rcF l i)), V.i (Rc.x1 (rcF l i)), V.i (Rc.y1 (rcF l i)), V.b (Rc.down (rcF l i))], (by kernel_rfl), .box (by kernel_rfl)⟩ .nil)) (by kernel_rfl) (by kernel_rfl)
      rintro ⟨k, b⟩ ⟨hk, hb, hbd⟩
      simp only at hk hb hbd
      refine aw_seq_k fun K hK => ?_
      refine aw_seq_k fun K hK => ?_
      refine w_region (n' := 2) (by kernel_rfl) (by kernel_rfl) ?_
      refine aops_n hTT (M := []) (n := 2) [pv (26 : Nat) (V.i (↑k : Int)), pv (27 : Nat) (V.b (decide ((0 : Int) < (↑k : Int))))] (by kernel_rfl) (by kernel_rfl) True.intro ?_
      refine aops_nil ?_
      refine xt_n ?_
      refine hK _ ?_
      clear hK K
      refine w_cond (t := decide ((0 : Int) < (↑k : Int))) (by kernel_rfl) (fun c2 => ?_) (fun c2 => ?_)
      · simp at c2
        have hq := hN.on k c2 (by omega)
        obtain ⟨⟨o1, o2⟩, _⟩ := hN.okI k c2 (by omega)
        refine aw_skip ?_
        refine xt_n ?_
        refine hK _ ?_
        clear hK K
        refine aw_seq_k fun K hK => ?_
        refine aw_block ?_
        refine w_regionD (n' := 3) (by kernel_rfl) (by kernel_rfl) ?_
        refine aops_n hTT (M := []) (n := 14) [pc (33 : Nat) ((0 : Nat) ≤ (5 : Nat)) (V.agg [V.i (Rc.x0 b), V.i (Rc.y0 b), V.i (Rc.x1 b), V.i (Rc.y1 b), V.b (Rc.down b)]), pv (34 : Nat) (V.sl (5 : Nat) (List.length l) fun (k : Nat) => Rc.c (rcF l k)), pv (35 : Nat) (V.sl (5 : Nat) (List.length l) fun (k : Nat) => Pan.c (gpan l k)), pv (36 : Nat) (V.i (↑k : Int)), pc (37 : Nat) ((0 : Int) ≤ (↑k : Int) ∧ (↑k : Int) < (↑(List.length l) : Int)) (V.ptr [V.i (Pan.on (gpan l k)), V.i (Pan.edge (gpan l k)), V.i (Pan.off (gpan l k)), V.i (Pan.wide (gpan l k)), V.i (Pan.high (gpan l k))]), pv (38 : Nat) (V.ptr [V.i (Pan.on (gpan l k)), V.i (Pan.edge (gpan l k)), V.i (Pan.off (gpan l k)), V.i (Pan.wide (gpan l k)), V.i (Pan.high (gpan l k))]), pv (39 : Nat) (V.i (Pan.on (gpan l k))), pc (40 : Nat) ((0 : Int) ≤ Pan.on (gpan l k) ∧ Pan.on (gpan l k) < (↑(List.length l) : Int)) (V.ptr [V.i (Rc.x0 (rcF l (Int.toNat (Pan.on (gpan l k))))), V.i (Rc.y0 (rcF l (Int.toNat (Pan.on (gpan l k))))), V.i (Rc.x1 (rcF l (Int.toNat (Pan.on (gpan l k))))), V.i (Rc.y1 (rcF l (Int.toNat (Pan.on (gpan l k))))), V.b (Rc.down (rcF l (Int.toNat (Pan.on (gpan l k)))))]), pv (41 : Nat) (V.agg [V.i (Rc.x0 (rcF l (Int.toNat (Pan.on (gpan l k))))), V.i (Rc.y0 (rcF l (Int.toNat (Pan.on (gpan l k))))), V.i (Rc.x1 (rcF l (Int.toNat (Pan.on (gpan l k))))), V.i (Rc.y1 (rcF l (Int.toNat (Pan.on (gpan l k))))), V.b (Rc.down (rcF l (Int.toNat (Pan.on (gpan l k)))))]), pv (42 : Nat) (V.sl (5 : Nat) (List.length l) fun (k : Nat) => Pan.c (gpan l k)), pv (43 : Nat) (V.i (↑k : Int)), pc (44 : Nat) ((0 : Int) ≤ (↑k : Int) ∧ (↑k : Int) < (↑(List.length l) : Int)) (V.ptr [V.i (Pan.on (gpan l k)), V.i (Pan.edge (gpan l k)), V.i (Pan.off (gpan l k)), V.i (Pan.wide (gpan l k)), V.i (Pan.high (gpan l k))]), pv (45 : Nat) (V.ptr [V.i (Pan.edge (gpan l k)), V.i (Pan.off (gpan l k)), V.i (Pan.wide (gpan l k)), V.i (Pan.high (gpan l k))]), pv (46 : Nat) (V.i (Pan.edge (gpan l k)))] (by kernel_rfl) (by kernel_rfl) ⟨(by omega), (by omega), (by omega), (by omega), True.intro⟩ ?_
        refine e_call (first := []) (caps := []) (over_ac b (rcF l (gpan l k).on.toNat) (gpan l k).edge (Rc.bd_mono hbd (by omega)) (Rc.bd_mono (hN.bd _ (by omega)) (by omega))) (by kernel_rfl) (by kernel_rfl) (by kernel_rfl) (by kernel_rfl) (by kernel_rfl) ?_
        refine aops_n hTT (M := []) (n := 1) [pw ((0 : Nat) + (5 : Nat) ≤ (5 : Nat)) (8 : Nat) (Ob.box (95 : Nat) [V.i (Rc.x0 (mirR b (rcF l (Int.toNat (Pan.on (gpan l k)))) (Pan.edge (gpan l k)))), V.i (Rc.y0 (mirR b (rcF l (Int.toNat (Pan.on (gpan l k)))) (Pan.edge (gpan l k)))), V.i (Rc.x1 (mirR b (rcF l (Int.toNat (Pan.on (gpan l k)))) (Pan.edge (gpan l k)))), V.i (Rc.y1 (mirR b (rcF l (Int.toNat (Pan.on (gpan l k)))) (Pan.edge (gpan l k)))), V.b (Rc.down (mirR b (rcF l (Int.toNat (Pan.on (gpan l k)))) (Pan.edge (gpan l k))))])] (by kernel_rfl) (by kernel_rfl) ⟨(by omega), True.intro⟩ ?_
        refine aops_nil ⟨by kernel_rfl, ?_⟩
        refine xb_n ?_
        refine xt_n ?_
        refine hK _ ?_
        clear hK K
        refine w_region (n' := 4) (by kernel_rfl) (by kernel_rfl) ?_
        refine aops_n hTT (M := []) (n := 6) [pv (28 : Nat) (V.sl (5 : Nat) (List.length l) fun (k : Nat) => Pan.c (gpan l k)), pv (29 : Nat) (V.i (↑k : Int)), pc (30 : Nat) ((0 : Int) ≤ (↑k : Int) ∧ (↑k : Int) < (↑(List.length l) : Int)) (V.ptr [V.i (Pan.on (gpan l k)), V.i (Pan.edge (gpan l k)), V.i (Pan.off (gpan l k)), V.i (Pan.wide (gpan l k)), V.i (Pan.high (gpan l k))]), pv (31 : Nat) (V.ptr [V.i (Pan.on (gpan l k)), V.i (Pan.edge (gpan l k)), V.i (Pan.off (gpan l k)), V.i (Pan.wide (gpan l k)), V.i (Pan.high (gpan l k))]), pv (32 : Nat) (V.i (Pan.on (gpan l k))), pv (9 : Nat) (V.i (Pan.on (gpan l k)))] (by kernel_rfl) (by kernel_rfl) ⟨(by omega), True.intro⟩ ?_
        refine aops_nil ?_
        refine xt_n ?_
        refine ⟨((gpan l k).on.toNat, mirR b (rcF l (gpan l k).on.toNat) (gpan l k).edge), ⟨by simp only; omega, by simp only; rw [← foldC_step hN.on b c2 (by omega)]; exact hb, Rc.bd_mono (mirR_bd hbd (hN.bd _ (by omega)) (by omega) (by omega)) (by simp only; omega)⟩, ?_, by simp only; omega⟩
        refine le_ren (tl := [(0, V.sl (5 : Nat) (List.length l) fun (k : Nat) => Pan.c (gpan l k)), (4, V.sl (5 : Nat) (List.length l) fun (k : Nat) => Rc.c (rcF l k)), (6, V.own (6 : Nat)), (8, V.ref (8 : Nat) (0 : Nat)), (9, V.i (↑(Int.toNat (Pan.on (gpan l k))) : Int)), (18, V.sl (5 : Nat) (List.length l) fun (k : Nat) => Rc.c (rcF l k)), (19, V.i (↑(List.length l) : Int)), (20, V.i (↑i : Int))]) (sl := [(6, Ob.row (95 : Nat) (5 : Nat) i fun (j : Nat) => Rc.c (foldR l j)), (8, Ob.box (95 : Nat) [V.i (Rc.x0 (mirR b (rcF l (Int.toNat (Pan.on (gpan l k)))) (Pan.edge (gpan l k)))), V.i (Rc.y0 (mirR b (rcF l (Int.toNat (Pan.on (gpan l k)))) (Pan.edge (gpan l k)))), V.i (Rc.x1 (mirR b (rcF l (Int.toNat (Pan.on (gpan l k)))) (Pan.edge (gpan l k)))), V.i (Rc.y1 (mirR b (rcF l (Int.toNat (Pan.on (gpan l k)))) (Pan.edge (gpan l k)))), V.b (Rc.down (mirR b (rcF l (Int.toNat (Pan.on (gpan l k)))) (Pan.edge (gpan l k))))])]) [(6, 6), (8, 8)] (.cons (by kernel_rfl) (.cons (by kernel_rfl) (.cons (by kernel_rfl) (.cons (by kernel_rfl) (.cons ?_ (.cons (by kernel_rfl) (.cons (by kernel_rfl) (.cons (by kernel_rfl) .nil)))))))) (.cons ⟨Ob.row (95 : Nat) (5 : Nat) i fun (j : Nat) => Rc.c (foldR l j), (by kernel_rfl), .row (by kernel_rfl) (fun _ _ => rfl)⟩ (.cons ⟨Ob.box (95 : Nat) [V.i (Rc.x0 (mirR b (rcF l (Int.toNat (Pan.on (gpan l k)))) (Pan.edge (gpan l k)))), V.i (Rc.y0 (mirR b (rcF l (Int.toNat (Pan.on (gpan l k)))) (Pan.edge (gpan l k)))), V.i (Rc.x1 (mirR b (rcF l (Int.toNat (Pan.on (gpan l k)))) (Pan.edge (gpan l k)))), V.i (Rc.y1 (mirR b (rcF l (Int.toNat (Pan.on (gpan l k)))) (Pan.edge (gpan l k)))), V.b (Rc.down (mirR b (rcF l (Int.toNat (Pan.on (gpan l k)))) (Pan.edge (gpan l k))))], (by kernel_rfl), .box (by kernel_rfl)⟩ .nil)) (by kernel_rfl) (by kernel_rfl)
        exact congrArg V.i (show (gpan l k).on = ((gpan l k).on.toNat : Int) by omega)
      simp at c2
      subst c2
      simp only [foldC] at hb
      subst hb
      refine aw_exit ?_
      refine xt_x ?_
      refine xt_x ?_
      refine xb_same ?_
      refine xt_n ?_
      clear hK K
      refine hK _ ?_
      clear hK K
      refine w_region (n' := 3) (by kernel_rfl) (by kernel_rfl) ?_
      refine aops_n hTT (M := []) (n := 5) [pv (48 : Nat) (V.own (6 : Nat)), pc (49 : Nat) ((0 : Nat) ≤ (5 : Nat)) (V.agg [V.i (Rc.x0 (foldR l i)), V.i (Rc.y0 (foldR l i)), V.i (Rc.x1 (foldR l i)), V.i (Rc.y1 (foldR l i)), V.b (Rc.down (foldR l i))]), pv (50 : Nat) (V.sl (5 : Nat) (1 : Nat) fun (i_1 : Nat) => List.take (5 : Nat) (List.drop (i_1 * (5 : Nat)) [V.i (Rc.x0 (foldR l i)), V.i (Rc.y0 (foldR l i)), V.i (Rc.x1 (foldR l i)), V.i (Rc.y1 (foldR l i)), V.b (Rc.down (foldR l i))])), PR.mk (some (51 : Nat)) (some (i + (1 : Nat) ≤ (1099511627776 : Nat))) (V.own (200051 : Nat)) [((6 : Nat), none), ((200051 : Nat), some (Ob.row (95 : Nat) (5 : Nat) (i + (1 : Nat)) (appRow i (fun (j : Nat) => Rc.c (foldR l j)) fun (i_1 : Nat) => List.take (5 : Nat) (List.drop (i_1 * (5 : Nat)) [V.i (Rc.x0 (foldR l i)), V.i (Rc.y0 (foldR l i)), V.i (Rc.x1 (foldR l i)), V.i (Rc.y1 (foldR l i)), V.b (Rc.down (foldR l i))]))))] false, pv (6 : Nat) (V.own (200051 : Nat))] (by kernel_rfl) (by kernel_rfl) ⟨(by omega), (by omega), True.intro⟩ ?_
      refine aops_nil ?_
      refine xb_n ?_
      refine xt_n ?_
      refine hK _ ?_
      clear hK K
      refine w_region (n' := 4) (by kernel_rfl) (by kernel_rfl) ?_
      refine aops_n hTT (M := []) (n := 2) [pc (52 : Nat) ((-9223372036854775808 : Int) ≤ (↑i : Int) + (1 : Int) ∧ (↑i : Int) + (1 : Int) ≤ (9223372036854775807 : Int)) (V.i ((↑i : Int) + (1 : Int))), pv (20 : Nat) (V.i ((↑i : Int) + (1 : Int)))] (by kernel_rfl) (by kernel_rfl) ⟨(by omega), True.intro⟩ ?_
      refine aops_nil ?_
      refine xt_n ?_
      refine ⟨i + 1, by omega, ?_, by omega⟩
      refine le_ren (tl := [(0, V.sl (5 : Nat) (List.length l) fun (k : Nat) => Pan.c (gpan l k)), (4, V.sl (5 : Nat) (List.length l) fun (k : Nat) => Rc.c (rcF l k)), (6, V.own (6 : Nat)), (18, V.sl (5 : Nat) (List.length l) fun (k : Nat) => Rc.c (rcF l k)), (19, V.i (↑(List.length l) : Int)), (20, V.i (↑(i + (1 : Nat)) : Int))]) (sl := [(6, Ob.row (95 : Nat) (5 : Nat) (i + (1 : Nat)) fun (j : Nat) => Rc.c (foldR l j))]) [(6, 200051)] (.cons (by kernel_rfl) (.cons (by kernel_rfl) (.cons (by kernel_rfl) (.cons (by kernel_rfl) (.cons (by kernel_rfl) (.cons (by kernel_rfl) .nil)))))) (.cons ⟨Ob.row (95 : Nat) (5 : Nat) (i + (1 : Nat)) (appRow i (fun (j : Nat) => Rc.c (foldR l j)) fun (i_1 : Nat) => List.take (5 : Nat) (List.drop (i_1 * (5 : Nat)) [V.i (Rc.x0 (foldR l i)), V.i (Rc.y0 (foldR l i)), V.i (Rc.x1 (foldR l i)), V.i (Rc.y1 (foldR l i)), V.b (Rc.down (foldR l i))])), (by kernel_rfl), .row (by kernel_rfl) ?_⟩ .nil) (by kernel_rfl) (by kernel_rfl)
      exact appRow_ok (fun _ _ => rfl) rfl
    simp at c1
    obtain rfl : i = l.length := by omega
    refine aw_exit ?_
    refine xt_x ?_
    refine xt_x ?_
    refine xb_same ?_
    refine xt_n ?_
    clear hK K
    refine hK _ ?_
    clear hK K
    refine aw_seq_k fun K hK => ?_
    refine w_region (n' := 3) (by kernel_rfl) (by kernel_rfl) ?_
    refine aops_n hTT (M := []) (n := 3) [pv (53 : Nat) (V.own (6 : Nat)), pv (2 : Nat) (V.own (6 : Nat)), pv (3 : Nat) (V.i (0 : Int))] (by kernel_rfl) (by kernel_rfl) True.intro ?_
    refine aops_nil ?_
    refine xt_n ?_
    refine hK _ ?_
    clear hK K
    refine aw_ret ?_
    rw [foldV, if_pos hE]
    refine ret_of_le (le_shut 2 6 (e := (95 : Nat)) (sz := (5 : Nat)) (n := List.length l) (n' := l.length) (row := fun (j : Nat) => Rc.c (foldR l j)) (row' := (fun j => (foldR l j).c)) (by kernel_rfl) (by kernel_rfl) (fun _ _ => rfl) ?_ ?_) ?_
    · rfl
    · exact fun _ _ => rfl
    refine ret_pure (v' := V.tup [V.sl (5 : Nat) (List.length l) fun (j : Nat) => Rc.c (foldR l j), V.i (0 : Int)]) (.inr rfl) (by kernel_rfl) (by kernel_rfl) (by kernel_rfl)
  · rw [flatV, if_neg hE] at A
    refine e_call (first := []) (caps := []) (A) (by kernel_rfl) (by kernel_rfl) (by kernel_rfl) (by kernel_rfl) (by kernel_rfl) ?_
    refine aops_n hTT (M := []) (n := 5) [pv (10 : Nat) (V.tup [V.nil, V.i (netE l)]), pv (13 : Nat) V.nil, pv (14 : Nat) (V.i (netE l)), pv (4 : Nat) V.nil, pv (5 : Nat) (V.i (netE l))] (by kernel_rfl) (by kernel_rfl) True.intro ?_
    refine aops_nil ?_
    refine xt_n ?_
    refine hK _ ?_
    clear hK K
    refine aw_seq_k fun K hK => ?_
    refine aw_seq_k fun K hK => ?_
    refine w_region (n' := 4) (by kernel_rfl) (by kernel_rfl) ?_
    refine aops_n hTT (M := []) (n := 2) [pv (15 : Nat) (V.i (netE l)), pv (16 : Nat) (V.b !decide (netE l = (0 : Int)))] (by kernel_rfl) (by kernel_rfl) True.intro ?_
    refine aops_nil ?_
    refine xt_n ?_
    refine hK _ ?_
    clear hK K
    refine w_cond (t := !decide (netE l = (0 : Int))) (by kernel_rfl) (fun c1 => ?_) (fun c1 => ?_)
    · refine aw_seq_k fun K hK => ?_
      refine w_region (n' := 5) (by kernel_rfl) (by kernel_rfl) ?_
      refine aops_n hTT (M := []) (n := 3) [pv (17 : Nat) (V.i (netE l)), pv (2 : Nat) V.nil, pv (3 : Nat) (V.i (netE l))] (by kernel_rfl) (by kernel_rfl) True.intro ?_
      refine aops_nil ?_
      refine xt_n ?_
      refine hK _ ?_
      clear hK K
      refine aw_ret ?_
      refine xt_r ?_
      rw [foldV, if_neg hE]
      refine ret_pure (v' := V.tup [V.nil, V.i (netE l)]) (.inr rfl) (by kernel_rfl) (by kernel_rfl) (by kernel_rfl)
    · simp at c1
      exact absurd c1 hE
set_option maxRecDepth 100000 in
theorem patches_ac (n : Nat) (f : Nat → Rc) (e : Int) (hn : n ≤ 4096) : AC Tryd.prog 61 [V.rcs n f, .i e] (.tup [V.rcs n f, .i e]) [] := by
  refine ac_intro hTT hMX (fn := Tryd.f61) (N := _) ⟨Tryd.func61, rfl, Tryd.ntmps61, by kernel_rfl⟩ (by simp) fun C hC hF => ?_
  refine aw_seq_k fun K hK => ?_
  refine w_region (n' := 2) (by kernel_rfl) (by kernel_rfl) ?_
  refine aops_n hTT (M := []) (n := 2) [pv (4 : Nat) V.nil, pv (5 : Nat) (V.i (0 : Int))] (by kernel_rfl) (by kernel_rfl) True.intro ?_
  refine aops_nil ?_
  refine xt_n ?_
  refine hK _ ?_
  clear hK K
  refine aw_seq_k fun K hK => ?_
  refine w_region (n' := 3) (by kernel_rfl) (by kernel_rfl) ?_
  refine aops_n hTT (M := []) (n := 1) [pv (6 : Nat) V.nil] (by kernel_rfl) (by kernel_rfl) True.intro ?_
  refine aops_nil ?_
  refine xt_n ?_
  refine hK _ ?_
  clear hK K
  refine aw_seq_k fun K hK => ?_
  refine aw_seq_k fun K hK => ?_
  refine w_region (n' := 4) (by kernel_rfl) (by kernel_rfl) ?_
  refine aops_n hTT (M := []) (n := 3) [pv (9 : Nat) (V.sl (5 : Nat) n fun (k : Nat) => Rc.c (f k)), pv (10 : Nat) (V.i (↑n : Int)), pv (11 : Nat) (V.i (0 : Int))] (by kernel_rfl) (by kernel_rfl) True.intro ?_
  refine aops_nil ?_
  refine xt_n ?_
  refine hK _ ?_
  clear hK K
  refine aw_block ?_
  refine w_le (le_open 6 52 5 (fun k => (f k).c) (by kernel_rfl) rfl) ?_
  refine w_loop (ι := Nat) (fun k => [(1, .i e), (6, .own 6), (9, V.rcs n f), (10, .i n), (11, .i k)]) (fun k => [(6, .row 52 5 k fun j => (f j).c)]) (fun k => k ≤ n) (fun k => n - k) 0 (Nat.zero_le _) ?_ ?_
  · refine le_ren (sl := [(6, Ob.row (52 : Nat) (5 : Nat) (0 : Nat) fun (j : Nat) => Rc.c (f j))]) [(6, 400006)] (.cons (by kernel_rfl) (.cons (by kernel_rfl) (.cons (by kernel_rfl) (.cons (by kernel_rfl) (.cons (by kernel_rfl) .nil))))) (.cons ⟨Ob.row (52 : Nat) (5 : Nat) (0 : Nat) fun (k : Nat) => Rc.c (f k), (by kernel_rfl), .row (by kernel_rfl) (fun _ _ => rfl)⟩ .nil) (by kernel_rfl) (by kernel_rfl)
  intro i hi
  refine aw_seq_k fun K hK => ?_
  refine w_region (n' := 2) (by kernel_rfl) (by kernel_rfl) ?_
  refine aops_n hTT (M := []) (n := 1) [pv (12 : Nat) (V.b (decide ((↑i : Int) < (↑n : Int))))] (by kernel_rfl) (by kernel_rfl) True.intro ?_
  refine aops_nil ?_
  refine xt_n ?_
  refine hK _ ?_
  clear hK K
  refine aw_seq_k fun K hK => ?_
  refine w_cond (t := decide ((↑i : Int) < (↑n : Int))) (by kernel_rfl) (fun c1 => ?_) (fun c1 => ?_)
  · simp at c1
    refine aw_skip ?_
    refine xt_n ?_
    refine hK _ ?_
    clear hK K
    refine aw_seq_k fun K hK => ?_
    refine aw_block ?_
    refine aw_seq_k fun K hK => ?_
    refine w_region (n' := 3) (by kernel_rfl) (by kernel_rfl) ?_
    refine aops_n hTT (M := []) (n := 4) [pc (13 : Nat) ((0 : Int) ≤ (↑i : Int) ∧ (↑i : Int) < (↑n : Int)) (V.ptr [V.i (Rc.x0 (f i)), V.i (Rc.y0 (f i)), V.i (Rc.x1 (f i)), V.i (Rc.y1 (f i)), V.b (Rc.down (f i))]), pv (14 : Nat) (V.agg [V.i (Rc.x0 (f i)), V.i (Rc.y0 (f i)), V.i (Rc.x1 (f i)), V.i (Rc.y1 (f i)), V.b (Rc.down (f i))]), pn (8 : Nat) (V.ref (200008 : Nat) (0 : Nat)) (200008 : Nat) (Ob.box (95 : Nat) [V.i (0 : Int), V.i (0 : Int), V.i (0 : Int), V.i (0 : Int), V.b false]), pw ((0 : Nat) + (5 : Nat) ≤ (5 : Nat)) (200008 : Nat) (Ob.box (95 : Nat) [V.i (Rc.x0 (f i)), V.i (Rc.y0 (f i)), V.i (Rc.x1 (f i)), V.i (Rc.y1 (f i)), V.b (Rc.down (f i))])] (by kernel_rfl) (by kernel_rfl) ⟨(by omega), (by omega), True.intro⟩ ?_
    refine aops_nil ?_
    refine xt_n ?_
    refine hK _ ?_
    clear hK K
    refine w_region (n' := 4) (by kernel_rfl) (by kernel_rfl) ?_
    refine aops_n hTT (M := []) (n := 6) [pv (15 : Nat) (V.own (6 : Nat)), pv (16 : Nat) (V.ref (200008 : Nat) (0 : Nat)), pc (17 : Nat) ((0 : Nat) ≤ (5 : Nat)) (V.agg [V.i (Rc.x0 (f i)), V.i (Rc.y0 (f i)), V.i (Rc.x1 (f i)), V.i (Rc.y1 (f i)), V.b (Rc.down (f i))]), pv (18 : Nat) (V.sl (5 : Nat) (1 : Nat) fun (i_1 : Nat) => List.take (5 : Nat) (List.drop (i_1 * (5 : Nat)) [V.i (Rc.x0 (f i)), V.i (Rc.y0 (f i)), V.i (Rc.x1 (f i)), V.i (Rc.y1 (f i)), V.b (Rc.down (f i))])), PR.mk (some (19 : Nat)) (some (i + (1 : Nat) ≤ (1099511627776 : Nat))) (V.own (300019 : Nat)) [((6 : Nat), none), ((300019 : Nat), some (Ob.row (52 : Nat) (5 : Nat) (i + (1 : Nat)) (appRow i (fun (j : Nat) => Rc.c (f j)) fun (i_1 : Nat) => List.take (5 : Nat) (List.drop (i_1 * (5 : Nat)) [V.i (Rc.x0 (f i)), V.i (Rc.y0 (f i)), V.i (Rc.x1 (f i)), V.i (Rc.y1 (f i)), V.b (Rc.down (f i))]))))] false, pv (6 : Nat) (V.own (300019 : Nat))] (by kernel_rfl) (by kernel_rfl) ⟨(by omega), (by omega), True.intro⟩ ?_
    refine aops_nil ?_
    refine xb_n ?_
    refine xt_n ?_
    refine hK _ ?_
    clear hK K
    refine w_region (n' := 5) (by kernel_rfl) (by kernel_rfl) ?_
    refine aops_n hTT (M := []) (n := 2) [pc (20 : Nat) ((-9223372036854775808 : Int) ≤ (↑i : Int) + (1 : Int) ∧ (↑i : Int) + (1 : Int) ≤ (9223372036854775807 : Int)) (V.i ((↑i : Int) + (1 : Int))), pv (11 : Nat) (V.i ((↑i : Int) + (1 : Int)))] (by kernel_rfl) (by kernel_rfl) ⟨(by omega), True.intro⟩ ?_
    refine aops_nil ?_
    refine xt_n ?_
    refine ⟨i + 1, by omega, ?_, by omega⟩
    refine le_ren (tl := [(1, V.i e), (6, V.own (6 : Nat)), (9, V.sl (5 : Nat) n fun (k : Nat) => Rc.c (f k)), (10, V.i (↑n : Int)), (11, V.i (↑(i + (1 : Nat)) : Int))]) (sl := [(6, Ob.row (52 : Nat) (5 : Nat) (i + (1 : Nat)) fun (j : Nat) => Rc.c (f j))]) [(6, 300019)] (.cons (by kernel_rfl) (.cons (by kernel_rfl) (.cons (by kernel_rfl) (.cons (by kernel_rfl) (.cons (by kernel_rfl) .nil))))) (.cons ⟨Ob.row (52 : Nat) (5 : Nat) (i + (1 : Nat)) (appRow i (fun (j : Nat) => Rc.c (f j)) fun (i_1 : Nat) => List.take (5 : Nat) (List.drop (i_1 * (5 : Nat)) [V.i (Rc.x0 (f i)), V.i (Rc.y0 (f i)), V.i (Rc.x1 (f i)), V.i (Rc.y1 (f i)), V.b (Rc.down (f i))])), (by kernel_rfl), .row (by kernel_rfl) ?_⟩ .nil) (by kernel_rfl) (by kernel_rfl)
    exact appRow_ok (fun _ _ => rfl) rfl
  simp at c1
  obtain rfl : i = n := by omega
  refine aw_exit ?_
  refine xt_x ?_
  refine xt_x ?_
  refine xb_same ?_
  refine xt_n ?_
  clear hK K
  refine hK _ ?_
  clear hK K
  refine aw_seq_k fun K hK => ?_
  refine w_region (n' := 3) (by kernel_rfl) (by kernel_rfl) ?_
  refine aops_n hTT (M := []) (n := 4) [pv (21 : Nat) (V.own (6 : Nat)), pv (22 : Nat) (V.i e), pv (4 : Nat) (V.own (6 : Nat)), pv (5 : Nat) (V.i e)] (by kernel_rfl) (by kernel_rfl) True.intro ?_
  refine aops_nil ?_
  refine xt_n ?_
  refine hK _ ?_
  clear hK K
  refine aw_ret ?_
  refine ret_of_le (le_shut 4 6 (e := (52 : Nat)) (sz := (5 : Nat)) (n := i) (n' := i) (row := fun (j : Nat) => Rc.c (f j)) (row' := (fun j => (f j).c)) (by kernel_rfl) (by kernel_rfl) (fun _ _ => rfl) ?_ ?_) ?_
  · rfl
  · exact fun _ _ => rfl
  refine ret_pure (v' := V.tup [V.sl (5 : Nat) i fun (j : Nat) => Rc.c (f j), V.i e]) (.inr rfl) (by kernel_rfl) (by kernel_rfl) (by kernel_rfl)
theorem RImp_nil (sz : Nat) (row : Nat → List V) : RImp .nil (.sl sz 0 row) := fun w L x h => by
  cases h; exact .sl0 _ _ _ _ _
theorem netN_1 {l : List Pan} (h : netE l = 0) : netN l = l.length := by rw [netN, if_pos h]
theorem netN_2 {l : List Pan} (h : ¬ netE l = 0) : netN l = 0 := by rw [netN, if_neg h]
set_option maxRecDepth 100000 in
theorem Flat_ac (l : List Pan) (hl : l.length ≤ 4611686018427387904) : AC Tryd.prog 29 [V.pans l] (.tup [V.rcs (netN l) (rcF l), .i (netE l)]) [] := by
  refine ac_intro hTT hMX (fn := Tryd.f29) (N := _) ⟨Tryd.func29, rfl, Tryd.ntmps29, by kernel_rfl⟩ (by simp) fun C hC hF => ?_
  have A := flat_ac l hl
  refine aw_seq_k fun K hK => ?_
  refine w_region (n' := 2) (by kernel_rfl) (by kernel_rfl) ?_
  refine aops_n hTT (M := []) (n := 2) [pv (2 : Nat) V.nil, pv (3 : Nat) (V.i (0 : Int))] (by kernel_rfl) (by kernel_rfl) True.intro ?_
  refine aops_nil ?_
  refine xt_n ?_
  refine hK _ ?_
  clear hK K
  refine aw_seq_k fun K hK => ?_
  refine w_region (n' := 3) (by kernel_rfl) (by kernel_rfl) ?_
  refine aops_n hTT (M := []) (n := 1) [pv (4 : Nat) (V.sl (5 : Nat) (List.length l) fun (k : Nat) => Pan.c (gpan l k))] (by kernel_rfl) (by kernel_rfl) True.intro ?_
  by_cases hE : netE l = 0
  · rw [flatV, if_pos hE] at A
    have hN := netOk hE
    have hle := hN.le
    refine e_call (first := []) (caps := []) (A) (by kernel_rfl) (by kernel_rfl) (by kernel_rfl) (by kernel_rfl) (by kernel_rfl) ?_
    refine aops_n hTT (M := []) (n := 2) [pv (6 : Nat) (V.sl (5 : Nat) (List.length l) fun (k : Nat) => Rc.c (rcF l k)), pv (7 : Nat) (V.i (0 : Int))] (by kernel_rfl) (by kernel_rfl) True.intro ?_
    refine e_call (first := []) (caps := []) (patches_ac l.length (rcF l) 0 (by omega)) (by kernel_rfl) (by kernel_rfl) (by kernel_rfl) (by kernel_rfl) (by kernel_rfl) ?_
    refine aops_n hTT (M := []) (n := 4) [pv (9 : Nat) (V.sl (5 : Nat) (List.length l) fun (k : Nat) => Rc.c (rcF l k)), pv (10 : Nat) (V.i (0 : Int)), pv (2 : Nat) (V.sl (5 : Nat) (List.length l) fun (k : Nat) => Rc.c (rcF l k)), pv (3 : Nat) (V.i (0 : Int))] (by kernel_rfl) (by kernel_rfl) True.intro ?_
    refine aops_nil ?_
    refine xt_n ?_
    refine hK _ ?_
    clear hK K
    refine aw_ret ?_
    rw [netN_1 hE, hE]
    refine ret_pure (v' := V.tup [V.sl (5 : Nat) (List.length l) fun (k : Nat) => Rc.c (rcF l k), V.i (0 : Int)]) (.inr rfl) (by kernel_rfl) (by kernel_rfl) (by kernel_rfl)
  · rw [flatV, if_neg hE] at A
    refine e_call (first := []) (caps := []) (A) (by kernel_rfl) (by kernel_rfl) (by kernel_rfl) (by kernel_rfl) (by kernel_rfl) ?_
    refine aops_n hTT (M := []) (n := 2) [pv (6 : Nat) V.nil, pv (7 : Nat) (V.i (netE l))] (by kernel_rfl) (by kernel_rfl) True.intro ?_
    refine e_call (first := []) (caps := []) (AC.conv (patches_ac 0 (rcF l) (netE l) (by omega)) (args' := [V.nil, V.i (netE l)]) ⟨?_, RImp.refl _, trivial⟩) (by kernel_rfl) (by kernel_rfl) (by kernel_rfl) (by kernel_rfl) (by kernel_rfl) ?_
    · exact RImp_nil _ _
    refine aops_n hTT (M := []) (n := 4) [pv (9 : Nat) (V.sl (5 : Nat) (0 : Nat) fun (k : Nat) => Rc.c (rcF l k)), pv (10 : Nat) (V.i (netE l)), pv (2 : Nat) (V.sl (5 : Nat) (0 : Nat) fun (k : Nat) => Rc.c (rcF l k)), pv (3 : Nat) (V.i (netE l))] (by kernel_rfl) (by kernel_rfl) True.intro ?_
    refine aops_nil ?_
    refine xt_n ?_
    refine hK _ ?_
    clear hK K
    refine aw_ret ?_
    rw [netN_2 hE]
    refine ret_pure (v' := V.tup [V.sl (5 : Nat) (0 : Nat) fun (k : Nat) => Rc.c (rcF l k), V.i (netE l)]) (.inr rfl) (by kernel_rfl) (by kernel_rfl) (by kernel_rfl)
set_option maxRecDepth 100000 in
theorem Folded_ac (l : List Pan) (hl : l.length ≤ 4611686018427387904) : AC Tryd.prog 28 [V.pans l] (.tup [V.rcs (netN l) (foldR l), .i (netE l)]) [] := by
  refine ac_intro hTT hMX (fn := Tryd.f28) (N := _) ⟨Tryd.func28, rfl, Tryd.ntmps28, by kernel_rfl⟩ (by simp) fun C hC hF => ?_
  have A := folded_ac l hl
  refine aw_seq_k fun K hK => ?_
  refine w_region (n' := 2) (by kernel_rfl) (by kernel_rfl) ?_
  refine aops_n hTT (M := []) (n := 2) [pv (2 : Nat) V.nil, pv (3 : Nat) (V.i (0 : Int))] (by kernel_rfl) (by kernel_rfl) True.intro ?_
  refine aops_nil ?_
  refine xt_n ?_
  refine hK _ ?_
  clear hK K
  refine aw_seq_k fun K hK => ?_
  refine w_region (n' := 3) (by kernel_rfl) (by kernel_rfl) ?_
  refine aops_n hTT (M := []) (n := 1) [pv (4 : Nat) (V.sl (5 : Nat) (List.length l) fun (k : Nat) => Pan.c (gpan l k))] (by kernel_rfl) (by kernel_rfl) True.intro ?_
  by_cases hE : netE l = 0
  · rw [foldV, if_pos hE] at A
    have hN := netOk hE
    have hle := hN.le
    refine e_call (first := []) (caps := []) (A) (by kernel_rfl) (by kernel_rfl) (by kernel_rfl) (by kernel_rfl) (by kernel_rfl) ?_
    refine aops_n hTT (M := []) (n := 2) [pv (6 : Nat) (V.sl (5 : Nat) (List.length l) fun (k : Nat) => Rc.c (foldR l k)), pv (7 : Nat) (V.i (0 : Int))] (by kernel_rfl) (by kernel_rfl) True.intro ?_
    refine e_call (first := []) (caps := []) (patches_ac l.length (foldR l) 0 (by omega)) (by kernel_rfl) (by kernel_rfl) (by kernel_rfl) (by kernel_rfl) (by kernel_rfl) ?_
    refine aops_n hTT (M := []) (n := 4) [pv (9 : Nat) (V.sl (5 : Nat) (List.length l) fun (k : Nat) => Rc.c (foldR l k)), pv (10 : Nat) (V.i (0 : Int)), pv (2 : Nat) (V.sl (5 : Nat) (List.length l) fun (k : Nat) => Rc.c (foldR l k)), pv (3 : Nat) (V.i (0 : Int))] (by kernel_rfl) (by kernel_rfl) True.intro ?_
    refine aops_nil ?_
    refine xt_n ?_
    refine hK _ ?_
    clear hK K
    refine aw_ret ?_
    rw [netN_1 hE, hE]
    refine ret_pure (v' := V.tup [V.sl (5 : Nat) (List.length l) fun (k : Nat) => Rc.c (foldR l k), V.i (0 : Int)]) (.inr rfl) (by kernel_rfl) (by kernel_rfl) (by kernel_rfl)
  · rw [foldV, if_neg hE] at A
    refine e_call (first := []) (caps := []) (A) (by kernel_rfl) (by kernel_rfl) (by kernel_rfl) (by kernel_rfl) (by kernel_rfl) ?_
    refine aops_n hTT (M := []) (n := 2) [pv (6 : Nat) V.nil, pv (7 : Nat) (V.i (netE l))] (by kernel_rfl) (by kernel_rfl) True.intro ?_
    refine e_call (first := []) (caps := []) (AC.conv (patches_ac 0 (foldR l) (netE l) (by omega)) (args' := [V.nil, V.i (netE l)]) ⟨?_, RImp.refl _, trivial⟩) (by kernel_rfl) (by kernel_rfl) (by kernel_rfl) (by kernel_rfl) (by kernel_rfl) ?_
    · exact RImp_nil _ _
    refine aops_n hTT (M := []) (n := 4) [pv (9 : Nat) (V.sl (5 : Nat) (0 : Nat) fun (k : Nat) => Rc.c (foldR l k)), pv (10 : Nat) (V.i (netE l)), pv (2 : Nat) (V.sl (5 : Nat) (0 : Nat) fun (k : Nat) => Rc.c (foldR l k)), pv (3 : Nat) (V.i (netE l))] (by kernel_rfl) (by kernel_rfl) True.intro ?_
    refine aops_nil ?_
    refine xt_n ?_
    refine hK _ ?_
    clear hK K
    refine aw_ret ?_
    rw [netN_2 hE]
    refine ret_pure (v' := V.tup [V.sl (5 : Nat) (0 : Nat) fun (k : Nat) => Rc.c (foldR l k), V.i (netE l)]) (.inr rfl) (by kernel_rfl) (by kernel_rfl) (by kernel_rfl)
set_option maxRecDepth 100000 in
theorem CheckNet_ac (l : List Pan) (hl : l.length ≤ 4611686018427387904) : AC Tryd.prog 37 [V.pans l] (.i (netE l)) [] := by
  refine ac_intro hTT hMX (fn := Tryd.f37) (N := _) ⟨Tryd.func37, rfl, Tryd.ntmps37, by kernel_rfl⟩ (by simp) fun C hC hF => ?_
  have A := flat_ac l hl
  refine aw_seq_k fun K hK => ?_
  refine w_region (n' := 2) (by kernel_rfl) (by kernel_rfl) ?_
  refine aops_n hTT (M := []) (n := 1) [pv (2 : Nat) (V.i (0 : Int))] (by kernel_rfl) (by kernel_rfl) True.intro ?_
  refine aops_nil ?_
  refine xt_n ?_
  refine hK _ ?_
  clear hK K
  refine aw_seq_k fun K hK => ?_
  refine w_region (n' := 3) (by kernel_rfl) (by kernel_rfl) ?_
  refine aops_n hTT (M := []) (n := 1) [pv (6 : Nat) (V.sl (5 : Nat) (List.length l) fun (k : Nat) => Pan.c (gpan l k))] (by kernel_rfl) (by kernel_rfl) True.intro ?_
  by_cases hE : netE l = 0
  · rw [flatV, if_pos hE] at A
    refine e_call (first := []) (caps := []) (A) (by kernel_rfl) (by kernel_rfl) (by kernel_rfl) (by kernel_rfl) (by kernel_rfl) ?_
    refine aops_n hTT (M := []) (n := 5) [pv (5 : Nat) (V.tup [V.sl (5 : Nat) (List.length l) fun (k : Nat) => Rc.c (rcF l k), V.i (0 : Int)]), pv (8 : Nat) (V.sl (5 : Nat) (List.length l) fun (k : Nat) => Rc.c (rcF l k)), pv (9 : Nat) (V.i (0 : Int)), pv (3 : Nat) (V.sl (5 : Nat) (List.length l) fun (k : Nat) => Rc.c (rcF l k)), pv (4 : Nat) (V.i (0 : Int))] (by kernel_rfl) (by kernel_rfl) True.intro ?_
    refine aops_nil ?_
    refine xt_n ?_
    refine hK _ ?_
    clear hK K
    refine aw_seq_k fun K hK => ?_
    refine w_region (n' := 4) (by kernel_rfl) (by kernel_rfl) ?_
    refine aops_n hTT (M := []) (n := 2) [pv (10 : Nat) (V.i (0 : Int)), pv (2 : Nat) (V.i (0 : Int))] (by kernel_rfl) (by kernel_rfl) True.intro ?_
    refine aops_nil ?_
    refine xt_n ?_
    refine hK _ ?_
    clear hK K
    refine aw_ret ?_
    rw [hE]
    refine ret_pure (v' := V.i (0 : Int)) (.inr rfl) (by kernel_rfl) (by kernel_rfl) (by kernel_rfl)
  · rw [flatV, if_neg hE] at A
    refine e_call (first := []) (caps := []) (A) (by kernel_rfl) (by kernel_rfl) (by kernel_rfl) (by kernel_rfl) (by kernel_rfl) ?_
    refine aops_n hTT (M := []) (n := 5) [pv (5 : Nat) (V.tup [V.nil, V.i (netE l)]), pv (8 : Nat) V.nil, pv (9 : Nat) (V.i (netE l)), pv (3 : Nat) V.nil, pv (4 : Nat) (V.i (netE l))] (by kernel_rfl) (by kernel_rfl) True.intro ?_
    refine aops_nil ?_
    refine xt_n ?_
    refine hK _ ?_
    clear hK K
    refine aw_seq_k fun K hK => ?_
    refine w_region (n' := 4) (by kernel_rfl) (by kernel_rfl) ?_
    refine aops_n hTT (M := []) (n := 2) [pv (10 : Nat) (V.i (netE l)), pv (2 : Nat) (V.i (netE l))] (by kernel_rfl) (by kernel_rfl) True.intro ?_
    refine aops_nil ?_
    refine xt_n ?_
    refine hK _ ?_
    clear hK K
    refine aw_ret ?_
    refine ret_pure (v' := V.i (netE l)) (.inr rfl) (by kernel_rfl) (by kernel_rfl) (by kernel_rfl)
set_option maxRecDepth 100000 in
theorem Layers_ac (l : List Pan) (x y : Int) (hl : l.length ≤ 4611686018427387904) : AC Tryd.prog 33 [V.pans l, .i x, .i y] (.tup [.i (cntL (foldR l) x y (netN l) : Nat), .i (netE l)]) [] := by
  refine ac_intro hTT hMX (fn := Tryd.f33) (N := _) ⟨Tryd.func33, rfl, Tryd.ntmps33, by kernel_rfl⟩ (by simp) fun C hC hF => ?_
  have A := folded_ac l hl
  refine aw_seq_k fun K hK => ?_
  refine w_region (n' := 2) (by kernel_rfl) (by kernel_rfl) ?_
  refine aops_n hTT (M := []) (n := 2) [pv (6 : Nat) (V.i (0 : Int)), pv (7 : Nat) (V.i (0 : Int))] (by kernel_rfl) (by kernel_rfl) True.intro ?_
  refine aops_nil ?_
  refine xt_n ?_
  refine hK _ ?_
  clear hK K
  refine aw_seq_k fun K hK => ?_
  refine w_region (n' := 3) (by kernel_rfl) (by kernel_rfl) ?_
  refine aops_n hTT (M := []) (n := 1) [pv (14 : Nat) (V.sl (5 : Nat) (List.length l) fun (k : Nat) => Pan.c (gpan l k))] (by kernel_rfl) (by kernel_rfl) True.intro ?_
  by_cases hE : netE l = 0
  · rw [foldV, if_pos hE] at A
    have hN := netOk hE
    have hle := hN.le
    refine e_call (first := []) (caps := []) (A) (by kernel_rfl) (by kernel_rfl) (by kernel_rfl) (by kernel_rfl) (by kernel_rfl) ?_
    refine aops_n hTT (M := []) (n := 5) [pv (13 : Nat) (V.tup [V.sl (5 : Nat) (List.length l) fun (k : Nat) => Rc.c (foldR l k), V.i (0 : Int)]), pv (16 : Nat) (V.sl (5 : Nat) (List.length l) fun (k : Nat) => Rc.c (foldR l k)), pv (17 : Nat) (V.i (0 : Int)), pv (8 : Nat) (V.sl (5 : Nat) (List.length l) fun (k : Nat) => Rc.c (foldR l k)), pv (9 : Nat) (V.i (0 : Int))] (by kernel_rfl) (by kernel_rfl) True.intro ?_
    refine aops_nil ?_
    refine xt_n ?_
    refine hK _ ?_
    clear hK K
    refine aw_seq_k fun K hK => ?_
    refine w_region (n' := 4) (by kernel_rfl) (by kernel_rfl) ?_
    refine aops_n hTT (M := []) (n := 1) [pv (10 : Nat) (V.i (0 : Int))] (by kernel_rfl) (by kernel_rfl) True.intro ?_
    refine aops_nil ?_
    refine xt_n ?_
    refine hK _ ?_
    clear hK K
    refine aw_seq_k fun K hK => ?_
    refine aw_seq_k fun K hK => ?_
    refine w_region (n' := 5) (by kernel_rfl) (by kernel_rfl) ?_
    refine aops_n hTT (M := []) (n := 3) [pv (18 : Nat) (V.sl (5 : Nat) (List.length l) fun (k : Nat) => Rc.c (foldR l k)), pv (19 : Nat) (V.i (↑(List.length l) : Int)), pv (20 : Nat) (V.i (0 : Int))] (by kernel_rfl) (by kernel_rfl) True.intro ?_
    refine aops_nil ?_
    refine xt_n ?_
    refine hK _ ?_
    clear hK K
    refine aw_block ?_
    refine w_loop (ι := Nat) (fun k => [(1, .i x), (2, .i y), (9, .i 0), (10, .i (cntL (foldR l) x y k : Nat)), (18, V.rcs l.length (foldR l)), (19, .i l.length), (20, .i k)]) (fun k => []) (fun k => k ≤ l.length) (fun k => l.length - k) 0 (Nat.zero_le _) ?_ ?_
    · refine le_ren [] (.cons (by kernel_rfl) (.cons (by kernel_rfl) (.cons (by kernel_rfl) (.cons (by kernel_rfl) (.cons (by kernel_rfl) (.cons (by kernel_rfl) (.cons (by kernel_rfl) .nil))))))) .nil (by kernel_rfl) (by kernel_rfl)
    intro k hk
    have hcl := cntL_le (foldR l) x y k
    refine aw_seq_k fun K hK => ?_
    refine w_region (n' := 2) (by kernel_rfl) (by kernel_rfl) ?_
    refine aops_n hTT (M := []) (n := 1) [pv (21 : Nat) (V.b (decide ((↑k : Int) < (↑(List.length l) : Int))))] (by kernel_rfl) (by kernel_rfl) True.intro ?_
    refine aops_nil ?_
    refine xt_n ?_
    refine hK _ ?_
    clear hK K
    refine aw_seq_k fun K hK => ?_
    refine w_cond (t := decide ((↑k : Int) < (↑(List.length l) : Int))) (by kernel_rfl) (fun c1 => ?_) (fun c1 => ?_)
    · simp at c1
      refine aw_skip ?_
      refine xt_n ?_
      refine hK _ ?_
      clear hK K
      refine aw_seq_k fun K hK => ?_
      refine aw_block ?_
      refine aw_seq_k fun K hK => ?_
      refine w_region (n' := 3) (by kernel_rfl) (by kernel_rfl) ?_
      refine aops_n hTT (M := []) (n := 4) [pc (22 : Nat) ((0 : Int) ≤ (↑k : Int) ∧ (↑k : Int) < (↑(List.length l) : Int)) (V.ptr [V.i (Rc.x0 (foldR l k)), V.i (Rc.y0 (foldR l k)), V.i (Rc.x1 (foldR l k)), V.i (Rc.y1 (foldR l k)), V.b (Rc.down (foldR l k))]), pv (23 : Nat) (V.agg [V.i (Rc.x0 (foldR l k)), V.i (Rc.y0 (foldR l k)), V.i (Rc.x1 (foldR l k)), V.i (Rc.y1 (foldR l k)), V.b (Rc.down (foldR l k))]), pn (12 : Nat) (V.ref (200012 : Nat) (0 : Nat)) (200012 : Nat) (Ob.box (95 : Nat) [V.i (0 : Int), V.i (0 : Int), V.i (0 : Int), V.i (0 : Int), V.b false]), pw ((0 : Nat) + (5 : Nat) ≤ (5 : Nat)) (200012 : Nat) (Ob.box (95 : Nat) [V.i (Rc.x0 (foldR l k)), V.i (Rc.y0 (foldR l k)), V.i (Rc.x1 (foldR l k)), V.i (Rc.y1 (foldR l k)), V.b (Rc.down (foldR l k))])] (by kernel_rfl) (by kernel_rfl) ⟨(by omega), (by omega), True.intro⟩ ?_
      refine aops_nil ?_
      refine xt_n ?_
      refine hK _ ?_
      clear hK K
      refine aw_seq_k fun K hK => ?_
      refine w_region (n' := 4) (by kernel_rfl) (by kernel_rfl) ?_
      refine aops_n hTT (M := []) (n := 26) [pv (24 : Nat) (V.i x), pv (25 : Nat) (V.ref (200012 : Nat) (0 : Nat)), pv (26 : Nat) (V.ref (200012 : Nat) (0 : Nat)), pc (27 : Nat) ((0 : Nat) ≤ (5 : Nat)) (V.i (Rc.x0 (foldR l k))), pv (28 : Nat) (V.b (decide (Rc.x0 (foldR l k) ≤ x))), pv (29 : Nat) (V.b (decide (Rc.x0 (foldR l k) ≤ x))), pc (30 : Nat) ((True ∧ True) ∧ ((decide (Rc.x0 (foldR l k) ≤ x) == true) = true → True)) (V.gd (decide (Rc.x0 (foldR l k) ≤ x) == true) (V.i x)), pc (31 : Nat) ((True ∧ True) ∧ ((decide (Rc.x0 (foldR l k) ≤ x) == true) = true → True)) (V.gd (decide (Rc.x0 (foldR l k) ≤ x) == true) (V.ref (200012 : Nat) (0 : Nat))), pc (32 : Nat) ((((decide (Rc.x0 (foldR l k) ≤ x) == true) = true → (decide (Rc.x0 (foldR l k) ≤ x) == true) = true) ∧ True) ∧ ((decide (Rc.x0 (foldR l k) ≤ x) == true) = true → True)) (V.gd (decide (Rc.x0 (foldR l k) ≤ x) == true) (V.ref (200012 : Nat) (2 : Nat))), pc (33 : Nat) ((((decide (Rc.x0 (foldR l k) ≤ x) == true) = true → (decide (Rc.x0 (foldR l k) ≤ x) == true) = true) ∧ True) ∧ ((decide (Rc.x0 (foldR l k) ≤ x) == true) = true → (2 : Nat) ≤ (5 : Nat))) (V.gd (decide (Rc.x0 (foldR l k) ≤ x) == true) (V.i (Rc.x1 (foldR l k)))), pc (34 : Nat) ((((decide (Rc.x0 (foldR l k) ≤ x) == true) = true → (decide (Rc.x0 (foldR l k) ≤ x) == true) = true) ∧ ((decide (Rc.x0 (foldR l k) ≤ x) == true) = true → (decide (Rc.x0 (foldR l k) ≤ x) == true) = true) ∧ True) ∧ ((decide (Rc.x0 (foldR l k) ≤ x) == true) = true → True)) (V.gd (decide (Rc.x0 (foldR l k) ≤ x) == true) (V.b (decide (x < Rc.x1 (foldR l k))))), pc (35 : Nat) ((decide (Rc.x0 (foldR l k) ≤ x) = true → (decide (Rc.x0 (foldR l k) ≤ x) == true) = true) ∧ True) (V.b (decide (Rc.x0 (foldR l k) ≤ x) && decide (x < Rc.x1 (foldR l k)))), pv (36 : Nat) (V.b (decide (Rc.x0 (foldR l k) ≤ x) && decide (x < Rc.x1 (foldR l k)))), pc (37 : Nat) ((True ∧ True) ∧ (((decide (Rc.x0 (foldR l k) ≤ x) && decide (x < Rc.x1 (foldR l k))) == true) = true → True)) (V.gd ((decide (Rc.x0 (foldR l k) ≤ x) && decide (x < Rc.x1 (foldR l k))) == true) (V.i y)), pc (38 : Nat) ((True ∧ True) ∧ (((decide (Rc.x0 (foldR l k) ≤ x) && decide (x < Rc.x1 (foldR l k))) == true) = true → True)) (V.gd ((decide (Rc.x0 (foldR l k) ≤ x) && decide (x < Rc.x1 (foldR l k))) == true) (V.ref (200012 : Nat) (0 : Nat))), pc (39 : Nat) (((((decide (Rc.x0 (foldR l k) ≤ x) && decide (x < Rc.x1 (foldR l k))) == true) = true → ((decide (Rc.x0 (foldR l k) ≤ x) && decide (x < Rc.x1 (foldR l k))) == true) = true) ∧ True) ∧ (((decide (Rc.x0 (foldR l k) ≤ x) && decide (x < Rc.x1 (foldR l k))) == true) = true → True)) (V.gd ((decide (Rc.x0 (foldR l k) ≤ x) && decide (x < Rc.x1 (foldR l k))) == true) (V.ref (200012 : Nat) (1 : Nat))), pc (40 : Nat) (((((decide (Rc.x0 (foldR l k) ≤ x) && decide (x < Rc.x1 (foldR l k))) == true) = true → ((decide (Rc.x0 (foldR l k) ≤ x) && decide (x < Rc.x1 (foldR l k))) == true) = true) ∧ True) ∧ (((decide (Rc.x0 (foldR l k) ≤ x) && decide (x < Rc.x1 (foldR l k))) == true) = true → (1 : Nat) ≤ (5 : Nat))) (V.gd ((decide (Rc.x0 (foldR l k) ≤ x) && decide (x < Rc.x1 (foldR l k))) == true) (V.i (Rc.y0 (foldR l k)))), pc (41 : Nat) (((((decide (Rc.x0 (foldR l k) ≤ x) && decide (x < Rc.x1 (foldR l k))) == true) = true → ((decide (Rc.x0 (foldR l k) ≤ x) && decide (x < Rc.x1 (foldR l k))) == true) = true) ∧ (((decide (Rc.x0 (foldR l k) ≤ x) && decide (x < Rc.x1 (foldR l k))) == true) = true → ((decide (Rc.x0 (foldR l k) ≤ x) && decide (x < Rc.x1 (foldR l k))) == true) = true) ∧ True) ∧ (((decide (Rc.x0 (foldR l k) ≤ x) && decide (x < Rc.x1 (foldR l k))) == true) = true → True)) (V.gd ((decide (Rc.x0 (foldR l k) ≤ x) && decide (x < Rc.x1 (foldR l k))) == true) (V.b (decide (Rc.y0 (foldR l k) ≤ y)))), pc (42 : Nat) (((decide (Rc.x0 (foldR l k) ≤ x) && decide (x < Rc.x1 (foldR l k))) = true → ((decide (Rc.x0 (foldR l k) ≤ x) && decide (x < Rc.x1 (foldR l k))) == true) = true) ∧ True) (V.b (decide (Rc.x0 (foldR l k) ≤ x) && decide (x < Rc.x1 (foldR l k)) && decide (Rc.y0 (foldR l k) ≤ y))), pv (43 : Nat) (V.b (decide (Rc.x0 (foldR l k) ≤ x) && decide (x < Rc.x1 (foldR l k)) && decide (Rc.y0 (foldR l k) ≤ y))), pc (44 : Nat) ((True ∧ True) ∧ (((decide (Rc.x0 (foldR l k) ≤ x) && decide (x < Rc.x1 (foldR l k)) && decide (Rc.y0 (foldR l k) ≤ y)) == true) = true → True)) (V.gd ((decide (Rc.x0 (foldR l k) ≤ x) && decide (x < Rc.x1 (foldR l k)) && decide (Rc.y0 (foldR l k) ≤ y)) == true) (V.i y)), pc (45 : Nat) ((True ∧ True) ∧ (((decide (Rc.x0 (foldR l k) ≤ x) && decide (x < Rc.x1 (foldR l k)) && decide (Rc.y0 (foldR l k) ≤ y)) == true) = true → True)) (V.gd ((decide (Rc.x0 (foldR l k) ≤ x) && decide (x < Rc.x1 (foldR l k)) && decide (Rc.y0 (foldR l k) ≤ y)) == true) (V.ref (200012 : Nat) (0 : Nat))), pc (46 : Nat) (((((decide (Rc.x0 (foldR l k) ≤ x) && decide (x < Rc.x1 (foldR l k)) && decide (Rc.y0 (foldR l k) ≤ y)) == true) = true → ((decide (Rc.x0 (foldR l k) ≤ x) && decide (x < Rc.x1 (foldR l k)) && decide (Rc.y0 (foldR l k) ≤ y)) == true) = true) ∧ True) ∧ (((decide (Rc.x0 (foldR l k) ≤ x) && decide (x < Rc.x1 (foldR l k)) && decide (Rc.y0 (foldR l k) ≤ y)) == true) = true → True)) (V.gd ((decide (Rc.x0 (foldR l k) ≤ x) && decide (x < Rc.x1 (foldR l k)) && decide (Rc.y0 (foldR l k) ≤ y)) == true) (V.ref (200012 : Nat) (3 : Nat))), pc (47 : Nat) (((((decide (Rc.x0 (foldR l k) ≤ x) && decide (x < Rc.x1 (foldR l k)) && decide (Rc.y0 (foldR l k) ≤ y)) == true) = true → ((decide (Rc.x0 (foldR l k) ≤ x) && decide (x < Rc.x1 (foldR l k)) && decide (Rc.y0 (foldR l k) ≤ y)) == true) = true) ∧ True) ∧ (((decide (Rc.x0 (foldR l k) ≤ x) && decide (x < Rc.x1 (foldR l k)) && decide (Rc.y0 (foldR l k) ≤ y)) == true) = true → (3 : Nat) ≤ (5 : Nat))) (V.gd ((decide (Rc.x0 (foldR l k) ≤ x) && decide (x < Rc.x1 (foldR l k)) && decide (Rc.y0 (foldR l k) ≤ y)) == true) (V.i (Rc.y1 (foldR l k)))), pc (48 : Nat) (((((decide (Rc.x0 (foldR l k) ≤ x) && decide (x < Rc.x1 (foldR l k)) && decide (Rc.y0 (foldR l k) ≤ y)) == true) = true → ((decide (Rc.x0 (foldR l k) ≤ x) && decide (x < Rc.x1 (foldR l k)) && decide (Rc.y0 (foldR l k) ≤ y)) == true) = true) ∧ (((decide (Rc.x0 (foldR l k) ≤ x) && decide (x < Rc.x1 (foldR l k)) && decide (Rc.y0 (foldR l k) ≤ y)) == true) = true → ((decide (Rc.x0 (foldR l k) ≤ x) && decide (x < Rc.x1 (foldR l k)) && decide (Rc.y0 (foldR l k) ≤ y)) == true) = true) ∧ True) ∧ (((decide (Rc.x0 (foldR l k) ≤ x) && decide (x < Rc.x1 (foldR l k)) && decide (Rc.y0 (foldR l k) ≤ y)) == true) = true → True)) (V.gd ((decide (Rc.x0 (foldR l k) ≤ x) && decide (x < Rc.x1 (foldR l k)) && decide (Rc.y0 (foldR l k) ≤ y)) == true) (V.b (decide (y < Rc.y1 (foldR l k))))), pc (49 : Nat) (((decide (Rc.x0 (foldR l k) ≤ x) && decide (x < Rc.x1 (foldR l k)) && decide (Rc.y0 (foldR l k) ≤ y)) = true → ((decide (Rc.x0 (foldR l k) ≤ x) && decide (x < Rc.x1 (foldR l k)) && decide (Rc.y0 (foldR l k) ≤ y)) == true) = true) ∧ True) (V.b (decide (Rc.x0 (foldR l k) ≤ x) && decide (x < Rc.x1 (foldR l k)) && decide (Rc.y0 (foldR l k) ≤ y) && decide (y < Rc.y1 (foldR l k))))] (by kernel_rfl) (by kernel_rfl) ⟨(by omega), ⟨⟨True.intro, True.intro⟩, (fun _ => True.intro)⟩, ⟨⟨True.intro, True.intro⟩, (fun _ => True.intro)⟩, ⟨⟨(by (exact fun h => h)), True.intro⟩, (fun _ => True.intro)⟩, ⟨⟨(by (exact fun h => h)), True.intro⟩, (by (intro _; simp; done))⟩, ⟨⟨(by (exact fun h => h)), ⟨(by (exact fun h => h)), True.intro⟩⟩, (fun _ => True.intro)⟩, ⟨(by (intro h; rw [h]; rfl)), True.intro⟩, ⟨⟨True.intro, True.intro⟩, (fun _ => True.intro)⟩, ⟨⟨True.intro, True.intro⟩, (fun _ => True.intro)⟩, ⟨⟨(by (exact fun h => h)), True.intro⟩, (fun _ => True.intro)⟩, ⟨⟨(by (exact fun h => h)), True.intro⟩, (by (intro _; simp; done))⟩, ⟨⟨(by (exact fun h => h)), ⟨(by (exact fun h => h)), True.intro⟩⟩, (fun _ => True.intro)⟩, ⟨(by (intro h; rw [h]; rfl)), True.intro⟩, ⟨⟨True.intro, True.intro⟩, (fun _ => True.intro)⟩, ⟨⟨True.intro, True.intro⟩, (fun _ => True.intro)⟩, ⟨⟨(by (exact fun h => h)), True.intro⟩, (fun _ => True.intro)⟩, ⟨⟨(by (exact fun h => h)), True.intro⟩, (by (intro _; simp; done))⟩, ⟨⟨(by (exact fun h => h)), ⟨(by (exact fun h => h)), True.intro⟩⟩, (fun _ => True.intro)⟩, ⟨(by (intro h; rw [h]; rfl)), True.intro⟩, True.intro⟩ ?_
      refine aops_nil ?_
      refine xt_n ?_
      refine hK _ ?_
      clear hK K
      refine w_cond (t := decide (Rc.x0 (foldR l k) ≤ x) && decide (x < Rc.x1 (foldR l k)) && decide (Rc.y0 (foldR l k) ≤ y) && decide (y < Rc.y1 (foldR l k))) (by kernel_rfl) (fun c2 => ?_) (fun c2 => ?_)
      · have h2 : inB (foldR l k) x y = true := by simp at c2; simp [inB]; omega
        have e2 : ((cntL (foldR l) x y k : Nat) : Int) + 1 = (cntL (foldR l) x y (k + 1) : Nat) := by rw [cntL, if_pos h2]; omega
        refine w_region (n' := 5) (by kernel_rfl) (by kernel_rfl) ?_
        refine aops_n hTT (M := []) (n := 3) [pv (50 : Nat) (V.i (↑(cntL (foldR l) x y k) : Int)), pc (51 : Nat) ((-9223372036854775808 : Int) ≤ (↑(cntL (foldR l) x y k) : Int) + (1 : Int) ∧ (↑(cntL (foldR l) x y k) : Int) + (1 : Int) ≤ (9223372036854775807 : Int)) (V.i ((↑(cntL (foldR l) x y k) : Int) + (1 : Int))), pv (10 : Nat) (V.i ((↑(cntL (foldR l) x y k) : Int) + (1 : Int)))] (by kernel_rfl) (by kernel_rfl) ⟨(by omega), True.intro⟩ ?_
        refine aops_nil ?_
        refine xb_n ?_
        refine xt_n ?_
        refine hK _ ?_
        clear hK K
        refine w_region (n' := 6) (by kernel_rfl) (by kernel_rfl) ?_
        refine aops_n hTT (M := []) (n := 2) [pc (52 : Nat) ((-9223372036854775808 : Int) ≤ (↑k : Int) + (1 : Int) ∧ (↑k : Int) + (1 : Int) ≤ (9223372036854775807 : Int)) (V.i ((↑k : Int) + (1 : Int))), pv (20 : Nat) (V.i ((↑k : Int) + (1 : Int)))] (by kernel_rfl) (by kernel_rfl) ⟨(by omega), True.intro⟩ ?_
        refine aops_nil ?_
        refine xt_n ?_
        rw [e2]
        skip
        refine ⟨k + 1, by omega, by refine le_ren [] (.cons (by kernel_rfl) (.cons (by kernel_rfl) (.cons (by kernel_rfl) (.cons (by kernel_rfl) (.cons (by kernel_rfl) (.cons (by kernel_rfl) (.cons (by kernel_rfl) .nil))))))) .nil (by kernel_rfl) (by kernel_rfl), by omega⟩
      · have h2 : ¬ inB (foldR l k) x y = true := by simp at c2; simp [inB]; omega
        have e2 : cntL (foldR l) x y k = cntL (foldR l) x y (k + 1) := by rw [cntL, if_neg h2]; rfl
        refine aw_skip ?_
        refine xb_n ?_
        refine xt_n ?_
        refine hK _ ?_
        clear hK K
        refine w_region (n' := 5) (by kernel_rfl) (by kernel_rfl) ?_
        refine aops_n hTT (M := []) (n := 2) [pc (52 : Nat) ((-9223372036854775808 : Int) ≤ (↑k : Int) + (1 : Int) ∧ (↑k : Int) + (1 : Int) ≤ (9223372036854775807 : Int)) (V.i ((↑k : Int) + (1 : Int))), pv (20 : Nat) (V.i ((↑k : Int) + (1 : Int)))] (by kernel_rfl) (by kernel_rfl) ⟨(by omega), True.intro⟩ ?_
        refine aops_nil ?_
        refine xt_n ?_
        refine ⟨k + 1, by omega, ?_, by omega⟩
        show Le _ _
        rw [e2]
        refine le_ren [] (.cons (by kernel_rfl) (.cons (by kernel_rfl) (.cons (by kernel_rfl) (.cons (by kernel_rfl) (.cons (by kernel_rfl) (.cons (by kernel_rfl) (.cons (by kernel_rfl) .nil))))))) .nil (by kernel_rfl) (by kernel_rfl)
    simp at c1
    obtain rfl : k = l.length := by omega
    refine aw_exit ?_
    refine xt_x ?_
    refine xt_x ?_
    refine xb_same ?_
    refine xt_n ?_
    clear hK K
    refine hK _ ?_
    clear hK K
    refine aw_seq_k fun K hK => ?_
    refine w_region (n' := 3) (by kernel_rfl) (by kernel_rfl) ?_
    refine aops_n hTT (M := []) (n := 4) [pv (53 : Nat) (V.i (↑(cntL (foldR l) x y (List.length l)) : Int)), pv (54 : Nat) (V.i (0 : Int)), pv (6 : Nat) (V.i (↑(cntL (foldR l) x y (List.length l)) : Int)), pv (7 : Nat) (V.i (0 : Int))] (by kernel_rfl) (by kernel_rfl) True.intro ?_
    refine aops_nil ?_
    refine xt_n ?_
    refine hK _ ?_
    clear hK K
    refine aw_ret ?_
    rw [netN_1 hE, hE]
    refine ret_pure (v' := V.tup [V.i (↑(cntL (foldR l) x y (List.length l)) : Int), V.i (0 : Int)]) (.inr rfl) (by kernel_rfl) (by kernel_rfl) (by kernel_rfl)
  · rw [foldV, if_neg hE] at A
    refine e_call (first := []) (caps := []) (A) (by kernel_rfl) (by kernel_rfl) (by kernel_rfl) (by kernel_rfl) (by kernel_rfl) ?_
    refine aops_n hTT (M := []) (n := 5) [pv (13 : Nat) (V.tup [V.nil, V.i (netE l)]), pv (16 : Nat) V.nil, pv (17 : Nat) (V.i (netE l)), pv (8 : Nat) V.nil, pv (9 : Nat) (V.i (netE l))] (by kernel_rfl) (by kernel_rfl) True.intro ?_
    refine aops_nil ?_
    refine xt_n ?_
    refine hK _ ?_
    clear hK K
    refine aw_seq_k fun K hK => ?_
    refine w_region (n' := 4) (by kernel_rfl) (by kernel_rfl) ?_
    refine aops_n hTT (M := []) (n := 1) [pv (10 : Nat) (V.i (0 : Int))] (by kernel_rfl) (by kernel_rfl) True.intro ?_
    refine aops_nil ?_
    refine xt_n ?_
    refine hK _ ?_
    clear hK K
    refine aw_seq_k fun K hK => ?_
    refine aw_seq_k fun K hK => ?_
    refine w_region (n' := 5) (by kernel_rfl) (by kernel_rfl) ?_
    refine aops_n hTT (M := []) (n := 3) [pv (18 : Nat) V.nil, pv (19 : Nat) (V.i (0 : Int)), pv (20 : Nat) (V.i (0 : Int))] (by kernel_rfl) (by kernel_rfl) True.intro ?_
    refine aops_nil ?_
    refine xt_n ?_
    refine hK _ ?_
    clear hK K
    refine aw_block ?_
    refine w_loop (ι := Nat) (fun k => [(9, .i (netE l)), (10, .i 0), (18, .nil), (19, .i 0), (20, .i 0)]) (fun k => []) (fun k => True) (fun k => k) 0 trivial ?_ ?_
    · refine le_ren [] (.cons (by kernel_rfl) (.cons (by kernel_rfl) (.cons (by kernel_rfl) (.cons (by kernel_rfl) (.cons (by kernel_rfl) .nil))))) .nil (by kernel_rfl) (by kernel_rfl)
    intro k _
    refine aw_seq_k fun K hK => ?_
    refine w_region (n' := 2) (by kernel_rfl) (by kernel_rfl) ?_
    refine aops_n hTT (M := []) (n := 1) [pv (21 : Nat) (V.b false)] (by kernel_rfl) (by kernel_rfl) True.intro ?_
    refine aops_nil ?_
    refine xt_n ?_
    refine hK _ ?_
    clear hK K
    refine aw_seq_k fun K hK => ?_
    refine w_false (t := false) (by kernel_rfl) rfl ?_
    refine aw_exit ?_
    refine xt_x ?_
    refine xt_x ?_
    refine xb_same ?_
    refine xt_n ?_
    clear hK K
    refine hK _ ?_
    clear hK K
    refine aw_seq_k fun K hK => ?_
    refine w_region (n' := 3) (by kernel_rfl) (by kernel_rfl) ?_
    refine aops_n hTT (M := []) (n := 4) [pv (53 : Nat) (V.i (0 : Int)), pv (54 : Nat) (V.i (netE l)), pv (6 : Nat) (V.i (0 : Int)), pv (7 : Nat) (V.i (netE l))] (by kernel_rfl) (by kernel_rfl) True.intro ?_
    refine aops_nil ?_
    refine xt_n ?_
    refine hK _ ?_
    clear hK K
    refine aw_ret ?_
    rw [netN_2 hE]
    refine ret_pure (v' := V.tup [V.i (0 : Int), V.i (netE l)]) (.inr rfl) (by kernel_rfl) (by kernel_rfl) (by kernel_rfl)
set_option maxHeartbeats 4000000 in
set_option maxRecDepth 100000 in
theorem Pocket_ac (l : List Pan) (a b : Int) (hl : l.length ≤ 4611686018427387904) : AC Tryd.prog 32 [V.pans l, .i a, .i b] (.tup [.agg (pockR l a b).c, .i (pockE l a b)]) [] := by
  refine ac_intro hTT hMX (fn := Tryd.f32) (N := _) ⟨Tryd.func32, rfl, Tryd.ntmps32, by kernel_rfl⟩ (by simp) fun C hC hF => ?_
  have A := folded_ac l hl
  refine aw_seq_k fun K hK => ?_
  refine w_region (n' := 2) (by kernel_rfl) (by kernel_rfl) ?_
  refine aops_n hTT (M := []) (n := 2) [pn (6 : Nat) (V.ref (100006 : Nat) (0 : Nat)) (100006 : Nat) (Ob.box (52 : Nat) [V.i (0 : Int), V.i (0 : Int), V.i (0 : Int), V.i (0 : Int), V.b false]), pv (7 : Nat) (V.i (0 : Int))] (by kernel_rfl) (by kernel_rfl) True.intro ?_
  refine aops_nil ?_
  refine xt_n ?_
  refine hK _ ?_
  clear hK K
  refine aw_seq_k fun K hK => ?_
  refine w_region (n' := 3) (by kernel_rfl) (by kernel_rfl) ?_
  refine aops_n hTT (M := []) (n := 1) [pv (15 : Nat) (V.sl (5 : Nat) (List.length l) fun (k : Nat) => Pan.c (gpan l k))] (by kernel_rfl) (by kernel_rfl) True.intro ?_
  by_cases hE : netE l = 0
  · rw [foldV, if_pos hE] at A
    have hN := netOk hE
    have hle := hN.le
    refine e_call (first := []) (caps := []) (A) (by kernel_rfl) (by kernel_rfl) (by kernel_rfl) (by kernel_rfl) (by kernel_rfl) ?_
    refine aops_n hTT (M := []) (n := 5) [pv (14 : Nat) (V.tup [V.sl (5 : Nat) (List.length l) fun (k : Nat) => Rc.c (foldR l k), V.i (0 : Int)]), pv (17 : Nat) (V.sl (5 : Nat) (List.length l) fun (k : Nat) => Rc.c (foldR l k)), pv (18 : Nat) (V.i (0 : Int)), pv (8 : Nat) (V.sl (5 : Nat) (List.length l) fun (k : Nat) => Rc.c (foldR l k)), pv (9 : Nat) (V.i (0 : Int))] (by kernel_rfl) (by kernel_rfl) True.intro ?_
    refine aops_nil ?_
    refine xt_n ?_
    refine hK _ ?_
    clear hK K
    refine aw_seq_k fun K hK => ?_
    refine aw_seq_k fun K hK => ?_
    refine w_region (n' := 4) (by kernel_rfl) (by kernel_rfl) ?_
    refine aops_n hTT (M := []) (n := 2) [pv (19 : Nat) (V.i (0 : Int)), pv (20 : Nat) (V.b false)] (by kernel_rfl) (by kernel_rfl) True.intro ?_
    refine aops_nil ?_
    refine xt_n ?_
    refine hK _ ?_
    clear hK K
    refine w_false (t := false) (by kernel_rfl) rfl ?_
    refine aw_skip ?_
    refine xt_n ?_
    refine hK _ ?_
    clear hK K
    refine aw_seq_k fun K hK => ?_
    refine aw_seq_k fun K hK => ?_
    refine w_region (n' := 5) (by kernel_rfl) (by kernel_rfl) ?_
    refine aops_n hTT (M := []) (n := 17) [pv (23 : Nat) (V.i a), pv (24 : Nat) (V.i b), pv (25 : Nat) (V.i (min a b)), pv (26 : Nat) (V.b (decide (min a b < (0 : Int)))), pv (27 : Nat) (V.b (decide (min a b < (0 : Int)))), pc (28 : Nat) ((True ∧ True) ∧ ((decide (min a b < (0 : Int)) == false) = true → True)) (V.gd (decide (min a b < (0 : Int)) == false) (V.i a)), pc (29 : Nat) ((True ∧ True) ∧ ((decide (min a b < (0 : Int)) == false) = true → True)) (V.gd (decide (min a b < (0 : Int)) == false) (V.i b)), pc (30 : Nat) ((((decide (min a b < (0 : Int)) == false) = true → (decide (min a b < (0 : Int)) == false) = true) ∧ ((decide (min a b < (0 : Int)) == false) = true → (decide (min a b < (0 : Int)) == false) = true) ∧ True) ∧ ((decide (min a b < (0 : Int)) == false) = true → True)) (V.gd (decide (min a b < (0 : Int)) == false) (V.i (max a b))), pc (31 : Nat) ((True ∧ True) ∧ ((decide (min a b < (0 : Int)) == false) = true → True)) (V.gd (decide (min a b < (0 : Int)) == false) (V.sl (5 : Nat) (List.length l) fun (k : Nat) => Rc.c (foldR l k))), pc (32 : Nat) ((((decide (min a b < (0 : Int)) == false) = true → (decide (min a b < (0 : Int)) == false) = true) ∧ True) ∧ ((decide (min a b < (0 : Int)) == false) = true → True)) (V.gd (decide (min a b < (0 : Int)) == false) (V.i (↑(List.length l) : Int))), pc (33 : Nat) ((((decide (min a b < (0 : Int)) == false) = true → (decide (min a b < (0 : Int)) == false) = true) ∧ ((decide (min a b < (0 : Int)) == false) = true → (decide (min a b < (0 : Int)) == false) = true) ∧ True) ∧ ((decide (min a b < (0 : Int)) == false) = true → True)) (V.gd (decide (min a b < (0 : Int)) == false) (V.b (decide ((↑(List.length l) : Int) ≤ max a b)))), pc (34 : Nat) (True ∧ (decide (min a b < (0 : Int)) = false → (decide (min a b < (0 : Int)) == false) = true)) (V.b (decide (min a b < (0 : Int)) || decide ((↑(List.length l) : Int) ≤ max a b))), pv (35 : Nat) (V.b (decide (min a b < (0 : Int)) || decide ((↑(List.length l) : Int) ≤ max a b))), pc (36 : Nat) ((True ∧ True) ∧ (((decide (min a b < (0 : Int)) || decide ((↑(List.length l) : Int) ≤ max a b)) == false) = true → True)) (V.gd ((decide (min a b < (0 : Int)) || decide ((↑(List.length l) : Int) ≤ max a b)) == false) (V.i a)), pc (37 : Nat) ((True ∧ True) ∧ (((decide (min a b < (0 : Int)) || decide ((↑(List.length l) : Int) ≤ max a b)) == false) = true → True)) (V.gd ((decide (min a b < (0 : Int)) || decide ((↑(List.length l) : Int) ≤ max a b)) == false) (V.i b)), pc (38 : Nat) (((((decide (min a b < (0 : Int)) || decide ((↑(List.length l) : Int) ≤ max a b)) == false) = true → ((decide (min a b < (0 : Int)) || decide ((↑(List.length l) : Int) ≤ max a b)) == false) = true) ∧ (((decide (min a b < (0 : Int)) || decide ((↑(List.length l) : Int) ≤ max a b)) == false) = true → ((decide (min a b < (0 : Int)) || decide ((↑(List.length l) : Int) ≤ max a b)) == false) = true) ∧ True) ∧ (((decide (min a b < (0 : Int)) || decide ((↑(List.length l) : Int) ≤ max a b)) == false) = true → True)) (V.gd ((decide (min a b < (0 : Int)) || decide ((↑(List.length l) : Int) ≤ max a b)) == false) (V.b (decide (a = b)))), pc (39 : Nat) (True ∧ ((decide (min a b < (0 : Int)) || decide ((↑(List.length l) : Int) ≤ max a b)) = false → ((decide (min a b < (0 : Int)) || decide ((↑(List.length l) : Int) ≤ max a b)) == false) = true)) (V.b (decide (min a b < (0 : Int)) || decide ((↑(List.length l) : Int) ≤ max a b) || decide (a = b)))] (by kernel_rfl) (by kernel_rfl) ⟨⟨⟨True.intro, True.intro⟩, (fun _ => True.intro)⟩, ⟨⟨True.intro, True.intro⟩, (fun _ => True.intro)⟩, ⟨⟨(by (exact fun h => h)), ⟨(by (exact fun h => h)), True.intro⟩⟩, (fun _ => True.intro)⟩, ⟨⟨True.intro, True.intro⟩, (fun _ => True.intro)⟩, ⟨⟨(by (exact fun h => h)), True.intro⟩, (fun _ => True.intro)⟩, ⟨⟨(by (exact fun h => h)), ⟨(by (exact fun h => h)), True.intro⟩⟩, (fun _ => True.intro)⟩, ⟨True.intro, (by (intro h; rw [h]; rfl))⟩, ⟨⟨True.intro, True.intro⟩, (fun _ => True.intro)⟩, ⟨⟨True.intro, True.intro⟩, (fun _ => True.intro)⟩, ⟨⟨(by (exact fun h => h)), ⟨(by (exact fun h => h)), True.intro⟩⟩, (fun _ => True.intro)⟩, ⟨True.intro, (by (intro h; rw [h]; rfl))⟩, True.intro⟩ ?_
    refine aops_nil ?_
    refine xt_n ?_
    refine hK _ ?_
    clear hK K
    refine w_cond (t := decide (min a b < (0 : Int)) || decide ((↑(List.length l) : Int) ≤ max a b) || decide (a = b)) (by kernel_rfl) (fun c1 => ?_) (fun c1 => ?_)
    · have h2 : ¬ pockOk l a b := by unfold pockOk; simp at c1; omega
      refine aw_seq_k fun K hK => ?_
      refine w_region (n' := 6) (by kernel_rfl) (by kernel_rfl) ?_
      refine aops_n hTT (M := []) (n := 3) [pv (40 : Nat) (V.agg [V.i (0 : Int), V.i (0 : Int), V.i (0 : Int), V.i (0 : Int), V.b false]), pw ((0 : Nat) + (5 : Nat) ≤ (5 : Nat)) (100006 : Nat) (Ob.box (52 : Nat) [V.i (0 : Int), V.i (0 : Int), V.i (0 : Int), V.i (0 : Int), V.b false]), pv (7 : Nat) (V.i (3 : Int))] (by kernel_rfl) (by kernel_rfl) ⟨(by omega), True.intro⟩ ?_
      refine aops_nil ?_
      refine xt_n ?_
      refine hK _ ?_
      clear hK K
      refine aw_ret ?_
      refine xt_r ?_
      refine ret_of_le (le_freezeBox (t := (52 : Nat)) (cs := [V.i (0 : Int), V.i (0 : Int), V.i (0 : Int), V.i (0 : Int), V.b false]) 100006 (by kernel_rfl) (by kernel_rfl)) ?_
      rw [pockR, pock_2 hE h2, if_neg (by omega)]
      refine ret_pure (v' := V.tup [V.agg [V.i (0 : Int), V.i (0 : Int), V.i (0 : Int), V.i (0 : Int), V.b false], V.i (3 : Int)]) (.inr rfl) (by kernel_rfl) (by kernel_rfl) (by kernel_rfl)
    have h2 : pockOk l a b := by unfold pockOk; simp at c1; omega
    have h3 := h2
    obtain ⟨⟨a1, a2⟩, ⟨a3, a4⟩, a5⟩ := h3
    have b1 := foldR_bd hN (i := a.toNat) (by omega)
    have b2 := foldR_bd hN (i := b.toNat) (by omega)
    clear c1
    refine aw_skip ?_
    refine xt_n ?_
    refine hK _ ?_
    clear hK K
    refine aw_seq_k fun K hK => ?_
    refine w_regionD (n' := 6) (by kernel_rfl) (by kernel_rfl) ?_
    refine aops_n hTT (M := []) (n := 8) [pv (42 : Nat) (V.sl (5 : Nat) (List.length l) fun (k : Nat) => Rc.c (foldR l k)), pv (43 : Nat) (V.i a), pc (44 : Nat) ((0 : Int) ≤ a ∧ a < (↑(List.length l) : Int)) (V.ptr [V.i (Rc.x0 (foldR l (Int.toNat a))), V.i (Rc.y0 (foldR l (Int.toNat a))), V.i (Rc.x1 (foldR l (Int.toNat a))), V.i (Rc.y1 (foldR l (Int.toNat a))), V.b (Rc.down (foldR l (Int.toNat a)))]), pv (45 : Nat) (V.agg [V.i (Rc.x0 (foldR l (Int.toNat a))), V.i (Rc.y0 (foldR l (Int.toNat a))), V.i (Rc.x1 (foldR l (Int.toNat a))), V.i (Rc.y1 (foldR l (Int.toNat a))), V.b (Rc.down (foldR l (Int.toNat a)))]), pv (46 : Nat) (V.sl (5 : Nat) (List.length l) fun (k : Nat) => Rc.c (foldR l k)), pv (47 : Nat) (V.i b), pc (48 : Nat) ((0 : Int) ≤ b ∧ b < (↑(List.length l) : Int)) (V.ptr [V.i (Rc.x0 (foldR l (Int.toNat b))), V.i (Rc.y0 (foldR l (Int.toNat b))), V.i (Rc.x1 (foldR l (Int.toNat b))), V.i (Rc.y1 (foldR l (Int.toNat b))), V.b (Rc.down (foldR l (Int.toNat b)))]), pv (49 : Nat) (V.agg [V.i (Rc.x0 (foldR l (Int.toNat b))), V.i (Rc.y0 (foldR l (Int.toNat b))), V.i (Rc.x1 (foldR l (Int.toNat b))), V.i (Rc.y1 (foldR l (Int.toNat b))), V.b (Rc.down (foldR l (Int.toNat b)))])] (by kernel_rfl) (by kernel_rfl) ⟨(by omega), (by omega), True.intro⟩ ?_
    refine e_call (first := []) (caps := []) (common_ac (foldR l a.toNat) (foldR l b.toNat) (Rc.bd_mono b1 (by omega)) (Rc.bd_mono b2 (by omega))) (by kernel_rfl) (by kernel_rfl) (by kernel_rfl) (by kernel_rfl) (by kernel_rfl) ?_
    refine aops_n hTT (M := []) (n := 5) [pv (41 : Nat) (V.tup [V.i (comW (foldR l (Int.toNat a)) (foldR l (Int.toNat b))), V.i (comH (foldR l (Int.toNat a)) (foldR l (Int.toNat b)))]), pv (51 : Nat) (V.i (comW (foldR l (Int.toNat a)) (foldR l (Int.toNat b)))), pv (52 : Nat) (V.i (comH (foldR l (Int.toNat a)) (foldR l (Int.toNat b)))), pv (10 : Nat) (V.i (comW (foldR l (Int.toNat a)) (foldR l (Int.toNat b)))), pv (11 : Nat) (V.i (comH (foldR l (Int.toNat a)) (foldR l (Int.toNat b))))] (by kernel_rfl) (by kernel_rfl) True.intro ?_
    refine aops_nil ⟨by kernel_rfl, ?_⟩
    refine xt_n ?_
    refine hK _ ?_
    clear hK K
    refine aw_seq_k fun K hK => ?_
    refine aw_seq_k fun K hK => ?_
    refine w_region (n' := 7) (by kernel_rfl) (by kernel_rfl) ?_
    refine aops_n hTT (M := []) (n := 4) [pv (53 : Nat) (V.i (comW (foldR l (Int.toNat a)) (foldR l (Int.toNat b)))), pv (54 : Nat) (V.i (comH (foldR l (Int.toNat a)) (foldR l (Int.toNat b)))), pv (55 : Nat) (V.i (min (comW (foldR l (Int.toNat a)) (foldR l (Int.toNat b))) (comH (foldR l (Int.toNat a)) (foldR l (Int.toNat b))))), pv (56 : Nat) (V.b (decide (min (comW (foldR l (Int.toNat a)) (foldR l (Int.toNat b))) (comH (foldR l (Int.toNat a)) (foldR l (Int.toNat b))) ≤ (0 : Int))))] (by kernel_rfl) (by kernel_rfl) True.intro ?_
    refine aops_nil ?_
    refine xt_n ?_
    refine hK _ ?_
    clear hK K
    refine w_cond (t := decide (min (comW (foldR l (Int.toNat a)) (foldR l (Int.toNat b))) (comH (foldR l (Int.toNat a)) (foldR l (Int.toNat b))) ≤ (0 : Int))) (by kernel_rfl) (fun c2 => ?_) (fun c2 => ?_)
    · have h4 : comW (foldR l a.toNat) (foldR l b.toNat) ≤ 0 ∨ comH (foldR l a.toNat) (foldR l b.toNat) ≤ 0 := by simp at c2; omega
      refine aw_seq_k fun K hK => ?_
      refine w_region (n' := 8) (by kernel_rfl) (by kernel_rfl) ?_
      refine aops_n hTT (M := []) (n := 3) [pv (57 : Nat) (V.agg [V.i (0 : Int), V.i (0 : Int), V.i (0 : Int), V.i (0 : Int), V.b false]), pw ((0 : Nat) + (5 : Nat) ≤ (5 : Nat)) (100006 : Nat) (Ob.box (52 : Nat) [V.i (0 : Int), V.i (0 : Int), V.i (0 : Int), V.i (0 : Int), V.b false]), pv (7 : Nat) (V.i (5 : Int))] (by kernel_rfl) (by kernel_rfl) ⟨(by omega), True.intro⟩ ?_
      refine aops_nil ?_
      refine xt_n ?_
      refine hK _ ?_
      clear hK K
      refine aw_ret ?_
      refine xt_r ?_
      refine ret_of_le (le_freezeBox (t := (52 : Nat)) (cs := [V.i (0 : Int), V.i (0 : Int), V.i (0 : Int), V.i (0 : Int), V.b false]) 100006 (by kernel_rfl) (by kernel_rfl)) ?_
      rw [pockR, pock_3 hE h2 h4, if_neg (by omega)]
      refine ret_pure (v' := V.tup [V.agg [V.i (0 : Int), V.i (0 : Int), V.i (0 : Int), V.i (0 : Int), V.b false], V.i (5 : Int)]) (.inr rfl) (by kernel_rfl) (by kernel_rfl) (by kernel_rfl)
    have h4 : ¬ (comW (foldR l a.toNat) (foldR l b.toNat) ≤ 0 ∨ comH (foldR l a.toNat) (foldR l b.toNat) ≤ 0) := by simp at c2; omega
    have w1 := h4
    obtain ⟨⟨q1, q2⟩, ⟨q3, q4⟩, ⟨q5, q6⟩, q7, q8⟩ := b1
    obtain ⟨⟨r1, r2⟩, ⟨r3, r4⟩, ⟨r5, r6⟩, r7, r8⟩ := b2
    have w2 : comW (foldR l a.toNat) (foldR l b.toNat) ≤ 2147483648 := by unfold comW; omega
    have w3 : comH (foldR l a.toNat) (foldR l b.toNat) ≤ 2147483648 := by unfold comH; omega
    refine aw_skip ?_
    refine xt_n ?_
    refine hK _ ?_
    clear hK K
    refine aw_seq_k fun K hK => ?_
    refine w_regionD (n' := 8) (by kernel_rfl) (by kernel_rfl) ?_
    refine aops_n hTT (M := []) (n := 28) [pv (58 : Nat) (V.sl (5 : Nat) (List.length l) fun (k : Nat) => Rc.c (foldR l k)), pv (59 : Nat) (V.i a), pc (60 : Nat) ((0 : Int) ≤ a ∧ a < (↑(List.length l) : Int)) (V.ptr [V.i (Rc.x0 (foldR l (Int.toNat a))), V.i (Rc.y0 (foldR l (Int.toNat a))), V.i (Rc.x1 (foldR l (Int.toNat a))), V.i (Rc.y1 (foldR l (Int.toNat a))), V.b (Rc.down (foldR l (Int.toNat a)))]), pv (61 : Nat) (V.ptr [V.i (Rc.x0 (foldR l (Int.toNat a))), V.i (Rc.y0 (foldR l (Int.toNat a))), V.i (Rc.x1 (foldR l (Int.toNat a))), V.i (Rc.y1 (foldR l (Int.toNat a))), V.b (Rc.down (foldR l (Int.toNat a)))]), pv (62 : Nat) (V.ptr [V.i (Rc.x0 (foldR l (Int.toNat a))), V.i (Rc.y0 (foldR l (Int.toNat a))), V.i (Rc.x1 (foldR l (Int.toNat a))), V.i (Rc.y1 (foldR l (Int.toNat a))), V.b (Rc.down (foldR l (Int.toNat a)))]), pv (63 : Nat) (V.i (Rc.x0 (foldR l (Int.toNat a)))), pv (64 : Nat) (V.sl (5 : Nat) (List.length l) fun (k : Nat) => Rc.c (foldR l k)), pv (65 : Nat) (V.i b), pc (66 : Nat) ((0 : Int) ≤ b ∧ b < (↑(List.length l) : Int)) (V.ptr [V.i (Rc.x0 (foldR l (Int.toNat b))), V.i (Rc.y0 (foldR l (Int.toNat b))), V.i (Rc.x1 (foldR l (Int.toNat b))), V.i (Rc.y1 (foldR l (Int.toNat b))), V.b (Rc.down (foldR l (Int.toNat b)))]), pv (67 : Nat) (V.ptr [V.i (Rc.x0 (foldR l (Int.toNat b))), V.i (Rc.y0 (foldR l (Int.toNat b))), V.i (Rc.x1 (foldR l (Int.toNat b))), V.i (Rc.y1 (foldR l (Int.toNat b))), V.b (Rc.down (foldR l (Int.toNat b)))]), pv (68 : Nat) (V.ptr [V.i (Rc.x0 (foldR l (Int.toNat b))), V.i (Rc.y0 (foldR l (Int.toNat b))), V.i (Rc.x1 (foldR l (Int.toNat b))), V.i (Rc.y1 (foldR l (Int.toNat b))), V.b (Rc.down (foldR l (Int.toNat b)))]), pv (69 : Nat) (V.i (Rc.x0 (foldR l (Int.toNat b)))), pv (70 : Nat) (V.i (max (Rc.x0 (foldR l (Int.toNat a))) (Rc.x0 (foldR l (Int.toNat b))))), pv (71 : Nat) (V.sl (5 : Nat) (List.length l) fun (k : Nat) => Rc.c (foldR l k)), pv (72 : Nat) (V.i a), pc (73 : Nat) ((0 : Int) ≤ a ∧ a < (↑(List.length l) : Int)) (V.ptr [V.i (Rc.x0 (foldR l (Int.toNat a))), V.i (Rc.y0 (foldR l (Int.toNat a))), V.i (Rc.x1 (foldR l (Int.toNat a))), V.i (Rc.y1 (foldR l (Int.toNat a))), V.b (Rc.down (foldR l (Int.toNat a)))]), pv (74 : Nat) (V.ptr [V.i (Rc.x0 (foldR l (Int.toNat a))), V.i (Rc.y0 (foldR l (Int.toNat a))), V.i (Rc.x1 (foldR l (Int.toNat a))), V.i (Rc.y1 (foldR l (Int.toNat a))), V.b (Rc.down (foldR l (Int.toNat a)))]), pv (75 : Nat) (V.ptr [V.i (Rc.y0 (foldR l (Int.toNat a))), V.i (Rc.x1 (foldR l (Int.toNat a))), V.i (Rc.y1 (foldR l (Int.toNat a))), V.b (Rc.down (foldR l (Int.toNat a)))]), pv (76 : Nat) (V.i (Rc.y0 (foldR l (Int.toNat a)))), pv (77 : Nat) (V.sl (5 : Nat) (List.length l) fun (k : Nat) => Rc.c (foldR l k)), pv (78 : Nat) (V.i b), pc (79 : Nat) ((0 : Int) ≤ b ∧ b < (↑(List.length l) : Int)) (V.ptr [V.i (Rc.x0 (foldR l (Int.toNat b))), V.i (Rc.y0 (foldR l (Int.toNat b))), V.i (Rc.x1 (foldR l (Int.toNat b))), V.i (Rc.y1 (foldR l (Int.toNat b))), V.b (Rc.down (foldR l (Int.toNat b)))]), pv (80 : Nat) (V.ptr [V.i (Rc.x0 (foldR l (Int.toNat b))), V.i (Rc.y0 (foldR l (Int.toNat b))), V.i (Rc.x1 (foldR l (Int.toNat b))), V.i (Rc.y1 (foldR l (Int.toNat b))), V.b (Rc.down (foldR l (Int.toNat b)))]), pv (81 : Nat) (V.ptr [V.i (Rc.y0 (foldR l (Int.toNat b))), V.i (Rc.x1 (foldR l (Int.toNat b))), V.i (Rc.y1 (foldR l (Int.toNat b))), V.b (Rc.down (foldR l (Int.toNat b)))]), pv (82 : Nat) (V.i (Rc.y0 (foldR l (Int.toNat b)))), pv (83 : Nat) (V.i (max (Rc.y0 (foldR l (Int.toNat a))) (Rc.y0 (foldR l (Int.toNat b))))), pv (12 : Nat) (V.i (max (Rc.x0 (foldR l (Int.toNat a))) (Rc.x0 (foldR l (Int.toNat b))))), pv (13 : Nat) (V.i (max (Rc.y0 (foldR l (Int.toNat a))) (Rc.y0 (foldR l (Int.toNat b)))))] (by kernel_rfl) (by kernel_rfl) ⟨(by omega), (by omega), (by omega), (by omega), True.intro⟩ ?_
    refine aops_nil ⟨by kernel_rfl, ?_⟩
    refine xt_n ?_
    refine hK _ ?_
    clear hK K
    refine aw_seq_k fun K hK => ?_
    refine w_region (n' := 9) (by kernel_rfl) (by kernel_rfl) ?_
    refine aops_n hTT (M := []) (n := 11) [pv (84 : Nat) (V.i (max (Rc.x0 (foldR l (Int.toNat a))) (Rc.x0 (foldR l (Int.toNat b))))), pv (85 : Nat) (V.i (max (Rc.y0 (foldR l (Int.toNat a))) (Rc.y0 (foldR l (Int.toNat b))))), pv (86 : Nat) (V.i (max (Rc.x0 (foldR l (Int.toNat a))) (Rc.x0 (foldR l (Int.toNat b))))), pv (87 : Nat) (V.i (comW (foldR l (Int.toNat a)) (foldR l (Int.toNat b)))), pc (88 : Nat) ((-9223372036854775808 : Int) ≤ max (Rc.x0 (foldR l (Int.toNat a))) (Rc.x0 (foldR l (Int.toNat b))) + comW (foldR l (Int.toNat a)) (foldR l (Int.toNat b)) ∧ max (Rc.x0 (foldR l (Int.toNat a))) (Rc.x0 (foldR l (Int.toNat b))) + comW (foldR l (Int.toNat a)) (foldR l (Int.toNat b)) ≤ (9223372036854775807 : Int)) (V.i (max (Rc.x0 (foldR l (Int.toNat a))) (Rc.x0 (foldR l (Int.toNat b))) + comW (foldR l (Int.toNat a)) (foldR l (Int.toNat b)))), pv (89 : Nat) (V.i (max (Rc.y0 (foldR l (Int.toNat a))) (Rc.y0 (foldR l (Int.toNat b))))), pv (90 : Nat) (V.i (comH (foldR l (Int.toNat a)) (foldR l (Int.toNat b)))), pc (91 : Nat) ((-9223372036854775808 : Int) ≤ max (Rc.y0 (foldR l (Int.toNat a))) (Rc.y0 (foldR l (Int.toNat b))) + comH (foldR l (Int.toNat a)) (foldR l (Int.toNat b)) ∧ max (Rc.y0 (foldR l (Int.toNat a))) (Rc.y0 (foldR l (Int.toNat b))) + comH (foldR l (Int.toNat a)) (foldR l (Int.toNat b)) ≤ (9223372036854775807 : Int)) (V.i (max (Rc.y0 (foldR l (Int.toNat a))) (Rc.y0 (foldR l (Int.toNat b))) + comH (foldR l (Int.toNat a)) (foldR l (Int.toNat b)))), pv (92 : Nat) (V.agg [V.i (max (Rc.x0 (foldR l (Int.toNat a))) (Rc.x0 (foldR l (Int.toNat b)))), V.i (max (Rc.y0 (foldR l (Int.toNat a))) (Rc.y0 (foldR l (Int.toNat b)))), V.i (max (Rc.x0 (foldR l (Int.toNat a))) (Rc.x0 (foldR l (Int.toNat b))) + comW (foldR l (Int.toNat a)) (foldR l (Int.toNat b))), V.i (max (Rc.y0 (foldR l (Int.toNat a))) (Rc.y0 (foldR l (Int.toNat b))) + comH (foldR l (Int.toNat a)) (foldR l (Int.toNat b))), V.b false]), pw ((0 : Nat) + (5 : Nat) ≤ (5 : Nat)) (100006 : Nat) (Ob.box (52 : Nat) [V.i (max (Rc.x0 (foldR l (Int.toNat a))) (Rc.x0 (foldR l (Int.toNat b)))), V.i (max (Rc.y0 (foldR l (Int.toNat a))) (Rc.y0 (foldR l (Int.toNat b)))), V.i (max (Rc.x0 (foldR l (Int.toNat a))) (Rc.x0 (foldR l (Int.toNat b))) + comW (foldR l (Int.toNat a)) (foldR l (Int.toNat b))), V.i (max (Rc.y0 (foldR l (Int.toNat a))) (Rc.y0 (foldR l (Int.toNat b))) + comH (foldR l (Int.toNat a)) (foldR l (Int.toNat b))), V.b false]), pv (7 : Nat) (V.i (0 : Int))] (by kernel_rfl) (by kernel_rfl) ⟨(by omega), (by omega), (by omega), True.intro⟩ ?_
    refine aops_nil ?_
    refine xt_n ?_
    refine hK _ ?_
    clear hK K
    refine aw_ret ?_
    refine ret_of_le (le_freezeBox (t := (52 : Nat)) (cs := [V.i (max (Rc.x0 (foldR l (Int.toNat a))) (Rc.x0 (foldR l (Int.toNat b)))), V.i (max (Rc.y0 (foldR l (Int.toNat a))) (Rc.y0 (foldR l (Int.toNat b)))), V.i (max (Rc.x0 (foldR l (Int.toNat a))) (Rc.x0 (foldR l (Int.toNat b))) + comW (foldR l (Int.toNat a)) (foldR l (Int.toNat b))), V.i (max (Rc.y0 (foldR l (Int.toNat a))) (Rc.y0 (foldR l (Int.toNat b))) + comH (foldR l (Int.toNat a)) (foldR l (Int.toNat b))), V.b false]) 100006 (by kernel_rfl) (by kernel_rfl)) ?_
    rw [pockR, pock_4 hE h2 h4, if_pos rfl]
    refine ret_pure (v' := V.tup [V.agg [V.i (max (Rc.x0 (foldR l (Int.toNat a))) (Rc.x0 (foldR l (Int.toNat b)))), V.i (max (Rc.y0 (foldR l (Int.toNat a))) (Rc.y0 (foldR l (Int.toNat b)))), V.i (max (Rc.x0 (foldR l (Int.toNat a))) (Rc.x0 (foldR l (Int.toNat b))) + comW (foldR l (Int.toNat a)) (foldR l (Int.toNat b))), V.i (max (Rc.y0 (foldR l (Int.toNat a))) (Rc.y0 (foldR l (Int.toNat b))) + comH (foldR l (Int.toNat a)) (foldR l (Int.toNat b))), V.b false], V.i (0 : Int)]) (.inr rfl) (by kernel_rfl) (by kernel_rfl) (by kernel_rfl)
  · rw [foldV, if_neg hE] at A
    refine e_call (first := []) (caps := []) (A) (by kernel_rfl) (by kernel_rfl) (by kernel_rfl) (by kernel_rfl) (by kernel_rfl) ?_
    refine aops_n hTT (M := []) (n := 5) [pv (14 : Nat) (V.tup [V.nil, V.i (netE l)]), pv (17 : Nat) V.nil, pv (18 : Nat) (V.i (netE l)), pv (8 : Nat) V.nil, pv (9 : Nat) (V.i (netE l))] (by kernel_rfl) (by kernel_rfl) True.intro ?_
    refine aops_nil ?_
    refine xt_n ?_
    refine hK _ ?_
    clear hK K
    refine aw_seq_k fun K hK => ?_
    refine aw_seq_k fun K hK => ?_
    refine w_region (n' := 4) (by kernel_rfl) (by kernel_rfl) ?_
    refine aops_n hTT (M := []) (n := 2) [pv (19 : Nat) (V.i (netE l)), pv (20 : Nat) (V.b !decide (netE l = (0 : Int)))] (by kernel_rfl) (by kernel_rfl) True.intro ?_
    refine aops_nil ?_
    refine xt_n ?_
    refine hK _ ?_
    clear hK K
    refine w_cond (t := !decide (netE l = (0 : Int))) (by kernel_rfl) (fun c1 => ?_) (fun c1 => ?_)
    · refine aw_seq_k fun K hK => ?_
      refine w_region (n' := 5) (by kernel_rfl) (by kernel_rfl) ?_
      refine aops_n hTT (M := []) (n := 4) [pv (21 : Nat) (V.agg [V.i (0 : Int), V.i (0 : Int), V.i (0 : Int), V.i (0 : Int), V.b false]), pv (22 : Nat) (V.i (netE l)), pw ((0 : Nat) + (5 : Nat) ≤ (5 : Nat)) (100006 : Nat) (Ob.box (52 : Nat) [V.i (0 : Int), V.i (0 : Int), V.i (0 : Int), V.i (0 : Int), V.b false]), pv (7 : Nat) (V.i (netE l))] (by kernel_rfl) (by kernel_rfl) ⟨(by omega), True.intro⟩ ?_
      refine aops_nil ?_
      refine xt_n ?_
      refine hK _ ?_
      clear hK K
      refine aw_ret ?_
      refine xt_r ?_
      refine ret_of_le (le_freezeBox (t := (52 : Nat)) (cs := [V.i (0 : Int), V.i (0 : Int), V.i (0 : Int), V.i (0 : Int), V.b false]) 100006 (by kernel_rfl) (by kernel_rfl)) ?_
      rw [pockR, pock_1 hE, if_neg hE]
      refine ret_pure (v' := V.tup [V.agg [V.i (0 : Int), V.i (0 : Int), V.i (0 : Int), V.i (0 : Int), V.b false], V.i (netE l)]) (.inr rfl) (by kernel_rfl) (by kernel_rfl) (by kernel_rfl)
    · simp at c1
      exact absurd c1 hE
end Go.Proofs.YtfckkkmacjjmhaaDoor
