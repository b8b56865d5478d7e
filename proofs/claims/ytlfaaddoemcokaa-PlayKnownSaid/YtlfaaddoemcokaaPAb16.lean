/-
  Where a tip leaves its groove: the walk of play.Jump. No condition but the sizes of slices.
-/
import Derived.Test.YtlfaaddoemcokaaPAb14
namespace Go.Proofs.Ytlfaaddoemcokaa
open Go.Ab Go.RowKit Go.Dw Go.Shelf

set_option maxRecDepth 100000 in
theorem bends_ac (l : List Pt) (hl : l.length ≤ 4096) (hb : Bd l) : AC Try.prog 61 [V.pts l] (.sl 1 (l.length - 2) fun k => [.i (bendAt l (k + 1))]) [] := by
  refine ac_intro hTT hMX (fn := Try.f61) (N := _) ⟨Try.func61, rfl, Try.ntmps61, by kernel_rfl⟩ (by simp) fun C hC hF => ?_
  refine aw_seq_k fun K hK => ?_
  refine w_region (n' := 2) (by kernel_rfl) (by kernel_rfl) ?_
  refine aops_n hTT (M := []) (n := 1) [pv (2 : Nat) V.nil] (by kernel_rfl) (by kernel_rfl) True.intro ?_
  refine aops_nil ?_
  refine xt_n ?_
  refine hK _ ?_
  clear hK K
  refine aw_seq_k fun K hK => ?_
  refine w_region (n' := 3) (by kernel_rfl) (by kernel_rfl) ?_
  refine aops_n hTT (M := []) (n := 1) [pv (3 : Nat) V.nil] (by kernel_rfl) (by kernel_rfl) True.intro ?_
  refine aops_nil ?_
  refine xt_n ?_
  refine hK _ ?_
  clear hK K
  refine aw_seq_k fun K hK => ?_
  refine aw_seq_k fun K hK => ?_
  refine w_region (n' := 4) (by kernel_rfl) (by kernel_rfl) ?_
  refine aops_n hTT (M := []) (n := 1) [pv (4 : Nat) (V.i (1 : Int))] (by kernel_rfl) (by kernel_rfl) True.intro ?_
  refine aops_nil ?_
  refine xt_n ?_
  refine hK _ ?_
  clear hK K
  refine aw_block ?_
  refine w_le (le_open 3 2 1 (fun k => [.i (bendAt l (k + 1))]) (by kernel_rfl) rfl) ?_
  refine w_loop (fun k : Nat => [(0, V.pts l), (3, .own 3), (4, .i ((k : Int) + 1))]) (fun k => [(3, .row 2 1 k fun k => [.i (bendAt l (k + 1))])]) (fun k => k ≤ l.length - 2) (fun k => l.length - k) 0 (Nat.zero_le _) ?_ ?_
  · refine le_ren (sl := [(3, Ob.row (2 : Nat) (1 : Nat) (0 : Nat) fun (k : Nat) => [V.i (bendAt l (k + (1 : Nat)))])]) [(3, 400003)] (.cons (by kernel_rfl) (.cons (by kernel_rfl) (.cons (by kernel_rfl) .nil))) (.cons ⟨Ob.row (2 : Nat) (1 : Nat) (0 : Nat) fun (k : Nat) => [V.i (bendAt l (k + (1 : Nat)))], (by kernel_rfl), .row (by kernel_rfl) (fun _ _ => rfl)⟩ .nil) (by kernel_rfl) (by kernel_rfl)
  intro k hk
  refine aw_seq_k fun K hK => ?_
  refine aw_seq_k fun K hK => ?_
  refine w_region (n' := 2) (by kernel_rfl) (by kernel_rfl) ?_
  refine aops_n hTT (M := []) (n := 5) [pv (8 : Nat) (V.i ((↑k : Int) + (1 : Int))), pc (9 : Nat) ((-9223372036854775808 : Int) ≤ (↑k : Int) + (1 : Int) + (1 : Int) ∧ (↑k : Int) + (1 : Int) + (1 : Int) ≤ (9223372036854775807 : Int)) (V.i ((↑k : Int) + (1 : Int) + (1 : Int))), pv (10 : Nat) (V.sl (2 : Nat) (List.length l) fun (k : Nat) => [V.i (Prod.fst (gp l k)), V.i (Prod.snd (gp l k))]), pv (11 : Nat) (V.i (↑(List.length l) : Int)), pv (12 : Nat) (V.b (decide ((↑k : Int) + (1 : Int) + (1 : Int) < (↑(List.length l) : Int))))] (by kernel_rfl) (by kernel_rfl) ⟨(by omega), True.intro⟩ ?_
  refine aops_nil ?_
  refine xt_n ?_
  refine hK _ ?_
  clear hK K
  refine w_cond (t := decide ((↑k : Int) + (1 : Int) + (1 : Int) < (↑(List.length l) : Int))) (by kernel_rfl) (fun h => ?_) (fun h => ?_)
  · simp at h
    have e0 : ((k : Int) + 1 - 1).toNat = k := by omega
    have h0 := gp_bd hb ((k : Int) + 1 - 1).toNat
    have h1 := gp_bd hb (k + 1)
    have h2 := gp_bd hb (k + 1 + 1)
    refine aw_skip ?_
    refine xt_n ?_
    refine hK _ ?_
    clear hK K
    refine aw_seq_k fun K hK => ?_
    refine aw_block ?_
    refine aw_seq_k fun K hK => ?_
    refine w_regionD (n' := 3) (by kernel_rfl) (by kernel_rfl) ?_
    refine aops_n hTT (M := []) (n := 20) [pv (15 : Nat) (V.sl (2 : Nat) (List.length l) fun (k : Nat) => [V.i (Prod.fst (gp l k)), V.i (Prod.snd (gp l k))]), pv (16 : Nat) (V.i ((↑k : Int) + (1 : Int))), pc (17 : Nat) ((-9223372036854775808 : Int) ≤ (↑k : Int) + (1 : Int) - (1 : Int) ∧ (↑k : Int) + (1 : Int) - (1 : Int) ≤ (9223372036854775807 : Int)) (V.i ((↑k : Int) + (1 : Int) - (1 : Int))), pc (18 : Nat) ((0 : Int) ≤ (↑k : Int) + (1 : Int) - (1 : Int) ∧ (↑k : Int) + (1 : Int) - (1 : Int) < (↑(List.length l) : Int)) (V.ptr [V.i (Prod.fst (gp l (Int.toNat ((↑k : Int) + (1 : Int) - (1 : Int))))), V.i (Prod.snd (gp l (Int.toNat ((↑k : Int) + (1 : Int) - (1 : Int)))))]), pv (19 : Nat) (V.agg [V.i (Prod.fst (gp l (Int.toNat ((↑k : Int) + (1 : Int) - (1 : Int))))), V.i (Prod.snd (gp l (Int.toNat ((↑k : Int) + (1 : Int) - (1 : Int)))))]), pv (20 : Nat) (V.sl (2 : Nat) (List.length l) fun (k : Nat) => [V.i (Prod.fst (gp l k)), V.i (Prod.snd (gp l k))]), pv (21 : Nat) (V.i ((↑k : Int) + (1 : Int))), pc (22 : Nat) ((0 : Int) ≤ (↑k : Int) + (1 : Int) ∧ (↑k : Int) + (1 : Int) < (↑(List.length l) : Int)) (V.ptr [V.i (Prod.fst (gp l (k + (1 : Nat)))), V.i (Prod.snd (gp l (k + (1 : Nat))))]), pv (23 : Nat) (V.agg [V.i (Prod.fst (gp l (k + (1 : Nat)))), V.i (Prod.snd (gp l (k + (1 : Nat))))]), pv (24 : Nat) (V.sl (2 : Nat) (List.length l) fun (k : Nat) => [V.i (Prod.fst (gp l k)), V.i (Prod.snd (gp l k))]), pv (25 : Nat) (V.i ((↑k : Int) + (1 : Int))), pc (26 : Nat) ((-9223372036854775808 : Int) ≤ (↑k : Int) + (1 : Int) + (1 : Int) ∧ (↑k : Int) + (1 : Int) + (1 : Int) ≤ (9223372036854775807 : Int)) (V.i ((↑k : Int) + (1 : Int) + (1 : Int))), pc (27 : Nat) ((0 : Int) ≤ (↑k : Int) + (1 : Int) + (1 : Int) ∧ (↑k : Int) + (1 : Int) + (1 : Int) < (↑(List.length l) : Int)) (V.ptr [V.i (Prod.fst (gp l (k + (1 : Nat) + (1 : Nat)))), V.i (Prod.snd (gp l (k + (1 : Nat) + (1 : Nat))))]), pv (28 : Nat) (V.agg [V.i (Prod.fst (gp l (k + (1 : Nat) + (1 : Nat)))), V.i (Prod.snd (gp l (k + (1 : Nat) + (1 : Nat))))]), pn (5 : Nat) (V.ref (200005 : Nat) (0 : Nat)) (200005 : Nat) (Ob.box (29 : Nat) [V.i (0 : Int), V.i (0 : Int)]), pn (6 : Nat) (V.ref (200006 : Nat) (0 : Nat)) (200006 : Nat) (Ob.box (29 : Nat) [V.i (0 : Int), V.i (0 : Int)]), pn (7 : Nat) (V.ref (200007 : Nat) (0 : Nat)) (200007 : Nat) (Ob.box (29 : Nat) [V.i (0 : Int), V.i (0 : Int)]), pw ((0 : Nat) + (2 : Nat) ≤ (2 : Nat)) (200005 : Nat) (Ob.box (29 : Nat) [V.i (Prod.fst (gp l (Int.toNat ((↑k : Int) + (1 : Int) - (1 : Int))))), V.i (Prod.snd (gp l (Int.toNat ((↑k : Int) + (1 : Int) - (1 : Int)))))]), pw ((0 : Nat) + (2 : Nat) ≤ (2 : Nat)) (200006 : Nat) (Ob.box (29 : Nat) [V.i (Prod.fst (gp l (k + (1 : Nat)))), V.i (Prod.snd (gp l (k + (1 : Nat))))]), pw ((0 : Nat) + (2 : Nat) ≤ (2 : Nat)) (200007 : Nat) (Ob.box (29 : Nat) [V.i (Prod.fst (gp l (k + (1 : Nat) + (1 : Nat)))), V.i (Prod.snd (gp l (k + (1 : Nat) + (1 : Nat))))])] (by kernel_rfl) (by kernel_rfl) ⟨(by omega), (by omega), (by omega), (by omega), (by omega), (by omega), (by omega), (by omega), True.intro⟩ ?_
    refine aops_nil ⟨by kernel_rfl, ?_⟩
    refine xt_n ?_
    refine hK _ ?_
    clear hK K
    refine w_region (n' := 4) (by kernel_rfl) (by kernel_rfl) ?_
    refine aops_n hTT (M := []) (n := 22) [pv (29 : Nat) (V.own (3 : Nat)), pv (30 : Nat) (V.ref (200005 : Nat) (0 : Nat)), pc (31 : Nat) ((0 : Nat) ≤ (2 : Nat)) (V.i (Prod.fst (gp l (Int.toNat ((↑k : Int) + (1 : Int) - (1 : Int)))))), pv (32 : Nat) (V.ref (200005 : Nat) (1 : Nat)), pc (33 : Nat) ((1 : Nat) ≤ (2 : Nat)) (V.i (Prod.snd (gp l (Int.toNat ((↑k : Int) + (1 : Int) - (1 : Int)))))), pc (34 : Nat) ((-9223372036854775808 : Int) ≤ Prod.fst (gp l (Int.toNat ((↑k : Int) + (1 : Int) - (1 : Int)))) + Prod.snd (gp l (Int.toNat ((↑k : Int) + (1 : Int) - (1 : Int)))) ∧ Prod.fst (gp l (Int.toNat ((↑k : Int) + (1 : Int) - (1 : Int)))) + Prod.snd (gp l (Int.toNat ((↑k : Int) + (1 : Int) - (1 : Int)))) ≤ (9223372036854775807 : Int)) (V.i (Prod.fst (gp l (Int.toNat ((↑k : Int) + (1 : Int) - (1 : Int)))) + Prod.snd (gp l (Int.toNat ((↑k : Int) + (1 : Int) - (1 : Int)))))), pv (35 : Nat) (V.ref (200007 : Nat) (0 : Nat)), pc (36 : Nat) ((0 : Nat) ≤ (2 : Nat)) (V.i (Prod.fst (gp l (k + (1 : Nat) + (1 : Nat))))), pc (37 : Nat) ((-9223372036854775808 : Int) ≤ Prod.fst (gp l (Int.toNat ((↑k : Int) + (1 : Int) - (1 : Int)))) + Prod.snd (gp l (Int.toNat ((↑k : Int) + (1 : Int) - (1 : Int)))) + Prod.fst (gp l (k + (1 : Nat) + (1 : Nat))) ∧ Prod.fst (gp l (Int.toNat ((↑k : Int) + (1 : Int) - (1 : Int)))) + Prod.snd (gp l (Int.toNat ((↑k : Int) + (1 : Int) - (1 : Int)))) + Prod.fst (gp l (k + (1 : Nat) + (1 : Nat))) ≤ (9223372036854775807 : Int)) (V.i (Prod.fst (gp l (Int.toNat ((↑k : Int) + (1 : Int) - (1 : Int)))) + Prod.snd (gp l (Int.toNat ((↑k : Int) + (1 : Int) - (1 : Int)))) + Prod.fst (gp l (k + (1 : Nat) + (1 : Nat))))), pv (38 : Nat) (V.ref (200007 : Nat) (1 : Nat)), pc (39 : Nat) ((1 : Nat) ≤ (2 : Nat)) (V.i (Prod.snd (gp l (k + (1 : Nat) + (1 : Nat))))), pc (40 : Nat) ((-9223372036854775808 : Int) ≤ Prod.fst (gp l (Int.toNat ((↑k : Int) + (1 : Int) - (1 : Int)))) + Prod.snd (gp l (Int.toNat ((↑k : Int) + (1 : Int) - (1 : Int)))) + Prod.fst (gp l (k + (1 : Nat) + (1 : Nat))) + Prod.snd (gp l (k + (1 : Nat) + (1 : Nat))) ∧ Prod.fst (gp l (Int.toNat ((↑k : Int) + (1 : Int) - (1 : Int)))) + Prod.snd (gp l (Int.toNat ((↑k : Int) + (1 : Int) - (1 : Int)))) + Prod.fst (gp l (k + (1 : Nat) + (1 : Nat))) + Prod.snd (gp l (k + (1 : Nat) + (1 : Nat))) ≤ (9223372036854775807 : Int)) (V.i (Prod.fst (gp l (Int.toNat ((↑k : Int) + (1 : Int) - (1 : Int)))) + Prod.snd (gp l (Int.toNat ((↑k : Int) + (1 : Int) - (1 : Int)))) + Prod.fst (gp l (k + (1 : Nat) + (1 : Nat))) + Prod.snd (gp l (k + (1 : Nat) + (1 : Nat))))), pv (41 : Nat) (V.ref (200006 : Nat) (0 : Nat)), pc (42 : Nat) ((0 : Nat) ≤ (2 : Nat)) (V.i (Prod.fst (gp l (k + (1 : Nat))))), pv (43 : Nat) (V.ref (200006 : Nat) (1 : Nat)), pc (44 : Nat) ((1 : Nat) ≤ (2 : Nat)) (V.i (Prod.snd (gp l (k + (1 : Nat))))), pc (45 : Nat) ((-9223372036854775808 : Int) ≤ Prod.fst (gp l (k + (1 : Nat))) + Prod.snd (gp l (k + (1 : Nat))) ∧ Prod.fst (gp l (k + (1 : Nat))) + Prod.snd (gp l (k + (1 : Nat))) ≤ (9223372036854775807 : Int)) (V.i (Prod.fst (gp l (k + (1 : Nat))) + Prod.snd (gp l (k + (1 : Nat))))), pc (46 : Nat) ((-9223372036854775808 : Int) ≤ (2 : Int) * (Prod.fst (gp l (k + (1 : Nat))) + Prod.snd (gp l (k + (1 : Nat)))) ∧ (2 : Int) * (Prod.fst (gp l (k + (1 : Nat))) + Prod.snd (gp l (k + (1 : Nat)))) ≤ (9223372036854775807 : Int)) (V.i ((2 : Int) * (Prod.fst (gp l (k + (1 : Nat))) + Prod.snd (gp l (k + (1 : Nat)))))), pc (47 : Nat) ((-9223372036854775808 : Int) ≤ Prod.fst (gp l (Int.toNat ((↑k : Int) + (1 : Int) - (1 : Int)))) + Prod.snd (gp l (Int.toNat ((↑k : Int) + (1 : Int) - (1 : Int)))) + Prod.fst (gp l (k + (1 : Nat) + (1 : Nat))) + Prod.snd (gp l (k + (1 : Nat) + (1 : Nat))) - (2 : Int) * (Prod.fst (gp l (k + (1 : Nat))) + Prod.snd (gp l (k + (1 : Nat)))) ∧ Prod.fst (gp l (Int.toNat ((↑k : Int) + (1 : Int) - (1 : Int)))) + Prod.snd (gp l (Int.toNat ((↑k : Int) + (1 : Int) - (1 : Int)))) + Prod.fst (gp l (k + (1 : Nat) + (1 : Nat))) + Prod.snd (gp l (k + (1 : Nat) + (1 : Nat))) - (2 : Int) * (Prod.fst (gp l (k + (1 : Nat))) + Prod.snd (gp l (k + (1 : Nat)))) ≤ (9223372036854775807 : Int)) (V.i (Prod.fst (gp l (Int.toNat ((↑k : Int) + (1 : Int) - (1 : Int)))) + Prod.snd (gp l (Int.toNat ((↑k : Int) + (1 : Int) - (1 : Int)))) + Prod.fst (gp l (k + (1 : Nat) + (1 : Nat))) + Prod.snd (gp l (k + (1 : Nat) + (1 : Nat))) - (2 : Int) * (Prod.fst (gp l (k + (1 : Nat))) + Prod.snd (gp l (k + (1 : Nat)))))), pv (48 : Nat) (V.sl (1 : Nat) (1 : Nat) fun (i : Nat) => List.take (1 : Nat) (List.drop (i * (1 : Nat)) [V.i (Prod.fst (gp l (Int.toNat ((↑k : Int) + (1 : Int) - (1 : Int)))) + Prod.snd (gp l (Int.toNat ((↑k : Int) + (1 : Int) - (1 : Int)))) + Prod.fst (gp l (k + (1 : Nat) + (1 : Nat))) + Prod.snd (gp l (k + (1 : Nat) + (1 : Nat))) - (2 : Int) * (Prod.fst (gp l (k + (1 : Nat))) + Prod.snd (gp l (k + (1 : Nat)))))])), PR.mk (some (49 : Nat)) (some (k + (1 : Nat) ≤ (1099511627776 : Nat))) (V.own (300049 : Nat)) [((3 : Nat), none), ((300049 : Nat), some (Ob.row (2 : Nat) (1 : Nat) (k + (1 : Nat)) (appRow k (fun (k : Nat) => [V.i (bendAt l (k + (1 : Nat)))]) fun (i : Nat) => List.take (1 : Nat) (List.drop (i * (1 : Nat)) [V.i (Prod.fst (gp l (Int.toNat ((↑k : Int) + (1 : Int) - (1 : Int)))) + Prod.snd (gp l (Int.toNat ((↑k : Int) + (1 : Int) - (1 : Int)))) + Prod.fst (gp l (k + (1 : Nat) + (1 : Nat))) + Prod.snd (gp l (k + (1 : Nat) + (1 : Nat))) - (2 : Int) * (Prod.fst (gp l (k + (1 : Nat))) + Prod.snd (gp l (k + (1 : Nat)))))]))))] false, pv (3 : Nat) (V.own (300049 : Nat))] (by kernel_rfl) (by kernel_rfl) ⟨(by omega), (by omega), (by omega), (by omega), (by omega), (by omega), (by omega), (by omega), (by omega), (by omega), (by omega), (by omega), (by omega), True.intro⟩ ?_
    refine aops_nil ?_
    refine xb_n ?_
    refine xt_n ?_
    refine hK _ ?_
    clear hK K
    refine w_region (n' := 5) (by kernel_rfl) (by kernel_rfl) ?_
    refine aops_n hTT (M := []) (n := 3) [pv (13 : Nat) (V.i ((↑k : Int) + (1 : Int))), pc (14 : Nat) ((-9223372036854775808 : Int) ≤ (↑k : Int) + (1 : Int) + (1 : Int) ∧ (↑k : Int) + (1 : Int) + (1 : Int) ≤ (9223372036854775807 : Int)) (V.i ((↑k : Int) + (1 : Int) + (1 : Int))), pv (4 : Nat) (V.i ((↑k : Int) + (1 : Int) + (1 : Int)))] (by kernel_rfl) (by kernel_rfl) ⟨(by omega), True.intro⟩ ?_
    refine aops_nil ?_
    refine xt_n ?_
    refine ⟨k + 1, by omega, ?_, by omega⟩
    refine le_ren (tl := [(0, V.sl (2 : Nat) (List.length l) fun (k : Nat) => [V.i (Prod.fst (gp l k)), V.i (Prod.snd (gp l k))]), (3, V.own (3 : Nat)), (4, V.i ((↑(k + (1 : Nat)) : Int) + (1 : Int)))]) (sl := [(3, Ob.row (2 : Nat) (1 : Nat) (k + (1 : Nat)) fun (k : Nat) => [V.i (bendAt l (k + (1 : Nat)))])]) [(3, 300049)] (.cons (by kernel_rfl) (.cons (by kernel_rfl) (.cons (by kernel_rfl) .nil))) (.cons ⟨Ob.row (2 : Nat) (1 : Nat) (k + (1 : Nat)) (appRow k (fun (k : Nat) => [V.i (bendAt l (k + (1 : Nat)))]) fun (i : Nat) => List.take (1 : Nat) (List.drop (i * (1 : Nat)) [V.i (Prod.fst (gp l (Int.toNat ((↑k : Int) + (1 : Int) - (1 : Int)))) + Prod.snd (gp l (Int.toNat ((↑k : Int) + (1 : Int) - (1 : Int)))) + Prod.fst (gp l (k + (1 : Nat) + (1 : Nat))) + Prod.snd (gp l (k + (1 : Nat) + (1 : Nat))) - (2 : Int) * (Prod.fst (gp l (k + (1 : Nat))) + Prod.snd (gp l (k + (1 : Nat)))))])), (by kernel_rfl), .row (by kernel_rfl) ?_⟩ .nil) (by kernel_rfl) (by kernel_rfl)
    intro i hi
    by_cases hik : i < k
    · rw [appRow_lt hik]; rfl
    · obtain rfl : i = k := by omega
      rw [appRow_at, e0]
      rfl
  simp at h
  obtain rfl : k = l.length - 2 := by omega
  refine aw_exit ?_
  refine xt_x ?_
  refine xt_x ?_
  refine xb_same ?_
  refine xt_n ?_
  clear hK K
  refine hK _ ?_
  clear hK K
  refine aw_seq_k fun K hK => ?_
  refine w_region (n' := 3) (by kernel_rfl) (by kernel_rfl) ?_
  refine aops_n hTT (M := []) (n := 2) [pv (50 : Nat) (V.own (3 : Nat)), pv (2 : Nat) (V.own (3 : Nat))] (by kernel_rfl) (by kernel_rfl) True.intro ?_
  refine aops_nil ?_
  refine xt_n ?_
  refine hK _ ?_
  clear hK K
  refine aw_ret ?_
  refine ret_of_le (le_shut 2 3 (e := (2 : Nat)) (sz := (1 : Nat)) (n := List.length l - (2 : Nat)) (n' := (l.length - 2)) (row := fun (k : Nat) => [V.i (bendAt l (k + (1 : Nat)))]) (row' := (fun k => [.i (bendAt l (k + 1))])) (by kernel_rfl) (by kernel_rfl) (fun _ _ => rfl) ?_ ?_) ?_
  · rfl
  · exact fun _ _ => rfl
  refine ret_pure (v' := V.sl (1 : Nat) (List.length l - (2 : Nat)) fun (k : Nat) => [V.i (bendAt l (k + (1 : Nat)))]) (.inr rfl) (by kernel_rfl) (by kernel_rfl) (by kernel_rfl)
theorem arm_test {h s : Int} (hr : -9223372036854775808 ≤ s ∧ s ≤ 9223372036854775807) : (decide (h < 0) || decide (67108864 < h) || decide (67108864 < max s (IntKind.i64.wrap (0 - s))) || decide (s < -67108864)) = !armB h s := by
  by_cases hm : s = -9223372036854775808
  · subst hm
    have e : IntKind.i64.wrap (0 - -9223372036854775808) = -9223372036854775808 := by decide
    rw [e]
    simp [armB]
  · have e : IntKind.i64.wrap (0 - s) = -s := by rw [IntWalk.i64_in _ (by omega)]; omega
    rw [e, Bool.eq_iff_iff]
    simp [armB]
    omega
set_option maxRecDepth 100000 in
theorem Jump_ac (h s : Int) (l : List Pt) (hl : l.length ≤ 4611686018427387904) (hr : -9223372036854775808 ≤ s ∧ s ≤ 9223372036854775807) : AC Try.prog 30 [.agg [.i h, .i s], V.pts l] (.tup [.i (jumpI h s l).1, .i (jumpI h s l).2.1, .i (jumpI h s l).2.2]) [] := by
  refine ac_intro hTT hMX (fn := Try.f30) (N := _) ⟨Try.func30, rfl, Try.ntmps30, by kernel_rfl⟩ (by simp) fun C hC hF => ?_
  refine aw_seq_k fun K hK => ?_
  refine w_region (n' := 2) (by kernel_rfl) (by kernel_rfl) ?_
  refine aops_n hTT (M := []) (n := 4) [pv (2 : Nat) (V.ptr [V.i h, V.i s]), pv (4 : Nat) (V.i (0 : Int)), pv (5 : Nat) (V.i (0 : Int)), pv (6 : Nat) (V.i (0 : Int))] (by kernel_rfl) (by kernel_rfl) True.intro ?_
  refine aops_nil ?_
  refine xt_n ?_
  refine hK _ ?_
  clear hK K
  refine aw_seq_k fun K hK => ?_
  refine aw_seq_k fun K hK => ?_
  refine w_region (n' := 3) (by kernel_rfl) (by kernel_rfl) ?_
  refine aops_n hTT (M := []) (n := 22) [pv (11 : Nat) (V.ptr [V.i h, V.i s]), pv (12 : Nat) (V.i h), pv (13 : Nat) (V.b (decide (h < (0 : Int)))), pv (14 : Nat) (V.b (decide (h < (0 : Int)))), pc (15 : Nat) ((True ∧ True) ∧ ((decide (h < (0 : Int)) == false) = true → True)) (V.gd (decide (h < (0 : Int)) == false) (V.ptr [V.i h, V.i s])), pc (16 : Nat) ((((decide (h < (0 : Int)) == false) = true → (decide (h < (0 : Int)) == false) = true) ∧ True) ∧ ((decide (h < (0 : Int)) == false) = true → True)) (V.gd (decide (h < (0 : Int)) == false) (V.i h)), pc (17 : Nat) ((((decide (h < (0 : Int)) == false) = true → (decide (h < (0 : Int)) == false) = true) ∧ True ∧ True) ∧ ((decide (h < (0 : Int)) == false) = true → True)) (V.gd (decide (h < (0 : Int)) == false) (V.b (decide ((67108864 : Int) < h)))), pc (18 : Nat) (True ∧ (decide (h < (0 : Int)) = false → (decide (h < (0 : Int)) == false) = true)) (V.b (decide (h < (0 : Int)) || decide ((67108864 : Int) < h))), pv (19 : Nat) (V.b (decide (h < (0 : Int)) || decide ((67108864 : Int) < h))), pc (20 : Nat) ((True ∧ True) ∧ (((decide (h < (0 : Int)) || decide ((67108864 : Int) < h)) == false) = true → True)) (V.gd ((decide (h < (0 : Int)) || decide ((67108864 : Int) < h)) == false) (V.ptr [V.i s])), pc (21 : Nat) (((((decide (h < (0 : Int)) || decide ((67108864 : Int) < h)) == false) = true → ((decide (h < (0 : Int)) || decide ((67108864 : Int) < h)) == false) = true) ∧ True) ∧ (((decide (h < (0 : Int)) || decide ((67108864 : Int) < h)) == false) = true → True)) (V.gd ((decide (h < (0 : Int)) || decide ((67108864 : Int) < h)) == false) (V.i s)), pc (22 : Nat) ((True ∧ True) ∧ (((decide (h < (0 : Int)) || decide ((67108864 : Int) < h)) == false) = true → True)) (V.gd ((decide (h < (0 : Int)) || decide ((67108864 : Int) < h)) == false) (V.ptr [V.i s])), pc (23 : Nat) (((((decide (h < (0 : Int)) || decide ((67108864 : Int) < h)) == false) = true → ((decide (h < (0 : Int)) || decide ((67108864 : Int) < h)) == false) = true) ∧ True) ∧ (((decide (h < (0 : Int)) || decide ((67108864 : Int) < h)) == false) = true → True)) (V.gd ((decide (h < (0 : Int)) || decide ((67108864 : Int) < h)) == false) (V.i s)), pcw (24 : Nat) (((((decide (h < (0 : Int)) || decide ((67108864 : Int) < h)) == false) = true → ((decide (h < (0 : Int)) || decide ((67108864 : Int) < h)) == false) = true) ∧ True) ∧ (((decide (h < (0 : Int)) || decide ((67108864 : Int) < h)) == false) = true → True)) (V.gd ((decide (h < (0 : Int)) || decide ((67108864 : Int) < h)) == false) (V.i (IntKind.wrap IntKind.i64 ((0 : Int) - s)))), pc (25 : Nat) (((((decide (h < (0 : Int)) || decide ((67108864 : Int) < h)) == false) = true → ((decide (h < (0 : Int)) || decide ((67108864 : Int) < h)) == false) = true) ∧ (((decide (h < (0 : Int)) || decide ((67108864 : Int) < h)) == false) = true → ((decide (h < (0 : Int)) || decide ((67108864 : Int) < h)) == false) = true) ∧ True) ∧ (((decide (h < (0 : Int)) || decide ((67108864 : Int) < h)) == false) = true → True)) (V.gd ((decide (h < (0 : Int)) || decide ((67108864 : Int) < h)) == false) (V.i (max s (IntKind.wrap IntKind.i64 ((0 : Int) - s))))), pc (26 : Nat) (((((decide (h < (0 : Int)) || decide ((67108864 : Int) < h)) == false) = true → ((decide (h < (0 : Int)) || decide ((67108864 : Int) < h)) == false) = true) ∧ True ∧ True) ∧ (((decide (h < (0 : Int)) || decide ((67108864 : Int) < h)) == false) = true → True)) (V.gd ((decide (h < (0 : Int)) || decide ((67108864 : Int) < h)) == false) (V.b (decide ((67108864 : Int) < max s (IntKind.wrap IntKind.i64 ((0 : Int) - s)))))), pc (27 : Nat) (True ∧ ((decide (h < (0 : Int)) || decide ((67108864 : Int) < h)) = false → ((decide (h < (0 : Int)) || decide ((67108864 : Int) < h)) == false) = true)) (V.b (decide (h < (0 : Int)) || decide ((67108864 : Int) < h) || decide ((67108864 : Int) < max s (IntKind.wrap IntKind.i64 ((0 : Int) - s))))), pv (28 : Nat) (V.b (decide (h < (0 : Int)) || decide ((67108864 : Int) < h) || decide ((67108864 : Int) < max s (IntKind.wrap IntKind.i64 ((0 : Int) - s))))), pc (29 : Nat) ((True ∧ True) ∧ (((decide (h < (0 : Int)) || decide ((67108864 : Int) < h) || decide ((67108864 : Int) < max s (IntKind.wrap IntKind.i64 ((0 : Int) - s)))) == false) = true → True)) (V.gd ((decide (h < (0 : Int)) || decide ((67108864 : Int) < h) || decide ((67108864 : Int) < max s (IntKind.wrap IntKind.i64 ((0 : Int) - s)))) == false) (V.ptr [V.i s])), pc (30 : Nat) (((((decide (h < (0 : Int)) || decide ((67108864 : Int) < h) || decide ((67108864 : Int) < max s (IntKind.wrap IntKind.i64 ((0 : Int) - s)))) == false) = true → ((decide (h < (0 : Int)) || decide ((67108864 : Int) < h) || decide ((67108864 : Int) < max s (IntKind.wrap IntKind.i64 ((0 : Int) - s)))) == false) = true) ∧ True) ∧ (((decide (h < (0 : Int)) || decide ((67108864 : Int) < h) || decide ((67108864 : Int) < max s (IntKind.wrap IntKind.i64 ((0 : Int) - s)))) == false) = true → True)) (V.gd ((decide (h < (0 : Int)) || decide ((67108864 : Int) < h) || decide ((67108864 : Int) < max s (IntKind.wrap IntKind.i64 ((0 : Int) - s)))) == false) (V.i s)), pc (31 : Nat) (((((decide (h < (0 : Int)) || decide ((67108864 : Int) < h) || decide ((67108864 : Int) < max s (IntKind.wrap IntKind.i64 ((0 : Int) - s)))) == false) = true → ((decide (h < (0 : Int)) || decide ((67108864 : Int) < h) || decide ((67108864 : Int) < max s (IntKind.wrap IntKind.i64 ((0 : Int) - s)))) == false) = true) ∧ True ∧ True) ∧ (((decide (h < (0 : Int)) || decide ((67108864 : Int) < h) || decide ((67108864 : Int) < max s (IntKind.wrap IntKind.i64 ((0 : Int) - s)))) == false) = true → True)) (V.gd ((decide (h < (0 : Int)) || decide ((67108864 : Int) < h) || decide ((67108864 : Int) < max s (IntKind.wrap IntKind.i64 ((0 : Int) - s)))) == false) (V.b (decide (s < (-67108864 : Int))))), pc (32 : Nat) (True ∧ ((decide (h < (0 : Int)) || decide ((67108864 : Int) < h) || decide ((67108864 : Int) < max s (IntKind.wrap IntKind.i64 ((0 : Int) - s)))) = false → ((decide (h < (0 : Int)) || decide ((67108864 : Int) < h) || decide ((67108864 : Int) < max s (IntKind.wrap IntKind.i64 ((0 : Int) - s)))) == false) = true)) (V.b (decide (h < (0 : Int)) || decide ((67108864 : Int) < h) || decide ((67108864 : Int) < max s (IntKind.wrap IntKind.i64 ((0 : Int) - s))) || decide (s < (-67108864 : Int))))] (by kernel_rfl) (by kernel_rfl) ⟨⟨⟨True.intro, True.intro⟩, (fun _ => True.intro)⟩, ⟨⟨(by (exact fun h => h)), True.intro⟩, (fun _ => True.intro)⟩, ⟨⟨(by (exact fun h => h)), ⟨True.intro, True.intro⟩⟩, (fun _ => True.intro)⟩, ⟨True.intro, (by (intro h; rw [h]; rfl))⟩, ⟨⟨True.intro, True.intro⟩, (fun _ => True.intro)⟩, ⟨⟨(by (exact fun h => h)), True.intro⟩, (fun _ => True.intro)⟩, ⟨⟨True.intro, True.intro⟩, (fun _ => True.intro)⟩, ⟨⟨(by (exact fun h => h)), True.intro⟩, (fun _ => True.intro)⟩, ⟨⟨(by (exact fun h => h)), True.intro⟩, (fun _ => True.intro)⟩, ⟨⟨(by (exact fun h => h)), ⟨(by (exact fun h => h)), True.intro⟩⟩, (fun _ => True.intro)⟩, ⟨⟨(by (exact fun h => h)), ⟨True.intro, True.intro⟩⟩, (fun _ => True.intro)⟩, ⟨True.intro, (by (intro h; rw [h]; rfl))⟩, ⟨⟨True.intro, True.intro⟩, (fun _ => True.intro)⟩, ⟨⟨(by (exact fun h => h)), True.intro⟩, (fun _ => True.intro)⟩, ⟨⟨(by (exact fun h => h)), ⟨True.intro, True.intro⟩⟩, (fun _ => True.intro)⟩, ⟨True.intro, (by (intro h; rw [h]; rfl))⟩, True.intro⟩ ?_
  refine aops_nil ?_
  refine xt_n ?_
  refine hK _ ?_
  clear hK K
  rw [arm_test hr]
  refine w_cond (t := !armB h s) (by kernel_rfl) (fun h1 => ?_) (fun h1 => ?_)
  · refine aw_seq_k fun K hK => ?_
    refine w_region (n' := 4) (by kernel_rfl) (by kernel_rfl) ?_
    refine aops_n hTT (M := []) (n := 3) [pv (4 : Nat) (V.i (0 : Int)), pv (5 : Nat) (V.i (0 : Int)), pv (6 : Nat) (V.i (2 : Int))] (by kernel_rfl) (by kernel_rfl) True.intro ?_
    refine aops_nil ?_
    refine xt_n ?_
    refine hK _ ?_
    clear hK K
    refine aw_ret ?_
    refine xt_r ?_
    rw [jumpI_arm (by simpa using h1)]
    refine ret_pure (v' := V.tup [V.i (0 : Int), V.i (0 : Int), V.i (2 : Int)]) (.inr rfl) (by kernel_rfl) (by kernel_rfl) (by kernel_rfl)
  simp at h1
  refine aw_skip ?_
  refine xt_n ?_
  refine hK _ ?_
  clear hK K
  refine aw_seq_k fun K hK => ?_
  refine aw_seq_k fun K hK => ?_
  refine w_region (n' := 4) (by kernel_rfl) (by kernel_rfl) ?_
  refine aops_n hTT (M := []) (n := 1) [pv (33 : Nat) (V.sl (2 : Nat) (List.length l) fun (k : Nat) => [V.i (Prod.fst (gp l k)), V.i (Prod.snd (gp l k))])] (by kernel_rfl) (by kernel_rfl) True.intro ?_
  refine e_call (first := []) (caps := []) (checkPts_ac l hl) (by kernel_rfl) (by kernel_rfl) (by kernel_rfl) (by kernel_rfl) (by kernel_rfl) ?_
  refine aops_n hTT (M := []) (n := 1) [pv (7 : Nat) (V.i (checkPts l))] (by kernel_rfl) (by kernel_rfl) True.intro ?_
  refine aops_nil ?_
  refine xt_n ?_
  refine hK _ ?_
  clear hK K
  refine aw_seq_k fun K hK => ?_
  refine w_region (n' := 5) (by kernel_rfl) (by kernel_rfl) ?_
  refine aops_n hTT (M := []) (n := 2) [pv (35 : Nat) (V.i (checkPts l)), pv (36 : Nat) (V.b !decide (checkPts l = (0 : Int)))] (by kernel_rfl) (by kernel_rfl) True.intro ?_
  refine aops_nil ?_
  refine xt_n ?_
  refine hK _ ?_
  clear hK K
  refine w_cond (t := !decide (checkPts l = (0 : Int))) (by kernel_rfl) (fun h2 => ?_) (fun h2 => ?_)
  · simp at h2
    refine aw_seq_k fun K hK => ?_
    refine w_region (n' := 6) (by kernel_rfl) (by kernel_rfl) ?_
    refine aops_n hTT (M := []) (n := 4) [pv (37 : Nat) (V.i (checkPts l)), pv (4 : Nat) (V.i (0 : Int)), pv (5 : Nat) (V.i (0 : Int)), pv (6 : Nat) (V.i (checkPts l))] (by kernel_rfl) (by kernel_rfl) True.intro ?_
    refine aops_nil ?_
    refine xt_n ?_
    refine hK _ ?_
    clear hK K
    refine aw_ret ?_
    refine xt_r ?_
    rw [jumpI_pts h1 h2]
    refine ret_pure (v' := V.tup [V.i (0 : Int), V.i (0 : Int), V.i (checkPts l)]) (.inr rfl) (by kernel_rfl) (by kernel_rfl) (by kernel_rfl)
  simp at h2
  obtain ⟨m4, m5⟩ := checkPts_ok h2
  obtain ⟨a1, a2, a3, a4⟩ := armB_iff.1 h1
  refine aw_skip ?_
  refine xt_n ?_
  refine hK _ ?_
  clear hK K
  refine aw_seq_k fun K hK => ?_
  refine aw_seq_k fun K hK => ?_
  refine w_region (n' := 6) (by kernel_rfl) (by kernel_rfl) ?_
  refine aops_n hTT (M := []) (n := 1) [pv (38 : Nat) (V.sl (2 : Nat) (List.length l) fun (k : Nat) => [V.i (Prod.fst (gp l k)), V.i (Prod.snd (gp l k))])] (by kernel_rfl) (by kernel_rfl) True.intro ?_
  refine e_call (first := []) (caps := []) (bends_ac l m4 m5) (by kernel_rfl) (by kernel_rfl) (by kernel_rfl) (by kernel_rfl) (by kernel_rfl) ?_
  refine aops_n hTT (M := []) (n := 2) [pv (40 : Nat) (V.i (↑(List.length l - (2 : Nat)) : Int)), pv (41 : Nat) (V.i (0 : Int))] (by kernel_rfl) (by kernel_rfl) True.intro ?_
  refine aops_nil ?_
  refine xt_n ?_
  refine hK _ ?_
  clear hK K
  refine aw_block ?_
  refine w_loop (fun k : Nat => [(2, .ptr [V.i h, V.i s]), (39, .sl 1 (l.length - 2) fun k => [.i (bendAt l (k + 1))]), (40, .i ((l.length - 2 : Nat) : Int)), (41, .i k)]) (fun _ => []) (fun k => k ≤ l.length - 2 ∧ ∀ j, j < k → outB h s (bendAt l (j + 1)) = false) (fun k => l.length - k) 0 ⟨Nat.zero_le _, fun j hj => by omega⟩ ?_ ?_
  · refine le_ren [] (.cons (by kernel_rfl) (.cons (by kernel_rfl) (.cons (by kernel_rfl) (.cons (by kernel_rfl) .nil)))) .nil (by kernel_rfl) (by kernel_rfl)
  rintro k ⟨hk, hb⟩
  refine aw_seq_k fun K hK => ?_
  refine w_region (n' := 2) (by kernel_rfl) (by kernel_rfl) ?_
  refine aops_n hTT (M := []) (n := 1) [pv (42 : Nat) (V.b (decide ((↑k : Int) < (↑(List.length l - (2 : Nat)) : Int))))] (by kernel_rfl) (by kernel_rfl) True.intro ?_
  refine aops_nil ?_
  refine xt_n ?_
  refine hK _ ?_
  clear hK K
  refine aw_seq_k fun K hK => ?_
  refine w_cond (t := decide ((↑k : Int) < (↑(List.length l - (2 : Nat)) : Int))) (by kernel_rfl) (fun hkl => ?_) (fun hkl => ?_)
  · simp at hkl
    have b0 := bend_bd m5 (i := k + 1) (by omega) (by omega)
    refine aw_skip ?_
    refine xt_n ?_
    refine hK _ ?_
    clear hK K
    refine aw_seq_k fun K hK => ?_
    refine aw_block ?_
    refine aw_seq_k fun K hK => ?_
    refine w_region (n' := 3) (by kernel_rfl) (by kernel_rfl) ?_
    refine aops_n hTT (M := []) (n := 5) [pv (43 : Nat) (V.i (↑k : Int)), pc (44 : Nat) ((0 : Int) ≤ (↑k : Int) ∧ (↑k : Int) < (↑(List.length l - (2 : Nat)) : Int)) (V.ptr [V.i (bendAt l (k + (1 : Nat)))]), pv (45 : Nat) (V.i (bendAt l (k + (1 : Nat)))), pv (8 : Nat) (V.i (↑k : Int)), pv (9 : Nat) (V.i (bendAt l (k + (1 : Nat))))] (by kernel_rfl) (by kernel_rfl) ⟨(by omega), True.intro⟩ ?_
    refine aops_nil ?_
    refine xt_n ?_
    refine hK _ ?_
    clear hK K
    refine aw_seq_k fun K hK => ?_
    refine w_region (n' := 4) (by kernel_rfl) (by kernel_rfl) ?_
    refine aops_n hTT (M := []) (n := 5) [pv (46 : Nat) (V.i (bendAt l (k + (1 : Nat)))), pv (47 : Nat) (V.ptr [V.i s]), pv (48 : Nat) (V.i s), pc (49 : Nat) ((-9223372036854775808 : Int) ≤ bendAt l (k + (1 : Nat)) - s ∧ bendAt l (k + (1 : Nat)) - s ≤ (9223372036854775807 : Int)) (V.i (bendAt l (k + (1 : Nat)) - s)), pv (10 : Nat) (V.i (bendAt l (k + (1 : Nat)) - s))] (by kernel_rfl) (by kernel_rfl) ⟨(by omega), True.intro⟩ ?_
    refine aops_nil ?_
    refine xt_n ?_
    refine hK _ ?_
    clear hK K
    refine aw_block ?_
    refine aw_seq_k fun K hK => ?_
    refine w_region (n' := 5) (by kernel_rfl) (by kernel_rfl) ?_
    refine aops_n hTT (M := []) (n := 5) [pv (51 : Nat) (V.i (bendAt l (k + (1 : Nat)) - s)), pv (52 : Nat) (V.ptr [V.i h, V.i s]), pv (53 : Nat) (V.i h), pv (54 : Nat) (V.b (decide (h < bendAt l (k + (1 : Nat)) - s))), pv (50 : Nat) (V.b (decide (h < bendAt l (k + (1 : Nat)) - s)))] (by kernel_rfl) (by kernel_rfl) True.intro ?_
    refine aops_nil ?_
    refine xt_n ?_
    refine hK _ ?_
    clear hK K
    refine w_cond (t := decide (h < bendAt l (k + (1 : Nat)) - s)) (by kernel_rfl) (fun h3 => ?_) (fun h3 => ?_)
    · simp at h3
      refine aw_seq_k fun K hK => ?_
      refine w_region (n' := 6) (by kernel_rfl) (by kernel_rfl) ?_
      refine aops_n hTT (M := []) (n := 5) [pv (55 : Nat) (V.i (↑k : Int)), pc (56 : Nat) ((-9223372036854775808 : Int) ≤ (↑k : Int) + (1 : Int) ∧ (↑k : Int) + (1 : Int) ≤ (9223372036854775807 : Int)) (V.i ((↑k : Int) + (1 : Int))), pv (4 : Nat) (V.i ((↑k : Int) + (1 : Int))), pv (5 : Nat) (V.i (1 : Int)), pv (6 : Nat) (V.i (0 : Int))] (by kernel_rfl) (by kernel_rfl) ⟨(by omega), True.intro⟩ ?_
      refine aops_nil ?_
      refine xt_n ?_
      refine hK _ ?_
      clear hK K
      refine aw_ret ?_
      refine xb_r ?_
      refine xb_r ?_
      refine xt_r ?_
      refine xt_r ?_
      refine xb_r ?_
      refine xt_r ?_
      rw [jumpI_some h1 h2 (by omega) (by simp [outB]; omega) hb, if_pos h3]
      refine ret_pure (v' := V.tup [V.i ((↑k : Int) + (1 : Int)), V.i (1 : Int), V.i (0 : Int)]) (.inr rfl) (by kernel_rfl) (by kernel_rfl) (by kernel_rfl)
    simp at h3
    refine aw_seq_k fun K hK => ?_
    refine w_region (n' := 6) (by kernel_rfl) (by kernel_rfl) ?_
    refine aops_n hTT (M := []) (n := 6) [pv (58 : Nat) (V.i (bendAt l (k + (1 : Nat)) - s)), pv (59 : Nat) (V.ptr [V.i h, V.i s]), pv (60 : Nat) (V.i h), pc (61 : Nat) ((-9223372036854775808 : Int) ≤ -h ∧ -h ≤ (9223372036854775807 : Int)) (V.i (-h)), pv (62 : Nat) (V.b (decide (bendAt l (k + (1 : Nat)) - s < -h))), pv (57 : Nat) (V.b (decide (bendAt l (k + (1 : Nat)) - s < -h)))] (by kernel_rfl) (by kernel_rfl) ⟨(by omega), True.intro⟩ ?_
    refine aops_nil ?_
    refine xt_n ?_
    refine hK _ ?_
    clear hK K
    refine w_cond (t := decide (bendAt l (k + (1 : Nat)) - s < -h)) (by kernel_rfl) (fun h4 => ?_) (fun h4 => ?_)
    · simp at h4
      refine aw_seq_k fun K hK => ?_
      refine w_region (n' := 7) (by kernel_rfl) (by kernel_rfl) ?_
      refine aops_n hTT (M := []) (n := 5) [pv (63 : Nat) (V.i (↑k : Int)), pc (64 : Nat) ((-9223372036854775808 : Int) ≤ (↑k : Int) + (1 : Int) ∧ (↑k : Int) + (1 : Int) ≤ (9223372036854775807 : Int)) (V.i ((↑k : Int) + (1 : Int))), pv (4 : Nat) (V.i ((↑k : Int) + (1 : Int))), pv (5 : Nat) (V.i (-1 : Int)), pv (6 : Nat) (V.i (0 : Int))] (by kernel_rfl) (by kernel_rfl) ⟨(by omega), True.intro⟩ ?_
      refine aops_nil ?_
      refine xt_n ?_
      refine hK _ ?_
      clear hK K
      refine aw_ret ?_
      refine xb_r ?_
      refine xb_r ?_
      refine xt_r ?_
      refine xt_r ?_
      refine xb_r ?_
      refine xt_r ?_
      rw [jumpI_some h1 h2 (by omega) (by simp [outB]; omega) hb, if_neg (by omega)]
      refine ret_pure (v' := V.tup [V.i ((↑k : Int) + (1 : Int)), V.i (-1 : Int), V.i (0 : Int)]) (.inr rfl) (by kernel_rfl) (by kernel_rfl) (by kernel_rfl)
    simp at h4
    refine aw_skip ?_
    refine xb_n ?_
    refine xb_n ?_
    refine xt_n ?_
    refine hK _ ?_
    clear hK K
    refine w_region (n' := 7) (by kernel_rfl) (by kernel_rfl) ?_
    refine aops_n hTT (M := []) (n := 2) [pc (65 : Nat) ((-9223372036854775808 : Int) ≤ (↑k : Int) + (1 : Int) ∧ (↑k : Int) + (1 : Int) ≤ (9223372036854775807 : Int)) (V.i ((↑k : Int) + (1 : Int))), pv (41 : Nat) (V.i ((↑k : Int) + (1 : Int)))] (by kernel_rfl) (by kernel_rfl) ⟨(by omega), True.intro⟩ ?_
    refine aops_nil ?_
    refine xt_n ?_
    refine ⟨k + 1, ⟨by omega, fun j hj => ?_⟩, ?_, by omega⟩
    · by_cases he : j = k
      · subst he; simp [outB]; omega
      · exact hb j (by omega)
    · refine le_ren [] (.cons (by kernel_rfl) (.cons (by kernel_rfl) (.cons (by kernel_rfl) (.cons (by kernel_rfl) .nil)))) .nil (by kernel_rfl) (by kernel_rfl)
  simp at hkl
  refine aw_exit ?_
  refine xt_x ?_
  refine xt_x ?_
  refine xb_same ?_
  refine xt_n ?_
  clear hK K
  refine hK _ ?_
  clear hK K
  refine aw_seq_k fun K hK => ?_
  refine w_region (n' := 3) (by kernel_rfl) (by kernel_rfl) ?_
  refine aops_n hTT (M := []) (n := 3) [pv (4 : Nat) (V.i (0 : Int)), pv (5 : Nat) (V.i (0 : Int)), pv (6 : Nat) (V.i (5 : Int))] (by kernel_rfl) (by kernel_rfl) True.intro ?_
  refine aops_nil ?_
  refine xt_n ?_
  refine hK _ ?_
  clear hK K
  refine aw_ret ?_
  rw [jumpI_none h1 h2 fun j hj => hb j (by omega)]
  refine ret_pure (v' := V.tup [V.i (0 : Int), V.i (0 : Int), V.i (5 : Int)]) (.inr rfl) (by kernel_rfl) (by kernel_rfl) (by kernel_rfl)
end Go.Proofs.Ytlfaaddoemcokaa
