/-
  What is split and joined: both copies. Conditions: told in each theorem.
-/
import Derived.Test.YtblipieipldanaaFA13
import Derived.Test.YtblipieipldanaaFA14
import Derived.Test.YtblipieipldanaaFPl5
import Derived.Test.YtblipieipldanaaAbs29
namespace Go.Proofs.Ytblipieipldanaa
open Go.Ab Go.RowKit Go.Dw Go.Shelf

set_option maxRecDepth 100000 in
theorem split_ac (p : List Pt) (hp : progE p = 0) : AC Try.prog 83 [V.pts p] (.tup [V.ints (spM p), V.ints (spD p)]) [] := by
  obtain ⟨h3, h4⟩ := progE_ok.1 hp
  refine ac_intro hTT hMX (fn := Try.f83) (N := _) ⟨Try.func83, rfl, Try.ntmps83, by kernel_rfl⟩ (by simp) fun C hC hF => ?_
  refine aw_seq_k fun K hK => ?_
  refine w_region (n' := 2) (by kernel_rfl) (by kernel_rfl) ?_
  refine aops_n hTT (M := []) (n := 2) [pv (2 : Nat) V.nil, pv (3 : Nat) V.nil] (by kernel_rfl) (by kernel_rfl) True.intro ?_
  refine aops_nil ?_
  refine xt_n ?_
  refine hK _ ?_
  clear hK K
  refine aw_seq_k fun K hK => ?_
  refine aw_seq_k fun K hK => ?_
  refine w_region (n' := 3) (by kernel_rfl) (by kernel_rfl) ?_
  refine aops_n hTT (M := []) (n := 3) [pv (7 : Nat) (V.sl (2 : Nat) (List.length p) fun (k : Nat) => [V.i (Prod.fst (gp p k)), V.i (Prod.snd (gp p k))]), pv (8 : Nat) (V.i (↑(List.length p) : Int)), pv (9 : Nat) (V.i (0 : Int))] (by kernel_rfl) (by kernel_rfl) True.intro ?_
  refine aops_nil ?_
  refine xt_n ?_
  refine hK _ ?_
  clear hK K
  refine aw_block ?_
  refine w_le (le_open 2 2 1 (fun k => [.i (gi (spM p) k)]) (by kernel_rfl) rfl) ?_
  refine w_le (le_open 3 2 1 (fun k => [.i (gi (spD p) k)]) (by kernel_rfl) rfl) ?_
  skip
  refine w_loop (ι := Nat) (fun k => [(2, .own 2), (3, .own 3), (7, V.pts p), (8, .i p.length), (9, .i k)]) (fun k => [(2, .row 2 1 k fun k => [.i (gi (spM p) k)]), (3, .row 2 1 k fun k => [.i (gi (spD p) k)])]) (fun k => k ≤ p.length) (fun k => p.length - k) 0 (Nat.zero_le _) ?_ ?_
  · refine le_ren (sl := [(2, Ob.row (2 : Nat) (1 : Nat) (0 : Nat) fun (k : Nat) => [V.i (gi (spM p) k)]), (3, Ob.row (2 : Nat) (1 : Nat) (0 : Nat) fun (k : Nat) => [V.i (gi (spD p) k)])]) [(2, 300002), (3, 400003)] (.cons (by kernel_rfl) (.cons (by kernel_rfl) (.cons (by kernel_rfl) (.cons (by kernel_rfl) (.cons (by kernel_rfl) .nil))))) (.cons ⟨Ob.row (2 : Nat) (1 : Nat) (0 : Nat) fun (k : Nat) => [V.i (gi (spM p) k)], (by kernel_rfl), .row (by kernel_rfl) (fun _ _ => rfl)⟩ (.cons ⟨Ob.row (2 : Nat) (1 : Nat) (0 : Nat) fun (k : Nat) => [V.i (gi (spD p) k)], (by kernel_rfl), .row (by kernel_rfl) (fun _ _ => rfl)⟩ .nil)) (by kernel_rfl) (by kernel_rfl)
  intro k hk
  refine aw_seq_k fun K hK => ?_
  refine w_region (n' := 2) (by kernel_rfl) (by kernel_rfl) ?_
  refine aops_n hTT (M := []) (n := 1) [pv (10 : Nat) (V.b (decide ((↑k : Int) < (↑(List.length p) : Int))))] (by kernel_rfl) (by kernel_rfl) True.intro ?_
  refine aops_nil ?_
  refine xt_n ?_
  refine hK _ ?_
  clear hK K
  refine aw_seq_k fun K hK => ?_
  refine w_cond (t := decide ((↑k : Int) < (↑(List.length p) : Int))) (by kernel_rfl) (fun c2 => ?_) (fun c2 => ?_)
  · simp at c2
    have b := h4 k c2
    have g1 := spM_gi c2
    have g2 := spD_gi c2
    refine aw_skip ?_
    refine xt_n ?_
    refine hK _ ?_
    clear hK K
    refine aw_seq_k fun K hK => ?_
    refine aw_block ?_
    refine aw_seq_k fun K hK => ?_
    refine w_region (n' := 3) (by kernel_rfl) (by kernel_rfl) ?_
    refine aops_n hTT (M := []) (n := 4) [pc (11 : Nat) ((0 : Int) ≤ (↑k : Int) ∧ (↑k : Int) < (↑(List.length p) : Int)) (V.ptr [V.i (Prod.fst (gp p k)), V.i (Prod.snd (gp p k))]), pv (12 : Nat) (V.agg [V.i (Prod.fst (gp p k)), V.i (Prod.snd (gp p k))]), pn (5 : Nat) (V.ref (200005 : Nat) (0 : Nat)) (200005 : Nat) (Ob.box (50 : Nat) [V.i (0 : Int), V.i (0 : Int)]), pw ((0 : Nat) + (2 : Nat) ≤ (2 : Nat)) (200005 : Nat) (Ob.box (50 : Nat) [V.i (Prod.fst (gp p k)), V.i (Prod.snd (gp p k))])] (by kernel_rfl) (by kernel_rfl) ⟨(by omega), (by omega), True.intro⟩ ?_
    refine aops_nil ?_
    refine xt_n ?_
    refine hK _ ?_
    clear hK K
    refine aw_seq_k fun K hK => ?_
    refine w_region (n' := 4) (by kernel_rfl) (by kernel_rfl) ?_
    refine aops_n hTT (M := []) (n := 6) [pv (13 : Nat) (V.ref (200005 : Nat) (0 : Nat)), pc (14 : Nat) ((0 : Nat) ≤ (2 : Nat)) (V.i (Prod.fst (gp p k))), pv (15 : Nat) (V.ref (200005 : Nat) (1 : Nat)), pc (16 : Nat) ((1 : Nat) ≤ (2 : Nat)) (V.i (Prod.snd (gp p k))), pc (17 : Nat) ((-9223372036854775808 : Int) ≤ Prod.fst (gp p k) - Prod.snd (gp p k) ∧ Prod.fst (gp p k) - Prod.snd (gp p k) ≤ (9223372036854775807 : Int)) (V.i (Prod.fst (gp p k) - Prod.snd (gp p k))), pv (6 : Nat) (V.i (Prod.fst (gp p k) - Prod.snd (gp p k)))] (by kernel_rfl) (by kernel_rfl) ⟨(by omega), (by omega), (by omega), True.intro⟩ ?_
    refine aops_nil ?_
    refine xt_n ?_
    refine hK _ ?_
    clear hK K
    refine w_regionD (n' := 5) (by kernel_rfl) (by kernel_rfl) ?_
    refine aops_n hTT (M := []) (n := 4) [pv (18 : Nat) (V.own (2 : Nat)), pv (19 : Nat) (V.ref (200005 : Nat) (1 : Nat)), pc (20 : Nat) ((1 : Nat) ≤ (2 : Nat)) (V.i (Prod.snd (gp p k))), pv (21 : Nat) (V.i (Prod.fst (gp p k) - Prod.snd (gp p k)))] (by kernel_rfl) (by kernel_rfl) ⟨(by omega), True.intro⟩ ?_
    refine e_call (first := []) (caps := []) (down_ac ((gp p k).1 - (gp p k).2) 2 (by omega) (by decide)) (by kernel_rfl) (by kernel_rfl) (by kernel_rfl) (by kernel_rfl) (by kernel_rfl) ?_
    refine aops_n hTT (M := []) (n := 9) [pc (23 : Nat) ((-9223372036854775808 : Int) ≤ Prod.snd (gp p k) + (Prod.fst (gp p k) - Prod.snd (gp p k)) / (2 : Int) ∧ Prod.snd (gp p k) + (Prod.fst (gp p k) - Prod.snd (gp p k)) / (2 : Int) ≤ (9223372036854775807 : Int)) (V.i (Prod.snd (gp p k) + (Prod.fst (gp p k) - Prod.snd (gp p k)) / (2 : Int))), pv (24 : Nat) (V.sl (1 : Nat) (1 : Nat) fun (i : Nat) => List.take (1 : Nat) (List.drop (i * (1 : Nat)) [V.i (Prod.snd (gp p k) + (Prod.fst (gp p k) - Prod.snd (gp p k)) / (2 : Int))])), PR.mk (some (25 : Nat)) (some (k + (1 : Nat) ≤ (1099511627776 : Nat))) (V.own (400025 : Nat)) [((2 : Nat), none), ((400025 : Nat), some (Ob.row (2 : Nat) (1 : Nat) (k + (1 : Nat)) (appRow k (fun (k : Nat) => [V.i (gi (spM p) k)]) fun (i : Nat) => List.take (1 : Nat) (List.drop (i * (1 : Nat)) [V.i (Prod.snd (gp p k) + (Prod.fst (gp p k) - Prod.snd (gp p k)) / (2 : Int))]))))] false, pv (26 : Nat) (V.own (3 : Nat)), pv (27 : Nat) (V.i (Prod.fst (gp p k) - Prod.snd (gp p k))), pv (28 : Nat) (V.sl (1 : Nat) (1 : Nat) fun (i : Nat) => List.take (1 : Nat) (List.drop (i * (1 : Nat)) [V.i (Prod.fst (gp p k) - Prod.snd (gp p k))])), PR.mk (some (29 : Nat)) (some (k + (1 : Nat) ≤ (1099511627776 : Nat))) (V.own (400029 : Nat)) [((3 : Nat), none), ((400029 : Nat), some (Ob.row (2 : Nat) (1 : Nat) (k + (1 : Nat)) (appRow k (fun (k : Nat) => [V.i (gi (spD p) k)]) fun (i : Nat) => List.take (1 : Nat) (List.drop (i * (1 : Nat)) [V.i (Prod.fst (gp p k) - Prod.snd (gp p k))]))))] false, pv (2 : Nat) (V.own (400025 : Nat)), pv (3 : Nat) (V.own (400029 : Nat))] (by kernel_rfl) (by kernel_rfl) ⟨(by omega), (by omega), (by omega), True.intro⟩ ?_
    refine aops_nil ⟨by kernel_rfl, ?_⟩
    refine xb_n ?_
    refine xt_n ?_
    refine hK _ ?_
    clear hK K
    refine w_region (n' := 6) (by kernel_rfl) (by kernel_rfl) ?_
    refine aops_n hTT (M := []) (n := 2) [pc (30 : Nat) ((-9223372036854775808 : Int) ≤ (↑k : Int) + (1 : Int) ∧ (↑k : Int) + (1 : Int) ≤ (9223372036854775807 : Int)) (V.i ((↑k : Int) + (1 : Int))), pv (9 : Nat) (V.i ((↑k : Int) + (1 : Int)))] (by kernel_rfl) (by kernel_rfl) ⟨(by omega), True.intro⟩ ?_
    refine aops_nil ?_
    refine xt_n ?_
    refine ⟨k + 1, by omega, ?_, by omega⟩
    refine le_ren (tl := [(2, V.own (2 : Nat)), (3, V.own (3 : Nat)), (7, V.sl (2 : Nat) (List.length p) fun (k : Nat) => [V.i (Prod.fst (gp p k)), V.i (Prod.snd (gp p k))]), (8, V.i (↑(List.length p) : Int)), (9, V.i (↑(k + (1 : Nat)) : Int))]) (sl := [(2, Ob.row (2 : Nat) (1 : Nat) (k + (1 : Nat)) fun (k : Nat) => [V.i (gi (spM p) k)]), (3, Ob.row (2 : Nat) (1 : Nat) (k + (1 : Nat)) fun (k : Nat) => [V.i (gi (spD p) k)])]) [(2, 400025), (3, 400029)] (.cons (by kernel_rfl) (.cons (by kernel_rfl) (.cons (by kernel_rfl) (.cons (by kernel_rfl) (.cons (by kernel_rfl) .nil))))) (.cons ⟨Ob.row (2 : Nat) (1 : Nat) (k + (1 : Nat)) (appRow k (fun (k : Nat) => [V.i (gi (spM p) k)]) fun (i : Nat) => List.take (1 : Nat) (List.drop (i * (1 : Nat)) [V.i (Prod.snd (gp p k) + (Prod.fst (gp p k) - Prod.snd (gp p k)) / (2 : Int))])), (by kernel_rfl), .row (by kernel_rfl) ?_⟩ (.cons ⟨Ob.row (2 : Nat) (1 : Nat) (k + (1 : Nat)) (appRow k (fun (k : Nat) => [V.i (gi (spD p) k)]) fun (i : Nat) => List.take (1 : Nat) (List.drop (i * (1 : Nat)) [V.i (Prod.fst (gp p k) - Prod.snd (gp p k))])), (by kernel_rfl), .row (by kernel_rfl) ?_⟩ .nil)) (by kernel_rfl) (by kernel_rfl)
    · exact appRow_i rfl g1.symm
    · exact appRow_i rfl g2.symm
  · simp at c2
    obtain rfl : k = p.length := by omega
    refine aw_exit ?_
    refine xt_x ?_
    refine xt_x ?_
    refine xb_same ?_
    refine xt_n ?_
    clear hK K
    refine hK _ ?_
    clear hK K
    refine aw_seq_k fun K hK => ?_
    refine w_region (n' := 3) (by kernel_rfl) (by kernel_rfl) ?_
    refine aops_n hTT (M := []) (n := 4) [pv (31 : Nat) (V.own (2 : Nat)), pv (32 : Nat) (V.own (3 : Nat)), pv (2 : Nat) (V.own (2 : Nat)), pv (3 : Nat) (V.own (3 : Nat))] (by kernel_rfl) (by kernel_rfl) True.intro ?_
    refine aops_nil ?_
    refine xt_n ?_
    refine hK _ ?_
    clear hK K
    refine aw_ret ?_
    refine ret_of_le (le_shut 2 2 (e := (2 : Nat)) (sz := (1 : Nat)) (n := List.length p) (n' := (spM p).length) (row := fun (k : Nat) => [V.i (gi (spM p) k)]) (row' := (fun k => [.i (gi (spM p) k)])) (by kernel_rfl) (by kernel_rfl) (fun _ _ => rfl) ?_ ?_) ?_
    · rw [spM_len]
    · intro i hi
      rfl
    refine ret_of_le (le_shut 3 3 (e := (2 : Nat)) (sz := (1 : Nat)) (n := List.length p) (n' := (spD p).length) (row := fun (k : Nat) => [V.i (gi (spD p) k)]) (row' := (fun k => [.i (gi (spD p) k)])) (by kernel_rfl) (by kernel_rfl) (fun _ _ => rfl) ?_ ?_) ?_
    · rw [spD_len]
    · intro i hi
      rfl
    refine ret_pure (v' := V.tup [V.sl (1 : Nat) (List.length (spM p)) fun (k : Nat) => [V.i (gi (spM p) k)], V.sl (1 : Nat) (List.length (spD p)) fun (k : Nat) => [V.i (gi (spD p) k)]]) (.inr rfl) (by kernel_rfl) (by kernel_rfl) (by kernel_rfl)
def spMR (p : List Pt) : List Int := if progE p = 0 then spM p else []
def spDR (p : List Pt) : List Int := if progE p = 0 then spD p else []
theorem sp_no {p : List Pt} (h : ¬ progE p = 0) : spMR p = [] ∧ spDR p = [] := by unfold spMR spDR; rw [if_neg h, if_neg h]; exact ⟨rfl, rfl⟩
theorem sp_yes {p : List Pt} (h : progE p = 0) : spMR p = spM p ∧ spDR p = spD p := by unfold spMR spDR; rw [if_pos h, if_pos h]; exact ⟨rfl, rfl⟩
set_option maxRecDepth 100000 in
theorem Split_ac (p : List Pt) (hl : p.length ≤ bigL) : AC Try.prog 57 [V.pts p] (.tup [V.ints (spMR p), V.ints (spDR p), .i (progE p)]) [] := by
  refine ac_intro hTT hMX (fn := Try.f57) (N := _) ⟨Try.func57, rfl, Try.ntmps57, by kernel_rfl⟩ (by simp) fun C hC hF => ?_
  refine aw_seq_k fun K hK => ?_
  refine w_region (n' := 2) (by kernel_rfl) (by kernel_rfl) ?_
  refine aops_n hTT (M := []) (n := 3) [pv (2 : Nat) V.nil, pv (3 : Nat) V.nil, pv (4 : Nat) (V.i (0 : Int))] (by kernel_rfl) (by kernel_rfl) True.intro ?_
  refine aops_nil ?_
  refine xt_n ?_
  refine hK _ ?_
  clear hK K
  refine aw_seq_k fun K hK => ?_
  refine aw_seq_k fun K hK => ?_
  refine w_region (n' := 3) (by kernel_rfl) (by kernel_rfl) ?_
  refine aops_n hTT (M := []) (n := 1) [pv (8 : Nat) (V.sl (2 : Nat) (List.length p) fun (k : Nat) => [V.i (Prod.fst (gp p k)), V.i (Prod.snd (gp p k))])] (by kernel_rfl) (by kernel_rfl) True.intro ?_
  refine e_call (first := []) (caps := []) (checkProgramme_ac p hl) (by kernel_rfl) (by kernel_rfl) (by kernel_rfl) (by kernel_rfl) (by kernel_rfl) ?_
  refine aops_n hTT (M := []) (n := 1) [pv (5 : Nat) (V.i (progE p))] (by kernel_rfl) (by kernel_rfl) True.intro ?_
  refine aops_nil ?_
  refine xt_n ?_
  refine hK _ ?_
  clear hK K
  refine aw_seq_k fun K hK => ?_
  refine w_region (n' := 4) (by kernel_rfl) (by kernel_rfl) ?_
  refine aops_n hTT (M := []) (n := 2) [pv (10 : Nat) (V.i (progE p)), pv (11 : Nat) (V.b !decide (progE p = (0 : Int)))] (by kernel_rfl) (by kernel_rfl) True.intro ?_
  refine aops_nil ?_
  refine xt_n ?_
  refine hK _ ?_
  clear hK K
  refine w_cond (t := !decide (progE p = (0 : Int))) (by kernel_rfl) (fun c1 => ?_) (fun c1 => ?_)
  · simp at c1
    refine aw_seq_k fun K hK => ?_
    refine w_region (n' := 5) (by kernel_rfl) (by kernel_rfl) ?_
    refine aops_n hTT (M := []) (n := 4) [pv (12 : Nat) (V.i (progE p)), pv (2 : Nat) V.nil, pv (3 : Nat) V.nil, pv (4 : Nat) (V.i (progE p))] (by kernel_rfl) (by kernel_rfl) True.intro ?_
    refine aops_nil ?_
    refine xt_n ?_
    refine hK _ ?_
    clear hK K
    refine aw_ret ?_
    refine xt_r ?_
    rw [(sp_no c1).1, (sp_no c1).2]
    refine ret_of_le (le_nil 2 (sz := 1) 0 (fun k => [.i (gi [] k)]) (by kernel_rfl) ?_) ?_
    · rfl
    refine ret_of_le (le_nil 3 (sz := 1) 0 (fun k => [.i (gi [] k)]) (by kernel_rfl) ?_) ?_
    · rfl
    refine ret_pure (v' := V.tup [V.sl (1 : Nat) (0 : Nat) fun (k : Nat) => [V.i (gi [] k)], V.sl (1 : Nat) (0 : Nat) fun (k : Nat) => [V.i (gi [] k)], V.i (progE p)]) (.inr rfl) (by kernel_rfl) (by kernel_rfl) (by kernel_rfl)
  · simp at c1
    refine aw_skip ?_
    refine xt_n ?_
    refine hK _ ?_
    clear hK K
    refine aw_seq_k fun K hK => ?_
    refine w_region (n' := 5) (by kernel_rfl) (by kernel_rfl) ?_
    refine aops_n hTT (M := []) (n := 1) [pv (14 : Nat) (V.sl (2 : Nat) (List.length p) fun (k : Nat) => [V.i (Prod.fst (gp p k)), V.i (Prod.snd (gp p k))])] (by kernel_rfl) (by kernel_rfl) True.intro ?_
    refine e_call (first := []) (caps := []) (split_ac p c1) (by kernel_rfl) (by kernel_rfl) (by kernel_rfl) (by kernel_rfl) (by kernel_rfl) ?_
    refine aops_n hTT (M := []) (n := 5) [pv (13 : Nat) (V.tup [V.sl (1 : Nat) (List.length (spM p)) fun (k : Nat) => [V.i (gi (spM p) k)], V.sl (1 : Nat) (List.length (spD p)) fun (k : Nat) => [V.i (gi (spD p) k)]]), pv (16 : Nat) (V.sl (1 : Nat) (List.length (spM p)) fun (k : Nat) => [V.i (gi (spM p) k)]), pv (17 : Nat) (V.sl (1 : Nat) (List.length (spD p)) fun (k : Nat) => [V.i (gi (spD p) k)]), pv (6 : Nat) (V.sl (1 : Nat) (List.length (spM p)) fun (k : Nat) => [V.i (gi (spM p) k)]), pv (7 : Nat) (V.sl (1 : Nat) (List.length (spD p)) fun (k : Nat) => [V.i (gi (spD p) k)])] (by kernel_rfl) (by kernel_rfl) True.intro ?_
    refine aops_nil ?_
    refine xt_n ?_
    refine hK _ ?_
    clear hK K
    refine aw_seq_k fun K hK => ?_
    refine w_region (n' := 6) (by kernel_rfl) (by kernel_rfl) ?_
    refine aops_n hTT (M := []) (n := 5) [pv (18 : Nat) (V.sl (1 : Nat) (List.length (spM p)) fun (k : Nat) => [V.i (gi (spM p) k)]), pv (19 : Nat) (V.sl (1 : Nat) (List.length (spD p)) fun (k : Nat) => [V.i (gi (spD p) k)]), pv (2 : Nat) (V.sl (1 : Nat) (List.length (spM p)) fun (k : Nat) => [V.i (gi (spM p) k)]), pv (3 : Nat) (V.sl (1 : Nat) (List.length (spD p)) fun (k : Nat) => [V.i (gi (spD p) k)]), pv (4 : Nat) (V.i (0 : Int))] (by kernel_rfl) (by kernel_rfl) True.intro ?_
    refine aops_nil ?_
    refine xt_n ?_
    refine hK _ ?_
    clear hK K
    refine aw_ret ?_
    rw [(sp_yes c1).1, (sp_yes c1).2, c1]
    refine ret_pure (v' := V.tup [V.sl (1 : Nat) (List.length (spM p)) fun (k : Nat) => [V.i (gi (spM p) k)], V.sl (1 : Nat) (List.length (spD p)) fun (k : Nat) => [V.i (gi (spD p) k)], V.i (0 : Int)]) (.inr rfl) (by kernel_rfl) (by kernel_rfl) (by kernel_rfl)
/-! joining -/
abbrev CntO (n : Int) : Ob := .box 3 [.i n]
abbrev FJ (d : List Int) (k : Nat) : V := .fn (.func 102) [] [.ref k 0, .ptr [V.ints d]]
abbrev FG : V := .fn (.func 103) [] []
set_option maxRecDepth 100000 in
theorem join1_ac (m d : List Int) (k : Nat) (hm : AllLe 32767 m) (hd : AllLe 65534 d) (hk : k < d.length) (hl : k ≤ 4096) : AM Try.prog 102 [.i (gi m k), .ref 500 0, .ptr [V.ints d]] [CntO ((k : Int) - 1)] (.agg [.i (jnA m d k).1, .i (jnA m d k).2]) [some (CntO (((k + 1 : Nat) : Int) - 1))] [] := by
  obtain ⟨b1, b2⟩ := jnA_bd hm hd k
  have e1 : ((k + 1 : Nat) : Int) - 1 = k := by omega
  rw [e1]
  refine am_intro hTT hMX (fn := Try.f102) (N := _) ⟨Try.func102, rfl, Try.ntmps102, by kernel_rfl⟩ (by simp) rfl (by simp) (by simp) fun C hF => ?_
  refine aw_seq_k fun K hK => ?_
  refine w_region (n' := 2) (by kernel_rfl) (by kernel_rfl) ?_
  refine aops_n hTT (M := []) (n := 1) [pn (4 : Nat) (V.ref (100004 : Nat) (0 : Nat)) (100004 : Nat) (Ob.box (50 : Nat) [V.i (0 : Int), V.i (0 : Int)])] (by kernel_rfl) (by kernel_rfl) True.intro ?_
  refine aops_nil ?_
  refine xt_n ?_
  refine hK _ ?_
  clear hK K
  refine aw_seq_k fun K hK => ?_
  refine w_region (n' := 3) (by kernel_rfl) (by kernel_rfl) ?_
  refine aops_n hTT (M := []) (n := 3) [pc (6 : Nat) ((0 : Nat) ≤ (1 : Nat)) (V.i ((↑k : Int) - (1 : Int))), pc (7 : Nat) ((-9223372036854775808 : Int) ≤ (↑k : Int) - (1 : Int) + (1 : Int) ∧ (↑k : Int) - (1 : Int) + (1 : Int) ≤ (9223372036854775807 : Int)) (V.i ((↑k : Int) - (1 : Int) + (1 : Int))), pw ((0 : Nat) + (1 : Nat) ≤ (1 : Nat)) (500 : Nat) (Ob.box (3 : Nat) [V.i ((↑k : Int) - (1 : Int) + (1 : Int))])] (by kernel_rfl) (by kernel_rfl) ⟨(by omega), (by omega), (by omega), True.intro⟩ ?_
  refine aops_nil ?_
  refine xt_n ?_
  refine hK _ ?_
  clear hK K
  refine aw_seq_k fun K hK => ?_
  rw [show (k : Int) - 1 + 1 = (k : Int) by omega]
  refine w_region (n' := 4) (by kernel_rfl) (by kernel_rfl) ?_
  refine aops_n hTT (M := []) (n := 5) [pv (8 : Nat) (V.i (gi m k)), pv (9 : Nat) (V.sl (1 : Nat) (List.length d) fun (k : Nat) => [V.i (gi d k)]), pc (10 : Nat) ((0 : Nat) ≤ (1 : Nat)) (V.i (↑k : Int)), pc (11 : Nat) ((0 : Int) ≤ (↑k : Int) ∧ (↑k : Int) < (↑(List.length d) : Int)) (V.ptr [V.i (gi d k)]), pv (12 : Nat) (V.i (gi d k))] (by kernel_rfl) (by kernel_rfl) ⟨(by omega), (by omega), True.intro⟩ ?_
  refine e_call (first := []) (caps := []) (down_ac (gi d k) 2 (by omega) (by decide)) (by kernel_rfl) (by kernel_rfl) (by kernel_rfl) (by kernel_rfl) (by kernel_rfl) ?_
  refine aops_n hTT (M := []) (n := 2) [pc (14 : Nat) ((-9223372036854775808 : Int) ≤ gi m k - gi d k / (2 : Int) ∧ gi m k - gi d k / (2 : Int) ≤ (9223372036854775807 : Int)) (V.i (gi m k - gi d k / (2 : Int))), pv (5 : Nat) (V.i (gi m k - gi d k / (2 : Int)))] (by kernel_rfl) (by kernel_rfl) ⟨(by omega), True.intro⟩ ?_
  refine aops_nil ?_
  refine xt_n ?_
  refine hK _ ?_
  clear hK K
  refine aw_seq_k fun K hK => ?_
  refine w_region (n' := 5) (by kernel_rfl) (by kernel_rfl) ?_
  refine aops_n hTT (M := []) (n := 9) [pv (15 : Nat) (V.i (gi m k - gi d k / (2 : Int))), pv (16 : Nat) (V.sl (1 : Nat) (List.length d) fun (k : Nat) => [V.i (gi d k)]), pc (17 : Nat) ((0 : Nat) ≤ (1 : Nat)) (V.i (↑k : Int)), pc (18 : Nat) ((0 : Int) ≤ (↑k : Int) ∧ (↑k : Int) < (↑(List.length d) : Int)) (V.ptr [V.i (gi d k)]), pv (19 : Nat) (V.i (gi d k)), pc (20 : Nat) ((-9223372036854775808 : Int) ≤ gi m k - gi d k / (2 : Int) + gi d k ∧ gi m k - gi d k / (2 : Int) + gi d k ≤ (9223372036854775807 : Int)) (V.i (gi m k - gi d k / (2 : Int) + gi d k)), pv (21 : Nat) (V.i (gi m k - gi d k / (2 : Int))), pv (22 : Nat) (V.agg [V.i (gi m k - gi d k / (2 : Int) + gi d k), V.i (gi m k - gi d k / (2 : Int))]), pw ((0 : Nat) + (2 : Nat) ≤ (2 : Nat)) (100004 : Nat) (Ob.box (50 : Nat) [V.i (gi m k - gi d k / (2 : Int) + gi d k), V.i (gi m k - gi d k / (2 : Int))])] (by kernel_rfl) (by kernel_rfl) ⟨(by omega), (by omega), (by omega), (by omega), True.intro⟩ ?_
  refine aops_nil ?_
  refine xt_n ?_
  refine hK _ ?_
  clear hK K
  refine aw_ret ?_
  refine retM_of_le (le_freezeBox (t := (50 : Nat)) (cs := [V.i (gi m k - gi d k / (2 : Int) + gi d k), V.i (gi m k - gi d k / (2 : Int))]) 100004 (by kernel_rfl) (by kernel_rfl)) ?_
  refine retM (v' := V.agg [V.i (gi m k - gi d k / (2 : Int) + gi d k), V.i (gi m k - gi d k / (2 : Int))]) [] [(4, V.ptr [V.i (gi m k - gi d k / (2 : Int) + gi d k), V.i (gi m k - gi d k / (2 : Int))])] (.inr rfl) (.cons (by kernel_rfl) .nil) (.cons ⟨Ob.box (3 : Nat) [V.i (↑k : Int)], (by kernel_rfl), .box (by kernel_rfl)⟩ .nil) (by kernel_rfl) (by kernel_rfl) (by kernel_rfl) (by kernel_rfl) (by kernel_rfl) (by kernel_rfl) (by kernel_rfl)
set_option maxRecDepth 100000 in
theorem join2_ac (p : Pt) : AC Try.prog 103 [.agg [.i p.1, .i p.2]] (.b (!loudB p 32767)) [] := by
  refine ac_intro hTT hMX (fn := Try.f103) (N := _) ⟨Try.func103, rfl, Try.ntmps103, by kernel_rfl⟩ (by simp) fun C hC hF => ?_
  refine aw_seq_k fun K hK => ?_
  refine w_region (n' := 2) (by kernel_rfl) (by kernel_rfl) ?_
  refine aops_n hTT (M := []) (n := 2) [pv (1 : Nat) (V.ptr [V.i (Prod.fst p), V.i (Prod.snd p)]), pv (2 : Nat) (V.b false)] (by kernel_rfl) (by kernel_rfl) True.intro ?_
  refine aops_nil ?_
  refine xt_n ?_
  refine hK _ ?_
  clear hK K
  refine aw_seq_k fun K hK => ?_
  refine w_region (n' := 3) (by kernel_rfl) (by kernel_rfl) ?_
  refine aops_n hTT (M := []) (n := 1) [pv (3 : Nat) (V.agg [V.i (Prod.fst p), V.i (Prod.snd p)])] (by kernel_rfl) (by kernel_rfl) True.intro ?_
  refine e_call (first := []) (caps := []) (loud_ac p 32767 (by decide)) (by kernel_rfl) (by kernel_rfl) (by kernel_rfl) (by kernel_rfl) (by kernel_rfl) ?_
  refine aops_n hTT (M := []) (n := 2) [pv (5 : Nat) (V.b !loudB p (32767 : Int)), pv (2 : Nat) (V.b !loudB p (32767 : Int))] (by kernel_rfl) (by kernel_rfl) True.intro ?_
  refine aops_nil ?_
  refine xt_n ?_
  refine hK _ ?_
  clear hK K
  refine aw_ret ?_
  refine ret_pure (v' := V.b !loudB p (32767 : Int)) (.inr rfl) (by kernel_rfl) (by kernel_rfl) (by kernel_rfl)
set_option maxRecDepth 100000 in
theorem eachj_ok (m d : List Int) (hl : m.length ≤ 4096) (hld : m.length = d.length) (hm : AllLe 32767 m) (hd : AllLe 65534 d) (hf : ∀ k, k < m.length → loudB (jnA m d k) 32767 = false) :
    AM Try.prog 101 [V.ints m, FJ d 500, FG] [CntO (-1)] (.tup [.own 0, .i 0]) [none] [.row 50 2 m.length fun k => [.i (jnA m d k).1, .i (jnA m d k).2]] := by
  refine am_intro hTT hMX (fn := Try.f101) (N := _) ⟨Try.func101, rfl, Try.ntmps101, by kernel_rfl⟩ (by simp) rfl (by simp) (by simp) fun C hF => ?_
  refine aw_seq_k fun K hK => ?_
  refine w_region (n' := 2) (by kernel_rfl) (by kernel_rfl) ?_
  refine aops_n hTT (M := []) (n := 2) [pv (6 : Nat) V.nil, pv (7 : Nat) (V.i (0 : Int))] (by kernel_rfl) (by kernel_rfl) True.intro ?_
  refine aops_nil ?_
  refine xt_n ?_
  refine hK _ ?_
  clear hK K
  refine aw_seq_k fun K hK => ?_
  refine w_region (n' := 3) (by kernel_rfl) (by kernel_rfl) ?_
  refine aops_n hTT (M := []) (n := 4) [pv (12 : Nat) (V.sl (1 : Nat) (List.length m) fun (k : Nat) => [V.i (gi m k)]), pv (13 : Nat) (V.i (↑(List.length m) : Int)), PR.mk (some (14 : Nat)) (some ((0 : Int) ≤ (0 : Int) ∧ (0 : Int) ≤ (↑(List.length m) : Int) ∧ (↑(List.length m) : Int) ≤ (1099511627776 : Int))) (V.own (200014 : Nat)) [((200014 : Nat), some (Ob.row (50 : Nat) (2 : Nat) (0 : Nat) fun (x : Nat) => [V.c (Value.int IntKind.i64 (0 : Int)), V.c (Value.int IntKind.i64 (0 : Int))]))] false, pv (8 : Nat) (V.own (200014 : Nat))] (by kernel_rfl) (by kernel_rfl) ⟨⟨(by omega), (by omega)⟩, True.intro⟩ ?_
  refine aops_nil ?_
  refine xt_n ?_
  refine hK _ ?_
  clear hK K
  refine aw_seq_k fun K hK => ?_
  refine aw_seq_k fun K hK => ?_
  refine w_region (n' := 4) (by kernel_rfl) (by kernel_rfl) ?_
  refine aops_n hTT (M := []) (n := 3) [pv (15 : Nat) (V.sl (1 : Nat) (List.length m) fun (k : Nat) => [V.i (gi m k)]), pv (16 : Nat) (V.i (↑(List.length m) : Int)), pv (17 : Nat) (V.i (0 : Int))] (by kernel_rfl) (by kernel_rfl) True.intro ?_
  refine aops_nil ?_
  refine xt_n ?_
  refine hK _ ?_
  clear hK K
  refine aw_block ?_
  refine w_loop (ι := Nat) (fun k => [(1, FJ d 500), (2, FG), (8, .own 8), (15, V.ints m), (16, .i m.length), (17, .i k)])
    (fun k => [(500, CntO ((k : Int) - 1)), (8, .row 50 2 k fun k => [.i (jnA m d k).1, .i (jnA m d k).2])]) (fun k => k ≤ m.length) (fun k => m.length - k) 0 (Nat.zero_le _) ?_ ?_
  · refine le_ren (tl := [(1, V.fn (Fn.func (102 : Nat)) [] [V.ref (500 : Nat) (0 : Nat), V.ptr [V.sl (1 : Nat) (List.length d) fun (k : Nat) => [V.i (gi d k)]]]), (2, V.fn (Fn.func (103 : Nat)) [] []), (8, V.own (8 : Nat)), (15, V.sl (1 : Nat) (List.length m) fun (k : Nat) => [V.i (gi m k)]), (16, V.i (↑(List.length m) : Int)), (17, V.i (↑(0 : Nat) : Int))]) (sl := [(500, Ob.box (3 : Nat) [V.i ((↑(0 : Nat) : Int) - (1 : Int))]), (8, Ob.row (50 : Nat) (2 : Nat) (0 : Nat) fun (k : Nat) => [V.i (Prod.fst (jnA m d k)), V.i (Prod.snd (jnA m d k))])]) [(8, 200014)] (.cons (by kernel_rfl) (.cons (by kernel_rfl) (.cons (by kernel_rfl) (.cons (by kernel_rfl) (.cons (by kernel_rfl) (.cons (by kernel_rfl) .nil)))))) (.cons ⟨Ob.box (3 : Nat) [V.i (-1 : Int)], (by kernel_rfl), .box (by kernel_rfl)⟩ (.cons ⟨Ob.row (50 : Nat) (2 : Nat) (0 : Nat) fun (x : Nat) => [V.c (Value.int IntKind.i64 (0 : Int)), V.c (Value.int IntKind.i64 (0 : Int))], (by kernel_rfl), .row (by kernel_rfl) ?_⟩ .nil)) (by kernel_rfl) (by kernel_rfl)
    intro i hi
    omega
  intro k hk
  refine aw_seq_k fun K hK => ?_
  refine w_region (n' := 2) (by kernel_rfl) (by kernel_rfl) ?_
  refine aops_n hTT (M := []) (n := 1) [pv (18 : Nat) (V.b (decide ((↑k : Int) < (↑(List.length m) : Int))))] (by kernel_rfl) (by kernel_rfl) True.intro ?_
  refine aops_nil ?_
  refine xt_n ?_
  refine hK _ ?_
  clear hK K
  refine aw_seq_k fun K hK => ?_
  refine w_cond (t := decide ((↑k : Int) < (↑(List.length m) : Int))) (by kernel_rfl) (fun c1 => ?_) (fun c1 => ?_)
  · simp at c1
    refine aw_skip ?_
    refine xt_n ?_
    refine hK _ ?_
    clear hK K
    refine aw_seq_k fun K hK => ?_
    refine aw_block ?_
    refine aw_seq_k fun K hK => ?_
    refine w_region (n' := 3) (by kernel_rfl) (by kernel_rfl) ?_
    refine aops_n hTT (M := []) (n := 3) [pc (19 : Nat) ((0 : Int) ≤ (↑k : Int) ∧ (↑k : Int) < (↑(List.length m) : Int)) (V.ptr [V.i (gi m k)]), pv (20 : Nat) (V.i (gi m k)), pv (10 : Nat) (V.i (gi m k))] (by kernel_rfl) (by kernel_rfl) ⟨(by omega), True.intro⟩ ?_
    refine aops_nil ?_
    refine xt_n ?_
    refine hK _ ?_
    clear hK K
    refine aw_seq_k fun K hK => ?_
    refine w_region (n' := 4) (by kernel_rfl) (by kernel_rfl) ?_
    refine aops_n hTT (M := []) (n := 2) [pv (21 : Nat) (V.fn (Fn.func (102 : Nat)) [] [V.ref (500 : Nat) (0 : Nat), V.ptr [V.sl (1 : Nat) (List.length d) fun (k : Nat) => [V.i (gi d k)]]]), pv (22 : Nat) (V.i (gi m k))] (by kernel_rfl) (by kernel_rfl) True.intro ?_
    refine aops_callM [500] (first := []) (caps := [V.ref (500 : Nat) (0 : Nat), V.ptr [V.sl (1 : Nat) (List.length d) fun (k : Nat) => [V.i (gi d k)]]]) (ins' := [Ob.box (3 : Nat) [V.i ((↑k : Int) - (1 : Int))]]) (v' := V.agg [V.i (Prod.fst (jnA m d k)), V.i (Prod.snd (jnA m d k))]) (δ := [(500, Option.some (Ob.box (3 : Nat) [V.i ((↑(k + (1 : Nat)) : Int) - (1 : Int))]))]) (kp := [500]) (join1_ac m d k hm hd (by omega) (by omega)) (by kernel_rfl) (by kernel_rfl) (by kernel_rfl) (by kernel_rfl) (by kernel_rfl) (by kernel_rfl) rfl rfl (by kernel_rfl) (.box (by kernel_rfl) (by kernel_rfl) .nil) (by kernel_rfl) (by kernel_rfl) (by kernel_rfl) ?_
    refine aops_n hTT (M := []) (n := 2) [pn (11 : Nat) (V.ref (300011 : Nat) (0 : Nat)) (300011 : Nat) (Ob.box (50 : Nat) [V.i (0 : Int), V.i (0 : Int)]), pw ((0 : Nat) + (2 : Nat) ≤ (2 : Nat)) (300011 : Nat) (Ob.box (50 : Nat) [V.i (Prod.fst (jnA m d k)), V.i (Prod.snd (jnA m d k))])] (by kernel_rfl) (by kernel_rfl) ⟨(by omega), True.intro⟩ ?_
    refine aops_nil ?_
    refine xt_n ?_
    refine hK _ ?_
    clear hK K
    refine aw_seq_k fun K hK => ?_
    refine aw_seq_k fun K hK => ?_
    refine w_region (n' := 5) (by kernel_rfl) (by kernel_rfl) ?_
    refine aops_n hTT (M := []) (n := 2) [pv (24 : Nat) (V.fn (Fn.func (103 : Nat)) [] []), pc (25 : Nat) ((0 : Nat) ≤ (2 : Nat)) (V.agg [V.i (Prod.fst (jnA m d k)), V.i (Prod.snd (jnA m d k))])] (by kernel_rfl) (by kernel_rfl) ⟨(by omega), True.intro⟩ ?_
    refine e_call (first := []) (caps := []) (join2_ac (jnA m d k)) (by kernel_rfl) (by kernel_rfl) (by kernel_rfl) (by kernel_rfl) (by kernel_rfl) ?_
    refine aops_n hTT (M := []) (n := 1) [pv (27 : Nat) (V.b !!loudB (jnA m d k) (32767 : Int))] (by kernel_rfl) (by kernel_rfl) True.intro ?_
    refine aops_nil ?_
    refine xt_n ?_
    refine hK _ ?_
    clear hK K
    refine w_cond (t := !!loudB (jnA m d k) (32767 : Int)) (by kernel_rfl) (fun c2 => ?_) (fun c2 => ?_)
    · simp at c2
      rw [hf k c1] at c2
      cases c2
    · refine aw_skip ?_
      refine xt_n ?_
      refine hK _ ?_
      clear hK K
      refine w_region (n' := 6) (by kernel_rfl) (by kernel_rfl) ?_
      refine aops_n hTT (M := []) (n := 5) [pv (28 : Nat) (V.own (8 : Nat)), pc (29 : Nat) ((0 : Nat) ≤ (2 : Nat)) (V.agg [V.i (Prod.fst (jnA m d k)), V.i (Prod.snd (jnA m d k))]), pv (30 : Nat) (V.sl (2 : Nat) (1 : Nat) fun (i : Nat) => List.take (2 : Nat) (List.drop (i * (2 : Nat)) [V.i (Prod.fst (jnA m d k)), V.i (Prod.snd (jnA m d k))])), PR.mk (some (31 : Nat)) (some (k + (1 : Nat) ≤ (1099511627776 : Nat))) (V.own (500031 : Nat)) [((8 : Nat), none), ((500031 : Nat), some (Ob.row (50 : Nat) (2 : Nat) (k + (1 : Nat)) (appRow k (fun (k : Nat) => [V.i (Prod.fst (jnA m d k)), V.i (Prod.snd (jnA m d k))]) fun (i : Nat) => List.take (2 : Nat) (List.drop (i * (2 : Nat)) [V.i (Prod.fst (jnA m d k)), V.i (Prod.snd (jnA m d k))]))))] false, pv (8 : Nat) (V.own (500031 : Nat))] (by kernel_rfl) (by kernel_rfl) ⟨(by omega), (by omega), True.intro⟩ ?_
      refine aops_nil ?_
      refine xb_n ?_
      refine xt_n ?_
      refine hK _ ?_
      clear hK K
      refine w_region (n' := 7) (by kernel_rfl) (by kernel_rfl) ?_
      refine aops_n hTT (M := []) (n := 2) [pc (32 : Nat) ((-9223372036854775808 : Int) ≤ (↑k : Int) + (1 : Int) ∧ (↑k : Int) + (1 : Int) ≤ (9223372036854775807 : Int)) (V.i ((↑k : Int) + (1 : Int))), pv (17 : Nat) (V.i ((↑k : Int) + (1 : Int)))] (by kernel_rfl) (by kernel_rfl) ⟨(by omega), True.intro⟩ ?_
      refine aops_nil ?_
      refine xt_n ?_
      refine ⟨k + 1, by omega, ?_, by omega⟩
      refine le_ren (tl := [(1, V.fn (Fn.func (102 : Nat)) [] [V.ref (500 : Nat) (0 : Nat), V.ptr [V.sl (1 : Nat) (List.length d) fun (k : Nat) => [V.i (gi d k)]]]), (2, V.fn (Fn.func (103 : Nat)) [] []), (8, V.own (8 : Nat)), (15, V.sl (1 : Nat) (List.length m) fun (k : Nat) => [V.i (gi m k)]), (16, V.i (↑(List.length m) : Int)), (17, V.i (↑(k + (1 : Nat)) : Int))]) (sl := [(500, Ob.box (3 : Nat) [V.i ((↑(k + (1 : Nat)) : Int) - (1 : Int))]), (8, Ob.row (50 : Nat) (2 : Nat) (k + (1 : Nat)) fun (k : Nat) => [V.i (Prod.fst (jnA m d k)), V.i (Prod.snd (jnA m d k))])]) [(8, 500031)] (.cons (by kernel_rfl) (.cons (by kernel_rfl) (.cons (by kernel_rfl) (.cons (by kernel_rfl) (.cons (by kernel_rfl) (.cons (by kernel_rfl) .nil)))))) (.cons ⟨Ob.box (3 : Nat) [V.i ((↑(k + (1 : Nat)) : Int) - (1 : Int))], (by kernel_rfl), .box (by kernel_rfl)⟩ (.cons ⟨Ob.row (50 : Nat) (2 : Nat) (k + (1 : Nat)) (appRow k (fun (k : Nat) => [V.i (Prod.fst (jnA m d k)), V.i (Prod.snd (jnA m d k))]) fun (i : Nat) => List.take (2 : Nat) (List.drop (i * (2 : Nat)) [V.i (Prod.fst (jnA m d k)), V.i (Prod.snd (jnA m d k))])), (by kernel_rfl), .row (by kernel_rfl) ?_⟩ .nil)) (by kernel_rfl) (by kernel_rfl)
      exact appRow_p rfl rfl rfl
  · simp at c1
    obtain rfl : k = m.length := by omega
    refine aw_exit ?_
    refine xt_x ?_
    refine xt_x ?_
    refine xb_same ?_
    refine xt_n ?_
    clear hK K
    refine hK _ ?_
    clear hK K
    refine aw_seq_k fun K hK => ?_
    refine w_region (n' := 3) (by kernel_rfl) (by kernel_rfl) ?_
    refine aops_n hTT (M := []) (n := 3) [pv (33 : Nat) (V.own (8 : Nat)), pv (6 : Nat) (V.own (8 : Nat)), pv (7 : Nat) (V.i (0 : Int))] (by kernel_rfl) (by kernel_rfl) True.intro ?_
    refine aops_nil ?_
    refine xt_n ?_
    refine hK _ ?_
    clear hK K
    refine aw_ret ?_
    refine retM (v' := V.tup [V.own (0 : Nat), V.i (0 : Int)]) [(0, 8)] [(6, V.own (0 : Nat)), (7, V.i (0 : Int))] (.inr rfl) (.cons (by kernel_rfl) (.cons (by kernel_rfl) .nil)) (.cons ⟨Ob.row (50 : Nat) (2 : Nat) (List.length m) fun (k : Nat) => [V.i (Prod.fst (jnA m d k)), V.i (Prod.snd (jnA m d k))], (by kernel_rfl), .row (by kernel_rfl) (fun _ _ => rfl)⟩ .nil) (by kernel_rfl) (by kernel_rfl) (by kernel_rfl) (by kernel_rfl) (by kernel_rfl) (by kernel_rfl) (by kernel_rfl)
set_option maxRecDepth 100000 in
theorem eachj_no (m d : List Int) (hl : m.length ≤ 4096) (hld : m.length = d.length) (hm : AllLe 32767 m) (hd : AllLe 65534 d) {j : Nat} (hj : j < m.length) (hb : loudB (jnA m d j) 32767 = true) :
    AM Try.prog 101 [V.ints m, FJ d 500, FG] [CntO (-1)] (.tup [.nil, .i 4]) [none] [] := by
  refine am_intro hTT hMX (fn := Try.f101) (N := _) ⟨Try.func101, rfl, Try.ntmps101, by kernel_rfl⟩ (by simp) rfl (by simp) (by simp) fun C hF => ?_
  refine aw_seq_k fun K hK => ?_
  refine w_region (n' := 2) (by kernel_rfl) (by kernel_rfl) ?_
  refine aops_n hTT (M := []) (n := 2) [pv (6 : Nat) V.nil, pv (7 : Nat) (V.i (0 : Int))] (by kernel_rfl) (by kernel_rfl) True.intro ?_
  refine aops_nil ?_
  refine xt_n ?_
  refine hK _ ?_
  clear hK K
  refine aw_seq_k fun K hK => ?_
  refine w_region (n' := 3) (by kernel_rfl) (by kernel_rfl) ?_
  refine aops_n hTT (M := []) (n := 4) [pv (12 : Nat) (V.sl (1 : Nat) (List.length m) fun (k : Nat) => [V.i (gi m k)]), pv (13 : Nat) (V.i (↑(List.length m) : Int)), PR.mk (some (14 : Nat)) (some ((0 : Int) ≤ (0 : Int) ∧ (0 : Int) ≤ (↑(List.length m) : Int) ∧ (↑(List.length m) : Int) ≤ (1099511627776 : Int))) (V.own (200014 : Nat)) [((200014 : Nat), some (Ob.row (50 : Nat) (2 : Nat) (0 : Nat) fun (x : Nat) => [V.c (Value.int IntKind.i64 (0 : Int)), V.c (Value.int IntKind.i64 (0 : Int))]))] false, pv (8 : Nat) (V.own (200014 : Nat))] (by kernel_rfl) (by kernel_rfl) ⟨⟨(by omega), (by omega)⟩, True.intro⟩ ?_
  refine aops_nil ?_
  refine xt_n ?_
  refine hK _ ?_
  clear hK K
  refine aw_seq_k fun K hK => ?_
  refine aw_seq_k fun K hK => ?_
  refine w_region (n' := 4) (by kernel_rfl) (by kernel_rfl) ?_
  refine aops_n hTT (M := []) (n := 3) [pv (15 : Nat) (V.sl (1 : Nat) (List.length m) fun (k : Nat) => [V.i (gi m k)]), pv (16 : Nat) (V.i (↑(List.length m) : Int)), pv (17 : Nat) (V.i (0 : Int))] (by kernel_rfl) (by kernel_rfl) True.intro ?_
  refine aops_nil ?_
  refine xt_n ?_
  refine hK _ ?_
  clear hK K
  refine aw_block ?_
  refine w_loop (ι := Nat) (fun k => [(1, FJ d 500), (2, FG), (8, .own 8), (15, V.ints m), (16, .i m.length), (17, .i k)])
    (fun k => [(500, CntO ((k : Int) - 1)), (8, .row 50 2 k fun k => [.i (jnA m d k).1, .i (jnA m d k).2])]) (fun k => k ≤ m.length ∧ ∀ i, i < k → loudB (jnA m d i) 32767 = false) (fun k => m.length - k) 0 ⟨Nat.zero_le _, fun i hi => by omega⟩ ?_ ?_
  · refine le_ren (tl := [(1, V.fn (Fn.func (102 : Nat)) [] [V.ref (500 : Nat) (0 : Nat), V.ptr [V.sl (1 : Nat) (List.length d) fun (k : Nat) => [V.i (gi d k)]]]), (2, V.fn (Fn.func (103 : Nat)) [] []), (8, V.own (8 : Nat)), (15, V.sl (1 : Nat) (List.length m) fun (k : Nat) => [V.i (gi m k)]), (16, V.i (↑(List.length m) : Int)), (17, V.i (↑(0 : Nat) : Int))]) (sl := [(500, Ob.box (3 : Nat) [V.i ((↑(0 : Nat) : Int) - (1 : Int))]), (8, Ob.row (50 : Nat) (2 : Nat) (0 : Nat) fun (k : Nat) => [V.i (Prod.fst (jnA m d k)), V.i (Prod.snd (jnA m d k))])]) [(8, 200014)] (.cons (by kernel_rfl) (.cons (by kernel_rfl) (.cons (by kernel_rfl) (.cons (by kernel_rfl) (.cons (by kernel_rfl) (.cons (by kernel_rfl) .nil)))))) (.cons ⟨Ob.box (3 : Nat) [V.i (-1 : Int)], (by kernel_rfl), .box (by kernel_rfl)⟩ (.cons ⟨Ob.row (50 : Nat) (2 : Nat) (0 : Nat) fun (x : Nat) => [V.c (Value.int IntKind.i64 (0 : Int)), V.c (Value.int IntKind.i64 (0 : Int))], (by kernel_rfl), .row (by kernel_rfl) ?_⟩ .nil)) (by kernel_rfl) (by kernel_rfl)
    intro i hi
    omega
  rintro k ⟨hk, hf⟩
  refine aw_seq_k fun K hK => ?_
  refine w_region (n' := 2) (by kernel_rfl) (by kernel_rfl) ?_
  refine aops_n hTT (M := []) (n := 1) [pv (18 : Nat) (V.b (decide ((↑k : Int) < (↑(List.length m) : Int))))] (by kernel_rfl) (by kernel_rfl) True.intro ?_
  refine aops_nil ?_
  refine xt_n ?_
  refine hK _ ?_
  clear hK K
  refine aw_seq_k fun K hK => ?_
  refine w_cond (t := decide ((↑k : Int) < (↑(List.length m) : Int))) (by kernel_rfl) (fun c1 => ?_) (fun c1 => ?_)
  · simp at c1
    refine aw_skip ?_
    refine xt_n ?_
    refine hK _ ?_
    clear hK K
    refine aw_seq_k fun K hK => ?_
    refine aw_block ?_
    refine aw_seq_k fun K hK => ?_
    refine w_region (n' := 3) (by kernel_rfl) (by kernel_rfl) ?_
    refine aops_n hTT (M := []) (n := 3) [pc (19 : Nat) ((0 : Int) ≤ (↑k : Int) ∧ (↑k : Int) < (↑(List.length m) : Int)) (V.ptr [V.i (gi m k)]), pv (20 : Nat) (V.i (gi m k)), pv (10 : Nat) (V.i (gi m k))] (by kernel_rfl) (by kernel_rfl) ⟨(by omega), True.intro⟩ ?_
    refine aops_nil ?_
    refine xt_n ?_
    refine hK _ ?_
    clear hK K
    refine aw_seq_k fun K hK => ?_
    refine w_region (n' := 4) (by kernel_rfl) (by kernel_rfl) ?_
    refine aops_n hTT (M := []) (n := 2) [pv (21 : Nat) (V.fn (Fn.func (102 : Nat)) [] [V.ref (500 : Nat) (0 : Nat), V.ptr [V.sl (1 : Nat) (List.length d) fun (k : Nat) => [V.i (gi d k)]]]), pv (22 : Nat) (V.i (gi m k))] (by kernel_rfl) (by kernel_rfl) True.intro ?_
    refine aops_callM [500] (first := []) (caps := [V.ref (500 : Nat) (0 : Nat), V.ptr [V.sl (1 : Nat) (List.length d) fun (k : Nat) => [V.i (gi d k)]]]) (ins' := [Ob.box (3 : Nat) [V.i ((↑k : Int) - (1 : Int))]]) (v' := V.agg [V.i (Prod.fst (jnA m d k)), V.i (Prod.snd (jnA m d k))]) (δ := [(500, Option.some (Ob.box (3 : Nat) [V.i ((↑(k + (1 : Nat)) : Int) - (1 : Int))]))]) (kp := [500]) (join1_ac m d k hm hd (by omega) (by omega)) (by kernel_rfl) (by kernel_rfl) (by kernel_rfl) (by kernel_rfl) (by kernel_rfl) (by kernel_rfl) rfl rfl (by kernel_rfl) (.box (by kernel_rfl) (by kernel_rfl) .nil) (by kernel_rfl) (by kernel_rfl) (by kernel_rfl) ?_
    refine aops_n hTT (M := []) (n := 2) [pn (11 : Nat) (V.ref (300011 : Nat) (0 : Nat)) (300011 : Nat) (Ob.box (50 : Nat) [V.i (0 : Int), V.i (0 : Int)]), pw ((0 : Nat) + (2 : Nat) ≤ (2 : Nat)) (300011 : Nat) (Ob.box (50 : Nat) [V.i (Prod.fst (jnA m d k)), V.i (Prod.snd (jnA m d k))])] (by kernel_rfl) (by kernel_rfl) ⟨(by omega), True.intro⟩ ?_
    refine aops_nil ?_
    refine xt_n ?_
    refine hK _ ?_
    clear hK K
    refine aw_seq_k fun K hK => ?_
    refine aw_seq_k fun K hK => ?_
    refine w_region (n' := 5) (by kernel_rfl) (by kernel_rfl) ?_
    refine aops_n hTT (M := []) (n := 2) [pv (24 : Nat) (V.fn (Fn.func (103 : Nat)) [] []), pc (25 : Nat) ((0 : Nat) ≤ (2 : Nat)) (V.agg [V.i (Prod.fst (jnA m d k)), V.i (Prod.snd (jnA m d k))])] (by kernel_rfl) (by kernel_rfl) ⟨(by omega), True.intro⟩ ?_
    refine e_call (first := []) (caps := []) (join2_ac (jnA m d k)) (by kernel_rfl) (by kernel_rfl) (by kernel_rfl) (by kernel_rfl) (by kernel_rfl) ?_
    refine aops_n hTT (M := []) (n := 1) [pv (27 : Nat) (V.b !!loudB (jnA m d k) (32767 : Int))] (by kernel_rfl) (by kernel_rfl) True.intro ?_
    refine aops_nil ?_
    refine xt_n ?_
    refine hK _ ?_
    clear hK K
    refine w_cond (t := !!loudB (jnA m d k) (32767 : Int)) (by kernel_rfl) (fun c2 => ?_) (fun c2 => ?_)
    · refine aw_seq_k fun K hK => ?_
      refine w_region (n' := 6) (by kernel_rfl) (by kernel_rfl) ?_
      refine aops_n hTT (M := []) (n := 2) [pv (6 : Nat) V.nil, pv (7 : Nat) (V.i (4 : Int))] (by kernel_rfl) (by kernel_rfl) True.intro ?_
      refine aops_nil ?_
      refine xt_n ?_
      refine hK _ ?_
      clear hK K
      refine aw_ret ?_
      refine xt_r ?_
      refine xb_r ?_
      refine xt_r ?_
      refine xt_r ?_
      refine xb_r ?_
      refine xt_r ?_
      refine retM (v' := V.tup [V.nil, V.i (4 : Int)]) [] [(6, V.nil), (7, V.i (4 : Int))] (.inr rfl) (.cons (by kernel_rfl) (.cons (by kernel_rfl) .nil)) .nil (by kernel_rfl) (by kernel_rfl) (by kernel_rfl) (by kernel_rfl) (by kernel_rfl) (by kernel_rfl) (by kernel_rfl)
    · simp at c2
      refine aw_skip ?_
      refine xt_n ?_
      refine hK _ ?_
      clear hK K
      refine w_region (n' := 6) (by kernel_rfl) (by kernel_rfl) ?_
      refine aops_n hTT (M := []) (n := 5) [pv (28 : Nat) (V.own (8 : Nat)), pc (29 : Nat) ((0 : Nat) ≤ (2 : Nat)) (V.agg [V.i (Prod.fst (jnA m d k)), V.i (Prod.snd (jnA m d k))]), pv (30 : Nat) (V.sl (2 : Nat) (1 : Nat) fun (i : Nat) => List.take (2 : Nat) (List.drop (i * (2 : Nat)) [V.i (Prod.fst (jnA m d k)), V.i (Prod.snd (jnA m d k))])), PR.mk (some (31 : Nat)) (some (k + (1 : Nat) ≤ (1099511627776 : Nat))) (V.own (500031 : Nat)) [((8 : Nat), none), ((500031 : Nat), some (Ob.row (50 : Nat) (2 : Nat) (k + (1 : Nat)) (appRow k (fun (k : Nat) => [V.i (Prod.fst (jnA m d k)), V.i (Prod.snd (jnA m d k))]) fun (i : Nat) => List.take (2 : Nat) (List.drop (i * (2 : Nat)) [V.i (Prod.fst (jnA m d k)), V.i (Prod.snd (jnA m d k))]))))] false, pv (8 : Nat) (V.own (500031 : Nat))] (by kernel_rfl) (by kernel_rfl) ⟨(by omega), (by omega), True.intro⟩ ?_
      refine aops_nil ?_
      refine xb_n ?_
      refine xt_n ?_
      refine hK _ ?_
      clear hK K
      refine w_region (n' := 7) (by kernel_rfl) (by kernel_rfl) ?_
      refine aops_n hTT (M := []) (n := 2) [pc (32 : Nat) ((-9223372036854775808 : Int) ≤ (↑k : Int) + (1 : Int) ∧ (↑k : Int) + (1 : Int) ≤ (9223372036854775807 : Int)) (V.i ((↑k : Int) + (1 : Int))), pv (17 : Nat) (V.i ((↑k : Int) + (1 : Int)))] (by kernel_rfl) (by kernel_rfl) ⟨(by omega), True.intro⟩ ?_
      refine aops_nil ?_
      refine xt_n ?_
      refine ⟨k + 1, ⟨by omega, fun i hi => ?_⟩, ?_, by omega⟩
      · by_cases h : i < k
        · exact hf i h
        · obtain rfl : i = k := by omega
          exact c2
      refine le_ren (tl := [(1, V.fn (Fn.func (102 : Nat)) [] [V.ref (500 : Nat) (0 : Nat), V.ptr [V.sl (1 : Nat) (List.length d) fun (k : Nat) => [V.i (gi d k)]]]), (2, V.fn (Fn.func (103 : Nat)) [] []), (8, V.own (8 : Nat)), (15, V.sl (1 : Nat) (List.length m) fun (k : Nat) => [V.i (gi m k)]), (16, V.i (↑(List.length m) : Int)), (17, V.i (↑(k + (1 : Nat)) : Int))]) (sl := [(500, Ob.box (3 : Nat) [V.i ((↑(k + (1 : Nat)) : Int) - (1 : Int))]), (8, Ob.row (50 : Nat) (2 : Nat) (k + (1 : Nat)) fun (k : Nat) => [V.i (Prod.fst (jnA m d k)), V.i (Prod.snd (jnA m d k))])]) [(8, 500031)] (.cons (by kernel_rfl) (.cons (by kernel_rfl) (.cons (by kernel_rfl) (.cons (by kernel_rfl) (.cons (by kernel_rfl) (.cons (by kernel_rfl) .nil)))))) (.cons ⟨Ob.box (3 : Nat) [V.i ((↑(k + (1 : Nat)) : Int) - (1 : Int))], (by kernel_rfl), .box (by kernel_rfl)⟩ (.cons ⟨Ob.row (50 : Nat) (2 : Nat) (k + (1 : Nat)) (appRow k (fun (k : Nat) => [V.i (Prod.fst (jnA m d k)), V.i (Prod.snd (jnA m d k))]) fun (i : Nat) => List.take (2 : Nat) (List.drop (i * (2 : Nat)) [V.i (Prod.fst (jnA m d k)), V.i (Prod.snd (jnA m d k))])), (by kernel_rfl), .row (by kernel_rfl) ?_⟩ .nil)) (by kernel_rfl) (by kernel_rfl)
      exact appRow_p rfl rfl rfl
  · simp at c1
    rw [hf j (by omega)] at hb
    cases hb
set_option maxRecDepth 100000 in
theorem join_ac (m d : List Int) (hl : m.length ≤ 4096) (hld : m.length = d.length) (hm : AllLe 32767 m) (hd : AllLe 65534 d) : AC Try.prog 85 [V.ints m, V.ints d] (.tup [V.pts (jnR m d), .i (jnE m d)]) [] := by
  refine ac_intro hTT hMX (fn := Try.f85) (N := _) ⟨Try.func85, rfl, Try.ntmps85, by kernel_rfl⟩ (by simp) fun C hC hF => ?_
  refine aw_seq_k fun K hK => ?_
  refine w_region (n' := 2) (by kernel_rfl) (by kernel_rfl) ?_
  refine aops_n hTT (M := []) (n := 3) [pv (3 : Nat) (V.ptr [V.sl (1 : Nat) (List.length d) fun (k : Nat) => [V.i (gi d k)]]), pv (4 : Nat) V.nil, pv (5 : Nat) (V.i (0 : Int))] (by kernel_rfl) (by kernel_rfl) True.intro ?_
  refine aops_nil ?_
  refine xt_n ?_
  refine hK _ ?_
  clear hK K
  refine aw_seq_k fun K hK => ?_
  refine w_region (n' := 3) (by kernel_rfl) (by kernel_rfl) ?_
  refine aops_n hTT (M := []) (n := 2) [pn (6 : Nat) (V.ref (200006 : Nat) (0 : Nat)) (200006 : Nat) (Ob.box (3 : Nat) [V.i (0 : Int)]), pw ((0 : Nat) + (1 : Nat) ≤ (1 : Nat)) (200006 : Nat) (Ob.box (3 : Nat) [V.i (-1 : Int)])] (by kernel_rfl) (by kernel_rfl) ⟨(by omega), True.intro⟩ ?_
  refine aops_nil ?_
  refine xt_n ?_
  refine hK _ ?_
  clear hK K
  refine aw_seq_k fun K hK => ?_
  refine w_region (n' := 4) (by kernel_rfl) (by kernel_rfl) ?_
  refine aops_n hTT (M := []) (n := 2) [pv (7 : Nat) (V.sl (1 : Nat) (List.length m) fun (k : Nat) => [V.i (gi m k)]), pv (8 : Nat) (V.fn (Fn.func (102 : Nat)) [] [V.ref (200006 : Nat) (0 : Nat), V.ptr [V.sl (1 : Nat) (List.length d) fun (k : Nat) => [V.i (gi d k)]]])] (by kernel_rfl) (by kernel_rfl) True.intro ?_
  rcases jn_or m d with ⟨j, hj, hb, _⟩ | hf
  · refine aops_callM [200006] (first := []) (caps := []) (ins' := [Ob.box (3 : Nat) [V.i (-1 : Int)]]) (v' := V.tup [V.nil, V.i (4 : Int)]) (δ := [(200006, Option.none)]) (kp := [200006]) (eachj_no m d hl hld hm hd hj hb) (by kernel_rfl) (by kernel_rfl) (by kernel_rfl) (by kernel_rfl) (by kernel_rfl) (by kernel_rfl) rfl rfl (by kernel_rfl) (.box (by kernel_rfl) (by kernel_rfl) .nil) (by kernel_rfl) (by kernel_rfl) (by kernel_rfl) ?_
    refine aops_n hTT (M := []) (n := 4) [pv (10 : Nat) V.nil, pv (11 : Nat) (V.i (4 : Int)), pv (4 : Nat) V.nil, pv (5 : Nat) (V.i (4 : Int))] (by kernel_rfl) (by kernel_rfl) True.intro ?_
    refine aops_nil ?_
    refine xt_n ?_
    refine hK _ ?_
    clear hK K
    refine aw_ret ?_
    rw [(jn_no hj hb).1, (jn_no hj hb).2]
    refine ret_of_le (le_nil 4 (sz := 2) 0 (fun k => [.i (gp [] k).1, .i (gp [] k).2]) (by kernel_rfl) ?_) ?_
    · rfl
    refine ret_pure (v' := V.tup [V.sl (2 : Nat) (0 : Nat) fun (k : Nat) => [V.i (Prod.fst (gp [] k)), V.i (Prod.snd (gp [] k))], V.i (4 : Int)]) (.inr rfl) (by kernel_rfl) (by kernel_rfl) (by kernel_rfl)
  · refine aops_callM [200006] (first := []) (caps := []) (ins' := [Ob.box (3 : Nat) [V.i (-1 : Int)]]) (v' := V.tup [V.own (300009 : Nat), V.i (0 : Int)]) (δ := [(200006, Option.none), (300009, Option.some (Ob.row (50 : Nat) (2 : Nat) (List.length m) fun (i : Nat) => V.renL (nameG (3 : Nat) (some 9) [(200006 : Nat)]) [V.i (Prod.fst (jnA m d i)), V.i (Prod.snd (jnA m d i))]))]) (kp := [200006]) (eachj_ok m d hl hld hm hd hf) (by kernel_rfl) (by kernel_rfl) (by kernel_rfl) (by kernel_rfl) (by kernel_rfl) (by kernel_rfl) rfl rfl (by kernel_rfl) (.box (by kernel_rfl) (by kernel_rfl) .nil) (by kernel_rfl) (by kernel_rfl) (by kernel_rfl) ?_
    refine aops_n hTT (M := []) (n := 4) [pv (10 : Nat) (V.own (300009 : Nat)), pv (11 : Nat) (V.i (0 : Int)), pv (4 : Nat) (V.own (300009 : Nat)), pv (5 : Nat) (V.i (0 : Int))] (by kernel_rfl) (by kernel_rfl) True.intro ?_
    refine aops_nil ?_
    refine xt_n ?_
    refine hK _ ?_
    clear hK K
    refine aw_ret ?_
    refine ret_of_le (le_shut 4 300009 (e := (50 : Nat)) (sz := (2 : Nat)) (n := List.length m) (n' := (jnP m d).length) (row := fun (i : Nat) => V.renL (nameG (3 : Nat) (some (9 : Tmp)) [(200006 : Nat)]) [V.i (Prod.fst (jnA m d i)), V.i (Prod.snd (jnA m d i))]) (row' := (fun k => [.i (gp (jnP m d) k).1, .i (gp (jnP m d) k).2])) (by kernel_rfl) (by kernel_rfl) (fun _ _ => rfl) ?_ ?_) ?_
    · rw [jnP_len]
    · intro i hi
      rw [jnP_gp hi]
      rfl
    rw [(jn_ok hf).1, (jn_ok hf).2]
    refine ret_pure (v' := V.tup [V.sl (2 : Nat) (List.length (jnP m d)) fun (k : Nat) => [V.i (Prod.fst (gp (jnP m d) k)), V.i (Prod.snd (gp (jnP m d) k))], V.i (0 : Int)]) (.inr rfl) (by kernel_rfl) (by kernel_rfl) (by kernel_rfl)
end Go.Proofs.Ytblipieipldanaa
