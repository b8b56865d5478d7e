/-
  Needs and gains: both copies. Condition: as many elements as a slice can have.
-/
import Derived.Test.YtblipieipldanaaFA9
namespace Go.Proofs.Ytblipieipldanaa
open Go.Ab Go.RowKit Go.Dw Go.Shelf

def needE (p : List Pt) (c : Int) : Int := if progE p ≠ 0 then progE p else if c < 1 ∨ 32767 < c then 3 else 0
theorem needE_1 {p : List Pt} {c : Int} (h : ¬ progE p = 0) : needE p c = progE p := by rw [needE, if_pos h]
theorem needE_2 {p : List Pt} {c : Int} (h : progE p = 0) (h2 : c < 1 ∨ 32767 < c) : needE p c = 3 := by rw [needE, if_neg (by simp [h]), if_pos h2]
theorem needE_ok {p : List Pt} {c : Int} : needE p c = 0 ↔ progE p = 0 ∧ 1 ≤ c ∧ c ≤ 32767 := by
  by_cases h : progE p = 0
  · by_cases h2 : c < 1 ∨ 32767 < c
    · rw [needE_2 h h2]; simp [h]; omega
    · rw [needE, if_neg (by simp [h]), if_neg h2]; simp [h]; omega
  · rw [needE_1 h]; simp [h]
def needL (p : List Pt) (c : Int) : List Int := (List.range p.length).map fun k => needI (gp p k) c
theorem needL_len (p : List Pt) (c : Int) : (needL p c).length = p.length := by simp [needL]
theorem needL_gi {p : List Pt} {c : Int} {k : Nat} (h : k < p.length) : gi (needL p c) k = needI (gp p k) c := by simp [needL, gi, h]
set_option maxRecDepth 100000 in
theorem Needs_ok (p : List Pt) (c : Int) (hp : progE p = 0) (hc : 1 ≤ c ∧ c ≤ 32767) : AC Try.prog 39 [V.pts p, .i c] (.tup [.own 0, .i 0]) [RowI p.length fun k => needI (gp p k) c] := by
  obtain ⟨g1, g2⟩ := progE_ok.1 hp
  refine ac_intro hTT hMX (fn := Try.f39) (N := _) ⟨Try.func39, rfl, Try.ntmps39, by kernel_rfl⟩ (by simp) fun C hC hF => ?_
  refine aw_seq_k fun K hK => ?_
  refine w_region (n' := 2) (by kernel_rfl) (by kernel_rfl) ?_
  refine aops_n hTT (M := []) (n := 2) [pv (4 : Nat) V.nil, pv (5 : Nat) (V.i (0 : Int))] (by kernel_rfl) (by kernel_rfl) True.intro ?_
  refine aops_nil ?_
  refine xt_n ?_
  refine hK _ ?_
  clear hK K
  refine aw_seq_k fun K hK => ?_
  refine aw_seq_k fun K hK => ?_
  refine w_region (n' := 3) (by kernel_rfl) (by kernel_rfl) ?_
  refine aops_n hTT (M := []) (n := 1) [pv (10 : Nat) (V.sl (2 : Nat) (List.length p) fun (k : Nat) => [V.i (Prod.fst (gp p k)), V.i (Prod.snd (gp p k))])] (by kernel_rfl) (by kernel_rfl) True.intro ?_
  refine e_call (first := []) (caps := []) (checkProgramme_ac p (by unfold bigL; omega)) (by kernel_rfl) (by kernel_rfl) (by kernel_rfl) (by kernel_rfl) (by kernel_rfl) ?_
  refine aops_n hTT (M := []) (n := 1) [pv (6 : Nat) (V.i (progE p))] (by kernel_rfl) (by kernel_rfl) True.intro ?_
  refine aops_nil ?_
  refine xt_n ?_
  refine hK _ ?_
  clear hK K
  refine aw_seq_k fun K hK => ?_
  refine w_region (n' := 4) (by kernel_rfl) (by kernel_rfl) ?_
  refine aops_n hTT (M := []) (n := 2) [pv (12 : Nat) (V.i (progE p)), pv (13 : Nat) (V.b !decide (progE p = (0 : Int)))] (by kernel_rfl) (by kernel_rfl) True.intro ?_
  refine aops_nil ?_
  refine xt_n ?_
  refine hK _ ?_
  clear hK K
  refine w_cond (t := !decide (progE p = (0 : Int))) (by kernel_rfl) (fun c1 => ?_) (fun c1 => ?_)
  · simp [hp] at c1
  refine aw_skip ?_
  refine xt_n ?_
  refine hK _ ?_
  clear hK K
  refine aw_seq_k fun K hK => ?_
  refine aw_seq_k fun K hK => ?_
  refine w_region (n' := 5) (by kernel_rfl) (by kernel_rfl) ?_
  refine aops_n hTT (M := []) (n := 6) [pv (15 : Nat) (V.i c), pv (16 : Nat) (V.b (decide (c < (1 : Int)))), pv (17 : Nat) (V.b (decide (c < (1 : Int)))), pc (18 : Nat) ((True ∧ True) ∧ ((decide (c < (1 : Int)) == false) = true → True)) (V.gd (decide (c < (1 : Int)) == false) (V.i c)), pc (19 : Nat) ((((decide (c < (1 : Int)) == false) = true → (decide (c < (1 : Int)) == false) = true) ∧ True ∧ True) ∧ ((decide (c < (1 : Int)) == false) = true → True)) (V.gd (decide (c < (1 : Int)) == false) (V.b (decide ((32767 : Int) < c)))), pc (20 : Nat) (True ∧ (decide (c < (1 : Int)) = false → (decide (c < (1 : Int)) == false) = true)) (V.b (decide (c < (1 : Int)) || decide ((32767 : Int) < c)))] (by kernel_rfl) (by kernel_rfl) ⟨⟨⟨True.intro, True.intro⟩, (fun _ => True.intro)⟩, ⟨⟨(by (exact fun h => h)), ⟨True.intro, True.intro⟩⟩, (fun _ => True.intro)⟩, ⟨True.intro, (by (intro h; rw [h]; rfl))⟩, True.intro⟩ ?_
  refine aops_nil ?_
  refine xt_n ?_
  refine hK _ ?_
  clear hK K
  refine w_cond (t := decide (c < (1 : Int)) || decide ((32767 : Int) < c)) (by kernel_rfl) (fun c2 => ?_) (fun c2 => ?_)
  · simp at c2
    omega
  refine aw_skip ?_
  refine xt_n ?_
  refine hK _ ?_
  clear hK K
  refine aw_seq_k fun K hK => ?_
  refine w_region (n' := 6) (by kernel_rfl) (by kernel_rfl) ?_
  refine aops_n hTT (M := []) (n := 1) [pv (7 : Nat) V.nil] (by kernel_rfl) (by kernel_rfl) True.intro ?_
  refine aops_nil ?_
  refine xt_n ?_
  refine hK _ ?_
  clear hK K
  refine aw_seq_k fun K hK => ?_
  refine aw_seq_k fun K hK => ?_
  refine w_region (n' := 7) (by kernel_rfl) (by kernel_rfl) ?_
  refine aops_n hTT (M := []) (n := 3) [pv (21 : Nat) (V.sl (2 : Nat) (List.length p) fun (k : Nat) => [V.i (Prod.fst (gp p k)), V.i (Prod.snd (gp p k))]), pv (22 : Nat) (V.i (↑(List.length p) : Int)), pv (23 : Nat) (V.i (0 : Int))] (by kernel_rfl) (by kernel_rfl) True.intro ?_
  refine aops_nil ?_
  refine xt_n ?_
  refine hK _ ?_
  clear hK K
  refine aw_block ?_
  refine w_le (le_open 7 2 1 (fun k => [.i (needI (gp p k) c)]) (by kernel_rfl) rfl) ?_
  skip
  refine w_loop (ι := Nat) (fun k => [(1, .i c), (7, .own 7), (21, V.pts p), (22, .i p.length), (23, .i k)]) (fun k => [(7, RowI k fun k => needI (gp p k) c)]) (fun k => k ≤ p.length) (fun k => p.length - k) 0 (Nat.zero_le _) ?_ ?_
  · refine le_ren (sl := [(7, Ob.row (2 : Nat) (1 : Nat) (0 : Nat) fun (j : Nat) => [V.i (needI (gp p j) c)])]) [(7, 700007)] (.cons (by kernel_rfl) (.cons (by kernel_rfl) (.cons (by kernel_rfl) (.cons (by kernel_rfl) (.cons (by kernel_rfl) .nil))))) (.cons ⟨Ob.row (2 : Nat) (1 : Nat) (0 : Nat) fun (k : Nat) => [V.i (needI (gp p k) c)], (by kernel_rfl), .row (by kernel_rfl) (fun _ _ => rfl)⟩ .nil) (by kernel_rfl) (by kernel_rfl)
  intro k hk
  refine aw_seq_k fun K hK => ?_
  refine w_region (n' := 2) (by kernel_rfl) (by kernel_rfl) ?_
  refine aops_n hTT (M := []) (n := 1) [pv (24 : Nat) (V.b (decide ((↑k : Int) < (↑(List.length p) : Int))))] (by kernel_rfl) (by kernel_rfl) True.intro ?_
  refine aops_nil ?_
  refine xt_n ?_
  refine hK _ ?_
  clear hK K
  refine aw_seq_k fun K hK => ?_
  refine w_cond (t := decide ((↑k : Int) < (↑(List.length p) : Int))) (by kernel_rfl) (fun c3 => ?_) (fun c3 => ?_)
  · simp at c3
    refine aw_skip ?_
    refine xt_n ?_
    refine hK _ ?_
    clear hK K
    refine aw_seq_k fun K hK => ?_
    refine aw_block ?_
    refine aw_seq_k fun K hK => ?_
    refine w_region (n' := 3) (by kernel_rfl) (by kernel_rfl) ?_
    refine aops_n hTT (M := []) (n := 4) [pc (25 : Nat) ((0 : Int) ≤ (↑k : Int) ∧ (↑k : Int) < (↑(List.length p) : Int)) (V.ptr [V.i (Prod.fst (gp p k)), V.i (Prod.snd (gp p k))]), pv (26 : Nat) (V.agg [V.i (Prod.fst (gp p k)), V.i (Prod.snd (gp p k))]), pn (9 : Nat) (V.ref (200009 : Nat) (0 : Nat)) (200009 : Nat) (Ob.box (50 : Nat) [V.i (0 : Int), V.i (0 : Int)]), pw ((0 : Nat) + (2 : Nat) ≤ (2 : Nat)) (200009 : Nat) (Ob.box (50 : Nat) [V.i (Prod.fst (gp p k)), V.i (Prod.snd (gp p k))])] (by kernel_rfl) (by kernel_rfl) ⟨(by omega), (by omega), True.intro⟩ ?_
    refine aops_nil ?_
    refine xt_n ?_
    refine hK _ ?_
    clear hK K
    refine w_region (n' := 4) (by kernel_rfl) (by kernel_rfl) ?_
    refine aops_n hTT (M := []) (n := 3) [pv (27 : Nat) (V.own (7 : Nat)), pc (28 : Nat) ((0 : Nat) ≤ (2 : Nat)) (V.agg [V.i (Prod.fst (gp p k)), V.i (Prod.snd (gp p k))]), pv (29 : Nat) (V.i c)] (by kernel_rfl) (by kernel_rfl) ⟨(by omega), True.intro⟩ ?_
    refine e_call (first := []) (caps := []) (need_ac (gp p k) c (g2 k c3) hc) (by kernel_rfl) (by kernel_rfl) (by kernel_rfl) (by kernel_rfl) (by kernel_rfl) ?_
    refine aops_n hTT (M := []) (n := 3) [pv (31 : Nat) (V.sl (1 : Nat) (1 : Nat) fun (i : Nat) => List.take (1 : Nat) (List.drop (i * (1 : Nat)) [V.i (needI (gp p k) c)])), PR.mk (some (32 : Nat)) (some (k + (1 : Nat) ≤ (1099511627776 : Nat))) (V.own (300032 : Nat)) [((7 : Nat), none), ((300032 : Nat), some (Ob.row (2 : Nat) (1 : Nat) (k + (1 : Nat)) (appRow k (fun (j : Nat) => [V.i (needI (gp p j) c)]) fun (i : Nat) => List.take (1 : Nat) (List.drop (i * (1 : Nat)) [V.i (needI (gp p k) c)]))))] false, pv (7 : Nat) (V.own (300032 : Nat))] (by kernel_rfl) (by kernel_rfl) ⟨(by omega), True.intro⟩ ?_
    refine aops_nil ?_
    refine xb_n ?_
    refine xt_n ?_
    refine hK _ ?_
    clear hK K
    refine w_region (n' := 5) (by kernel_rfl) (by kernel_rfl) ?_
    refine aops_n hTT (M := []) (n := 2) [pc (33 : Nat) ((-9223372036854775808 : Int) ≤ (↑k : Int) + (1 : Int) ∧ (↑k : Int) + (1 : Int) ≤ (9223372036854775807 : Int)) (V.i ((↑k : Int) + (1 : Int))), pv (23 : Nat) (V.i ((↑k : Int) + (1 : Int)))] (by kernel_rfl) (by kernel_rfl) ⟨(by omega), True.intro⟩ ?_
    refine aops_nil ?_
    refine xt_n ?_
    refine ⟨k + 1, by omega, ?_, by omega⟩
    refine le_ren (tl := [(1, V.i c), (7, V.own (7 : Nat)), (21, V.sl (2 : Nat) (List.length p) fun (k : Nat) => [V.i (Prod.fst (gp p k)), V.i (Prod.snd (gp p k))]), (22, V.i (↑(List.length p) : Int)), (23, V.i (↑(k + (1 : Nat)) : Int))]) (sl := [(7, Ob.row (2 : Nat) (1 : Nat) (k + (1 : Nat)) fun (j : Nat) => [V.i (needI (gp p j) c)])]) [(7, 300032)] (.cons (by kernel_rfl) (.cons (by kernel_rfl) (.cons (by kernel_rfl) (.cons (by kernel_rfl) (.cons (by kernel_rfl) .nil))))) (.cons ⟨Ob.row (2 : Nat) (1 : Nat) (k + (1 : Nat)) (appRow k (fun (j : Nat) => [V.i (needI (gp p j) c)]) fun (i : Nat) => List.take (1 : Nat) (List.drop (i * (1 : Nat)) [V.i (needI (gp p k) c)])), (by kernel_rfl), .row (by kernel_rfl) ?_⟩ .nil) (by kernel_rfl) (by kernel_rfl)
    intro i hi
    by_cases h : i < k
    · rw [appRow, if_pos h]
      rfl
    · obtain rfl : i = k := by omega
      rw [appRow, if_neg h, Nat.sub_self]
      rfl
  · simp at c3
    obtain rfl : k = p.length := by omega
    refine aw_exit ?_
    refine xt_x ?_
    refine xt_x ?_
    refine xb_same ?_
    refine xt_n ?_
    clear hK K
    refine hK _ ?_
    clear hK K
    refine aw_seq_k fun K hK => ?_
    refine w_region (n' := 3) (by kernel_rfl) (by kernel_rfl) ?_
    refine aops_n hTT (M := []) (n := 3) [pv (34 : Nat) (V.own (7 : Nat)), pv (4 : Nat) (V.own (7 : Nat)), pv (5 : Nat) (V.i (0 : Int))] (by kernel_rfl) (by kernel_rfl) True.intro ?_
    refine aops_nil ?_
    refine xt_n ?_
    refine hK _ ?_
    clear hK K
    refine aw_ret ?_
    refine ret_own [(0, 7)] [(4, V.own (0 : Nat)), (5, V.i (0 : Int))] (.inr rfl) (.cons (by kernel_rfl) (.cons (by kernel_rfl) .nil)) (.cons ⟨Ob.row (2 : Nat) (1 : Nat) (List.length p) fun (j : Nat) => [V.i (needI (gp p j) c)], (by kernel_rfl), .row (by kernel_rfl) (fun _ _ => rfl)⟩ .nil) (by kernel_rfl) (by kernel_rfl) (by kernel_rfl) (by kernel_rfl)
set_option maxRecDepth 100000 in
theorem Needs_no (p : List Pt) (c : Int) (hl : p.length ≤ bigL) (h : ¬ needE p c = 0) : AC Try.prog 39 [V.pts p, .i c] (.tup [V.ints [], .i (needE p c)]) [] := by
  refine ac_intro hTT hMX (fn := Try.f39) (N := _) ⟨Try.func39, rfl, Try.ntmps39, by kernel_rfl⟩ (by simp) fun C hC hF => ?_
  refine aw_seq_k fun K hK => ?_
  refine w_region (n' := 2) (by kernel_rfl) (by kernel_rfl) ?_
  refine aops_n hTT (M := []) (n := 2) [pv (4 : Nat) V.nil, pv (5 : Nat) (V.i (0 : Int))] (by kernel_rfl) (by kernel_rfl) True.intro ?_
  refine aops_nil ?_
  refine xt_n ?_
  refine hK _ ?_
  clear hK K
  refine aw_seq_k fun K hK => ?_
  refine aw_seq_k fun K hK => ?_
  refine w_region (n' := 3) (by kernel_rfl) (by kernel_rfl) ?_
  refine aops_n hTT (M := []) (n := 1) [pv (10 : Nat) (V.sl (2 : Nat) (List.length p) fun (k : Nat) => [V.i (Prod.fst (gp p k)), V.i (Prod.snd (gp p k))])] (by kernel_rfl) (by kernel_rfl) True.intro ?_
  refine e_call (first := []) (caps := []) (checkProgramme_ac p hl) (by kernel_rfl) (by kernel_rfl) (by kernel_rfl) (by kernel_rfl) (by kernel_rfl) ?_
  refine aops_n hTT (M := []) (n := 1) [pv (6 : Nat) (V.i (progE p))] (by kernel_rfl) (by kernel_rfl) True.intro ?_
  refine aops_nil ?_
  refine xt_n ?_
  refine hK _ ?_
  clear hK K
  refine aw_seq_k fun K hK => ?_
  refine w_region (n' := 4) (by kernel_rfl) (by kernel_rfl) ?_
  refine aops_n hTT (M := []) (n := 2) [pv (12 : Nat) (V.i (progE p)), pv (13 : Nat) (V.b !decide (progE p = (0 : Int)))] (by kernel_rfl) (by kernel_rfl) True.intro ?_
  refine aops_nil ?_
  refine xt_n ?_
  refine hK _ ?_
  clear hK K
  refine w_cond (t := !decide (progE p = (0 : Int))) (by kernel_rfl) (fun c1 => ?_) (fun c1 => ?_)
  · simp at c1
    refine aw_seq_k fun K hK => ?_
    refine w_region (n' := 5) (by kernel_rfl) (by kernel_rfl) ?_
    refine aops_n hTT (M := []) (n := 3) [pv (14 : Nat) (V.i (progE p)), pv (4 : Nat) V.nil, pv (5 : Nat) (V.i (progE p))] (by kernel_rfl) (by kernel_rfl) True.intro ?_
    refine aops_nil ?_
    refine xt_n ?_
    refine hK _ ?_
    clear hK K
    refine aw_ret ?_
    refine xt_r ?_
    rw [needE_1 c1]
    refine ret_of_le (le_nil 4 (sz := 1) 0 (fun k => [.i (gi [] k)]) (by kernel_rfl) ?_) ?_
    · rfl
    refine ret_pure (v' := V.tup [V.sl (1 : Nat) (0 : Nat) fun (k : Nat) => [V.i (gi [] k)], V.i (progE p)]) (.inr rfl) (by kernel_rfl) (by kernel_rfl) (by kernel_rfl)
  simp at c1
  refine aw_skip ?_
  refine xt_n ?_
  refine hK _ ?_
  clear hK K
  refine aw_seq_k fun K hK => ?_
  refine aw_seq_k fun K hK => ?_
  refine w_region (n' := 5) (by kernel_rfl) (by kernel_rfl) ?_
  refine aops_n hTT (M := []) (n := 6) [pv (15 : Nat) (V.i c), pv (16 : Nat) (V.b (decide (c < (1 : Int)))), pv (17 : Nat) (V.b (decide (c < (1 : Int)))), pc (18 : Nat) ((True ∧ True) ∧ ((decide (c < (1 : Int)) == false) = true → True)) (V.gd (decide (c < (1 : Int)) == false) (V.i c)), pc (19 : Nat) ((((decide (c < (1 : Int)) == false) = true → (decide (c < (1 : Int)) == false) = true) ∧ True ∧ True) ∧ ((decide (c < (1 : Int)) == false) = true → True)) (V.gd (decide (c < (1 : Int)) == false) (V.b (decide ((32767 : Int) < c)))), pc (20 : Nat) (True ∧ (decide (c < (1 : Int)) = false → (decide (c < (1 : Int)) == false) = true)) (V.b (decide (c < (1 : Int)) || decide ((32767 : Int) < c)))] (by kernel_rfl) (by kernel_rfl) ⟨⟨⟨True.intro, True.intro⟩, (fun _ => True.intro)⟩, ⟨⟨(by (exact fun h => h)), ⟨True.intro, True.intro⟩⟩, (fun _ => True.intro)⟩, ⟨True.intro, (by (intro h; rw [h]; rfl))⟩, True.intro⟩ ?_
  refine aops_nil ?_
  refine xt_n ?_
  refine hK _ ?_
  clear hK K
  refine w_cond (t := decide (c < (1 : Int)) || decide ((32767 : Int) < c)) (by kernel_rfl) (fun c2 => ?_) (fun c2 => ?_)
  · simp at c2
    refine aw_seq_k fun K hK => ?_
    refine w_region (n' := 6) (by kernel_rfl) (by kernel_rfl) ?_
    refine aops_n hTT (M := []) (n := 2) [pv (4 : Nat) V.nil, pv (5 : Nat) (V.i (3 : Int))] (by kernel_rfl) (by kernel_rfl) True.intro ?_
    refine aops_nil ?_
    refine xt_n ?_
    refine hK _ ?_
    clear hK K
    refine aw_ret ?_
    refine xt_r ?_
    rw [needE_2 c1 c2]
    refine ret_of_le (le_nil 4 (sz := 1) 0 (fun k => [.i (gi [] k)]) (by kernel_rfl) ?_) ?_
    · rfl
    refine ret_pure (v' := V.tup [V.sl (1 : Nat) (0 : Nat) fun (k : Nat) => [V.i (gi [] k)], V.i (3 : Int)]) (.inr rfl) (by kernel_rfl) (by kernel_rfl) (by kernel_rfl)
  · simp at c2
    exact absurd (needE_ok.2 ⟨c1, by omega⟩) h
set_option maxRecDepth 100000 in
theorem refNeeds_ok (p : List Pt) (c : Int) (hp : progE p = 0) (hc : 1 ≤ c ∧ c ≤ 32767) : AC Try.prog 48 [V.pts p, .i c] (.tup [.own 0, .i 0]) [RowI p.length fun k => needI (gp p k) c] := by
  obtain ⟨g1, g2⟩ := progE_ok.1 hp
  refine ac_intro hTT hMX (fn := Try.f48) (N := _) ⟨Try.func48, rfl, Try.ntmps48, by kernel_rfl⟩ (by simp) fun C hC hF => ?_
  refine aw_seq_k fun K hK => ?_
  refine w_region (n' := 2) (by kernel_rfl) (by kernel_rfl) ?_
  refine aops_n hTT (M := []) (n := 2) [pv (4 : Nat) V.nil, pv (5 : Nat) (V.i (0 : Int))] (by kernel_rfl) (by kernel_rfl) True.intro ?_
  refine aops_nil ?_
  refine xt_n ?_
  refine hK _ ?_
  clear hK K
  refine aw_seq_k fun K hK => ?_
  refine w_region (n' := 3) (by kernel_rfl) (by kernel_rfl) ?_
  refine aops_n hTT (M := []) (n := 1) [pv (9 : Nat) (V.sl (2 : Nat) (List.length p) fun (k : Nat) => [V.i (Prod.fst (gp p k)), V.i (Prod.snd (gp p k))])] (by kernel_rfl) (by kernel_rfl) True.intro ?_
  refine e_call (first := []) (caps := []) (refProgramme_ac p (by unfold bigL; omega)) (by kernel_rfl) (by kernel_rfl) (by kernel_rfl) (by kernel_rfl) (by kernel_rfl) ?_
  refine aops_n hTT (M := []) (n := 1) [pv (6 : Nat) (V.i (progE p))] (by kernel_rfl) (by kernel_rfl) True.intro ?_
  refine aops_nil ?_
  refine xt_n ?_
  refine hK _ ?_
  clear hK K
  refine aw_seq_k fun K hK => ?_
  refine aw_seq_k fun K hK => ?_
  refine w_region (n' := 4) (by kernel_rfl) (by kernel_rfl) ?_
  refine aops_n hTT (M := []) (n := 2) [pv (11 : Nat) (V.i (progE p)), pv (12 : Nat) (V.b !decide (progE p = (0 : Int)))] (by kernel_rfl) (by kernel_rfl) True.intro ?_
  refine aops_nil ?_
  refine xt_n ?_
  refine hK _ ?_
  clear hK K
  refine w_cond (t := !decide (progE p = (0 : Int))) (by kernel_rfl) (fun c1 => ?_) (fun c1 => ?_)
  · simp [hp] at c1
  refine aw_skip ?_
  refine xt_n ?_
  refine hK _ ?_
  clear hK K
  refine aw_seq_k fun K hK => ?_
  refine aw_seq_k fun K hK => ?_
  refine w_region (n' := 5) (by kernel_rfl) (by kernel_rfl) ?_
  refine aops_n hTT (M := []) (n := 6) [pv (14 : Nat) (V.i c), pv (15 : Nat) (V.b (decide (c < (1 : Int)))), pv (16 : Nat) (V.b (decide (c < (1 : Int)))), pc (17 : Nat) ((True ∧ True) ∧ ((decide (c < (1 : Int)) == false) = true → True)) (V.gd (decide (c < (1 : Int)) == false) (V.i c)), pc (18 : Nat) ((((decide (c < (1 : Int)) == false) = true → (decide (c < (1 : Int)) == false) = true) ∧ True ∧ True) ∧ ((decide (c < (1 : Int)) == false) = true → True)) (V.gd (decide (c < (1 : Int)) == false) (V.b (decide ((32767 : Int) < c)))), pc (19 : Nat) (True ∧ (decide (c < (1 : Int)) = false → (decide (c < (1 : Int)) == false) = true)) (V.b (decide (c < (1 : Int)) || decide ((32767 : Int) < c)))] (by kernel_rfl) (by kernel_rfl) ⟨⟨⟨True.intro, True.intro⟩, (fun _ => True.intro)⟩, ⟨⟨(by (exact fun h => h)), ⟨True.intro, True.intro⟩⟩, (fun _ => True.intro)⟩, ⟨True.intro, (by (intro h; rw [h]; rfl))⟩, True.intro⟩ ?_
  refine aops_nil ?_
  refine xt_n ?_
  refine hK _ ?_
  clear hK K
  refine w_cond (t := decide (c < (1 : Int)) || decide ((32767 : Int) < c)) (by kernel_rfl) (fun c2 => ?_) (fun c2 => ?_)
  · simp at c2
    omega
  refine aw_skip ?_
  refine xt_n ?_
  refine hK _ ?_
  clear hK K
  refine aw_seq_k fun K hK => ?_
  refine w_region (n' := 6) (by kernel_rfl) (by kernel_rfl) ?_
  refine aops_n hTT (M := []) (n := 1) [pv (7 : Nat) V.nil] (by kernel_rfl) (by kernel_rfl) True.intro ?_
  refine aops_nil ?_
  refine xt_n ?_
  refine hK _ ?_
  clear hK K
  refine aw_seq_k fun K hK => ?_
  refine aw_seq_k fun K hK => ?_
  refine w_region (n' := 7) (by kernel_rfl) (by kernel_rfl) ?_
  refine aops_n hTT (M := []) (n := 1) [pv (8 : Nat) (V.i (0 : Int))] (by kernel_rfl) (by kernel_rfl) True.intro ?_
  refine aops_nil ?_
  refine xt_n ?_
  refine hK _ ?_
  clear hK K
  refine aw_block ?_
  refine w_le (le_open 7 2 1 (fun k => [.i (needI (gp p k) c)]) (by kernel_rfl) rfl) ?_
  skip
  refine w_loop (ι := Nat) (fun k => [(0, V.pts p), (1, .i c), (7, .own 7), (8, .i k)]) (fun k => [(7, RowI k fun k => needI (gp p k) c)]) (fun k => k ≤ p.length) (fun k => p.length - k) 0 (Nat.zero_le _) ?_ ?_
  · refine le_ren (sl := [(7, Ob.row (2 : Nat) (1 : Nat) (0 : Nat) fun (j : Nat) => [V.i (needI (gp p j) c)])]) [(7, 700007)] (.cons (by kernel_rfl) (.cons (by kernel_rfl) (.cons (by kernel_rfl) (.cons (by kernel_rfl) .nil)))) (.cons ⟨Ob.row (2 : Nat) (1 : Nat) (0 : Nat) fun (k : Nat) => [V.i (needI (gp p k) c)], (by kernel_rfl), .row (by kernel_rfl) (fun _ _ => rfl)⟩ .nil) (by kernel_rfl) (by kernel_rfl)
  intro k hk
  refine aw_seq_k fun K hK => ?_
  refine aw_seq_k fun K hK => ?_
  refine w_region (n' := 2) (by kernel_rfl) (by kernel_rfl) ?_
  refine aops_n hTT (M := []) (n := 4) [pv (20 : Nat) (V.i (↑k : Int)), pv (21 : Nat) (V.sl (2 : Nat) (List.length p) fun (k : Nat) => [V.i (Prod.fst (gp p k)), V.i (Prod.snd (gp p k))]), pv (22 : Nat) (V.i (↑(List.length p) : Int)), pv (23 : Nat) (V.b (decide ((↑k : Int) < (↑(List.length p) : Int))))] (by kernel_rfl) (by kernel_rfl) True.intro ?_
  refine aops_nil ?_
  refine xt_n ?_
  refine hK _ ?_
  clear hK K
  refine w_cond (t := decide ((↑k : Int) < (↑(List.length p) : Int))) (by kernel_rfl) (fun c3 => ?_) (fun c3 => ?_)
  · simp at c3
    refine aw_skip ?_
    refine xt_n ?_
    refine hK _ ?_
    clear hK K
    refine aw_seq_k fun K hK => ?_
    refine aw_block ?_
    refine w_region (n' := 3) (by kernel_rfl) (by kernel_rfl) ?_
    refine aops_n hTT (M := []) (n := 6) [pv (26 : Nat) (V.own (7 : Nat)), pv (27 : Nat) (V.sl (2 : Nat) (List.length p) fun (k : Nat) => [V.i (Prod.fst (gp p k)), V.i (Prod.snd (gp p k))]), pv (28 : Nat) (V.i (↑k : Int)), pc (29 : Nat) ((0 : Int) ≤ (↑k : Int) ∧ (↑k : Int) < (↑(List.length p) : Int)) (V.ptr [V.i (Prod.fst (gp p k)), V.i (Prod.snd (gp p k))]), pv (30 : Nat) (V.agg [V.i (Prod.fst (gp p k)), V.i (Prod.snd (gp p k))]), pv (31 : Nat) (V.i c)] (by kernel_rfl) (by kernel_rfl) ⟨(by omega), True.intro⟩ ?_
    refine e_call (first := []) (caps := []) (refNeed_ac (gp p k) c (g2 k c3) hc) (by kernel_rfl) (by kernel_rfl) (by kernel_rfl) (by kernel_rfl) (by kernel_rfl) ?_
    refine aops_n hTT (M := []) (n := 3) [pv (33 : Nat) (V.sl (1 : Nat) (1 : Nat) fun (i : Nat) => List.take (1 : Nat) (List.drop (i * (1 : Nat)) [V.i (needI (gp p k) c)])), PR.mk (some (34 : Nat)) (some (k + (1 : Nat) ≤ (1099511627776 : Nat))) (V.own (200034 : Nat)) [((7 : Nat), none), ((200034 : Nat), some (Ob.row (2 : Nat) (1 : Nat) (k + (1 : Nat)) (appRow k (fun (j : Nat) => [V.i (needI (gp p j) c)]) fun (i : Nat) => List.take (1 : Nat) (List.drop (i * (1 : Nat)) [V.i (needI (gp p k) c)]))))] false, pv (7 : Nat) (V.own (200034 : Nat))] (by kernel_rfl) (by kernel_rfl) ⟨(by omega), True.intro⟩ ?_
    refine aops_nil ?_
    refine xb_n ?_
    refine xt_n ?_
    refine hK _ ?_
    clear hK K
    refine w_region (n' := 4) (by kernel_rfl) (by kernel_rfl) ?_
    refine aops_n hTT (M := []) (n := 3) [pv (24 : Nat) (V.i (↑k : Int)), pc (25 : Nat) ((-9223372036854775808 : Int) ≤ (↑k : Int) + (1 : Int) ∧ (↑k : Int) + (1 : Int) ≤ (9223372036854775807 : Int)) (V.i ((↑k : Int) + (1 : Int))), pv (8 : Nat) (V.i ((↑k : Int) + (1 : Int)))] (by kernel_rfl) (by kernel_rfl) ⟨(by omega), True.intro⟩ ?_
    refine aops_nil ?_
    refine xt_n ?_
    refine ⟨k + 1, by omega, ?_, by omega⟩
    refine le_ren (tl := [(0, V.sl (2 : Nat) (List.length p) fun (k : Nat) => [V.i (Prod.fst (gp p k)), V.i (Prod.snd (gp p k))]), (1, V.i c), (7, V.own (7 : Nat)), (8, V.i (↑(k + (1 : Nat)) : Int))]) (sl := [(7, Ob.row (2 : Nat) (1 : Nat) (k + (1 : Nat)) fun (j : Nat) => [V.i (needI (gp p j) c)])]) [(7, 200034)] (.cons (by kernel_rfl) (.cons (by kernel_rfl) (.cons (by kernel_rfl) (.cons (by kernel_rfl) .nil)))) (.cons ⟨Ob.row (2 : Nat) (1 : Nat) (k + (1 : Nat)) (appRow k (fun (j : Nat) => [V.i (needI (gp p j) c)]) fun (i : Nat) => List.take (1 : Nat) (List.drop (i * (1 : Nat)) [V.i (needI (gp p k) c)])), (by kernel_rfl), .row (by kernel_rfl) ?_⟩ .nil) (by kernel_rfl) (by kernel_rfl)
    intro i hi
    by_cases h : i < k
    · rw [appRow, if_pos h]
      rfl
    · obtain rfl : i = k := by omega
      rw [appRow, if_neg h, Nat.sub_self]
      rfl
  · simp at c3
    obtain rfl : k = p.length := by omega
    refine aw_exit ?_
    refine xt_x ?_
    refine xt_x ?_
    refine xb_same ?_
    refine xt_n ?_
    clear hK K
    refine hK _ ?_
    clear hK K
    refine aw_seq_k fun K hK => ?_
    refine w_region (n' := 3) (by kernel_rfl) (by kernel_rfl) ?_
    refine aops_n hTT (M := []) (n := 3) [pv (35 : Nat) (V.own (7 : Nat)), pv (4 : Nat) (V.own (7 : Nat)), pv (5 : Nat) (V.i (0 : Int))] (by kernel_rfl) (by kernel_rfl) True.intro ?_
    refine aops_nil ?_
    refine xt_n ?_
    refine hK _ ?_
    clear hK K
    refine aw_ret ?_
    refine ret_own [(0, 7)] [(4, V.own (0 : Nat)), (5, V.i (0 : Int))] (.inr rfl) (.cons (by kernel_rfl) (.cons (by kernel_rfl) .nil)) (.cons ⟨Ob.row (2 : Nat) (1 : Nat) (List.length p) fun (j : Nat) => [V.i (needI (gp p j) c)], (by kernel_rfl), .row (by kernel_rfl) (fun _ _ => rfl)⟩ .nil) (by kernel_rfl) (by kernel_rfl) (by kernel_rfl) (by kernel_rfl)
set_option maxRecDepth 100000 in
theorem refNeeds_no (p : List Pt) (c : Int) (hl : p.length ≤ bigL) (h : ¬ needE p c = 0) : AC Try.prog 48 [V.pts p, .i c] (.tup [V.ints [], .i (needE p c)]) [] := by
  refine ac_intro hTT hMX (fn := Try.f48) (N := _) ⟨Try.func48, rfl, Try.ntmps48, by kernel_rfl⟩ (by simp) fun C hC hF => ?_
  refine aw_seq_k fun K hK => ?_
  refine w_region (n' := 2) (by kernel_rfl) (by kernel_rfl) ?_
  refine aops_n hTT (M := []) (n := 2) [pv (4 : Nat) V.nil, pv (5 : Nat) (V.i (0 : Int))] (by kernel_rfl) (by kernel_rfl) True.intro ?_
  refine aops_nil ?_
  refine xt_n ?_
  refine hK _ ?_
  clear hK K
  refine aw_seq_k fun K hK => ?_
  refine w_region (n' := 3) (by kernel_rfl) (by kernel_rfl) ?_
  refine aops_n hTT (M := []) (n := 1) [pv (9 : Nat) (V.sl (2 : Nat) (List.length p) fun (k : Nat) => [V.i (Prod.fst (gp p k)), V.i (Prod.snd (gp p k))])] (by kernel_rfl) (by kernel_rfl) True.intro ?_
  refine e_call (first := []) (caps := []) (refProgramme_ac p hl) (by kernel_rfl) (by kernel_rfl) (by kernel_rfl) (by kernel_rfl) (by kernel_rfl) ?_
  refine aops_n hTT (M := []) (n := 1) [pv (6 : Nat) (V.i (progE p))] (by kernel_rfl) (by kernel_rfl) True.intro ?_
  refine aops_nil ?_
  refine xt_n ?_
  refine hK _ ?_
  clear hK K
  refine aw_seq_k fun K hK => ?_
  refine aw_seq_k fun K hK => ?_
  refine w_region (n' := 4) (by kernel_rfl) (by kernel_rfl) ?_
  refine aops_n hTT (M := []) (n := 2) [pv (11 : Nat) (V.i (progE p)), pv (12 : Nat) (V.b !decide (progE p = (0 : Int)))] (by kernel_rfl) (by kernel_rfl) True.intro ?_
  refine aops_nil ?_
  refine xt_n ?_
  refine hK _ ?_
  clear hK K
  refine w_cond (t := !decide (progE p = (0 : Int))) (by kernel_rfl) (fun c1 => ?_) (fun c1 => ?_)
  · simp at c1
    refine aw_seq_k fun K hK => ?_
    refine w_region (n' := 5) (by kernel_rfl) (by kernel_rfl) ?_
    refine aops_n hTT (M := []) (n := 3) [pv (13 : Nat) (V.i (progE p)), pv (4 : Nat) V.nil, pv (5 : Nat) (V.i (progE p))] (by kernel_rfl) (by kernel_rfl) True.intro ?_
    refine aops_nil ?_
    refine xt_n ?_
    refine hK _ ?_
    clear hK K
    refine aw_ret ?_
    refine xt_r ?_
    rw [needE_1 c1]
    refine ret_of_le (le_nil 4 (sz := 1) 0 (fun k => [.i (gi [] k)]) (by kernel_rfl) ?_) ?_
    · rfl
    refine ret_pure (v' := V.tup [V.sl (1 : Nat) (0 : Nat) fun (k : Nat) => [V.i (gi [] k)], V.i (progE p)]) (.inr rfl) (by kernel_rfl) (by kernel_rfl) (by kernel_rfl)
  simp at c1
  refine aw_skip ?_
  refine xt_n ?_
  refine hK _ ?_
  clear hK K
  refine aw_seq_k fun K hK => ?_
  refine aw_seq_k fun K hK => ?_
  refine w_region (n' := 5) (by kernel_rfl) (by kernel_rfl) ?_
  refine aops_n hTT (M := []) (n := 6) [pv (14 : Nat) (V.i c), pv (15 : Nat) (V.b (decide (c < (1 : Int)))), pv (16 : Nat) (V.b (decide (c < (1 : Int)))), pc (17 : Nat) ((True ∧ True) ∧ ((decide (c < (1 : Int)) == false) = true → True)) (V.gd (decide (c < (1 : Int)) == false) (V.i c)), pc (18 : Nat) ((((decide (c < (1 : Int)) == false) = true → (decide (c < (1 : Int)) == false) = true) ∧ True ∧ True) ∧ ((decide (c < (1 : Int)) == false) = true → True)) (V.gd (decide (c < (1 : Int)) == false) (V.b (decide ((32767 : Int) < c)))), pc (19 : Nat) (True ∧ (decide (c < (1 : Int)) = false → (decide (c < (1 : Int)) == false) = true)) (V.b (decide (c < (1 : Int)) || decide ((32767 : Int) < c)))] (by kernel_rfl) (by kernel_rfl) ⟨⟨⟨True.intro, True.intro⟩, (fun _ => True.intro)⟩, ⟨⟨(by (exact fun h => h)), ⟨True.intro, True.intro⟩⟩, (fun _ => True.intro)⟩, ⟨True.intro, (by (intro h; rw [h]; rfl))⟩, True.intro⟩ ?_
  refine aops_nil ?_
  refine xt_n ?_
  refine hK _ ?_
  clear hK K
  refine w_cond (t := decide (c < (1 : Int)) || decide ((32767 : Int) < c)) (by kernel_rfl) (fun c2 => ?_) (fun c2 => ?_)
  · simp at c2
    refine aw_seq_k fun K hK => ?_
    refine w_region (n' := 6) (by kernel_rfl) (by kernel_rfl) ?_
    refine aops_n hTT (M := []) (n := 2) [pv (4 : Nat) V.nil, pv (5 : Nat) (V.i (3 : Int))] (by kernel_rfl) (by kernel_rfl) True.intro ?_
    refine aops_nil ?_
    refine xt_n ?_
    refine hK _ ?_
    clear hK K
    refine aw_ret ?_
    refine xt_r ?_
    rw [needE_2 c1 c2]
    refine ret_of_le (le_nil 4 (sz := 1) 0 (fun k => [.i (gi [] k)]) (by kernel_rfl) ?_) ?_
    · rfl
    refine ret_pure (v' := V.tup [V.sl (1 : Nat) (0 : Nat) fun (k : Nat) => [V.i (gi [] k)], V.i (3 : Int)]) (.inr rfl) (by kernel_rfl) (by kernel_rfl) (by kernel_rfl)
  · simp at c2
    exact absurd (needE_ok.2 ⟨c1, by omega⟩) h
/-- gains, or the error -/
def gainE (p : List Pt) (c s : Int) : Int := if needE p c ≠ 0 then needE p c else if s < 0 ∨ 256 < s then 3 else 0
def gainR (p : List Pt) (c s : Int) : List Int := if gainE p c s = 0 then gainL (needL p c) s else []
theorem gain_1 {p : List Pt} {c s : Int} (h : ¬ needE p c = 0) : gainE p c s = needE p c ∧ gainR p c s = [] := by
  have e : gainE p c s = needE p c := by rw [gainE, if_pos h]
  exact ⟨e, by rw [gainR, e, if_neg h]⟩
theorem gain_2 {p : List Pt} {c s : Int} (h : needE p c = 0) (h2 : s < 0 ∨ 256 < s) : gainE p c s = 3 ∧ gainR p c s = [] := by
  have e : gainE p c s = 3 := by rw [gainE, if_neg (by simp [h]), if_pos h2]
  exact ⟨e, by rw [gainR, e, if_neg (by decide)]⟩
theorem gain_3 {p : List Pt} {c s : Int} (h : needE p c = 0) (h2 : 0 ≤ s ∧ s ≤ 256) : gainE p c s = 0 ∧ gainR p c s = gainL (needL p c) s := by
  have e : gainE p c s = 0 := by rw [gainE, if_neg (by simp [h]), if_neg (by omega)]
  exact ⟨e, by rw [gainR, e, if_pos rfl]⟩
theorem needL_bd {p : List Pt} {c : Int} (h : needE p c = 0) (k : Nat) : 0 ≤ gi (needL p c) k ∧ gi (needL p c) k ≤ 256 := by
  obtain ⟨h1, h2⟩ := needE_ok.1 h
  by_cases hk : k < p.length
  · rw [needL_gi hk]
    exact needI_bd h2.1 (amtS_bd ((progE_ok.1 h1).2 k hk)).1
  · rw [gi_out (by rw [needL_len]; omega)]; omega
theorem way_lt {n k : Nat} (h : k < 2 * n - 2) : wayAt n k < n ∧ wayB n k < n := by
  unfold wayAt wayB
  split <;> omega
theorem wayF_bd {n : List Int} {s : Int} (hs : 0 ≤ s) (hn : ∀ k, 0 ≤ gi n k ∧ gi n k ≤ 256) : ∀ k j, 0 ≤ wayF n s k j ∧ wayF n s k j ≤ 256
  | 0, j => hn j
  | k + 1, j => by
    have h1 := wayF_bd hs hn k j
    have h2 := wayF_bd hs hn k (wayB n.length k)
    simp only [wayF]
    split
    · omega
    · exact h1
set_option maxRecDepth 100000 in
theorem Gains_ac (p : List Pt) (c s : Int) (hl : p.length ≤ bigL) : AC Try.prog 38 [V.pts p, .i c, .i s] (.tup [V.ints (gainR p c s), .i (gainE p c s)]) [] := by
  by_cases h : needE p c = 0
  · obtain ⟨h1, h2⟩ := needE_ok.1 h
    have h3 := (progE_ok.1 h1).1
    refine ac_intro hTT hMX (fn := Try.f38) (N := _) ⟨Try.func38, rfl, Try.ntmps38, by kernel_rfl⟩ (by simp) fun C hC hF => ?_
    refine aw_seq_k fun K hK => ?_
    refine w_region (n' := 2) (by kernel_rfl) (by kernel_rfl) ?_
    refine aops_n hTT (M := []) (n := 3) [pv (5 : Nat) (V.ptr [V.i s]), pv (6 : Nat) V.nil, pv (7 : Nat) (V.i (0 : Int))] (by kernel_rfl) (by kernel_rfl) True.intro ?_
    refine aops_nil ?_
    refine xt_n ?_
    refine hK _ ?_
    clear hK K
    refine aw_seq_k fun K hK => ?_
    refine w_region (n' := 3) (by kernel_rfl) (by kernel_rfl) ?_
    refine aops_n hTT (M := []) (n := 2) [pv (13 : Nat) (V.sl (2 : Nat) (List.length p) fun (k : Nat) => [V.i (Prod.fst (gp p k)), V.i (Prod.snd (gp p k))]), pv (14 : Nat) (V.i c)] (by kernel_rfl) (by kernel_rfl) True.intro ?_
    refine e_callO (first := []) (caps := []) (k := 200015) (v' := V.tup [V.own (200015 : Nat), V.i (0 : Int)]) (ob' := Ob.row (2 : Nat) (1 : Nat) (List.length p) fun (i : Nat) => V.renL (callG (2 : Nat) (some 15)) [V.i (needI (gp p i) c)]) (Needs_ok p c h1 h2) (by kernel_rfl) (by kernel_rfl) (by kernel_rfl) (by kernel_rfl) (by kernel_rfl) (by kernel_rfl) (by kernel_rfl) ?_
    refine aops_n hTT (M := []) (n := 6) [pv (12 : Nat) (V.tup [V.own (200015 : Nat), V.i (0 : Int)]), pv (16 : Nat) (V.own (200015 : Nat)), pv (17 : Nat) (V.i (0 : Int)), pn (8 : Nat) (V.ref (200008 : Nat) (0 : Nat)) (200008 : Nat) (Ob.box (22 : Nat) [V.nil]), pw ((0 : Nat) + (1 : Nat) ≤ (1 : Nat)) (200008 : Nat) (Ob.box (22 : Nat) [V.own (200015 : Nat)]), pv (9 : Nat) (V.i (0 : Int))] (by kernel_rfl) (by kernel_rfl) ⟨(by omega), True.intro⟩ ?_
    refine aops_nil ?_
    refine xt_n ?_
    refine hK _ ?_
    clear hK K
    refine aw_seq_k fun K hK => ?_
    refine aw_seq_k fun K hK => ?_
    refine w_region (n' := 4) (by kernel_rfl) (by kernel_rfl) ?_
    refine aops_n hTT (M := []) (n := 2) [pv (18 : Nat) (V.i (0 : Int)), pv (19 : Nat) (V.b false)] (by kernel_rfl) (by kernel_rfl) True.intro ?_
    refine aops_nil ?_
    refine xt_n ?_
    refine hK _ ?_
    clear hK K
    refine w_false (t := false) (by kernel_rfl) rfl ?_
    refine aw_skip ?_
    refine xt_n ?_
    refine hK _ ?_
    clear hK K
    refine aw_seq_k fun K hK => ?_
    refine aw_seq_k fun K hK => ?_
    refine w_region (n' := 5) (by kernel_rfl) (by kernel_rfl) ?_
    refine aops_n hTT (M := []) (n := 6) [pv (21 : Nat) (V.i s), pv (22 : Nat) (V.b (decide (s < (0 : Int)))), pv (23 : Nat) (V.b (decide (s < (0 : Int)))), pc (24 : Nat) ((True ∧ True) ∧ ((decide (s < (0 : Int)) == false) = true → True)) (V.gd (decide (s < (0 : Int)) == false) (V.i s)), pc (25 : Nat) ((((decide (s < (0 : Int)) == false) = true → (decide (s < (0 : Int)) == false) = true) ∧ True ∧ True) ∧ ((decide (s < (0 : Int)) == false) = true → True)) (V.gd (decide (s < (0 : Int)) == false) (V.b (decide ((256 : Int) < s)))), pc (26 : Nat) (True ∧ (decide (s < (0 : Int)) = false → (decide (s < (0 : Int)) == false) = true)) (V.b (decide (s < (0 : Int)) || decide ((256 : Int) < s)))] (by kernel_rfl) (by kernel_rfl) ⟨⟨⟨True.intro, True.intro⟩, (fun _ => True.intro)⟩, ⟨⟨(by (exact fun h => h)), ⟨True.intro, True.intro⟩⟩, (fun _ => True.intro)⟩, ⟨True.intro, (by (intro h; rw [h]; rfl))⟩, True.intro⟩ ?_
    refine aops_nil ?_
    refine xt_n ?_
    refine hK _ ?_
    clear hK K
    refine w_cond (t := decide (s < (0 : Int)) || decide ((256 : Int) < s)) (by kernel_rfl) (fun c1 => ?_) (fun c1 => ?_)
    · simp at c1
      refine aw_seq_k fun K hK => ?_
      refine w_region (n' := 6) (by kernel_rfl) (by kernel_rfl) ?_
      refine aops_n hTT (M := []) (n := 2) [pv (6 : Nat) V.nil, pv (7 : Nat) (V.i (3 : Int))] (by kernel_rfl) (by kernel_rfl) True.intro ?_
      refine aops_nil ?_
      refine xt_n ?_
      refine hK _ ?_
      clear hK K
      refine aw_ret ?_
      refine xt_r ?_
      rw [(gain_2 h c1).1, (gain_2 h c1).2]
      refine ret_of_le (le_nil 6 (sz := 1) 0 (fun k => [.i (gi [] k)]) (by kernel_rfl) ?_) ?_
      · rfl
      refine ret_pure (v' := V.tup [V.sl (1 : Nat) (0 : Nat) fun (k : Nat) => [V.i (gi [] k)], V.i (3 : Int)]) (.inr rfl) (by kernel_rfl) (by kernel_rfl) (by kernel_rfl)
    simp at c1
    refine aw_skip ?_
    refine xt_n ?_
    refine hK _ ?_
    clear hK K
    refine aw_seq_k fun K hK => ?_
    refine aw_seq_k fun K hK => ?_
    refine w_region (n' := 6) (by kernel_rfl) (by kernel_rfl) ?_
    refine aops_n hTT (M := []) (n := 2) [pc (27 : Nat) ((0 : Nat) ≤ (1 : Nat)) (V.own (200015 : Nat)), pv (28 : Nat) (V.i (↑(List.length p) : Int))] (by kernel_rfl) (by kernel_rfl) ⟨(by omega), True.intro⟩ ?_
    refine e_call (first := []) (caps := []) (ways_ac p.length) (by kernel_rfl) (by kernel_rfl) (by kernel_rfl) (by kernel_rfl) (by kernel_rfl) ?_
    refine aops_nil ?_
    refine xt_n ?_
    refine hK _ ?_
    clear hK K
    refine aw_block ?_
    have hnl := needL_len p c
    have hbd := needL_bd h
    have hwl : (wayV p.length).length = 2 * p.length - 2 := by simp [wayV]
    refine w_rangeN (caps := [V.ptr [V.i (↑(List.length p) : Int)]]) hF hC ((ways_aiter p.length (by omega))) (by kernel_rfl) (by kernel_rfl) ?_ (by kernel_rfl) [500, 501] [(500, 200008), (501, 200015)] [(5, .ptr [.i s]), (8, .ref 500 0)] (fun _ => True) (fun k => [.box 22 [.own 501], RowI p.length (wayF (needL p c) s k)]) (fun _ _ _ => False) ?_ (by kernel_rfl) (by kernel_rfl) (by kernel_rfl) (.cons (by kernel_rfl) (.cons (by kernel_rfl) .nil)) (.cons ⟨Ob.box (22 : Nat) [V.own (200015 : Nat)], (by kernel_rfl), .box (by kernel_rfl)⟩ (.cons ⟨Ob.row (2 : Nat) (1 : Nat) (List.length p) fun (i : Nat) => V.renL (callG (2 : Nat) (some (15 : Tmp))) [V.i (needI (gp p i) c)], (by kernel_rfl), .row (by kernel_rfl) ?_⟩ .nil)) (by kernel_rfl) ?_ ?_ ?_ ?_ ?_
    · intro x hx
      simp only [wayV, List.mem_map] at hx
      obtain ⟨j, _, rfl⟩ := hx
      rfl
    · trivial
    · intro i hi
      show _ = [V.i (gi (needL p c) i)]
      rw [needL_gi hi]
      rfl
    · intro j o ho
      simp at ho
      rcases ho with rfl | rfl
      · rfl
      · exact fun _ _ => rfl
    · intro _ _ _ h
      exact h.elim
    · rintro C' ⟨lx, hF'⟩ j x hx _
      obtain ⟨hk, rfl⟩ : j < 2 * p.length - 2 ∧ [V.i (wayAt p.length j : Nat), V.i (wayB p.length j : Nat)] = x := by
        unfold wayV at hx
        rw [List.getElem?_map] at hx
        by_cases hk : j < 2 * p.length - 2
        · rw [List.getElem?_range hk] at hx
          exact ⟨hk, by simpa using hx⟩
        · rw [List.getElem?_eq_none (by simpa using hk)] at hx; cases hx
      obtain ⟨w1, w2⟩ := way_lt hk
      have b1 := wayF_bd c1.1 hbd j (wayAt p.length j)
      have b2 := wayF_bd c1.1 hbd j (wayB p.length j)
      refine aw_seq_k fun K hK => ?_
      refine w_region (n' := 2) (by kernel_rfl) (by kernel_rfl) ?_
      refine aops_n hTT (M := []) (n := 1) [pv (10 : Nat) (V.i (↑(wayAt (List.length p) j) : Int))] (by kernel_rfl) (by kernel_rfl) True.intro ?_
      refine aops_nil ?_
      refine xt_n ?_
      refine hK _ ?_
      clear hK K
      refine w_region (n' := 3) (by kernel_rfl) (by kernel_rfl) ?_
      refine aops_n hTT (M := []) (n := 1) [pv (11 : Nat) (V.i (↑(wayB (List.length p) j) : Int))] (by kernel_rfl) (by kernel_rfl) True.intro ?_
      refine aops_nil ?_
      refine xt_n ?_
      refine aw_block ?_
      refine w_regionD (n' := 4) (by kernel_rfl) (by kernel_rfl) ?_
      refine aops_n hTT (M := []) (n := 15) [pc (32 : Nat) ((0 : Nat) ≤ (1 : Nat)) (V.own (501 : Nat)), pv (33 : Nat) (V.i (↑(wayAt (List.length p) j) : Int)), pc (34 : Nat) ((0 : Nat) ≤ (1 : Nat)) (V.own (501 : Nat)), pv (35 : Nat) (V.i (↑(wayAt (List.length p) j) : Int)), pc (36 : Nat) ((0 : Int) ≤ (↑(wayAt (List.length p) j) : Int) ∧ (↑(wayAt (List.length p) j) : Int) < (↑(List.length p) : Int)) (V.oel (501 : Nat) (1 : Nat) (wayAt (List.length p) j) (0 : Nat)), pc (37 : Nat) (wayAt (List.length p) j < List.length p ∧ (0 : Nat) ≤ (1 : Nat)) (V.i (wayF (needL p c) s j (wayAt (List.length p) j))), pc (38 : Nat) ((0 : Nat) ≤ (1 : Nat)) (V.own (501 : Nat)), pv (39 : Nat) (V.i (↑(wayB (List.length p) j) : Int)), pc (40 : Nat) ((0 : Int) ≤ (↑(wayB (List.length p) j) : Int) ∧ (↑(wayB (List.length p) j) : Int) < (↑(List.length p) : Int)) (V.oel (501 : Nat) (1 : Nat) (wayB (List.length p) j) (0 : Nat)), pc (41 : Nat) (wayB (List.length p) j < List.length p ∧ (0 : Nat) ≤ (1 : Nat)) (V.i (wayF (needL p c) s j (wayB (List.length p) j))), pv (42 : Nat) (V.i s), pc (43 : Nat) ((-9223372036854775808 : Int) ≤ wayF (needL p c) s j (wayB (List.length p) j) + s ∧ wayF (needL p c) s j (wayB (List.length p) j) + s ≤ (9223372036854775807 : Int)) (V.i (wayF (needL p c) s j (wayB (List.length p) j) + s)), pv (44 : Nat) (V.i (min (wayF (needL p c) s j (wayAt (List.length p) j)) (wayF (needL p c) s j (wayB (List.length p) j) + s))), pc (45 : Nat) ((0 : Int) ≤ (↑(wayAt (List.length p) j) : Int) ∧ (↑(wayAt (List.length p) j) : Int) < (↑(List.length p) : Int)) (V.oel (501 : Nat) (1 : Nat) (wayAt (List.length p) j) (0 : Nat)), pw (wayAt (List.length p) j < List.length p ∧ (0 : Nat) + (1 : Nat) ≤ (1 : Nat)) (501 : Nat) (Ob.row (2 : Nat) (1 : Nat) (List.length p) fun (j_1 : Nat) => if j_1 = wayAt (List.length p) j then [V.i (min (wayF (needL p c) s j (wayAt (List.length p) j)) (wayF (needL p c) s j (wayB (List.length p) j) + s))] else [V.i (wayF (needL p c) s j j_1)])] (by kernel_rfl) (by kernel_rfl) ⟨(by omega), (by omega), (by omega), (by omega), (by omega), (by omega), (by omega), (by omega), (by omega), (by omega), True.intro⟩ ?_
      refine aops_nil ⟨by kernel_rfl, ?_⟩
      refine xb_n ?_
      refine ⟨trivial, ?_⟩
      refine le_ren (sl := [(500, Ob.box (22 : Nat) [V.own (501 : Nat)]), (501, Ob.row (2 : Nat) (1 : Nat) (List.length p) fun (j_1 : Nat) => [V.i (wayF (needL p c) s (j + (1 : Nat)) j_1)])]) [] .nil (.cons ⟨Ob.box (22 : Nat) [V.own (501 : Nat)], (by kernel_rfl), .box (by kernel_rfl)⟩ (.cons ⟨Ob.row (2 : Nat) (1 : Nat) (List.length p) fun (j_1 : Nat) => if j_1 = wayAt (List.length p) j then [V.i (min (wayF (needL p c) s j (wayAt (List.length p) j)) (wayF (needL p c) s j (wayB (List.length p) j) + s))] else [V.i (wayF (needL p c) s j j_1)], (by kernel_rfl), .row (by kernel_rfl) ?_⟩ .nil)) (by kernel_rfl) (by kernel_rfl)
      intro i hi
      simp only [wayF, hnl]
      by_cases hi2 : i = wayAt p.length j
      · subst hi2
        simp
        rfl
      · simp [hi2]
        rfl
    · intro _
      rw [hwl]
      refine xb_n ?_
      refine xt_n ?_
      refine hK _ ?_
      clear hK K
      refine aw_seq_k fun K hK => ?_
      refine w_region (n' := 2) (by kernel_rfl) (by kernel_rfl) ?_
      refine aops_n hTT (M := []) (n := 3) [pc (46 : Nat) ((0 : Nat) ≤ (1 : Nat)) (V.own (501 : Nat)), pv (6 : Nat) (V.own (501 : Nat)), pv (7 : Nat) (V.i (0 : Int))] (by kernel_rfl) (by kernel_rfl) ⟨(by omega), True.intro⟩ ?_
      refine aops_nil ?_
      refine xt_n ?_
      refine hK _ ?_
      clear hK K
      refine aw_ret ?_
      refine ret_of_le (le_shut 6 501 (e := (2 : Nat)) (sz := (1 : Nat)) (n := List.length p) (n' := (gainL (needL p c) s).length) (row := fun (j : Nat) => [V.i (wayF (needL p c) s ((2 : Nat) * List.length p - (2 : Nat)) j)]) (row' := (fun k => [.i (gi (gainL (needL p c) s) k)])) (by kernel_rfl) (by kernel_rfl) (fun _ _ => rfl) ?_ ?_) ?_
      · rw [gainL_len, hnl]
      · intro i hi
        rw [gainL_gi (by rw [hnl]; exact hi), ← wayF_gain c1.1 (by rw [hnl]; exact hi), hnl]
      rw [(gain_3 h c1).1, (gain_3 h c1).2]
      refine ret_pure (v' := V.tup [V.sl (1 : Nat) (List.length (gainL (needL p c) s)) fun (k : Nat) => [V.i (gi (gainL (needL p c) s) k)], V.i (0 : Int)]) (.inr rfl) (by kernel_rfl) (by kernel_rfl) (by kernel_rfl)
    · intro _ _ _ _ h
      exact h.elim
  · refine ac_intro hTT hMX (fn := Try.f38) (N := _) ⟨Try.func38, rfl, Try.ntmps38, by kernel_rfl⟩ (by simp) fun C hC hF => ?_
    refine aw_seq_k fun K hK => ?_
    refine w_region (n' := 2) (by kernel_rfl) (by kernel_rfl) ?_
    refine aops_n hTT (M := []) (n := 3) [pv (5 : Nat) (V.ptr [V.i s]), pv (6 : Nat) V.nil, pv (7 : Nat) (V.i (0 : Int))] (by kernel_rfl) (by kernel_rfl) True.intro ?_
    refine aops_nil ?_
    refine xt_n ?_
    refine hK _ ?_
    clear hK K
    refine aw_seq_k fun K hK => ?_
    refine w_region (n' := 3) (by kernel_rfl) (by kernel_rfl) ?_
    refine aops_n hTT (M := []) (n := 2) [pv (13 : Nat) (V.sl (2 : Nat) (List.length p) fun (k : Nat) => [V.i (Prod.fst (gp p k)), V.i (Prod.snd (gp p k))]), pv (14 : Nat) (V.i c)] (by kernel_rfl) (by kernel_rfl) True.intro ?_
    refine e_call (first := []) (caps := []) (Needs_no p c hl h) (by kernel_rfl) (by kernel_rfl) (by kernel_rfl) (by kernel_rfl) (by kernel_rfl) ?_
    refine aops_n hTT (M := []) (n := 6) [pv (12 : Nat) (V.tup [V.sl (1 : Nat) (0 : Nat) fun (k : Nat) => [V.i (gi [] k)], V.i (needE p c)]), pv (16 : Nat) (V.sl (1 : Nat) (0 : Nat) fun (k : Nat) => [V.i (gi [] k)]), pv (17 : Nat) (V.i (needE p c)), pn (8 : Nat) (V.ref (200008 : Nat) (0 : Nat)) (200008 : Nat) (Ob.box (22 : Nat) [V.nil]), pw ((0 : Nat) + (1 : Nat) ≤ (1 : Nat)) (200008 : Nat) (Ob.box (22 : Nat) [V.sl (1 : Nat) (0 : Nat) fun (k : Nat) => [V.i (gi [] k)]]), pv (9 : Nat) (V.i (needE p c))] (by kernel_rfl) (by kernel_rfl) ⟨(by omega), True.intro⟩ ?_
    refine aops_nil ?_
    refine xt_n ?_
    refine hK _ ?_
    clear hK K
    refine aw_seq_k fun K hK => ?_
    refine aw_seq_k fun K hK => ?_
    refine w_region (n' := 4) (by kernel_rfl) (by kernel_rfl) ?_
    refine aops_n hTT (M := []) (n := 2) [pv (18 : Nat) (V.i (needE p c)), pv (19 : Nat) (V.b !decide (needE p c = (0 : Int)))] (by kernel_rfl) (by kernel_rfl) True.intro ?_
    refine aops_nil ?_
    refine xt_n ?_
    refine hK _ ?_
    clear hK K
    refine w_cond (t := !decide (needE p c = (0 : Int))) (by kernel_rfl) (fun c1 => ?_) (fun c1 => ?_)
    · refine aw_seq_k fun K hK => ?_
      refine w_region (n' := 5) (by kernel_rfl) (by kernel_rfl) ?_
      refine aops_n hTT (M := []) (n := 3) [pv (20 : Nat) (V.i (needE p c)), pv (6 : Nat) V.nil, pv (7 : Nat) (V.i (needE p c))] (by kernel_rfl) (by kernel_rfl) True.intro ?_
      refine aops_nil ?_
      refine xt_n ?_
      refine hK _ ?_
      clear hK K
      refine aw_ret ?_
      refine xt_r ?_
      rw [(gain_1 h).1, (gain_1 h).2]
      refine ret_of_le (le_nil 6 (sz := 1) 0 (fun k => [.i (gi [] k)]) (by kernel_rfl) ?_) ?_
      · rfl
      refine ret_pure (v' := V.tup [V.sl (1 : Nat) (0 : Nat) fun (k : Nat) => [V.i (gi [] k)], V.i (needE p c)]) (.inr rfl) (by kernel_rfl) (by kernel_rfl) (by kernel_rfl)
    · simp at c1
      exact absurd c1 h
set_option maxRecDepth 100000 in
theorem refGains_ac (p : List Pt) (c s : Int) (hl : p.length ≤ bigL) : AC Try.prog 49 [V.pts p, .i c, .i s] (.tup [V.ints (gainR p c s), .i (gainE p c s)]) [] := by
  by_cases h : needE p c = 0
  · obtain ⟨h1, h2⟩ := needE_ok.1 h
    have h3 := (progE_ok.1 h1).1
    have hnl := needL_len p c
    have hbd := needL_bd h
    refine ac_intro hTT hMX (fn := Try.f49) (N := _) ⟨Try.func49, rfl, Try.ntmps49, by kernel_rfl⟩ (by simp) fun C hC hF => ?_
    refine aw_seq_k fun K hK => ?_
    refine w_region (n' := 2) (by kernel_rfl) (by kernel_rfl) ?_
    refine aops_n hTT (M := []) (n := 2) [pv (6 : Nat) V.nil, pv (7 : Nat) (V.i (0 : Int))] (by kernel_rfl) (by kernel_rfl) True.intro ?_
    refine aops_nil ?_
    refine xt_n ?_
    refine hK _ ?_
    clear hK K
    refine aw_seq_k fun K hK => ?_
    refine w_region (n' := 3) (by kernel_rfl) (by kernel_rfl) ?_
    refine aops_n hTT (M := []) (n := 2) [pv (15 : Nat) (V.sl (2 : Nat) (List.length p) fun (k : Nat) => [V.i (Prod.fst (gp p k)), V.i (Prod.snd (gp p k))]), pv (16 : Nat) (V.i c)] (by kernel_rfl) (by kernel_rfl) True.intro ?_
    refine e_callO (first := []) (caps := []) (k := 200017) (v' := V.tup [V.own (200017 : Nat), V.i (0 : Int)]) (ob' := Ob.row (2 : Nat) (1 : Nat) (List.length p) fun (i : Nat) => V.renL (callG (2 : Nat) (some 17)) [V.i (needI (gp p i) c)]) (refNeeds_ok p c h1 h2) (by kernel_rfl) (by kernel_rfl) (by kernel_rfl) (by kernel_rfl) (by kernel_rfl) (by kernel_rfl) (by kernel_rfl) ?_
    refine aops_n hTT (M := []) (n := 5) [pv (14 : Nat) (V.tup [V.own (200017 : Nat), V.i (0 : Int)]), pv (18 : Nat) (V.own (200017 : Nat)), pv (19 : Nat) (V.i (0 : Int)), pv (8 : Nat) (V.own (200017 : Nat)), pv (9 : Nat) (V.i (0 : Int))] (by kernel_rfl) (by kernel_rfl) True.intro ?_
    refine aops_nil ?_
    refine xt_n ?_
    refine hK _ ?_
    clear hK K
    refine aw_seq_k fun K hK => ?_
    refine aw_seq_k fun K hK => ?_
    refine w_region (n' := 4) (by kernel_rfl) (by kernel_rfl) ?_
    refine aops_n hTT (M := []) (n := 2) [pv (20 : Nat) (V.i (0 : Int)), pv (21 : Nat) (V.b false)] (by kernel_rfl) (by kernel_rfl) True.intro ?_
    refine aops_nil ?_
    refine xt_n ?_
    refine hK _ ?_
    clear hK K
    refine w_false (t := false) (by kernel_rfl) rfl ?_
    refine aw_skip ?_
    refine xt_n ?_
    refine hK _ ?_
    clear hK K
    refine aw_seq_k fun K hK => ?_
    refine aw_seq_k fun K hK => ?_
    refine w_region (n' := 5) (by kernel_rfl) (by kernel_rfl) ?_
    refine aops_n hTT (M := []) (n := 6) [pv (23 : Nat) (V.i s), pv (24 : Nat) (V.b (decide (s < (0 : Int)))), pv (25 : Nat) (V.b (decide (s < (0 : Int)))), pc (26 : Nat) ((True ∧ True) ∧ ((decide (s < (0 : Int)) == false) = true → True)) (V.gd (decide (s < (0 : Int)) == false) (V.i s)), pc (27 : Nat) ((((decide (s < (0 : Int)) == false) = true → (decide (s < (0 : Int)) == false) = true) ∧ True ∧ True) ∧ ((decide (s < (0 : Int)) == false) = true → True)) (V.gd (decide (s < (0 : Int)) == false) (V.b (decide ((256 : Int) < s)))), pc (28 : Nat) (True ∧ (decide (s < (0 : Int)) = false → (decide (s < (0 : Int)) == false) = true)) (V.b (decide (s < (0 : Int)) || decide ((256 : Int) < s)))] (by kernel_rfl) (by kernel_rfl) ⟨⟨⟨True.intro, True.intro⟩, (fun _ => True.intro)⟩, ⟨⟨(by (exact fun h => h)), ⟨True.intro, True.intro⟩⟩, (fun _ => True.intro)⟩, ⟨True.intro, (by (intro h; rw [h]; rfl))⟩, True.intro⟩ ?_
    refine aops_nil ?_
    refine xt_n ?_
    refine hK _ ?_
    clear hK K
    refine w_cond (t := decide (s < (0 : Int)) || decide ((256 : Int) < s)) (by kernel_rfl) (fun c1 => ?_) (fun c1 => ?_)
    · simp at c1
      refine aw_seq_k fun K hK => ?_
      refine w_region (n' := 6) (by kernel_rfl) (by kernel_rfl) ?_
      refine aops_n hTT (M := []) (n := 2) [pv (6 : Nat) V.nil, pv (7 : Nat) (V.i (3 : Int))] (by kernel_rfl) (by kernel_rfl) True.intro ?_
      refine aops_nil ?_
      refine xt_n ?_
      refine hK _ ?_
      clear hK K
      refine aw_ret ?_
      refine xt_r ?_
      rw [(gain_2 h c1).1, (gain_2 h c1).2]
      refine ret_of_le (le_nil 6 (sz := 1) 0 (fun k => [.i (gi [] k)]) (by kernel_rfl) ?_) ?_
      · rfl
      refine ret_pure (v' := V.tup [V.sl (1 : Nat) (0 : Nat) fun (k : Nat) => [V.i (gi [] k)], V.i (3 : Int)]) (.inr rfl) (by kernel_rfl) (by kernel_rfl) (by kernel_rfl)
    simp at c1
    refine aw_skip ?_
    refine xt_n ?_
    refine hK _ ?_
    clear hK K
    refine aw_seq_k fun K hK => ?_
    refine w_region (n' := 6) (by kernel_rfl) (by kernel_rfl) ?_
    refine aops_n hTT (M := []) (n := 1) [pv (10 : Nat) V.nil] (by kernel_rfl) (by kernel_rfl) True.intro ?_
    refine aops_nil ?_
    refine xt_n ?_
    refine hK _ ?_
    clear hK K
    refine aw_seq_k fun K hK => ?_
    refine aw_seq_k fun K hK => ?_
    refine w_le (le_shut 8 200017 (e := (2 : Nat)) (sz := (1 : Nat)) (n := List.length p) (n' := (needL p c).length) (row := fun (i : Nat) => V.renL (callG (2 : Nat) (some (17 : Tmp))) [V.i (needI (gp p i) c)]) (row' := (fun k => [.i (gi (needL p c) k)])) (by kernel_rfl) (by kernel_rfl) (fun _ _ => rfl) ?_ ?_) ?_
    · exact hnl.symm
    · intro i hi
      rw [needL_gi hi]
      rfl
    refine w_le (le_open 10 2 1 (fun k => [.i (gainAt (needL p c) s k)]) (by kernel_rfl) rfl) ?_
    refine w_region (n' := 8) (by kernel_rfl) (by kernel_rfl) ?_
    refine aops_n hTT (M := []) (n := 1) [pv (11 : Nat) (V.i (0 : Int))] (by kernel_rfl) (by kernel_rfl) True.intro ?_
    refine aops_nil ?_
    refine xt_n ?_
    refine hK _ ?_
    clear hK K
    refine aw_block ?_
    refine w_loop (ι := Nat) (fun k => [(2, .i s), (8, V.ints (needL p c)), (10, .own 10), (11, .i k)]) (fun k => [(10, RowI k (gainAt (needL p c) s))]) (fun k => k ≤ p.length) (fun k => p.length - k) 0 (Nat.zero_le _) ?_ ?_
    · refine le_ren (sl := [(10, Ob.row (2 : Nat) (1 : Nat) (0 : Nat) fun (j : Nat) => [V.i (gainAt (needL p c) s j)])]) [(10, 600010)] (.cons (by kernel_rfl) (.cons (by kernel_rfl) (.cons (by kernel_rfl) (.cons (by kernel_rfl) .nil)))) (.cons ⟨Ob.row (2 : Nat) (1 : Nat) (0 : Nat) fun (k : Nat) => [V.i (gainAt (needL p c) s k)], (by kernel_rfl), .row (by kernel_rfl) (fun _ _ => rfl)⟩ .nil) (by kernel_rfl) (by kernel_rfl)
    intro k hk
    refine aw_seq_k fun K hK => ?_
    refine aw_seq_k fun K hK => ?_
    refine w_region (n' := 2) (by kernel_rfl) (by kernel_rfl) ?_
    refine aops_n hTT (M := []) (n := 4) [pv (29 : Nat) (V.i (↑k : Int)), pv (30 : Nat) (V.sl (1 : Nat) (List.length (needL p c)) fun (k : Nat) => [V.i (gi (needL p c) k)]), pv (31 : Nat) (V.i (↑(List.length (needL p c)) : Int)), pv (32 : Nat) (V.b (decide ((↑k : Int) < (↑(List.length (needL p c)) : Int))))] (by kernel_rfl) (by kernel_rfl) True.intro ?_
    refine aops_nil ?_
    refine xt_n ?_
    refine hK _ ?_
    clear hK K
    refine w_cond (t := decide ((↑k : Int) < (↑(List.length (needL p c)) : Int))) (by kernel_rfl) (fun c2 => ?_) (fun c2 => ?_)
    · simp at c2
      rw [hnl] at c2
      refine aw_skip ?_
      refine xt_n ?_
      refine hK _ ?_
      clear hK K
      refine aw_seq_k fun K hK => ?_
      refine aw_block ?_
      refine aw_seq_k fun K hK => ?_
      refine w_region (n' := 3) (by kernel_rfl) (by kernel_rfl) ?_
      refine aops_n hTT (M := []) (n := 5) [pv (35 : Nat) (V.sl (1 : Nat) (List.length (needL p c)) fun (k : Nat) => [V.i (gi (needL p c) k)]), pv (36 : Nat) (V.i (↑k : Int)), pc (37 : Nat) ((0 : Int) ≤ (↑k : Int) ∧ (↑k : Int) < (↑(List.length (needL p c)) : Int)) (V.ptr [V.i (gi (needL p c) k)]), pv (38 : Nat) (V.i (gi (needL p c) k)), pv (12 : Nat) (V.i (gi (needL p c) k))] (by kernel_rfl) (by kernel_rfl) ⟨(by omega), True.intro⟩ ?_
      refine aops_nil ?_
      refine xt_n ?_
      refine hK _ ?_
      clear hK K
      refine aw_seq_k fun K hK => ?_
      refine aw_seq_k fun K hK => ?_
      refine w_region (n' := 4) (by kernel_rfl) (by kernel_rfl) ?_
      refine aops_n hTT (M := []) (n := 1) [pv (13 : Nat) (V.i (0 : Int))] (by kernel_rfl) (by kernel_rfl) True.intro ?_
      refine aops_nil ?_
      refine xt_n ?_
      refine hK _ ?_
      clear hK K
      refine aw_block ?_
      refine w_loop (ι := Nat) (fun u => [(2, .i s), (8, V.ints (needL p c)), (10, .own 10), (11, .i k), (12, .i (gUp (needL p c) s k u)), (13, .i u)]) (fun u => [(10, RowI k (gainAt (needL p c) s))]) (fun u => u ≤ p.length) (fun u => p.length - u) 0 (Nat.zero_le _) ?_ ?_
      · refine le_ren (sl := [(10, Ob.row (2 : Nat) (1 : Nat) k fun (j : Nat) => [V.i (gainAt (needL p c) s j)])]) [(10, 10)] (.cons (by kernel_rfl) (.cons (by kernel_rfl) (.cons (by kernel_rfl) (.cons (by kernel_rfl) (.cons (by kernel_rfl) (.cons (by kernel_rfl) .nil)))))) (.cons ⟨Ob.row (2 : Nat) (1 : Nat) k fun (j : Nat) => [V.i (gainAt (needL p c) s j)], (by kernel_rfl), .row (by kernel_rfl) (fun _ _ => rfl)⟩ .nil) (by kernel_rfl) (by kernel_rfl)
      intro u hu
      have hg : 0 ≤ gUp (needL p c) s k u ∧ gUp (needL p c) s k u ≤ 256 := by
        refine ⟨?_, Int.le_trans (gUp_le _ _ _ _).1 (hbd k).2⟩
        rcases gUp_eq (n := needL p c) (s := s) (t := k) u with e | ⟨v, _, e⟩
        · rw [e]; exact (hbd k).1
        · rw [e]
          have h5 := (hbd v).1
          have h6 := Int.mul_nonneg c1.1 (absI_nonneg ((k : Int) - (v : Int)))
          omega
      have ha : 0 ≤ absI ((k : Int) - (u : Int)) ∧ absI ((k : Int) - (u : Int)) ≤ 8192 := by unfold absI; omega
      have hm : 0 ≤ s * absI ((k : Int) - (u : Int)) ∧ s * absI ((k : Int) - (u : Int)) ≤ 256 * 8192 := ⟨Int.mul_nonneg c1.1 ha.1, Int.mul_le_mul c1.2 ha.2 ha.1 (by decide)⟩
      have hb2 := hbd u
      refine aw_seq_k fun K hK => ?_
      refine aw_seq_k fun K hK => ?_
      refine w_region (n' := 2) (by kernel_rfl) (by kernel_rfl) ?_
      refine aops_n hTT (M := []) (n := 4) [pv (39 : Nat) (V.i (↑u : Int)), pv (40 : Nat) (V.sl (1 : Nat) (List.length (needL p c)) fun (k : Nat) => [V.i (gi (needL p c) k)]), pv (41 : Nat) (V.i (↑(List.length (needL p c)) : Int)), pv (42 : Nat) (V.b (decide ((↑u : Int) < (↑(List.length (needL p c)) : Int))))] (by kernel_rfl) (by kernel_rfl) True.intro ?_
      refine aops_nil ?_
      refine xt_n ?_
      refine hK _ ?_
      clear hK K
      refine w_cond (t := decide ((↑u : Int) < (↑(List.length (needL p c)) : Int))) (by kernel_rfl) (fun c3 => ?_) (fun c3 => ?_)
      · simp at c3
        rw [hnl] at c3
        refine aw_skip ?_
        refine xt_n ?_
        refine hK _ ?_
        clear hK K
        refine aw_seq_k fun K hK => ?_
        refine aw_block ?_
        refine w_regionD (n' := 3) (by kernel_rfl) (by kernel_rfl) ?_
        refine aops_n hTT (M := []) (n := 9) [pv (45 : Nat) (V.i (gUp (needL p c) s k u)), pv (46 : Nat) (V.sl (1 : Nat) (List.length (needL p c)) fun (k : Nat) => [V.i (gi (needL p c) k)]), pv (47 : Nat) (V.i (↑u : Int)), pc (48 : Nat) ((0 : Int) ≤ (↑u : Int) ∧ (↑u : Int) < (↑(List.length (needL p c)) : Int)) (V.ptr [V.i (gi (needL p c) u)]), pv (49 : Nat) (V.i (gi (needL p c) u)), pv (50 : Nat) (V.i s), pv (51 : Nat) (V.i (↑k : Int)), pv (52 : Nat) (V.i (↑u : Int)), pc (53 : Nat) ((-9223372036854775808 : Int) ≤ (↑k : Int) - (↑u : Int) ∧ (↑k : Int) - (↑u : Int) ≤ (9223372036854775807 : Int)) (V.i ((↑k : Int) - (↑u : Int)))] (by kernel_rfl) (by kernel_rfl) ⟨(by omega), (by omega), True.intro⟩ ?_
        refine e_call (first := []) (caps := []) (refAbs_ac ((k : Int) - (u : Int)) (by omega)) (by kernel_rfl) (by kernel_rfl) (by kernel_rfl) (by kernel_rfl) (by kernel_rfl) ?_
        refine aops_n hTT (M := []) (n := 4) [pc (55 : Nat) ((-9223372036854775808 : Int) ≤ s * absI ((↑k : Int) - (↑u : Int)) ∧ s * absI ((↑k : Int) - (↑u : Int)) ≤ (9223372036854775807 : Int)) (V.i (s * absI ((↑k : Int) - (↑u : Int)))), pc (56 : Nat) ((-9223372036854775808 : Int) ≤ gi (needL p c) u + s * absI ((↑k : Int) - (↑u : Int)) ∧ gi (needL p c) u + s * absI ((↑k : Int) - (↑u : Int)) ≤ (9223372036854775807 : Int)) (V.i (gi (needL p c) u + s * absI ((↑k : Int) - (↑u : Int)))), pv (57 : Nat) (V.i (min (gUp (needL p c) s k u) (gi (needL p c) u + s * absI ((↑k : Int) - (↑u : Int))))), pv (12 : Nat) (V.i (min (gUp (needL p c) s k u) (gi (needL p c) u + s * absI ((↑k : Int) - (↑u : Int)))))] (by kernel_rfl) (by kernel_rfl) ⟨(by omega), (by omega), True.intro⟩ ?_
        refine aops_nil ⟨by kernel_rfl, ?_⟩
        refine xb_n ?_
        refine xt_n ?_
        refine hK _ ?_
        clear hK K
        refine w_region (n' := 4) (by kernel_rfl) (by kernel_rfl) ?_
        refine aops_n hTT (M := []) (n := 3) [pv (43 : Nat) (V.i (↑u : Int)), pc (44 : Nat) ((-9223372036854775808 : Int) ≤ (↑u : Int) + (1 : Int) ∧ (↑u : Int) + (1 : Int) ≤ (9223372036854775807 : Int)) (V.i ((↑u : Int) + (1 : Int))), pv (13 : Nat) (V.i ((↑u : Int) + (1 : Int)))] (by kernel_rfl) (by kernel_rfl) ⟨(by omega), True.intro⟩ ?_
        refine aops_nil ?_
        refine xt_n ?_
        exact ⟨u + 1, by omega, by refine le_ren (sl := [(10, Ob.row (2 : Nat) (1 : Nat) k fun (j : Nat) => [V.i (gainAt (needL p c) s j)])]) [(10, 10)] (.cons (by kernel_rfl) (.cons (by kernel_rfl) (.cons (by kernel_rfl) (.cons (by kernel_rfl) (.cons (by kernel_rfl) (.cons (by kernel_rfl) .nil)))))) (.cons ⟨Ob.row (2 : Nat) (1 : Nat) k fun (j : Nat) => [V.i (gainAt (needL p c) s j)], (by kernel_rfl), .row (by kernel_rfl) (fun _ _ => rfl)⟩ .nil) (by kernel_rfl) (by kernel_rfl), by omega⟩
      · simp at c3
        rw [hnl] at c3
        obtain rfl : u = p.length := by omega
        refine aw_exit ?_
        refine xt_x ?_
        refine xt_x ?_
        refine xb_same ?_
        refine xt_n ?_
        clear hK K
        refine hK _ ?_
        clear hK K
        refine w_region (n' := 3) (by kernel_rfl) (by kernel_rfl) ?_
        refine aops_n hTT (M := []) (n := 5) [pv (58 : Nat) (V.own (10 : Nat)), pv (59 : Nat) (V.i (gUp (needL p c) s k (List.length p))), pv (60 : Nat) (V.sl (1 : Nat) (1 : Nat) fun (i : Nat) => List.take (1 : Nat) (List.drop (i * (1 : Nat)) [V.i (gUp (needL p c) s k (List.length p))])), PR.mk (some (61 : Nat)) (some (k + (1 : Nat) ≤ (1099511627776 : Nat))) (V.own (200061 : Nat)) [((10 : Nat), none), ((200061 : Nat), some (Ob.row (2 : Nat) (1 : Nat) (k + (1 : Nat)) (appRow k (fun (j : Nat) => [V.i (gainAt (needL p c) s j)]) fun (i : Nat) => List.take (1 : Nat) (List.drop (i * (1 : Nat)) [V.i (gUp (needL p c) s k (List.length p))]))))] false, pv (10 : Nat) (V.own (200061 : Nat))] (by kernel_rfl) (by kernel_rfl) ⟨(by omega), True.intro⟩ ?_
        refine aops_nil ?_
        refine xb_n ?_
        refine xt_n ?_
        refine hK _ ?_
        clear hK K
        refine w_region (n' := 4) (by kernel_rfl) (by kernel_rfl) ?_
        refine aops_n hTT (M := []) (n := 3) [pv (33 : Nat) (V.i (↑k : Int)), pc (34 : Nat) ((-9223372036854775808 : Int) ≤ (↑k : Int) + (1 : Int) ∧ (↑k : Int) + (1 : Int) ≤ (9223372036854775807 : Int)) (V.i ((↑k : Int) + (1 : Int))), pv (11 : Nat) (V.i ((↑k : Int) + (1 : Int)))] (by kernel_rfl) (by kernel_rfl) ⟨(by omega), True.intro⟩ ?_
        refine aops_nil ?_
        refine xt_n ?_
        refine ⟨k + 1, by omega, ?_, by omega⟩
        refine le_ren (tl := [(2, V.i s), (8, V.sl (1 : Nat) (List.length (needL p c)) fun (k : Nat) => [V.i (gi (needL p c) k)]), (10, V.own (10 : Nat)), (11, V.i (↑(k + (1 : Nat)) : Int))]) (sl := [(10, Ob.row (2 : Nat) (1 : Nat) (k + (1 : Nat)) fun (j : Nat) => [V.i (gainAt (needL p c) s j)])]) [(10, 200061)] (.cons (by kernel_rfl) (.cons (by kernel_rfl) (.cons (by kernel_rfl) (.cons (by kernel_rfl) .nil)))) (.cons ⟨Ob.row (2 : Nat) (1 : Nat) (k + (1 : Nat)) (appRow k (fun (j : Nat) => [V.i (gainAt (needL p c) s j)]) fun (i : Nat) => List.take (1 : Nat) (List.drop (i * (1 : Nat)) [V.i (gUp (needL p c) s k (List.length p))])), (by kernel_rfl), .row (by kernel_rfl) ?_⟩ .nil) (by kernel_rfl) (by kernel_rfl)
        intro i hi
        by_cases h : i < k
        · rw [appRow, if_pos h]
          rfl
        · obtain rfl : i = k := by omega
          rw [appRow, if_neg h, Nat.sub_self]
          show _ = [V.i (gUp (needL p c) s i (needL p c).length)]
          rw [hnl]
          rfl
    · simp at c2
      rw [hnl] at c2
      obtain rfl : k = p.length := by omega
      refine aw_exit ?_
      refine xt_x ?_
      refine xt_x ?_
      refine xb_same ?_
      refine xt_n ?_
      clear hK K
      refine hK _ ?_
      clear hK K
      refine aw_seq_k fun K hK => ?_
      refine w_region (n' := 3) (by kernel_rfl) (by kernel_rfl) ?_
      refine aops_n hTT (M := []) (n := 3) [pv (62 : Nat) (V.own (10 : Nat)), pv (6 : Nat) (V.own (10 : Nat)), pv (7 : Nat) (V.i (0 : Int))] (by kernel_rfl) (by kernel_rfl) True.intro ?_
      refine aops_nil ?_
      refine xt_n ?_
      refine hK _ ?_
      clear hK K
      refine aw_ret ?_
      refine ret_of_le (le_shut 6 10 (e := (2 : Nat)) (sz := (1 : Nat)) (n := List.length p) (n' := (gainL (needL p c) s).length) (row := fun (j : Nat) => [V.i (gainAt (needL p c) s j)]) (row' := (fun k => [.i (gi (gainL (needL p c) s) k)])) (by kernel_rfl) (by kernel_rfl) (fun _ _ => rfl) ?_ ?_) ?_
      · rw [gainL_len, hnl]
      · intro i hi
        rw [gainL_gi (by rw [hnl]; exact hi)]
      rw [(gain_3 h c1).1, (gain_3 h c1).2]
      refine ret_pure (v' := V.tup [V.sl (1 : Nat) (List.length (gainL (needL p c) s)) fun (k : Nat) => [V.i (gi (gainL (needL p c) s) k)], V.i (0 : Int)]) (.inr rfl) (by kernel_rfl) (by kernel_rfl) (by kernel_rfl)
  · refine ac_intro hTT hMX (fn := Try.f49) (N := _) ⟨Try.func49, rfl, Try.ntmps49, by kernel_rfl⟩ (by simp) fun C hC hF => ?_
    refine aw_seq_k fun K hK => ?_
    refine w_region (n' := 2) (by kernel_rfl) (by kernel_rfl) ?_
    refine aops_n hTT (M := []) (n := 2) [pv (6 : Nat) V.nil, pv (7 : Nat) (V.i (0 : Int))] (by kernel_rfl) (by kernel_rfl) True.intro ?_
    refine aops_nil ?_
    refine xt_n ?_
    refine hK _ ?_
    clear hK K
    refine aw_seq_k fun K hK => ?_
    refine w_region (n' := 3) (by kernel_rfl) (by kernel_rfl) ?_
    refine aops_n hTT (M := []) (n := 2) [pv (15 : Nat) (V.sl (2 : Nat) (List.length p) fun (k : Nat) => [V.i (Prod.fst (gp p k)), V.i (Prod.snd (gp p k))]), pv (16 : Nat) (V.i c)] (by kernel_rfl) (by kernel_rfl) True.intro ?_
    refine e_call (first := []) (caps := []) (refNeeds_no p c hl h) (by kernel_rfl) (by kernel_rfl) (by kernel_rfl) (by kernel_rfl) (by kernel_rfl) ?_
    refine aops_n hTT (M := []) (n := 5) [pv (14 : Nat) (V.tup [V.sl (1 : Nat) (0 : Nat) fun (k : Nat) => [V.i (gi [] k)], V.i (needE p c)]), pv (18 : Nat) (V.sl (1 : Nat) (0 : Nat) fun (k : Nat) => [V.i (gi [] k)]), pv (19 : Nat) (V.i (needE p c)), pv (8 : Nat) (V.sl (1 : Nat) (0 : Nat) fun (k : Nat) => [V.i (gi [] k)]), pv (9 : Nat) (V.i (needE p c))] (by kernel_rfl) (by kernel_rfl) True.intro ?_
    refine aops_nil ?_
    refine xt_n ?_
    refine hK _ ?_
    clear hK K
    refine aw_seq_k fun K hK => ?_
    refine aw_seq_k fun K hK => ?_
    refine w_region (n' := 4) (by kernel_rfl) (by kernel_rfl) ?_
    refine aops_n hTT (M := []) (n := 2) [pv (20 : Nat) (V.i (needE p c)), pv (21 : Nat) (V.b !decide (needE p c = (0 : Int)))] (by kernel_rfl) (by kernel_rfl) True.intro ?_
    refine aops_nil ?_
    refine xt_n ?_
    refine hK _ ?_
    clear hK K
    refine w_cond (t := !decide (needE p c = (0 : Int))) (by kernel_rfl) (fun c1 => ?_) (fun c1 => ?_)
    · refine aw_seq_k fun K hK => ?_
      refine w_region (n' := 5) (by kernel_rfl) (by kernel_rfl) ?_
      refine aops_n hTT (M := []) (n := 3) [pv (22 : Nat) (V.i (needE p c)), pv (6 : Nat) V.nil, pv (7 : Nat) (V.i (needE p c))] (by kernel_rfl) (by kernel_rfl) True.intro ?_
      refine aops_nil ?_
      refine xt_n ?_
      refine hK _ ?_
      clear hK K
      refine aw_ret ?_
      refine xt_r ?_
      rw [(gain_1 h).1, (gain_1 h).2]
      refine ret_of_le (le_nil 6 (sz := 1) 0 (fun k => [.i (gi [] k)]) (by kernel_rfl) ?_) ?_
      · rfl
      refine ret_pure (v' := V.tup [V.sl (1 : Nat) (0 : Nat) fun (k : Nat) => [V.i (gi [] k)], V.i (needE p c)]) (.inr rfl) (by kernel_rfl) (by kernel_rfl) (by kernel_rfl)
    · simp at c1
      exact absurd c1 h
end Go.Proofs.Ytblipieipldanaa
