/-
  FilterGains: the walk of the law. No condition.
-/
import Derived.Test.YtblipieipldanaaFA14
import Derived.Test.YtblipieipldanaaAbs28
import Derived.Test.YtblipieipldanaaMC
namespace Go.Proofs.Ytblipieipldanaa
open Go.Ab Go.RowKit Go.Dw Go.Shelf

theorem Needs_im (p : List Pt) (c : Int) (hl : p.length ≤ bigL) : AC Try.prog 39 [V.pts p, .i c] (.tup [V.ints (needR p c), .i (needE p c)]) [] := by
  by_cases h : needE p c = 0
  · have h1 := Needs_ok p c (needE_ok.1 h).1 (needE_ok.1 h).2
    rw [needR, if_pos h, h]
    exact h1.shut1 (needL_len p c).symm (row' := fun k => [.i (gi (needL p c) k)]) (fun i hi => by rw [needL_gi hi]) (fun _ => rfl) rfl rfl
  · rw [needR, if_neg h]
    exact Needs_no p c hl h
theorem refNeeds_im (p : List Pt) (c : Int) (hl : p.length ≤ bigL) : AC Try.prog 48 [V.pts p, .i c] (.tup [V.ints (needR p c), .i (needE p c)]) [] := by
  by_cases h : needE p c = 0
  · have h1 := refNeeds_ok p c (needE_ok.1 h).1 (needE_ok.1 h).2
    rw [needR, if_pos h, h]
    exact h1.shut1 (needL_len p c).symm (row' := fun k => [.i (gi (needL p c) k)]) (fun i hi => by rw [needL_gi hi]) (fun _ => rfl) rfl rfl
  · rw [needR, if_neg h]
    exact refNeeds_no p c hl h
theorem gainE_many {p : List Pt} {c s : Int} (h : 4096 < p.length) : gainE p c s = 6 := by
  have e : progE p = 6 := by unfold progE; rw [if_pos h]
  have e2 : needE p c = 6 := by rw [needE_1 (by rw [e]; decide), e]
  rw [(gain_1 (by rw [e2]; decide)).1, e2]
set_option maxRecDepth 100000 in
theorem gains_law (p : List Pt) (c s : Int) (g : List Int) (hl : p.length ≤ bigL) (hgl : g.length ≤ bigL) : AC Try.prog 12 [V.pts p, .i c, .i s, V.ints g] (.b true) [] := by
  refine ac_intro hTT hMX (fn := Try.f12) (N := _) ⟨Try.func12, rfl, Try.ntmps12, by kernel_rfl⟩ (by simp) fun C hC hF => ?_
  refine aw_seq_k fun K hK => ?_
  refine w_region (n' := 2) (by kernel_rfl) (by kernel_rfl) ?_
  refine aops_n hTT (M := []) (n := 1) [pv (8 : Nat) (V.b false)] (by kernel_rfl) (by kernel_rfl) True.intro ?_
  refine aops_nil ?_
  refine xt_n ?_
  refine hK _ ?_
  clear hK K
  refine aw_seq_k fun K hK => ?_
  refine aw_seq_k fun K hK => ?_
  refine w_region (n' := 3) (by kernel_rfl) (by kernel_rfl) ?_
  refine aops_n hTT (M := []) (n := 2) [pv (23 : Nat) (V.sl (2 : Nat) (List.length p) fun (k : Nat) => [V.i (Prod.fst (gp p k)), V.i (Prod.snd (gp p k))]), pv (24 : Nat) (V.i (↑(List.length p) : Int))] (by kernel_rfl) (by kernel_rfl) True.intro ?_
  refine e_call (first := []) (caps := []) (fLong_ac p.length 60) (by kernel_rfl) (by kernel_rfl) (by kernel_rfl) (by kernel_rfl) (by kernel_rfl) ?_
  refine aops_n hTT (M := []) (n := 5) [pv (26 : Nat) (V.b (decide ((60 : Int) < (↑(List.length p) : Int)) && decide ((↑(List.length p) : Int) ≤ (4096 : Int)) || decide ((4116 : Int) < (↑(List.length p) : Int)))), pc (27 : Nat) ((True ∧ True) ∧ (((decide ((60 : Int) < (↑(List.length p) : Int)) && decide ((↑(List.length p) : Int) ≤ (4096 : Int)) || decide ((4116 : Int) < (↑(List.length p) : Int))) == false) = true → True)) (V.gd ((decide ((60 : Int) < (↑(List.length p) : Int)) && decide ((↑(List.length p) : Int) ≤ (4096 : Int)) || decide ((4116 : Int) < (↑(List.length p) : Int))) == false) (V.sl (1 : Nat) (List.length g) fun (k : Nat) => [V.i (gi g k)])), pc (28 : Nat) (((((decide ((60 : Int) < (↑(List.length p) : Int)) && decide ((↑(List.length p) : Int) ≤ (4096 : Int)) || decide ((4116 : Int) < (↑(List.length p) : Int))) == false) = true → ((decide ((60 : Int) < (↑(List.length p) : Int)) && decide ((↑(List.length p) : Int) ≤ (4096 : Int)) || decide ((4116 : Int) < (↑(List.length p) : Int))) == false) = true) ∧ True) ∧ (((decide ((60 : Int) < (↑(List.length p) : Int)) && decide ((↑(List.length p) : Int) ≤ (4096 : Int)) || decide ((4116 : Int) < (↑(List.length p) : Int))) == false) = true → True)) (V.gd ((decide ((60 : Int) < (↑(List.length p) : Int)) && decide ((↑(List.length p) : Int) ≤ (4096 : Int)) || decide ((4116 : Int) < (↑(List.length p) : Int))) == false) (V.i (↑(List.length g) : Int))), pc (29 : Nat) (((((decide ((60 : Int) < (↑(List.length p) : Int)) && decide ((↑(List.length p) : Int) ≤ (4096 : Int)) || decide ((4116 : Int) < (↑(List.length p) : Int))) == false) = true → ((decide ((60 : Int) < (↑(List.length p) : Int)) && decide ((↑(List.length p) : Int) ≤ (4096 : Int)) || decide ((4116 : Int) < (↑(List.length p) : Int))) == false) = true) ∧ True ∧ True) ∧ (((decide ((60 : Int) < (↑(List.length p) : Int)) && decide ((↑(List.length p) : Int) ≤ (4096 : Int)) || decide ((4116 : Int) < (↑(List.length p) : Int))) == false) = true → True)) (V.gd ((decide ((60 : Int) < (↑(List.length p) : Int)) && decide ((↑(List.length p) : Int) ≤ (4096 : Int)) || decide ((4116 : Int) < (↑(List.length p) : Int))) == false) (V.b (decide ((80 : Int) < (↑(List.length g) : Int))))), pc (30 : Nat) (True ∧ ((decide ((60 : Int) < (↑(List.length p) : Int)) && decide ((↑(List.length p) : Int) ≤ (4096 : Int)) || decide ((4116 : Int) < (↑(List.length p) : Int))) = false → ((decide ((60 : Int) < (↑(List.length p) : Int)) && decide ((↑(List.length p) : Int) ≤ (4096 : Int)) || decide ((4116 : Int) < (↑(List.length p) : Int))) == false) = true)) (V.b (decide ((60 : Int) < (↑(List.length p) : Int)) && decide ((↑(List.length p) : Int) ≤ (4096 : Int)) || decide ((4116 : Int) < (↑(List.length p) : Int)) || decide ((80 : Int) < (↑(List.length g) : Int))))] (by kernel_rfl) (by kernel_rfl) ⟨⟨⟨True.intro, True.intro⟩, (fun _ => True.intro)⟩, ⟨⟨(by (exact fun h => h)), True.intro⟩, (fun _ => True.intro)⟩, ⟨⟨(by (exact fun h => h)), ⟨True.intro, True.intro⟩⟩, (fun _ => True.intro)⟩, ⟨True.intro, (by (intro h; rw [h]; rfl))⟩, True.intro⟩ ?_
  refine aops_nil ?_
  refine xt_n ?_
  refine hK _ ?_
  clear hK K
  refine w_cond (t := decide ((60 : Int) < (↑(List.length p) : Int)) && decide ((↑(List.length p) : Int) ≤ (4096 : Int)) || decide ((4116 : Int) < (↑(List.length p) : Int)) || decide ((80 : Int) < (↑(List.length g) : Int))) (by kernel_rfl) (fun c1 => ?_) (fun c1 => ?_)
  · refine aw_seq_k fun K hK => ?_
    refine w_region (n' := 4) (by kernel_rfl) (by kernel_rfl) ?_
    refine e_call (first := []) (caps := []) (fWorks_ac) (by kernel_rfl) (by kernel_rfl) (by kernel_rfl) (by kernel_rfl) (by kernel_rfl) ?_
    refine aops_n hTT (M := []) (n := 1) [pv (8 : Nat) (V.b true)] (by kernel_rfl) (by kernel_rfl) True.intro ?_
    refine aops_nil ?_
    refine xt_n ?_
    refine hK _ ?_
    clear hK K
    refine aw_ret ?_
    refine xt_r ?_
    refine ret_pure (v' := V.b true) (.inr rfl) (by kernel_rfl) (by kernel_rfl) (by kernel_rfl)
  simp at c1
  refine aw_skip ?_
  refine xt_n ?_
  refine hK _ ?_
  clear hK K
  refine aw_seq_k fun K hK => ?_
  refine aw_seq_k fun K hK => ?_
  refine w_region (n' := 4) (by kernel_rfl) (by kernel_rfl) ?_
  refine aops_n hTT (M := []) (n := 3) [pv (32 : Nat) (V.sl (2 : Nat) (List.length p) fun (k : Nat) => [V.i (Prod.fst (gp p k)), V.i (Prod.snd (gp p k))]), pv (33 : Nat) (V.i (↑(List.length p) : Int)), pv (34 : Nat) (V.b (decide ((60 : Int) < (↑(List.length p) : Int))))] (by kernel_rfl) (by kernel_rfl) True.intro ?_
  refine aops_nil ?_
  refine xt_n ?_
  refine hK _ ?_
  clear hK K
  refine w_cond (t := decide ((60 : Int) < (↑(List.length p) : Int))) (by kernel_rfl) (fun c2 => ?_) (fun c2 => ?_)
  · simp at c2
    have h4 : 4096 < p.length := by omega
    have G := Gains_ac p c s hl
    have M := Limit_ac p c s hl
    rw [gainE_many h4] at G M
    refine aw_seq_k fun K hK => ?_
    refine w_region (n' := 5) (by kernel_rfl) (by kernel_rfl) ?_
    refine aops_n hTT (M := []) (n := 3) [pv (36 : Nat) (V.sl (2 : Nat) (List.length p) fun (k : Nat) => [V.i (Prod.fst (gp p k)), V.i (Prod.snd (gp p k))]), pv (37 : Nat) (V.i c), pv (38 : Nat) (V.i s)] (by kernel_rfl) (by kernel_rfl) True.intro ?_
    refine e_call (first := []) (caps := []) (G) (by kernel_rfl) (by kernel_rfl) (by kernel_rfl) (by kernel_rfl) (by kernel_rfl) ?_
    refine aops_n hTT (M := []) (n := 5) [pv (35 : Nat) (V.tup [V.sl (1 : Nat) (List.length (gainR p c s)) fun (k : Nat) => [V.i (gi (gainR p c s) k)], V.i (6 : Int)]), pv (40 : Nat) (V.sl (1 : Nat) (List.length (gainR p c s)) fun (k : Nat) => [V.i (gi (gainR p c s) k)]), pv (41 : Nat) (V.i (6 : Int)), pv (9 : Nat) (V.sl (1 : Nat) (List.length (gainR p c s)) fun (k : Nat) => [V.i (gi (gainR p c s) k)]), pv (10 : Nat) (V.i (6 : Int))] (by kernel_rfl) (by kernel_rfl) True.intro ?_
    refine aops_nil ?_
    refine xt_n ?_
    refine hK _ ?_
    clear hK K
    refine aw_seq_k fun K hK => ?_
    refine w_region (n' := 6) (by kernel_rfl) (by kernel_rfl) ?_
    refine aops_n hTT (M := []) (n := 3) [pv (43 : Nat) (V.sl (2 : Nat) (List.length p) fun (k : Nat) => [V.i (Prod.fst (gp p k)), V.i (Prod.snd (gp p k))]), pv (44 : Nat) (V.i c), pv (45 : Nat) (V.i s)] (by kernel_rfl) (by kernel_rfl) True.intro ?_
    refine e_call (first := []) (caps := []) (M) (by kernel_rfl) (by kernel_rfl) (by kernel_rfl) (by kernel_rfl) (by kernel_rfl) ?_
    refine aops_n hTT (M := []) (n := 5) [pv (42 : Nat) (V.tup [V.sl (2 : Nat) (List.length (limR p c s)) fun (k : Nat) => [V.i (Prod.fst (gp (limR p c s) k)), V.i (Prod.snd (gp (limR p c s) k))], V.i (6 : Int)]), pv (47 : Nat) (V.sl (2 : Nat) (List.length (limR p c s)) fun (k : Nat) => [V.i (Prod.fst (gp (limR p c s) k)), V.i (Prod.snd (gp (limR p c s) k))]), pv (48 : Nat) (V.i (6 : Int)), pv (11 : Nat) (V.sl (2 : Nat) (List.length (limR p c s)) fun (k : Nat) => [V.i (Prod.fst (gp (limR p c s) k)), V.i (Prod.snd (gp (limR p c s) k))]), pv (12 : Nat) (V.i (6 : Int))] (by kernel_rfl) (by kernel_rfl) True.intro ?_
    refine aops_nil ?_
    refine xt_n ?_
    refine hK _ ?_
    clear hK K
    refine aw_seq_k fun K hK => ?_
    refine w_region (n' := 7) (by kernel_rfl) (by kernel_rfl) ?_
    refine aops_n hTT (M := []) (n := 7) [pv (49 : Nat) (V.i (6 : Int)), pv (50 : Nat) (V.b true), pv (51 : Nat) (V.b true), pc (52 : Nat) ((True ∧ True) ∧ ((true == true) = true → True)) (V.gd (true == true) (V.i (6 : Int))), pc (53 : Nat) ((((true == true) = true → (true == true) = true) ∧ True ∧ True) ∧ ((true == true) = true → True)) (V.gd (true == true) (V.b true)), pc (54 : Nat) ((true = true → (true == true) = true) ∧ True) (V.b true), pv (55 : Nat) (V.b true)] (by kernel_rfl) (by kernel_rfl) ⟨⟨⟨True.intro, True.intro⟩, (fun _ => True.intro)⟩, ⟨⟨(by (exact fun h => h)), ⟨True.intro, True.intro⟩⟩, (fun _ => True.intro)⟩, ⟨(by (exact fun h => h)), True.intro⟩, True.intro⟩ ?_
    refine e_callG 0 (g := true == true) (first := []) (caps := []) (by kernel_rfl) (fun h => fWorks_ac) (by kernel_rfl) (by kernel_rfl) (by kernel_rfl) (by kernel_rfl) (by kernel_rfl) (by kernel_rfl) ?_
    refine aops_n hTT (M := []) (n := 2) [pc (57 : Nat) ((true = true → (true == true) = true) ∧ True) (V.b true), pv (8 : Nat) (V.b true)] (by kernel_rfl) (by kernel_rfl) ⟨⟨(by (exact fun h => h)), True.intro⟩, True.intro⟩ ?_
    refine aops_nil ?_
    refine xt_n ?_
    refine hK _ ?_
    clear hK K
    refine aw_ret ?_
    refine xt_r ?_
    refine ret_pure (v' := V.b true) (.inr rfl) (by kernel_rfl) (by kernel_rfl) (by kernel_rfl)
  refine aw_skip ?_
  refine xt_n ?_
  refine hK _ ?_
  clear hK K
  refine aw_seq_k fun K hK => ?_
  refine w_region (n' := 5) (by kernel_rfl) (by kernel_rfl) ?_
  refine aops_n hTT (M := []) (n := 2) [pv (59 : Nat) (V.sl (2 : Nat) (List.length p) fun (k : Nat) => [V.i (Prod.fst (gp p k)), V.i (Prod.snd (gp p k))]), pv (60 : Nat) (V.i c)] (by kernel_rfl) (by kernel_rfl) True.intro ?_
  refine e_call (first := []) (caps := []) (Needs_im p c hl) (by kernel_rfl) (by kernel_rfl) (by kernel_rfl) (by kernel_rfl) (by kernel_rfl) ?_
  refine aops_n hTT (M := []) (n := 5) [pv (58 : Nat) (V.tup [V.sl (1 : Nat) (List.length (needR p c)) fun (k : Nat) => [V.i (gi (needR p c) k)], V.i (needE p c)]), pv (62 : Nat) (V.sl (1 : Nat) (List.length (needR p c)) fun (k : Nat) => [V.i (gi (needR p c) k)]), pv (63 : Nat) (V.i (needE p c)), pv (13 : Nat) (V.sl (1 : Nat) (List.length (needR p c)) fun (k : Nat) => [V.i (gi (needR p c) k)]), pv (14 : Nat) (V.i (needE p c))] (by kernel_rfl) (by kernel_rfl) True.intro ?_
  refine aops_nil ?_
  refine xt_n ?_
  refine hK _ ?_
  clear hK K
  refine aw_seq_k fun K hK => ?_
  refine w_region (n' := 6) (by kernel_rfl) (by kernel_rfl) ?_
  refine aops_n hTT (M := []) (n := 2) [pv (65 : Nat) (V.sl (2 : Nat) (List.length p) fun (k : Nat) => [V.i (Prod.fst (gp p k)), V.i (Prod.snd (gp p k))]), pv (66 : Nat) (V.i c)] (by kernel_rfl) (by kernel_rfl) True.intro ?_
  refine e_call (first := []) (caps := []) (refNeeds_im p c hl) (by kernel_rfl) (by kernel_rfl) (by kernel_rfl) (by kernel_rfl) (by kernel_rfl) ?_
  refine aops_n hTT (M := []) (n := 5) [pv (64 : Nat) (V.tup [V.sl (1 : Nat) (List.length (needR p c)) fun (k : Nat) => [V.i (gi (needR p c) k)], V.i (needE p c)]), pv (68 : Nat) (V.sl (1 : Nat) (List.length (needR p c)) fun (k : Nat) => [V.i (gi (needR p c) k)]), pv (69 : Nat) (V.i (needE p c)), pv (15 : Nat) (V.sl (1 : Nat) (List.length (needR p c)) fun (k : Nat) => [V.i (gi (needR p c) k)]), pv (16 : Nat) (V.i (needE p c))] (by kernel_rfl) (by kernel_rfl) True.intro ?_
  refine aops_nil ?_
  refine xt_n ?_
  refine hK _ ?_
  clear hK K
  refine aw_seq_k fun K hK => ?_
  refine aw_seq_k fun K hK => ?_
  refine w_region (n' := 7) (by kernel_rfl) (by kernel_rfl) ?_
  refine aops_n hTT (M := []) (n := 6) [pv (70 : Nat) (V.i (needE p c)), pv (71 : Nat) (V.i (needE p c)), pv (72 : Nat) (V.b !decide (needE p c = needE p c)), pv (73 : Nat) (V.b !decide (needE p c = needE p c)), pc (74 : Nat) ((True ∧ True) ∧ (((!decide (needE p c = needE p c)) == false) = true → True)) (V.gd ((!decide (needE p c = needE p c)) == false) (V.sl (1 : Nat) (List.length (needR p c)) fun (k : Nat) => [V.i (gi (needR p c) k)])), pc (75 : Nat) ((True ∧ True) ∧ (((!decide (needE p c = needE p c)) == false) = true → True)) (V.gd ((!decide (needE p c = needE p c)) == false) (V.sl (1 : Nat) (List.length (needR p c)) fun (k : Nat) => [V.i (gi (needR p c) k)]))] (by kernel_rfl) (by kernel_rfl) ⟨⟨⟨True.intro, True.intro⟩, (fun _ => True.intro)⟩, ⟨⟨True.intro, True.intro⟩, (fun _ => True.intro)⟩, True.intro⟩ ?_
  refine e_callG 2 (g := (!decide (needE p c = needE p c)) == false) (first := []) (caps := []) (by kernel_rfl) (fun h => refSame_ac (needR p c) (needR p c) (needR_big hl) (needR_big hl)) (by kernel_rfl) (by kernel_rfl) (by kernel_rfl) (by kernel_rfl) (by kernel_rfl) (by kernel_rfl) ?_
  refine aops_n hTT (M := []) (n := 2) [pc (77 : Nat) (((((!decide (needE p c = needE p c)) == false) = true → ((!decide (needE p c = needE p c)) == false) = true) ∧ True) ∧ (((!decide (needE p c = needE p c)) == false) = true → True)) (V.gd ((!decide (needE p c = needE p c)) == false) (V.b !decide (needR p c = needR p c))), pc (78 : Nat) (True ∧ ((!decide (needE p c = needE p c)) = false → ((!decide (needE p c = needE p c)) == false) = true)) (V.b (!decide (needE p c = needE p c) || !decide (needR p c = needR p c)))] (by kernel_rfl) (by kernel_rfl) ⟨⟨⟨(by (exact fun h => h)), True.intro⟩, (fun _ => True.intro)⟩, ⟨True.intro, (by (intro h; rw [h]; rfl))⟩, True.intro⟩ ?_
  refine aops_nil ?_
  refine xt_n ?_
  refine hK _ ?_
  clear hK K
  refine w_cond (t := !decide (needE p c = needE p c) || !decide (needR p c = needR p c)) (by kernel_rfl) (fun c3 => ?_) (fun c3 => ?_)
  · simp at c3
  refine aw_skip ?_
  refine xt_n ?_
  refine hK _ ?_
  clear hK K
  refine aw_seq_k fun K hK => ?_
  refine w_region (n' := 8) (by kernel_rfl) (by kernel_rfl) ?_
  refine aops_n hTT (M := []) (n := 3) [pv (80 : Nat) (V.sl (2 : Nat) (List.length p) fun (k : Nat) => [V.i (Prod.fst (gp p k)), V.i (Prod.snd (gp p k))]), pv (81 : Nat) (V.i c), pv (82 : Nat) (V.i s)] (by kernel_rfl) (by kernel_rfl) True.intro ?_
  refine e_call (first := []) (caps := []) (Gains_ac p c s hl) (by kernel_rfl) (by kernel_rfl) (by kernel_rfl) (by kernel_rfl) (by kernel_rfl) ?_
  refine aops_n hTT (M := []) (n := 5) [pv (79 : Nat) (V.tup [V.sl (1 : Nat) (List.length (gainR p c s)) fun (k : Nat) => [V.i (gi (gainR p c s) k)], V.i (gainE p c s)]), pv (84 : Nat) (V.sl (1 : Nat) (List.length (gainR p c s)) fun (k : Nat) => [V.i (gi (gainR p c s) k)]), pv (85 : Nat) (V.i (gainE p c s)), pv (13 : Nat) (V.sl (1 : Nat) (List.length (gainR p c s)) fun (k : Nat) => [V.i (gi (gainR p c s) k)]), pv (14 : Nat) (V.i (gainE p c s))] (by kernel_rfl) (by kernel_rfl) True.intro ?_
  refine aops_nil ?_
  refine xt_n ?_
  refine hK _ ?_
  clear hK K
  refine aw_seq_k fun K hK => ?_
  refine w_region (n' := 9) (by kernel_rfl) (by kernel_rfl) ?_
  refine aops_n hTT (M := []) (n := 3) [pv (87 : Nat) (V.sl (2 : Nat) (List.length p) fun (k : Nat) => [V.i (Prod.fst (gp p k)), V.i (Prod.snd (gp p k))]), pv (88 : Nat) (V.i c), pv (89 : Nat) (V.i s)] (by kernel_rfl) (by kernel_rfl) True.intro ?_
  refine e_call (first := []) (caps := []) (refGains_ac p c s hl) (by kernel_rfl) (by kernel_rfl) (by kernel_rfl) (by kernel_rfl) (by kernel_rfl) ?_
  refine aops_n hTT (M := []) (n := 5) [pv (86 : Nat) (V.tup [V.sl (1 : Nat) (List.length (gainR p c s)) fun (k : Nat) => [V.i (gi (gainR p c s) k)], V.i (gainE p c s)]), pv (91 : Nat) (V.sl (1 : Nat) (List.length (gainR p c s)) fun (k : Nat) => [V.i (gi (gainR p c s) k)]), pv (92 : Nat) (V.i (gainE p c s)), pv (15 : Nat) (V.sl (1 : Nat) (List.length (gainR p c s)) fun (k : Nat) => [V.i (gi (gainR p c s) k)]), pv (16 : Nat) (V.i (gainE p c s))] (by kernel_rfl) (by kernel_rfl) True.intro ?_
  refine aops_nil ?_
  refine xt_n ?_
  refine hK _ ?_
  clear hK K
  refine aw_seq_k fun K hK => ?_
  refine w_region (n' := 10) (by kernel_rfl) (by kernel_rfl) ?_
  refine aops_n hTT (M := []) (n := 4) [pv (94 : Nat) (V.sl (2 : Nat) (List.length p) fun (k : Nat) => [V.i (Prod.fst (gp p k)), V.i (Prod.snd (gp p k))]), pv (95 : Nat) (V.i c), pv (96 : Nat) (V.i s), pv (97 : Nat) (V.sl (1 : Nat) (List.length g) fun (k : Nat) => [V.i (gi g k)])] (by kernel_rfl) (by kernel_rfl) True.intro ?_
  refine e_call (first := []) (caps := []) (CheckGains_ac p c s g hl hgl) (by kernel_rfl) (by kernel_rfl) (by kernel_rfl) (by kernel_rfl) (by kernel_rfl) ?_
  refine aops_n hTT (M := []) (n := 5) [pv (93 : Nat) (V.tup [V.i (Prod.fst (ckI p c s g)), V.i (Prod.snd (ckI p c s g))]), pv (99 : Nat) (V.i (Prod.fst (ckI p c s g))), pv (100 : Nat) (V.i (Prod.snd (ckI p c s g))), pv (17 : Nat) (V.i (Prod.fst (ckI p c s g))), pv (18 : Nat) (V.i (Prod.snd (ckI p c s g)))] (by kernel_rfl) (by kernel_rfl) True.intro ?_
  refine aops_nil ?_
  refine xt_n ?_
  refine hK _ ?_
  clear hK K
  refine aw_seq_k fun K hK => ?_
  refine w_region (n' := 11) (by kernel_rfl) (by kernel_rfl) ?_
  refine aops_n hTT (M := []) (n := 4) [pv (102 : Nat) (V.sl (2 : Nat) (List.length p) fun (k : Nat) => [V.i (Prod.fst (gp p k)), V.i (Prod.snd (gp p k))]), pv (103 : Nat) (V.i c), pv (104 : Nat) (V.i s), pv (105 : Nat) (V.sl (1 : Nat) (List.length g) fun (k : Nat) => [V.i (gi g k)])] (by kernel_rfl) (by kernel_rfl) True.intro ?_
  refine e_call (first := []) (caps := []) (refCheckGains_ac p c s g hl hgl) (by kernel_rfl) (by kernel_rfl) (by kernel_rfl) (by kernel_rfl) (by kernel_rfl) ?_
  refine aops_n hTT (M := []) (n := 5) [pv (101 : Nat) (V.tup [V.i (Prod.fst (ckI p c s g)), V.i (Prod.snd (ckI p c s g))]), pv (107 : Nat) (V.i (Prod.fst (ckI p c s g))), pv (108 : Nat) (V.i (Prod.snd (ckI p c s g))), pv (19 : Nat) (V.i (Prod.fst (ckI p c s g))), pv (20 : Nat) (V.i (Prod.snd (ckI p c s g)))] (by kernel_rfl) (by kernel_rfl) True.intro ?_
  refine aops_nil ?_
  refine xt_n ?_
  refine hK _ ?_
  clear hK K
  refine aw_seq_k fun K hK => ?_
  refine aw_seq_k fun K hK => ?_
  refine w_region (n' := 12) (by kernel_rfl) (by kernel_rfl) ?_
  refine aops_n hTT (M := []) (n := 6) [pv (109 : Nat) (V.i (gainE p c s)), pv (110 : Nat) (V.i (gainE p c s)), pv (111 : Nat) (V.b !decide (gainE p c s = gainE p c s)), pv (112 : Nat) (V.b !decide (gainE p c s = gainE p c s)), pc (113 : Nat) ((True ∧ True) ∧ (((!decide (gainE p c s = gainE p c s)) == false) = true → True)) (V.gd ((!decide (gainE p c s = gainE p c s)) == false) (V.sl (1 : Nat) (List.length (gainR p c s)) fun (k : Nat) => [V.i (gi (gainR p c s) k)])), pc (114 : Nat) ((True ∧ True) ∧ (((!decide (gainE p c s = gainE p c s)) == false) = true → True)) (V.gd ((!decide (gainE p c s = gainE p c s)) == false) (V.sl (1 : Nat) (List.length (gainR p c s)) fun (k : Nat) => [V.i (gi (gainR p c s) k)]))] (by kernel_rfl) (by kernel_rfl) ⟨⟨⟨True.intro, True.intro⟩, (fun _ => True.intro)⟩, ⟨⟨True.intro, True.intro⟩, (fun _ => True.intro)⟩, True.intro⟩ ?_
  refine e_callG 2 (g := (!decide (gainE p c s = gainE p c s)) == false) (first := []) (caps := []) (by kernel_rfl) (fun h => refSame_ac (gainR p c s) (gainR p c s) (gainR_big hl) (gainR_big hl)) (by kernel_rfl) (by kernel_rfl) (by kernel_rfl) (by kernel_rfl) (by kernel_rfl) (by kernel_rfl) ?_
  refine aops_n hTT (M := []) (n := 12) [pc (116 : Nat) (((((!decide (gainE p c s = gainE p c s)) == false) = true → ((!decide (gainE p c s = gainE p c s)) == false) = true) ∧ True) ∧ (((!decide (gainE p c s = gainE p c s)) == false) = true → True)) (V.gd ((!decide (gainE p c s = gainE p c s)) == false) (V.b !decide (gainR p c s = gainR p c s))), pc (117 : Nat) (True ∧ ((!decide (gainE p c s = gainE p c s)) = false → ((!decide (gainE p c s = gainE p c s)) == false) = true)) (V.b (!decide (gainE p c s = gainE p c s) || !decide (gainR p c s = gainR p c s))), pv (118 : Nat) (V.b (!decide (gainE p c s = gainE p c s) || !decide (gainR p c s = gainR p c s))), pc (119 : Nat) ((True ∧ True) ∧ (((!decide (gainE p c s = gainE p c s) || !decide (gainR p c s = gainR p c s)) == false) = true → True)) (V.gd ((!decide (gainE p c s = gainE p c s) || !decide (gainR p c s = gainR p c s)) == false) (V.i (Prod.fst (ckI p c s g)))), pc (120 : Nat) ((True ∧ True) ∧ (((!decide (gainE p c s = gainE p c s) || !decide (gainR p c s = gainR p c s)) == false) = true → True)) (V.gd ((!decide (gainE p c s = gainE p c s) || !decide (gainR p c s = gainR p c s)) == false) (V.i (Prod.fst (ckI p c s g)))), pc (121 : Nat) (((((!decide (gainE p c s = gainE p c s) || !decide (gainR p c s = gainR p c s)) == false) = true → ((!decide (gainE p c s = gainE p c s) || !decide (gainR p c s = gainR p c s)) == false) = true) ∧ (((!decide (gainE p c s = gainE p c s) || !decide (gainR p c s = gainR p c s)) == false) = true → ((!decide (gainE p c s = gainE p c s) || !decide (gainR p c s = gainR p c s)) == false) = true) ∧ True) ∧ (((!decide (gainE p c s = gainE p c s) || !decide (gainR p c s = gainR p c s)) == false) = true → True)) (V.gd ((!decide (gainE p c s = gainE p c s) || !decide (gainR p c s = gainR p c s)) == false) (V.b !decide (Prod.fst (ckI p c s g) = Prod.fst (ckI p c s g)))), pc (122 : Nat) (True ∧ ((!decide (gainE p c s = gainE p c s) || !decide (gainR p c s = gainR p c s)) = false → ((!decide (gainE p c s = gainE p c s) || !decide (gainR p c s = gainR p c s)) == false) = true)) (V.b (!decide (gainE p c s = gainE p c s) || !decide (gainR p c s = gainR p c s) || !decide (Prod.fst (ckI p c s g) = Prod.fst (ckI p c s g)))), pv (123 : Nat) (V.b (!decide (gainE p c s = gainE p c s) || !decide (gainR p c s = gainR p c s) || !decide (Prod.fst (ckI p c s g) = Prod.fst (ckI p c s g)))), pc (124 : Nat) ((True ∧ True) ∧ (((!decide (gainE p c s = gainE p c s) || !decide (gainR p c s = gainR p c s) || !decide (Prod.fst (ckI p c s g) = Prod.fst (ckI p c s g))) == false) = true → True)) (V.gd ((!decide (gainE p c s = gainE p c s) || !decide (gainR p c s = gainR p c s) || !decide (Prod.fst (ckI p c s g) = Prod.fst (ckI p c s g))) == false) (V.i (Prod.snd (ckI p c s g)))), pc (125 : Nat) ((True ∧ True) ∧ (((!decide (gainE p c s = gainE p c s) || !decide (gainR p c s = gainR p c s) || !decide (Prod.fst (ckI p c s g) = Prod.fst (ckI p c s g))) == false) = true → True)) (V.gd ((!decide (gainE p c s = gainE p c s) || !decide (gainR p c s = gainR p c s) || !decide (Prod.fst (ckI p c s g) = Prod.fst (ckI p c s g))) == false) (V.i (Prod.snd (ckI p c s g)))), pc (126 : Nat) (((((!decide (gainE p c s = gainE p c s) || !decide (gainR p c s = gainR p c s) || !decide (Prod.fst (ckI p c s g) = Prod.fst (ckI p c s g))) == false) = true → ((!decide (gainE p c s = gainE p c s) || !decide (gainR p c s = gainR p c s) || !decide (Prod.fst (ckI p c s g) = Prod.fst (ckI p c s g))) == false) = true) ∧ (((!decide (gainE p c s = gainE p c s) || !decide (gainR p c s = gainR p c s) || !decide (Prod.fst (ckI p c s g) = Prod.fst (ckI p c s g))) == false) = true → ((!decide (gainE p c s = gainE p c s) || !decide (gainR p c s = gainR p c s) || !decide (Prod.fst (ckI p c s g) = Prod.fst (ckI p c s g))) == false) = true) ∧ True) ∧ (((!decide (gainE p c s = gainE p c s) || !decide (gainR p c s = gainR p c s) || !decide (Prod.fst (ckI p c s g) = Prod.fst (ckI p c s g))) == false) = true → True)) (V.gd ((!decide (gainE p c s = gainE p c s) || !decide (gainR p c s = gainR p c s) || !decide (Prod.fst (ckI p c s g) = Prod.fst (ckI p c s g))) == false) (V.b !decide (Prod.snd (ckI p c s g) = Prod.snd (ckI p c s g)))), pc (127 : Nat) (True ∧ ((!decide (gainE p c s = gainE p c s) || !decide (gainR p c s = gainR p c s) || !decide (Prod.fst (ckI p c s g) = Prod.fst (ckI p c s g))) = false → ((!decide (gainE p c s = gainE p c s) || !decide (gainR p c s = gainR p c s) || !decide (Prod.fst (ckI p c s g) = Prod.fst (ckI p c s g))) == false) = true)) (V.b (!decide (gainE p c s = gainE p c s) || !decide (gainR p c s = gainR p c s) || !decide (Prod.fst (ckI p c s g) = Prod.fst (ckI p c s g)) || !decide (Prod.snd (ckI p c s g) = Prod.snd (ckI p c s g))))] (by kernel_rfl) (by kernel_rfl) ⟨⟨⟨(by (exact fun h => h)), True.intro⟩, (fun _ => True.intro)⟩, ⟨True.intro, (by (intro h; rw [h]; rfl))⟩, ⟨⟨True.intro, True.intro⟩, (fun _ => True.intro)⟩, ⟨⟨True.intro, True.intro⟩, (fun _ => True.intro)⟩, ⟨⟨(by (exact fun h => h)), ⟨(by (exact fun h => h)), True.intro⟩⟩, (fun _ => True.intro)⟩, ⟨True.intro, (by (intro h; rw [h]; rfl))⟩, ⟨⟨True.intro, True.intro⟩, (fun _ => True.intro)⟩, ⟨⟨True.intro, True.intro⟩, (fun _ => True.intro)⟩, ⟨⟨(by (exact fun h => h)), ⟨(by (exact fun h => h)), True.intro⟩⟩, (fun _ => True.intro)⟩, ⟨True.intro, (by (intro h; rw [h]; rfl))⟩, True.intro⟩ ?_
  refine aops_nil ?_
  refine xt_n ?_
  refine hK _ ?_
  clear hK K
  refine w_cond (t := !decide (gainE p c s = gainE p c s) || !decide (gainR p c s = gainR p c s) || !decide (Prod.fst (ckI p c s g) = Prod.fst (ckI p c s g)) || !decide (Prod.snd (ckI p c s g) = Prod.snd (ckI p c s g))) (by kernel_rfl) (fun c4 => ?_) (fun c4 => ?_)
  · simp at c4
  refine aw_skip ?_
  refine xt_n ?_
  refine hK _ ?_
  clear hK K
  refine aw_seq_k fun K hK => ?_
  refine w_region (n' := 13) (by kernel_rfl) (by kernel_rfl) ?_
  refine aops_n hTT (M := []) (n := 3) [pv (129 : Nat) (V.sl (2 : Nat) (List.length p) fun (k : Nat) => [V.i (Prod.fst (gp p k)), V.i (Prod.snd (gp p k))]), pv (130 : Nat) (V.i c), pv (131 : Nat) (V.i s)] (by kernel_rfl) (by kernel_rfl) True.intro ?_
  refine e_call (first := []) (caps := []) (Limit_ac p c s hl) (by kernel_rfl) (by kernel_rfl) (by kernel_rfl) (by kernel_rfl) (by kernel_rfl) ?_
  refine aops_n hTT (M := []) (n := 5) [pv (128 : Nat) (V.tup [V.sl (2 : Nat) (List.length (limR p c s)) fun (k : Nat) => [V.i (Prod.fst (gp (limR p c s) k)), V.i (Prod.snd (gp (limR p c s) k))], V.i (gainE p c s)]), pv (133 : Nat) (V.sl (2 : Nat) (List.length (limR p c s)) fun (k : Nat) => [V.i (Prod.fst (gp (limR p c s) k)), V.i (Prod.snd (gp (limR p c s) k))]), pv (134 : Nat) (V.i (gainE p c s)), pv (21 : Nat) (V.sl (2 : Nat) (List.length (limR p c s)) fun (k : Nat) => [V.i (Prod.fst (gp (limR p c s) k)), V.i (Prod.snd (gp (limR p c s) k))]), pv (14 : Nat) (V.i (gainE p c s))] (by kernel_rfl) (by kernel_rfl) True.intro ?_
  refine aops_nil ?_
  refine xt_n ?_
  refine hK _ ?_
  clear hK K
  refine aw_seq_k fun K hK => ?_
  refine w_region (n' := 14) (by kernel_rfl) (by kernel_rfl) ?_
  refine aops_n hTT (M := []) (n := 3) [pv (136 : Nat) (V.sl (2 : Nat) (List.length p) fun (k : Nat) => [V.i (Prod.fst (gp p k)), V.i (Prod.snd (gp p k))]), pv (137 : Nat) (V.i c), pv (138 : Nat) (V.i s)] (by kernel_rfl) (by kernel_rfl) True.intro ?_
  refine e_call (first := []) (caps := []) (refLimit_ac p c s hl) (by kernel_rfl) (by kernel_rfl) (by kernel_rfl) (by kernel_rfl) (by kernel_rfl) ?_
  refine aops_n hTT (M := []) (n := 5) [pv (135 : Nat) (V.tup [V.sl (2 : Nat) (List.length (limR p c s)) fun (k : Nat) => [V.i (Prod.fst (gp (limR p c s) k)), V.i (Prod.snd (gp (limR p c s) k))], V.i (gainE p c s)]), pv (140 : Nat) (V.sl (2 : Nat) (List.length (limR p c s)) fun (k : Nat) => [V.i (Prod.fst (gp (limR p c s) k)), V.i (Prod.snd (gp (limR p c s) k))]), pv (141 : Nat) (V.i (gainE p c s)), pv (22 : Nat) (V.sl (2 : Nat) (List.length (limR p c s)) fun (k : Nat) => [V.i (Prod.fst (gp (limR p c s) k)), V.i (Prod.snd (gp (limR p c s) k))]), pv (16 : Nat) (V.i (gainE p c s))] (by kernel_rfl) (by kernel_rfl) True.intro ?_
  refine aops_nil ?_
  refine xt_n ?_
  refine hK _ ?_
  clear hK K
  refine aw_seq_k fun K hK => ?_
  refine w_region (n' := 15) (by kernel_rfl) (by kernel_rfl) ?_
  refine aops_n hTT (M := []) (n := 6) [pv (142 : Nat) (V.i (gainE p c s)), pv (143 : Nat) (V.i (gainE p c s)), pv (144 : Nat) (V.b (decide (gainE p c s = gainE p c s))), pv (145 : Nat) (V.b (decide (gainE p c s = gainE p c s))), pc (146 : Nat) ((True ∧ True) ∧ ((decide (gainE p c s = gainE p c s) == true) = true → True)) (V.gd (decide (gainE p c s = gainE p c s) == true) (V.sl (2 : Nat) (List.length (limR p c s)) fun (k : Nat) => [V.i (Prod.fst (gp (limR p c s) k)), V.i (Prod.snd (gp (limR p c s) k))])), pc (147 : Nat) ((True ∧ True) ∧ ((decide (gainE p c s = gainE p c s) == true) = true → True)) (V.gd (decide (gainE p c s = gainE p c s) == true) (V.sl (2 : Nat) (List.length (limR p c s)) fun (k : Nat) => [V.i (Prod.fst (gp (limR p c s) k)), V.i (Prod.snd (gp (limR p c s) k))]))] (by kernel_rfl) (by kernel_rfl) ⟨⟨⟨True.intro, True.intro⟩, (fun _ => True.intro)⟩, ⟨⟨True.intro, True.intro⟩, (fun _ => True.intro)⟩, True.intro⟩ ?_
  refine e_callG 2 (g := decide (gainE p c s = gainE p c s) == true) (first := []) (caps := []) (by kernel_rfl) (fun h => refSamePrograms_ac (limR p c s) (limR p c s) (limR_big hl) (limR_big hl)) (by kernel_rfl) (by kernel_rfl) (by kernel_rfl) (by kernel_rfl) (by kernel_rfl) (by kernel_rfl) ?_
  refine aops_n hTT (M := []) (n := 2) [pc (149 : Nat) ((decide (gainE p c s = gainE p c s) = true → (decide (gainE p c s = gainE p c s) == true) = true) ∧ True) (V.b (decide (gainE p c s = gainE p c s) && decide (limR p c s = limR p c s))), pv (150 : Nat) (V.b (decide (gainE p c s = gainE p c s) && decide (limR p c s = limR p c s)))] (by kernel_rfl) (by kernel_rfl) ⟨⟨(by (intro h; rw [h]; rfl)), True.intro⟩, True.intro⟩ ?_
  refine e_callG 0 (g := (decide (gainE p c s = gainE p c s) && decide (limR p c s = limR p c s)) == true) (first := []) (caps := []) (by kernel_rfl) (fun h => fWorks_ac) (by kernel_rfl) (by kernel_rfl) (by kernel_rfl) (by kernel_rfl) (by kernel_rfl) (by kernel_rfl) ?_
  refine aops_n hTT (M := []) (n := 2) [pc (152 : Nat) (((decide (gainE p c s = gainE p c s) && decide (limR p c s = limR p c s)) = true → ((decide (gainE p c s = gainE p c s) && decide (limR p c s = limR p c s)) == true) = true) ∧ True) (V.b (decide (gainE p c s = gainE p c s) && decide (limR p c s = limR p c s) && true)), pv (8 : Nat) (V.b (decide (gainE p c s = gainE p c s) && decide (limR p c s = limR p c s) && true))] (by kernel_rfl) (by kernel_rfl) ⟨⟨(by (intro h; rw [h]; rfl)), True.intro⟩, True.intro⟩ ?_
  refine aops_nil ?_
  refine xt_n ?_
  refine hK _ ?_
  clear hK K
  refine aw_ret ?_
  refine ret_pure (v' := V.b (decide (gainE p c s = gainE p c s) && decide (limR p c s = limR p c s) && true)) (.inr rfl) (by kernel_rfl) ?_ (by kernel_rfl)
  simp
def gainsSh : List Sh := [(.sl (.fld (.int .i64) (.lst (.int .i64)))), (.int .i64), (.int .i64), (.sl (.int .i64))]
theorem gains_all (x : TL gainsSh) (hx : wfL gainsSh x) : AC Try.prog 12 (valL gainsSh x) (V.b true) [] := by
  obtain ⟨p, c, s, g, _⟩ := x
  obtain ⟨⟨h1, _⟩, h2, h3, ⟨h4, _⟩, _⟩ := hx
  exact gains_law p c s g h1 h4
end Go.Proofs.Ytblipieipldanaa
