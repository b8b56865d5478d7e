/-
  GrooveTurned: the walk of the law. No condition.
-/
import Derived.Test.YtjjlgegccfolpaaGPl3
import Derived.Test.YtjjlgegccfolpaaMC
namespace Go.Proofs.Ytjjlgegccfolpaa
open Go.Ab Go.RowKit Go.Dw Go.Shelf

theorem gChk_ext {l m : List Pt} (h : l.length = m.length) (hk : (∀ k, k < l.length → gE (gp l k) = true) → ∀ k, k < m.length → gE (gp m k) = true) (h0 : gChk l = 0) : gChk m = 0 := by
  obtain ⟨a, b⟩ := gChk_ok.1 h0
  exact gChk_ok.2 ⟨by omega, hk b⟩
theorem gErr_same {c : Cut} {l m : List Pt} (h : gChk l = gChk m) : gErr c l = gErr c m := by unfold gErr; rw [h]
/-- alike grooves have the same least radius -/
theorem fstOk_alike {c : Cut} {l m : List Pt} {per F : Int} (h : Alike l m) (he : gErr c l = gErr c m) (hF : FstOk c l per F) : FstOk c m per F := fun h1 h2 =>
  h.fst (gErr_ok h1).1 (turnE_ok.1 h2).1 (hF (he.trans h1) h2)
theorem leastR_same {c : Cut} {l m : List Pt} {per F : Int} (he : gErr c l = gErr c m) : leastR c m per F = leastR c l per F := by unfold leastR; rw [he]
theorem rev_take {l : List Pt} {k : Nat} (h : k < l.length) (i : Nat) (hi : i < k + 1) : gp (l.take (k + 1)).reverse i = if i = 0 then gp l k else gp (l.take k).reverse (i - 1) := by
  have n1 : (l.take (k + 1)).length = k + 1 := by simp; omega
  have n2 : (l.take k).length = k := by simp; omega
  rw [gp_rev (by omega), n1]
  by_cases h0 : i = 0
  · subst h0
    rw [if_pos rfl, show k + 1 - 1 - 0 = k by omega]
    simp only [gp, List.getD_eq_getElem?_getD]
    rw [List.getElem?_take, if_pos (by omega)]
  · rw [if_neg h0, gp_rev (by omega), n2]
    simp only [gp, List.getD_eq_getElem?_getD]
    rw [List.getElem?_take, if_pos (by omega), List.getElem?_take, if_pos (by omega)]
    congr 2; omega
abbrev mirL (l : List Pt) : List Pt := l.map fun p => (-p.2, -p.1)
abbrev movL (l : List Pt) (b : Int) : List Pt := l.map fun p => (p.1 + b, p.2 + b)
set_option maxHeartbeats 2000000 in
set_option maxRecDepth 100000 in
theorem gturned_law (c : Cut) (l : List Pt) (per b : Int) (hl : l.length ≤ 4611686018427387904) (hb : -32768 ≤ b ∧ b ≤ 32767) : AC Try.prog 4 [c.v, V.pts l, .i per, .c (.int .i16 b)] (.b true) [] := by
  refine ac_intro hTT hMX (fn := Try.f4) (N := _) ⟨Try.func4, rfl, Try.ntmps4, by kernel_rfl⟩ (by simp) fun C hC hF => ?_
  refine aw_seq_k fun K hK => ?_
  refine w_region (n' := 2) (by kernel_rfl) (by kernel_rfl) ?_
  refine aops_n hTT (M := []) (n := 2) [pv (4 : Nat) (V.ptr [V.i (Cut.half c), V.i (Cut.gain c), V.i (Cut.thin c), V.i (Cut.wide c), V.i (Cut.slope c), V.i (Cut.jerk c), V.i (Cut.sty c)]), pv (8 : Nat) (V.b false)] (by kernel_rfl) (by kernel_rfl) True.intro ?_
  refine aops_nil ?_
  refine xt_n ?_
  refine hK _ ?_
  clear hK K
  refine aw_seq_k fun K hK => ?_
  refine aw_seq_k fun K hK => ?_
  refine w_region (n' := 3) (by kernel_rfl) (by kernel_rfl) ?_
  refine aops_n hTT (M := []) (n := 5) [pv (21 : Nat) (V.sl (2 : Nat) (List.length l) fun (k : Nat) => [V.i (Prod.fst (gp l k)), V.i (Prod.snd (gp l k))]), pv (22 : Nat) (V.i (↑(List.length l) : Int)), pv (23 : Nat) (V.b (decide ((60 : Int) < (↑(List.length l) : Int)))), pv (24 : Nat) (V.b (decide ((60 : Int) < (↑(List.length l) : Int)))), pc (25 : Nat) ((True ∧ True) ∧ ((decide ((60 : Int) < (↑(List.length l) : Int)) == false) = true → True)) (V.gd (decide ((60 : Int) < (↑(List.length l) : Int)) == false) (V.sl (2 : Nat) (List.length l) fun (k : Nat) => [V.i (Prod.fst (gp l k)), V.i (Prod.snd (gp l k))]))] (by kernel_rfl) (by kernel_rfl) ⟨⟨⟨True.intro, True.intro⟩, (fun _ => True.intro)⟩, True.intro⟩ ?_
  refine e_callG 1 (g := decide ((60 : Int) < (↑(List.length l) : Int)) == false) (first := []) (caps := []) (by kernel_rfl) (fun h => refCheckPoints_ac l hl) (by kernel_rfl) (by kernel_rfl) (by kernel_rfl) (by kernel_rfl) (by kernel_rfl) (by kernel_rfl) ?_
  refine aops_n hTT (M := []) (n := 2) [pc (27 : Nat) ((((decide ((60 : Int) < (↑(List.length l) : Int)) == false) = true → (decide ((60 : Int) < (↑(List.length l) : Int)) == false) = true) ∧ True ∧ True) ∧ ((decide ((60 : Int) < (↑(List.length l) : Int)) == false) = true → True)) (V.gd (decide ((60 : Int) < (↑(List.length l) : Int)) == false) (V.b !decide (gChk l = (0 : Int)))), pc (28 : Nat) (True ∧ (decide ((60 : Int) < (↑(List.length l) : Int)) = false → (decide ((60 : Int) < (↑(List.length l) : Int)) == false) = true)) (V.b (decide ((60 : Int) < (↑(List.length l) : Int)) || !decide (gChk l = (0 : Int))))] (by kernel_rfl) (by kernel_rfl) ⟨⟨⟨(by (exact fun h => h)), ⟨True.intro, True.intro⟩⟩, (fun _ => True.intro)⟩, ⟨True.intro, (by (intro h; rw [h]; rfl))⟩, True.intro⟩ ?_
  refine aops_nil ?_
  refine xt_n ?_
  refine hK _ ?_
  clear hK K
  refine w_cond (t := decide ((60 : Int) < (↑(List.length l) : Int)) || !decide (gChk l = (0 : Int))) (by kernel_rfl) (fun c1 => ?_) (fun c1 => ?_)
  · refine aw_seq_k fun K hK => ?_
    refine w_region (n' := 4) (by kernel_rfl) (by kernel_rfl) ?_
    refine e_call (first := []) (caps := []) (gWorks_ac) (by kernel_rfl) (by kernel_rfl) (by kernel_rfl) (by kernel_rfl) (by kernel_rfl) ?_
    refine aops_n hTT (M := []) (n := 1) [pv (8 : Nat) (V.b true)] (by kernel_rfl) (by kernel_rfl) True.intro ?_
    refine aops_nil ?_
    refine xt_n ?_
    refine hK _ ?_
    clear hK K
    refine aw_ret ?_
    refine xt_r ?_
    refine ret_pure (v' := V.b true) (.inr rfl) (by kernel_rfl) (by kernel_rfl) (by kernel_rfl)
  have c1 : l.length ≤ 60 ∧ gChk l = 0 := by simp at c1; omega
  obtain ⟨l60, hk⟩ := c1
  obtain ⟨_, hE⟩ := gChk_ok.1 hk
  refine aw_skip ?_
  refine xt_n ?_
  refine hK _ ?_
  clear hK K
  refine aw_seq_k fun K hK => ?_
  refine w_region (n' := 4) (by kernel_rfl) (by kernel_rfl) ?_
  refine aops_n hTT (M := []) (n := 3) [pv (9 : Nat) V.nil, pv (10 : Nat) V.nil, pv (11 : Nat) V.nil] (by kernel_rfl) (by kernel_rfl) True.intro ?_
  refine aops_nil ?_
  refine xt_n ?_
  refine hK _ ?_
  clear hK K
  refine aw_seq_k fun K hK => ?_
  refine aw_seq_k fun K hK => ?_
  refine w_region (n' := 5) (by kernel_rfl) (by kernel_rfl) ?_
  refine aops_n hTT (M := []) (n := 1) [pv (12 : Nat) (V.i (0 : Int))] (by kernel_rfl) (by kernel_rfl) True.intro ?_
  refine aops_nil ?_
  refine xt_n ?_
  refine hK _ ?_
  clear hK K
  refine aw_block ?_
  refine w_le (le_nil 9 (sz := 2) 0 (fun i => [.i (gp (l.take 0).reverse i).1, .i (gp (l.take 0).reverse i).2]) (by kernel_rfl) ?_) ?_
  · rfl
  refine w_le (le_open 10 35 2 (fun k => [.i (-(gp l k).2), .i (-(gp l k).1)]) (by kernel_rfl) rfl) ?_
  skip
  refine w_le (le_open 11 35 2 (fun k => [.i ((gp l k).1 + b), .i ((gp l k).2 + b)]) (by kernel_rfl) rfl) ?_
  skip
  refine w_loop (ι := Nat) (fun k => [(1, V.pts l), (2, .i per), (3, .c (.int .i16 b)), (4, .ptr [.i c.half, .i c.gain, .i c.thin, .i c.wide, .i c.slope, .i c.jerk, .i c.sty]), (9, .sl 2 k fun i => [.i (gp (l.take k).reverse i).1, .i (gp (l.take k).reverse i).2]), (10, .own 10), (11, .own 11), (12, .i k)])
    (fun k => [(10, .row 35 2 k fun k => [.i (-(gp l k).2), .i (-(gp l k).1)]), (11, .row 35 2 k fun k => [.i ((gp l k).1 + b), .i ((gp l k).2 + b)])]) (fun k => k ≤ l.length) (fun k => l.length - k) 0 (Nat.zero_le _) ?_ ?_
  · refine le_ren (sl := [(10, Ob.row (35 : Nat) (2 : Nat) (0 : Nat) fun (k : Nat) => [V.i (-Prod.snd (gp l k)), V.i (-Prod.fst (gp l k))]), (11, Ob.row (35 : Nat) (2 : Nat) (0 : Nat) fun (k : Nat) => [V.i (Prod.fst (gp l k) + b), V.i (Prod.snd (gp l k) + b)])]) [(10, 500010), (11, 600011)] (.cons (by kernel_rfl) (.cons (by kernel_rfl) (.cons (by kernel_rfl) (.cons (by kernel_rfl) (.cons (by kernel_rfl) (.cons (by kernel_rfl) (.cons (by kernel_rfl) (.cons (by kernel_rfl) .nil)))))))) (.cons ⟨Ob.row (35 : Nat) (2 : Nat) (0 : Nat) fun (k : Nat) => [V.i (-Prod.snd (gp l k)), V.i (-Prod.fst (gp l k))], (by kernel_rfl), .row (by kernel_rfl) (fun _ _ => rfl)⟩ (.cons ⟨Ob.row (35 : Nat) (2 : Nat) (0 : Nat) fun (k : Nat) => [V.i (Prod.fst (gp l k) + b), V.i (Prod.snd (gp l k) + b)], (by kernel_rfl), .row (by kernel_rfl) (fun _ _ => rfl)⟩ .nil)) (by kernel_rfl) (by kernel_rfl)
  intro k hk1
  refine aw_seq_k fun K hK => ?_
  refine aw_seq_k fun K hK => ?_
  refine w_region (n' := 2) (by kernel_rfl) (by kernel_rfl) ?_
  refine aops_n hTT (M := []) (n := 4) [pv (30 : Nat) (V.i (↑k : Int)), pv (31 : Nat) (V.sl (2 : Nat) (List.length l) fun (k : Nat) => [V.i (Prod.fst (gp l k)), V.i (Prod.snd (gp l k))]), pv (32 : Nat) (V.i (↑(List.length l) : Int)), pv (33 : Nat) (V.b (decide ((↑k : Int) < (↑(List.length l) : Int))))] (by kernel_rfl) (by kernel_rfl) True.intro ?_
  refine aops_nil ?_
  refine xt_n ?_
  refine hK _ ?_
  clear hK K
  refine w_cond (t := decide ((↑k : Int) < (↑(List.length l) : Int))) (by kernel_rfl) (fun d1 => ?_) (fun d1 => ?_)
  · have h1 : k < l.length := by simpa using d1
    have e1 := gE_iff.1 (hE k h1)
    refine aw_skip ?_
    refine xt_n ?_
    refine hK _ ?_
    clear hK K
    refine aw_seq_k fun K hK => ?_
    refine aw_block ?_
    refine aw_seq_k fun K hK => ?_
    refine w_region (n' := 3) (by kernel_rfl) (by kernel_rfl) ?_
    refine aops_n hTT (M := [40]) (n := 8) [pv (36 : Nat) (V.sl (2 : Nat) (List.length l) fun (k : Nat) => [V.i (Prod.fst (gp l k)), V.i (Prod.snd (gp l k))]), pv (37 : Nat) (V.i (↑k : Int)), pc (38 : Nat) ((0 : Int) ≤ (↑k : Int) ∧ (↑k : Int) < (↑(List.length l) : Int)) (V.ptr [V.i (Prod.fst (gp l k)), V.i (Prod.snd (gp l k))]), pv (39 : Nat) (V.agg [V.i (Prod.fst (gp l k)), V.i (Prod.snd (gp l k))]), pn (40 : Nat) (V.own (200040 : Nat)) (200040 : Nat) (Ob.row (35 : Nat) (2 : Nat) (1 : Nat) fun (i : Nat) => List.take (2 : Nat) (List.drop (i * (2 : Nat)) [V.i (Prod.fst (gp l k)), V.i (Prod.snd (gp l k))])), pv (41 : Nat) (V.sl (2 : Nat) k fun (i : Nat) => [V.i (Prod.fst (gp (List.reverse (List.take k l)) i)), V.i (Prod.snd (gp (List.reverse (List.take k l)) i))]), PR.mk (some (42 : Nat)) (some ((1 : Nat) + k ≤ (1099511627776 : Nat))) (V.own (200042 : Nat)) [((200040 : Nat), none), ((200042 : Nat), some (Ob.row (35 : Nat) (2 : Nat) ((1 : Nat) + k) (appRow (1 : Nat) (fun (i : Nat) => List.take (2 : Nat) (List.drop (i * (2 : Nat)) [V.i (Prod.fst (gp l k)), V.i (Prod.snd (gp l k))])) fun (i : Nat) => [V.i (Prod.fst (gp (List.reverse (List.take k l)) i)), V.i (Prod.snd (gp (List.reverse (List.take k l)) i))])))] false, pv (9 : Nat) (V.own (200042 : Nat))] (by kernel_rfl) (by kernel_rfl) ⟨(by omega), (by omega), True.intro⟩ ?_
    refine aops_nil ?_
    refine xt_n ?_
    refine hK _ ?_
    clear hK K
    refine aw_seq_k fun K hK => ?_
    refine w_regionD (n' := 4) (by kernel_rfl) (by kernel_rfl) ?_
    refine aops_n hTT (M := [40]) (n := 17) [pv (43 : Nat) (V.own (10 : Nat)), pv (44 : Nat) (V.sl (2 : Nat) (List.length l) fun (k : Nat) => [V.i (Prod.fst (gp l k)), V.i (Prod.snd (gp l k))]), pv (45 : Nat) (V.i (↑k : Int)), pc (46 : Nat) ((0 : Int) ≤ (↑k : Int) ∧ (↑k : Int) < (↑(List.length l) : Int)) (V.ptr [V.i (Prod.fst (gp l k)), V.i (Prod.snd (gp l k))]), pv (47 : Nat) (V.ptr [V.i (Prod.snd (gp l k))]), pv (48 : Nat) (V.i (Prod.snd (gp l k))), pc (49 : Nat) ((-9223372036854775808 : Int) ≤ -Prod.snd (gp l k) ∧ -Prod.snd (gp l k) ≤ (9223372036854775807 : Int)) (V.i (-Prod.snd (gp l k))), pv (50 : Nat) (V.sl (2 : Nat) (List.length l) fun (k : Nat) => [V.i (Prod.fst (gp l k)), V.i (Prod.snd (gp l k))]), pv (51 : Nat) (V.i (↑k : Int)), pc (52 : Nat) ((0 : Int) ≤ (↑k : Int) ∧ (↑k : Int) < (↑(List.length l) : Int)) (V.ptr [V.i (Prod.fst (gp l k)), V.i (Prod.snd (gp l k))]), pv (53 : Nat) (V.ptr [V.i (Prod.fst (gp l k)), V.i (Prod.snd (gp l k))]), pv (54 : Nat) (V.i (Prod.fst (gp l k))), pc (55 : Nat) ((-9223372036854775808 : Int) ≤ -Prod.fst (gp l k) ∧ -Prod.fst (gp l k) ≤ (9223372036854775807 : Int)) (V.i (-Prod.fst (gp l k))), pv (56 : Nat) (V.agg [V.i (-Prod.snd (gp l k)), V.i (-Prod.fst (gp l k))]), pv (57 : Nat) (V.sl (2 : Nat) (1 : Nat) fun (i : Nat) => List.take (2 : Nat) (List.drop (i * (2 : Nat)) [V.i (-Prod.snd (gp l k)), V.i (-Prod.fst (gp l k))])), PR.mk (some (58 : Nat)) (some (k + (1 : Nat) ≤ (1099511627776 : Nat))) (V.own (300058 : Nat)) [((10 : Nat), none), ((300058 : Nat), some (Ob.row (35 : Nat) (2 : Nat) (k + (1 : Nat)) (appRow k (fun (k : Nat) => [V.i (-Prod.snd (gp l k)), V.i (-Prod.fst (gp l k))]) fun (i : Nat) => List.take (2 : Nat) (List.drop (i * (2 : Nat)) [V.i (-Prod.snd (gp l k)), V.i (-Prod.fst (gp l k))]))))] false, pv (10 : Nat) (V.own (300058 : Nat))] (by kernel_rfl) (by kernel_rfl) ⟨(by omega), (by omega), (by omega), (by omega), (by omega), True.intro⟩ ?_
    refine aops_nil ⟨by kernel_rfl, ?_⟩
    refine xt_n ?_
    refine hK _ ?_
    clear hK K
    refine w_regionD (n' := 5) (by kernel_rfl) (by kernel_rfl) ?_
    refine aops_n hTT (M := [40]) (n := 21) [pv (59 : Nat) (V.own (11 : Nat)), pv (60 : Nat) (V.sl (2 : Nat) (List.length l) fun (k : Nat) => [V.i (Prod.fst (gp l k)), V.i (Prod.snd (gp l k))]), pv (61 : Nat) (V.i (↑k : Int)), pc (62 : Nat) ((0 : Int) ≤ (↑k : Int) ∧ (↑k : Int) < (↑(List.length l) : Int)) (V.ptr [V.i (Prod.fst (gp l k)), V.i (Prod.snd (gp l k))]), pv (63 : Nat) (V.ptr [V.i (Prod.fst (gp l k)), V.i (Prod.snd (gp l k))]), pv (64 : Nat) (V.i (Prod.fst (gp l k))), pv (65 : Nat) (V.c (Value.int IntKind.i16 b)), pc (66 : Nat) ((-9223372036854775808 : Int) ≤ b ∧ b ≤ (9223372036854775807 : Int)) (V.i b), pc (67 : Nat) ((-9223372036854775808 : Int) ≤ Prod.fst (gp l k) + b ∧ Prod.fst (gp l k) + b ≤ (9223372036854775807 : Int)) (V.i (Prod.fst (gp l k) + b)), pv (68 : Nat) (V.sl (2 : Nat) (List.length l) fun (k : Nat) => [V.i (Prod.fst (gp l k)), V.i (Prod.snd (gp l k))]), pv (69 : Nat) (V.i (↑k : Int)), pc (70 : Nat) ((0 : Int) ≤ (↑k : Int) ∧ (↑k : Int) < (↑(List.length l) : Int)) (V.ptr [V.i (Prod.fst (gp l k)), V.i (Prod.snd (gp l k))]), pv (71 : Nat) (V.ptr [V.i (Prod.snd (gp l k))]), pv (72 : Nat) (V.i (Prod.snd (gp l k))), pv (73 : Nat) (V.c (Value.int IntKind.i16 b)), pc (74 : Nat) ((-9223372036854775808 : Int) ≤ b ∧ b ≤ (9223372036854775807 : Int)) (V.i b), pc (75 : Nat) ((-9223372036854775808 : Int) ≤ Prod.snd (gp l k) + b ∧ Prod.snd (gp l k) + b ≤ (9223372036854775807 : Int)) (V.i (Prod.snd (gp l k) + b)), pv (76 : Nat) (V.agg [V.i (Prod.fst (gp l k) + b), V.i (Prod.snd (gp l k) + b)]), pv (77 : Nat) (V.sl (2 : Nat) (1 : Nat) fun (i : Nat) => List.take (2 : Nat) (List.drop (i * (2 : Nat)) [V.i (Prod.fst (gp l k) + b), V.i (Prod.snd (gp l k) + b)])), PR.mk (some (78 : Nat)) (some (k + (1 : Nat) ≤ (1099511627776 : Nat))) (V.own (400078 : Nat)) [((11 : Nat), none), ((400078 : Nat), some (Ob.row (35 : Nat) (2 : Nat) (k + (1 : Nat)) (appRow k (fun (k : Nat) => [V.i (Prod.fst (gp l k) + b), V.i (Prod.snd (gp l k) + b)]) fun (i : Nat) => List.take (2 : Nat) (List.drop (i * (2 : Nat)) [V.i (Prod.fst (gp l k) + b), V.i (Prod.snd (gp l k) + b)]))))] false, pv (11 : Nat) (V.own (400078 : Nat))] (by kernel_rfl) (by kernel_rfl) ⟨(by omega), (by omega), (by omega), (by omega), (by omega), (by omega), (by omega), True.intro⟩ ?_
    refine aops_nil ⟨by kernel_rfl, ?_⟩
    refine xb_n ?_
    refine xt_n ?_
    refine hK _ ?_
    clear hK K
    refine w_le (le_shut 9 200042 (e := (35 : Nat)) (sz := (2 : Nat)) (n := (1 : Nat) + k) (n' := (k + 1)) (row := appRow (1 : Nat) (fun (i : Nat) => List.take (2 : Nat) (List.drop (i * (2 : Nat)) [V.i (Prod.fst (gp l k)), V.i (Prod.snd (gp l k))])) fun (i : Nat) => [V.i (Prod.fst (gp (List.reverse (List.take k l)) i)), V.i (Prod.snd (gp (List.reverse (List.take k l)) i))]) (row' := (fun i => [.i (gp (l.take (k + 1)).reverse i).1, .i (gp (l.take (k + 1)).reverse i).2])) (by kernel_rfl) (by kernel_rfl) (fun _ _ => by repeat' (first | rfl | apply V.idfL_appRow | apply V.idfL_take | apply V.idfL_drop)) ?_ ?_) ?_
    · omega
    · intro i hi
      rw [rev_take h1 i (by omega)]
      by_cases h0 : i = 0
      · subst h0; rfl
      · rw [if_neg h0]
        show appRow _ _ _ _ = _
        rw [appRow, if_neg (by omega)]
    refine w_region (n' := 6) (by kernel_rfl) (by kernel_rfl) ?_
    refine aops_n hTT (M := []) (n := 3) [pv (34 : Nat) (V.i (↑k : Int)), pc (35 : Nat) ((-9223372036854775808 : Int) ≤ (↑k : Int) + (1 : Int) ∧ (↑k : Int) + (1 : Int) ≤ (9223372036854775807 : Int)) (V.i ((↑k : Int) + (1 : Int))), pv (12 : Nat) (V.i ((↑k : Int) + (1 : Int)))] (by kernel_rfl) (by kernel_rfl) ⟨(by omega), True.intro⟩ ?_
    refine aops_nil ?_
    refine xt_n ?_
    refine ⟨k + 1, by omega, ?_, by omega⟩
    refine le_ren (tl := [(1, V.sl (2 : Nat) (List.length l) fun (k : Nat) => [V.i (Prod.fst (gp l k)), V.i (Prod.snd (gp l k))]), (2, V.i per), (3, V.c (Value.int IntKind.i16 b)), (4, V.ptr [V.i (Cut.half c), V.i (Cut.gain c), V.i (Cut.thin c), V.i (Cut.wide c), V.i (Cut.slope c), V.i (Cut.jerk c), V.i (Cut.sty c)]), (9, V.sl (2 : Nat) (k + (1 : Nat)) fun (i : Nat) => [V.i (Prod.fst (gp (List.reverse (List.take (k + (1 : Nat)) l)) i)), V.i (Prod.snd (gp (List.reverse (List.take (k + (1 : Nat)) l)) i))]), (10, V.own (10 : Nat)), (11, V.own (11 : Nat)), (12, V.i (↑(k + (1 : Nat)) : Int))]) (sl := [(10, Ob.row (35 : Nat) (2 : Nat) (k + (1 : Nat)) fun (k : Nat) => [V.i (-Prod.snd (gp l k)), V.i (-Prod.fst (gp l k))]), (11, Ob.row (35 : Nat) (2 : Nat) (k + (1 : Nat)) fun (k : Nat) => [V.i (Prod.fst (gp l k) + b), V.i (Prod.snd (gp l k) + b)])]) [(10, 300058), (11, 400078)] (.cons (by kernel_rfl) (.cons (by kernel_rfl) (.cons (by kernel_rfl) (.cons (by kernel_rfl) (.cons (by kernel_rfl) (.cons (by kernel_rfl) (.cons (by kernel_rfl) (.cons (by kernel_rfl) .nil)))))))) (.cons ⟨Ob.row (35 : Nat) (2 : Nat) (k + (1 : Nat)) (appRow k (fun (k : Nat) => [V.i (-Prod.snd (gp l k)), V.i (-Prod.fst (gp l k))]) fun (i : Nat) => List.take (2 : Nat) (List.drop (i * (2 : Nat)) [V.i (-Prod.snd (gp l k)), V.i (-Prod.fst (gp l k))])), (by kernel_rfl), .row (by kernel_rfl) ?_⟩ (.cons ⟨Ob.row (35 : Nat) (2 : Nat) (k + (1 : Nat)) (appRow k (fun (k : Nat) => [V.i (Prod.fst (gp l k) + b), V.i (Prod.snd (gp l k) + b)]) fun (i : Nat) => List.take (2 : Nat) (List.drop (i * (2 : Nat)) [V.i (Prod.fst (gp l k) + b), V.i (Prod.snd (gp l k) + b)])), (by kernel_rfl), .row (by kernel_rfl) ?_⟩ .nil)) (by kernel_rfl) (by kernel_rfl)
    · exact appRow_p rfl rfl rfl
    · exact appRow_p rfl rfl rfl
  have hk2 : k = l.length := by simp at d1; omega
  subst hk2
  have er : gChk l.reverse = 0 := gChk_ext (by simp) (fun h i hi => by rw [List.length_reverse] at hi; rw [gp_rev hi]; exact h _ (by omega)) hk
  have em : gChk (mirL l) = 0 := gChk_ext (by simp) (fun h i hi => by
    rw [List.length_map] at hi
    rw [gp_map hi, gE_iff]
    have := gE_iff.1 (h i hi)
    simp only; omega) hk
  obtain ⟨F, hF1⟩ := fstOk_ex c l per
  have er' := gErr_same (c := c) (hk.trans er.symm)
  have em' := gErr_same (c := c) (hk.trans em.symm)
  have A1 := Least_ac c l per F hl hF1
  have A2 := Least_ac c l.reverse per F (by simpa using hl) (fstOk_alike (alike_rev l) er' hF1)
  have A3 := Least_ac c (mirL l) per F (by simpa using hl) (fstOk_alike (alike_mirror l) em' hF1)
  rw [leastR_same er'] at A2
  rw [leastR_same em'] at A3
  refine aw_exit ?_
  refine xt_x ?_
  refine xt_x ?_
  refine xb_same ?_
  refine xt_n ?_
  clear hK K
  refine hK _ ?_
  clear hK K
  refine aw_seq_k fun K hK => ?_
  refine w_le (le_shut 10 10 (e := (35 : Nat)) (sz := (2 : Nat)) (n := List.length l) (n' := (mirL l).length) (row := fun (k : Nat) => [V.i (-Prod.snd (gp l k)), V.i (-Prod.fst (gp l k))]) (row' := (fun j => [.i (gp (mirL l) j).1, .i (gp (mirL l) j).2])) (by kernel_rfl) (by kernel_rfl) (fun _ _ => rfl) ?_ ?_) ?_
  · simp
  · intro i hi
    rw [gp_map hi]
  refine w_le (le_shut 11 11 (e := (35 : Nat)) (sz := (2 : Nat)) (n := List.length l) (n' := (movL l b).length) (row := fun (k : Nat) => [V.i (Prod.fst (gp l k) + b), V.i (Prod.snd (gp l k) + b)]) (row' := (fun j => [.i (gp (movL l b) j).1, .i (gp (movL l b) j).2])) (by kernel_rfl) (by kernel_rfl) (fun _ _ => rfl) ?_ ?_) ?_
  · simp
  · intro i hi
    rw [gp_map hi]
  refine w_region (n' := 3) (by kernel_rfl) (by kernel_rfl) ?_
  refine aops_n hTT (M := []) (n := 3) [pv (80 : Nat) (V.agg [V.i (Cut.half c), V.i (Cut.gain c), V.i (Cut.thin c), V.i (Cut.wide c), V.i (Cut.slope c), V.i (Cut.jerk c), V.i (Cut.sty c)]), pv (81 : Nat) (V.sl (2 : Nat) (List.length l) fun (k : Nat) => [V.i (Prod.fst (gp l k)), V.i (Prod.snd (gp l k))]), pv (82 : Nat) (V.i per)] (by kernel_rfl) (by kernel_rfl) True.intro ?_
  refine e_call (first := []) (caps := []) (A1) (by kernel_rfl) (by kernel_rfl) (by kernel_rfl) (by kernel_rfl) (by kernel_rfl) ?_
  refine aops_n hTT (M := []) (n := 5) [pv (79 : Nat) (V.tup [V.i (Prod.fst (leastR c l per F)), V.i (Prod.snd (leastR c l per F))]), pv (84 : Nat) (V.i (Prod.fst (leastR c l per F))), pv (85 : Nat) (V.i (Prod.snd (leastR c l per F))), pv (13 : Nat) (V.i (Prod.fst (leastR c l per F))), pv (14 : Nat) (V.i (Prod.snd (leastR c l per F)))] (by kernel_rfl) (by kernel_rfl) True.intro ?_
  refine aops_nil ?_
  refine xt_n ?_
  refine hK _ ?_
  clear hK K
  refine aw_seq_k fun K hK => ?_
  refine w_region (n' := 4) (by kernel_rfl) (by kernel_rfl) ?_
  refine aops_n hTT (M := []) (n := 3) [pv (87 : Nat) (V.agg [V.i (Cut.half c), V.i (Cut.gain c), V.i (Cut.thin c), V.i (Cut.wide c), V.i (Cut.slope c), V.i (Cut.jerk c), V.i (Cut.sty c)]), pv (88 : Nat) (V.sl (2 : Nat) (List.length l) fun (i : Nat) => [V.i (Prod.fst (gp (List.reverse (List.take (List.length l) l)) i)), V.i (Prod.snd (gp (List.reverse (List.take (List.length l) l)) i))]), pv (89 : Nat) (V.i per)] (by kernel_rfl) (by kernel_rfl) True.intro ?_
  refine e_call (first := []) (caps := []) (AC.conv (A2) (args' := [V.agg [V.i (Cut.half c), V.i (Cut.gain c), V.i (Cut.thin c), V.i (Cut.wide c), V.i (Cut.slope c), V.i (Cut.jerk c), V.i (Cut.sty c)], V.sl (2 : Nat) (List.length l) fun (i : Nat) => [V.i (Prod.fst (gp (List.reverse (List.take (List.length l) l)) i)), V.i (Prod.snd (gp (List.reverse (List.take (List.length l) l)) i))], V.i per]) ⟨RImp.refl _, ?_, RImp.refl _, trivial⟩) (by kernel_rfl) (by kernel_rfl) (by kernel_rfl) (by kernel_rfl) (by kernel_rfl) ?_
  · exact RImp.rows (by simp) fun i hi => by rw [List.take_length]
  refine aops_n hTT (M := []) (n := 5) [pv (86 : Nat) (V.tup [V.i (Prod.fst (leastR c l per F)), V.i (Prod.snd (leastR c l per F))]), pv (91 : Nat) (V.i (Prod.fst (leastR c l per F))), pv (92 : Nat) (V.i (Prod.snd (leastR c l per F))), pv (15 : Nat) (V.i (Prod.fst (leastR c l per F))), pv (16 : Nat) (V.i (Prod.snd (leastR c l per F)))] (by kernel_rfl) (by kernel_rfl) True.intro ?_
  refine aops_nil ?_
  refine xt_n ?_
  refine hK _ ?_
  clear hK K
  refine aw_seq_k fun K hK => ?_
  refine w_region (n' := 5) (by kernel_rfl) (by kernel_rfl) ?_
  refine aops_n hTT (M := []) (n := 3) [pv (94 : Nat) (V.agg [V.i (Cut.half c), V.i (Cut.gain c), V.i (Cut.thin c), V.i (Cut.wide c), V.i (Cut.slope c), V.i (Cut.jerk c), V.i (Cut.sty c)]), pv (95 : Nat) (V.sl (2 : Nat) (List.length (mirL l)) fun (j : Nat) => [V.i (Prod.fst (gp (mirL l) j)), V.i (Prod.snd (gp (mirL l) j))]), pv (96 : Nat) (V.i per)] (by kernel_rfl) (by kernel_rfl) True.intro ?_
  refine e_call (first := []) (caps := []) (A3) (by kernel_rfl) (by kernel_rfl) (by kernel_rfl) (by kernel_rfl) (by kernel_rfl) ?_
  refine aops_n hTT (M := []) (n := 5) [pv (93 : Nat) (V.tup [V.i (Prod.fst (leastR c l per F)), V.i (Prod.snd (leastR c l per F))]), pv (98 : Nat) (V.i (Prod.fst (leastR c l per F))), pv (99 : Nat) (V.i (Prod.snd (leastR c l per F))), pv (17 : Nat) (V.i (Prod.fst (leastR c l per F))), pv (18 : Nat) (V.i (Prod.snd (leastR c l per F)))] (by kernel_rfl) (by kernel_rfl) True.intro ?_
  refine aops_nil ?_
  refine xt_n ?_
  refine hK _ ?_
  clear hK K
  refine aw_seq_k fun K hK => ?_
  refine aw_seq_k fun K hK => ?_
  refine w_region (n' := 6) (by kernel_rfl) (by kernel_rfl) ?_
  refine aops_n hTT (M := []) (n := 18) [pv (100 : Nat) (V.i (Prod.fst (leastR c l per F))), pv (101 : Nat) (V.i (Prod.fst (leastR c l per F))), pv (102 : Nat) (V.b !decide (Prod.fst (leastR c l per F) = Prod.fst (leastR c l per F))), pv (103 : Nat) (V.b !decide (Prod.fst (leastR c l per F) = Prod.fst (leastR c l per F))), pc (104 : Nat) ((True ∧ True) ∧ (((!decide (Prod.fst (leastR c l per F) = Prod.fst (leastR c l per F))) == false) = true → True)) (V.gd ((!decide (Prod.fst (leastR c l per F) = Prod.fst (leastR c l per F))) == false) (V.i (Prod.fst (leastR c l per F)))), pc (105 : Nat) ((True ∧ True) ∧ (((!decide (Prod.fst (leastR c l per F) = Prod.fst (leastR c l per F))) == false) = true → True)) (V.gd ((!decide (Prod.fst (leastR c l per F) = Prod.fst (leastR c l per F))) == false) (V.i (Prod.fst (leastR c l per F)))), pc (106 : Nat) (((((!decide (Prod.fst (leastR c l per F) = Prod.fst (leastR c l per F))) == false) = true → ((!decide (Prod.fst (leastR c l per F) = Prod.fst (leastR c l per F))) == false) = true) ∧ (((!decide (Prod.fst (leastR c l per F) = Prod.fst (leastR c l per F))) == false) = true → ((!decide (Prod.fst (leastR c l per F) = Prod.fst (leastR c l per F))) == false) = true) ∧ True) ∧ (((!decide (Prod.fst (leastR c l per F) = Prod.fst (leastR c l per F))) == false) = true → True)) (V.gd ((!decide (Prod.fst (leastR c l per F) = Prod.fst (leastR c l per F))) == false) (V.b !decide (Prod.fst (leastR c l per F) = Prod.fst (leastR c l per F)))), pc (107 : Nat) (True ∧ ((!decide (Prod.fst (leastR c l per F) = Prod.fst (leastR c l per F))) = false → ((!decide (Prod.fst (leastR c l per F) = Prod.fst (leastR c l per F))) == false) = true)) (V.b (!decide (Prod.fst (leastR c l per F) = Prod.fst (leastR c l per F)) || !decide (Prod.fst (leastR c l per F) = Prod.fst (leastR c l per F)))), pv (108 : Nat) (V.b (!decide (Prod.fst (leastR c l per F) = Prod.fst (leastR c l per F)) || !decide (Prod.fst (leastR c l per F) = Prod.fst (leastR c l per F)))), pc (109 : Nat) ((True ∧ True) ∧ (((!decide (Prod.fst (leastR c l per F) = Prod.fst (leastR c l per F)) || !decide (Prod.fst (leastR c l per F) = Prod.fst (leastR c l per F))) == false) = true → True)) (V.gd ((!decide (Prod.fst (leastR c l per F) = Prod.fst (leastR c l per F)) || !decide (Prod.fst (leastR c l per F) = Prod.fst (leastR c l per F))) == false) (V.i (Prod.snd (leastR c l per F)))), pc (110 : Nat) ((True ∧ True) ∧ (((!decide (Prod.fst (leastR c l per F) = Prod.fst (leastR c l per F)) || !decide (Prod.fst (leastR c l per F) = Prod.fst (leastR c l per F))) == false) = true → True)) (V.gd ((!decide (Prod.fst (leastR c l per F) = Prod.fst (leastR c l per F)) || !decide (Prod.fst (leastR c l per F) = Prod.fst (leastR c l per F))) == false) (V.i (Prod.snd (leastR c l per F)))), pc (111 : Nat) (((((!decide (Prod.fst (leastR c l per F) = Prod.fst (leastR c l per F)) || !decide (Prod.fst (leastR c l per F) = Prod.fst (leastR c l per F))) == false) = true → ((!decide (Prod.fst (leastR c l per F) = Prod.fst (leastR c l per F)) || !decide (Prod.fst (leastR c l per F) = Prod.fst (leastR c l per F))) == false) = true) ∧ (((!decide (Prod.fst (leastR c l per F) = Prod.fst (leastR c l per F)) || !decide (Prod.fst (leastR c l per F) = Prod.fst (leastR c l per F))) == false) = true → ((!decide (Prod.fst (leastR c l per F) = Prod.fst (leastR c l per F)) || !decide (Prod.fst (leastR c l per F) = Prod.fst (leastR c l per F))) == false) = true) ∧ True) ∧ (((!decide (Prod.fst (leastR c l per F) = Prod.fst (leastR c l per F)) || !decide (Prod.fst (leastR c l per F) = Prod.fst (leastR c l per F))) == false) = true → True)) (V.gd ((!decide (Prod.fst (leastR c l per F) = Prod.fst (leastR c l per F)) || !decide (Prod.fst (leastR c l per F) = Prod.fst (leastR c l per F))) == false) (V.b !decide (Prod.snd (leastR c l per F) = Prod.snd (leastR c l per F)))), pc (112 : Nat) (True ∧ ((!decide (Prod.fst (leastR c l per F) = Prod.fst (leastR c l per F)) || !decide (Prod.fst (leastR c l per F) = Prod.fst (leastR c l per F))) = false → ((!decide (Prod.fst (leastR c l per F) = Prod.fst (leastR c l per F)) || !decide (Prod.fst (leastR c l per F) = Prod.fst (leastR c l per F))) == false) = true)) (V.b (!decide (Prod.fst (leastR c l per F) = Prod.fst (leastR c l per F)) || !decide (Prod.fst (leastR c l per F) = Prod.fst (leastR c l per F)) || !decide (Prod.snd (leastR c l per F) = Prod.snd (leastR c l per F)))), pv (113 : Nat) (V.b (!decide (Prod.fst (leastR c l per F) = Prod.fst (leastR c l per F)) || !decide (Prod.fst (leastR c l per F) = Prod.fst (leastR c l per F)) || !decide (Prod.snd (leastR c l per F) = Prod.snd (leastR c l per F)))), pc (114 : Nat) ((True ∧ True) ∧ (((!decide (Prod.fst (leastR c l per F) = Prod.fst (leastR c l per F)) || !decide (Prod.fst (leastR c l per F) = Prod.fst (leastR c l per F)) || !decide (Prod.snd (leastR c l per F) = Prod.snd (leastR c l per F))) == false) = true → True)) (V.gd ((!decide (Prod.fst (leastR c l per F) = Prod.fst (leastR c l per F)) || !decide (Prod.fst (leastR c l per F) = Prod.fst (leastR c l per F)) || !decide (Prod.snd (leastR c l per F) = Prod.snd (leastR c l per F))) == false) (V.i (Prod.snd (leastR c l per F)))), pc (115 : Nat) ((True ∧ True) ∧ (((!decide (Prod.fst (leastR c l per F) = Prod.fst (leastR c l per F)) || !decide (Prod.fst (leastR c l per F) = Prod.fst (leastR c l per F)) || !decide (Prod.snd (leastR c l per F) = Prod.snd (leastR c l per F))) == false) = true → True)) (V.gd ((!decide (Prod.fst (leastR c l per F) = Prod.fst (leastR c l per F)) || !decide (Prod.fst (leastR c l per F) = Prod.fst (leastR c l per F)) || !decide (Prod.snd (leastR c l per F) = Prod.snd (leastR c l per F))) == false) (V.i (Prod.snd (leastR c l per F)))), pc (116 : Nat) (((((!decide (Prod.fst (leastR c l per F) = Prod.fst (leastR c l per F)) || !decide (Prod.fst (leastR c l per F) = Prod.fst (leastR c l per F)) || !decide (Prod.snd (leastR c l per F) = Prod.snd (leastR c l per F))) == false) = true → ((!decide (Prod.fst (leastR c l per F) = Prod.fst (leastR c l per F)) || !decide (Prod.fst (leastR c l per F) = Prod.fst (leastR c l per F)) || !decide (Prod.snd (leastR c l per F) = Prod.snd (leastR c l per F))) == false) = true) ∧ (((!decide (Prod.fst (leastR c l per F) = Prod.fst (leastR c l per F)) || !decide (Prod.fst (leastR c l per F) = Prod.fst (leastR c l per F)) || !decide (Prod.snd (leastR c l per F) = Prod.snd (leastR c l per F))) == false) = true → ((!decide (Prod.fst (leastR c l per F) = Prod.fst (leastR c l per F)) || !decide (Prod.fst (leastR c l per F) = Prod.fst (leastR c l per F)) || !decide (Prod.snd (leastR c l per F) = Prod.snd (leastR c l per F))) == false) = true) ∧ True) ∧ (((!decide (Prod.fst (leastR c l per F) = Prod.fst (leastR c l per F)) || !decide (Prod.fst (leastR c l per F) = Prod.fst (leastR c l per F)) || !decide (Prod.snd (leastR c l per F) = Prod.snd (leastR c l per F))) == false) = true → True)) (V.gd ((!decide (Prod.fst (leastR c l per F) = Prod.fst (leastR c l per F)) || !decide (Prod.fst (leastR c l per F) = Prod.fst (leastR c l per F)) || !decide (Prod.snd (leastR c l per F) = Prod.snd (leastR c l per F))) == false) (V.b !decide (Prod.snd (leastR c l per F) = Prod.snd (leastR c l per F)))), pc (117 : Nat) (True ∧ ((!decide (Prod.fst (leastR c l per F) = Prod.fst (leastR c l per F)) || !decide (Prod.fst (leastR c l per F) = Prod.fst (leastR c l per F)) || !decide (Prod.snd (leastR c l per F) = Prod.snd (leastR c l per F))) = false → ((!decide (Prod.fst (leastR c l per F) = Prod.fst (leastR c l per F)) || !decide (Prod.fst (leastR c l per F) = Prod.fst (leastR c l per F)) || !decide (Prod.snd (leastR c l per F) = Prod.snd (leastR c l per F))) == false) = true)) (V.b (!decide (Prod.fst (leastR c l per F) = Prod.fst (leastR c l per F)) || !decide (Prod.fst (leastR c l per F) = Prod.fst (leastR c l per F)) || !decide (Prod.snd (leastR c l per F) = Prod.snd (leastR c l per F)) || !decide (Prod.snd (leastR c l per F) = Prod.snd (leastR c l per F))))] (by kernel_rfl) (by kernel_rfl) ⟨⟨⟨True.intro, True.intro⟩, (fun _ => True.intro)⟩, ⟨⟨True.intro, True.intro⟩, (fun _ => True.intro)⟩, ⟨⟨(by (exact fun h => h)), ⟨(by (exact fun h => h)), True.intro⟩⟩, (fun _ => True.intro)⟩, ⟨True.intro, (by (intro h; rw [h]; rfl))⟩, ⟨⟨True.intro, True.intro⟩, (fun _ => True.intro)⟩, ⟨⟨True.intro, True.intro⟩, (fun _ => True.intro)⟩, ⟨⟨(by (exact fun h => h)), ⟨(by (exact fun h => h)), True.intro⟩⟩, (fun _ => True.intro)⟩, ⟨True.intro, (by (intro h; rw [h]; rfl))⟩, ⟨⟨True.intro, True.intro⟩, (fun _ => True.intro)⟩, ⟨⟨True.intro, True.intro⟩, (fun _ => True.intro)⟩, ⟨⟨(by (exact fun h => h)), ⟨(by (exact fun h => h)), True.intro⟩⟩, (fun _ => True.intro)⟩, ⟨True.intro, (by (intro h; rw [h]; rfl))⟩, True.intro⟩ ?_
  refine aops_nil ?_
  refine xt_n ?_
  refine hK _ ?_
  clear hK K
  refine w_cond (t := !decide (Prod.fst (leastR c l per F) = Prod.fst (leastR c l per F)) || !decide (Prod.fst (leastR c l per F) = Prod.fst (leastR c l per F)) || !decide (Prod.snd (leastR c l per F) = Prod.snd (leastR c l per F)) || !decide (Prod.snd (leastR c l per F) = Prod.snd (leastR c l per F))) (by kernel_rfl) (fun d2 => ?_) (fun d2 => ?_)
  · exfalso
    simp at d2
  refine aw_skip ?_
  refine xt_n ?_
  refine hK _ ?_
  clear hK K
  refine aw_seq_k fun K hK => ?_
  refine aw_seq_k fun K hK => ?_
  refine w_region (n' := 7) (by kernel_rfl) (by kernel_rfl) ?_
  refine aops_n hTT (M := []) (n := 1) [pv (118 : Nat) (V.sl (2 : Nat) (List.length (movL l b)) fun (j : Nat) => [V.i (Prod.fst (gp (movL l b) j)), V.i (Prod.snd (gp (movL l b) j))])] (by kernel_rfl) (by kernel_rfl) True.intro ?_
  refine e_call (first := []) (caps := []) (refCheckPoints_ac (movL l b) (by simpa using hl)) (by kernel_rfl) (by kernel_rfl) (by kernel_rfl) (by kernel_rfl) (by kernel_rfl) ?_
  refine aops_n hTT (M := []) (n := 1) [pv (120 : Nat) (V.b !decide (gChk (movL l b) = (0 : Int)))] (by kernel_rfl) (by kernel_rfl) True.intro ?_
  refine aops_nil ?_
  refine xt_n ?_
  refine hK _ ?_
  clear hK K
  refine w_cond (t := !decide (gChk (movL l b) = (0 : Int))) (by kernel_rfl) (fun d3 => ?_) (fun d3 => ?_)
  · refine aw_seq_k fun K hK => ?_
    refine w_region (n' := 8) (by kernel_rfl) (by kernel_rfl) ?_
    refine e_call (first := []) (caps := []) (gWorks_ac) (by kernel_rfl) (by kernel_rfl) (by kernel_rfl) (by kernel_rfl) (by kernel_rfl) ?_
    refine aops_n hTT (M := []) (n := 1) [pv (8 : Nat) (V.b true)] (by kernel_rfl) (by kernel_rfl) True.intro ?_
    refine aops_nil ?_
    refine xt_n ?_
    refine hK _ ?_
    clear hK K
    refine aw_ret ?_
    refine xt_r ?_
    refine ret_pure (v' := V.b true) (.inr rfl) (by kernel_rfl) (by kernel_rfl) (by kernel_rfl)
  have ev : gChk (movL l b) = 0 := by simpa using d3
  have ev' := gErr_same (c := c) (hk.trans ev.symm)
  have A4 := Least_ac c (movL l b) per F (by simpa using hl) (fstOk_alike (alike_moved l b) ev' hF1)
  rw [leastR_same ev'] at A4
  refine aw_skip ?_
  refine xt_n ?_
  refine hK _ ?_
  clear hK K
  refine aw_seq_k fun K hK => ?_
  refine w_region (n' := 8) (by kernel_rfl) (by kernel_rfl) ?_
  refine aops_n hTT (M := []) (n := 3) [pv (123 : Nat) (V.agg [V.i (Cut.half c), V.i (Cut.gain c), V.i (Cut.thin c), V.i (Cut.wide c), V.i (Cut.slope c), V.i (Cut.jerk c), V.i (Cut.sty c)]), pv (124 : Nat) (V.sl (2 : Nat) (List.length (movL l b)) fun (j : Nat) => [V.i (Prod.fst (gp (movL l b) j)), V.i (Prod.snd (gp (movL l b) j))]), pv (125 : Nat) (V.i per)] (by kernel_rfl) (by kernel_rfl) True.intro ?_
  refine e_call (first := []) (caps := []) (A4) (by kernel_rfl) (by kernel_rfl) (by kernel_rfl) (by kernel_rfl) (by kernel_rfl) ?_
  refine aops_n hTT (M := []) (n := 5) [pv (122 : Nat) (V.tup [V.i (Prod.fst (leastR c l per F)), V.i (Prod.snd (leastR c l per F))]), pv (127 : Nat) (V.i (Prod.fst (leastR c l per F))), pv (128 : Nat) (V.i (Prod.snd (leastR c l per F))), pv (19 : Nat) (V.i (Prod.fst (leastR c l per F))), pv (20 : Nat) (V.i (Prod.snd (leastR c l per F)))] (by kernel_rfl) (by kernel_rfl) True.intro ?_
  refine aops_nil ?_
  refine xt_n ?_
  refine hK _ ?_
  clear hK K
  refine aw_seq_k fun K hK => ?_
  refine w_region (n' := 9) (by kernel_rfl) (by kernel_rfl) ?_
  refine aops_n hTT (M := []) (n := 9) [pv (129 : Nat) (V.i (Prod.fst (leastR c l per F))), pv (130 : Nat) (V.i (Prod.fst (leastR c l per F))), pv (131 : Nat) (V.b (decide (Prod.fst (leastR c l per F) = Prod.fst (leastR c l per F)))), pv (132 : Nat) (V.b (decide (Prod.fst (leastR c l per F) = Prod.fst (leastR c l per F)))), pc (133 : Nat) ((True ∧ True) ∧ ((decide (Prod.fst (leastR c l per F) = Prod.fst (leastR c l per F)) == true) = true → True)) (V.gd (decide (Prod.fst (leastR c l per F) = Prod.fst (leastR c l per F)) == true) (V.i (Prod.snd (leastR c l per F)))), pc (134 : Nat) ((True ∧ True) ∧ ((decide (Prod.fst (leastR c l per F) = Prod.fst (leastR c l per F)) == true) = true → True)) (V.gd (decide (Prod.fst (leastR c l per F) = Prod.fst (leastR c l per F)) == true) (V.i (Prod.snd (leastR c l per F)))), pc (135 : Nat) ((((decide (Prod.fst (leastR c l per F) = Prod.fst (leastR c l per F)) == true) = true → (decide (Prod.fst (leastR c l per F) = Prod.fst (leastR c l per F)) == true) = true) ∧ ((decide (Prod.fst (leastR c l per F) = Prod.fst (leastR c l per F)) == true) = true → (decide (Prod.fst (leastR c l per F) = Prod.fst (leastR c l per F)) == true) = true) ∧ True) ∧ ((decide (Prod.fst (leastR c l per F) = Prod.fst (leastR c l per F)) == true) = true → True)) (V.gd (decide (Prod.fst (leastR c l per F) = Prod.fst (leastR c l per F)) == true) (V.b (decide (Prod.snd (leastR c l per F) = Prod.snd (leastR c l per F))))), pc (136 : Nat) ((decide (Prod.fst (leastR c l per F) = Prod.fst (leastR c l per F)) = true → (decide (Prod.fst (leastR c l per F) = Prod.fst (leastR c l per F)) == true) = true) ∧ True) (V.b (decide (Prod.fst (leastR c l per F) = Prod.fst (leastR c l per F)) && decide (Prod.snd (leastR c l per F) = Prod.snd (leastR c l per F)))), pv (137 : Nat) (V.b (decide (Prod.fst (leastR c l per F) = Prod.fst (leastR c l per F)) && decide (Prod.snd (leastR c l per F) = Prod.snd (leastR c l per F))))] (by kernel_rfl) (by kernel_rfl) ⟨⟨⟨True.intro, True.intro⟩, (fun _ => True.intro)⟩, ⟨⟨True.intro, True.intro⟩, (fun _ => True.intro)⟩, ⟨⟨(by (exact fun h => h)), ⟨(by (exact fun h => h)), True.intro⟩⟩, (fun _ => True.intro)⟩, ⟨(by (intro h; rw [h]; rfl)), True.intro⟩, True.intro⟩ ?_
  refine e_callG 0 (g := (decide (Prod.fst (leastR c l per F) = Prod.fst (leastR c l per F)) && decide (Prod.snd (leastR c l per F) = Prod.snd (leastR c l per F))) == true) (first := []) (caps := []) (by kernel_rfl) (fun h => gWorks_ac) (by kernel_rfl) (by kernel_rfl) (by kernel_rfl) (by kernel_rfl) (by kernel_rfl) (by kernel_rfl) ?_
  refine aops_n hTT (M := []) (n := 2) [pc (139 : Nat) (((decide (Prod.fst (leastR c l per F) = Prod.fst (leastR c l per F)) && decide (Prod.snd (leastR c l per F) = Prod.snd (leastR c l per F))) = true → ((decide (Prod.fst (leastR c l per F) = Prod.fst (leastR c l per F)) && decide (Prod.snd (leastR c l per F) = Prod.snd (leastR c l per F))) == true) = true) ∧ True) (V.b (decide (Prod.fst (leastR c l per F) = Prod.fst (leastR c l per F)) && decide (Prod.snd (leastR c l per F) = Prod.snd (leastR c l per F)) && true)), pv (8 : Nat) (V.b (decide (Prod.fst (leastR c l per F) = Prod.fst (leastR c l per F)) && decide (Prod.snd (leastR c l per F) = Prod.snd (leastR c l per F)) && true))] (by kernel_rfl) (by kernel_rfl) ⟨⟨(by (intro h; rw [h]; rfl)), True.intro⟩, True.intro⟩ ?_
  refine aops_nil ?_
  refine xt_n ?_
  refine hK _ ?_
  clear hK K
  refine aw_ret ?_
  refine ret_pure (v' := V.b (decide (Prod.fst (leastR c l per F) = Prod.fst (leastR c l per F)) && decide (Prod.snd (leastR c l per F) = Prod.snd (leastR c l per F)) && true)) (.inr rfl) (by kernel_rfl) ?_ (by kernel_rfl)
  simp
def gturnedSh : List Sh := [(.fld (.int .i64) (.fld (.int .i64) (.fld (.int .i64) (.fld (.int .i64) (.fld (.int .i64) (.fld (.int .i64) (.lst (.int .i64)))))))), (.sl (.fld (.int .i64) (.lst (.int .i64)))), (.int .i64), (.int .i16)]
theorem gturned_all (x : TL gturnedSh) (hx : wfL gturnedSh x) : AC Try.prog 4 (valL gturnedSh x) (V.b true) [] := by
  obtain ⟨⟨h, g, th, wi, sl, je, st⟩, l, per, b, _⟩ := x
  obtain ⟨_, ⟨h4, _⟩, _, h5, _⟩ := hx
  have h5' : (Lit.int .i16 b).wf = true := h5
  exact gturned_law ⟨h, g, th, wi, sl, je, st⟩ l per b h4 (by simp [Lit.wf, IntKind.min, IntKind.max, IntKind.signed, IntKind.bits] at h5'; omega)
end Go.Proofs.Ytjjlgegccfolpaa
