/-
  GrooveRadii: the walk of the law. No condition.
-/
import Derived.Test.YtjjlgegccfolpaaGA11
import Derived.Test.YtjjlgegccfolpaaMC
namespace Go.Proofs.Ytjjlgegccfolpaa
open Go.Ab Go.RowKit Go.Dw Go.Shelf

theorem wf_inR {x : Int} (h : (Lit.int .i64 x).wf = true) : inR .i64 x := by
  have := wf_i64 h
  simp only [inR]
  omega
set_option maxRecDepth 100000 in
theorem radii_law (c : Cut) (l : List Pt) (per i : Int) (hl : l.length ≤ 4611686018427387904) (hi : inR .i64 i) : AC Try.prog 7 [c.v, V.pts l, .i per, .i i] (.b true) [] := by
  obtain ⟨F, hF1⟩ := fstOk_ex c l per
  obtain ⟨G, hG1⟩ := nstOk_ex c l per i
  refine ac_intro hTT hMX (fn := Try.f7) (N := _) ⟨Try.func7, rfl, Try.ntmps7, by kernel_rfl⟩ (by simp) fun C hC hF => ?_
  refine aw_seq_k fun K hK => ?_
  refine w_region (n' := 2) (by kernel_rfl) (by kernel_rfl) ?_
  refine aops_n hTT (M := []) (n := 2) [pv (4 : Nat) (V.ptr [V.i (Cut.half c), V.i (Cut.gain c), V.i (Cut.thin c), V.i (Cut.wide c), V.i (Cut.slope c), V.i (Cut.jerk c), V.i (Cut.sty c)]), pv (8 : Nat) (V.b false)] (by kernel_rfl) (by kernel_rfl) True.intro ?_
  refine aops_nil ?_
  refine xt_n ?_
  refine hK _ ?_
  clear hK K
  refine aw_seq_k fun K hK => ?_
  refine aw_seq_k fun K hK => ?_
  refine w_region (n' := 3) (by kernel_rfl) (by kernel_rfl) ?_
  refine aops_n hTT (M := []) (n := 2) [pv (17 : Nat) (V.sl (2 : Nat) (List.length l) fun (k : Nat) => [V.i (Prod.fst (gp l k)), V.i (Prod.snd (gp l k))]), pv (18 : Nat) (V.i (↑(List.length l) : Int))] (by kernel_rfl) (by kernel_rfl) True.intro ?_
  refine e_call (first := []) (caps := []) (gLong_ac l.length) (by kernel_rfl) (by kernel_rfl) (by kernel_rfl) (by kernel_rfl) (by kernel_rfl) ?_
  refine aops_nil ?_
  refine xt_n ?_
  refine hK _ ?_
  clear hK K
  refine w_cond (t := longB (List.length l)) (by kernel_rfl) (fun c1 => ?_) (fun c1 => ?_)
  · refine aw_seq_k fun K hK => ?_
    refine w_region (n' := 4) (by kernel_rfl) (by kernel_rfl) ?_
    refine e_call (first := []) (caps := []) (gWorks_ac) (by kernel_rfl) (by kernel_rfl) (by kernel_rfl) (by kernel_rfl) (by kernel_rfl) ?_
    refine aops_n hTT (M := []) (n := 1) [pv (8 : Nat) (V.b true)] (by kernel_rfl) (by kernel_rfl) True.intro ?_
    refine aops_nil ?_
    refine xt_n ?_
    refine hK _ ?_
    clear hK K
    refine aw_ret ?_
    refine xt_r ?_
    refine ret_pure (v' := V.b true) (.inr rfl) (by kernel_rfl) (by kernel_rfl) (by kernel_rfl)
  refine aw_skip ?_
  refine xt_n ?_
  refine hK _ ?_
  clear hK K
  refine aw_seq_k fun K hK => ?_
  refine w_region (n' := 4) (by kernel_rfl) (by kernel_rfl) ?_
  refine aops_n hTT (M := []) (n := 3) [pv (22 : Nat) (V.agg [V.i (Cut.half c), V.i (Cut.gain c), V.i (Cut.thin c), V.i (Cut.wide c), V.i (Cut.slope c), V.i (Cut.jerk c), V.i (Cut.sty c)]), pv (23 : Nat) (V.sl (2 : Nat) (List.length l) fun (k : Nat) => [V.i (Prod.fst (gp l k)), V.i (Prod.snd (gp l k))]), pv (24 : Nat) (V.i per)] (by kernel_rfl) (by kernel_rfl) True.intro ?_
  refine e_call (first := []) (caps := []) (Least_ac c l per F hl hF1) (by kernel_rfl) (by kernel_rfl) (by kernel_rfl) (by kernel_rfl) (by kernel_rfl) ?_
  refine aops_n hTT (M := []) (n := 5) [pv (21 : Nat) (V.tup [V.i (Prod.fst (leastR c l per F)), V.i (Prod.snd (leastR c l per F))]), pv (26 : Nat) (V.i (Prod.fst (leastR c l per F))), pv (27 : Nat) (V.i (Prod.snd (leastR c l per F))), pv (9 : Nat) (V.i (Prod.fst (leastR c l per F))), pv (10 : Nat) (V.i (Prod.snd (leastR c l per F)))] (by kernel_rfl) (by kernel_rfl) True.intro ?_
  refine aops_nil ?_
  refine xt_n ?_
  refine hK _ ?_
  clear hK K
  refine aw_seq_k fun K hK => ?_
  refine w_region (n' := 5) (by kernel_rfl) (by kernel_rfl) ?_
  refine aops_n hTT (M := []) (n := 3) [pv (29 : Nat) (V.agg [V.i (Cut.half c), V.i (Cut.gain c), V.i (Cut.thin c), V.i (Cut.wide c), V.i (Cut.slope c), V.i (Cut.jerk c), V.i (Cut.sty c)]), pv (30 : Nat) (V.sl (2 : Nat) (List.length l) fun (k : Nat) => [V.i (Prod.fst (gp l k)), V.i (Prod.snd (gp l k))]), pv (31 : Nat) (V.i per)] (by kernel_rfl) (by kernel_rfl) True.intro ?_
  refine e_call (first := []) (caps := []) (refLeast_ac c l per F hl hF1) (by kernel_rfl) (by kernel_rfl) (by kernel_rfl) (by kernel_rfl) (by kernel_rfl) ?_
  refine aops_n hTT (M := []) (n := 5) [pv (28 : Nat) (V.tup [V.i (Prod.fst (leastR c l per F)), V.i (Prod.snd (leastR c l per F))]), pv (33 : Nat) (V.i (Prod.fst (leastR c l per F))), pv (34 : Nat) (V.i (Prod.snd (leastR c l per F))), pv (11 : Nat) (V.i (Prod.fst (leastR c l per F))), pv (12 : Nat) (V.i (Prod.snd (leastR c l per F)))] (by kernel_rfl) (by kernel_rfl) True.intro ?_
  refine aops_nil ?_
  refine xt_n ?_
  refine hK _ ?_
  clear hK K
  refine aw_seq_k fun K hK => ?_
  refine w_region (n' := 6) (by kernel_rfl) (by kernel_rfl) ?_
  refine aops_n hTT (M := []) (n := 4) [pv (36 : Nat) (V.agg [V.i (Cut.half c), V.i (Cut.gain c), V.i (Cut.thin c), V.i (Cut.wide c), V.i (Cut.slope c), V.i (Cut.jerk c), V.i (Cut.sty c)]), pv (37 : Nat) (V.sl (2 : Nat) (List.length l) fun (k : Nat) => [V.i (Prod.fst (gp l k)), V.i (Prod.snd (gp l k))]), pv (38 : Nat) (V.i per), pv (39 : Nat) (V.i i)] (by kernel_rfl) (by kernel_rfl) True.intro ?_
  refine e_call (first := []) (caps := []) (Needs_ac c l per i G hl hG1) (by kernel_rfl) (by kernel_rfl) (by kernel_rfl) (by kernel_rfl) (by kernel_rfl) ?_
  refine aops_n hTT (M := []) (n := 5) [pv (35 : Nat) (V.tup [V.i (Prod.fst (needsR c l per i G)), V.i (Prod.snd (needsR c l per i G))]), pv (41 : Nat) (V.i (Prod.fst (needsR c l per i G))), pv (42 : Nat) (V.i (Prod.snd (needsR c l per i G))), pv (13 : Nat) (V.i (Prod.fst (needsR c l per i G))), pv (14 : Nat) (V.i (Prod.snd (needsR c l per i G)))] (by kernel_rfl) (by kernel_rfl) True.intro ?_
  refine aops_nil ?_
  refine xt_n ?_
  refine hK _ ?_
  clear hK K
  refine aw_seq_k fun K hK => ?_
  refine w_region (n' := 7) (by kernel_rfl) (by kernel_rfl) ?_
  refine aops_n hTT (M := []) (n := 4) [pv (44 : Nat) (V.agg [V.i (Cut.half c), V.i (Cut.gain c), V.i (Cut.thin c), V.i (Cut.wide c), V.i (Cut.slope c), V.i (Cut.jerk c), V.i (Cut.sty c)]), pv (45 : Nat) (V.sl (2 : Nat) (List.length l) fun (k : Nat) => [V.i (Prod.fst (gp l k)), V.i (Prod.snd (gp l k))]), pv (46 : Nat) (V.i per), pv (47 : Nat) (V.i i)] (by kernel_rfl) (by kernel_rfl) True.intro ?_
  refine e_call (first := []) (caps := []) (refNeeds_ac c l per i G hl hi hG1) (by kernel_rfl) (by kernel_rfl) (by kernel_rfl) (by kernel_rfl) (by kernel_rfl) ?_
  refine aops_n hTT (M := []) (n := 5) [pv (43 : Nat) (V.tup [V.i (Prod.fst (needsR c l per i G)), V.i (Prod.snd (needsR c l per i G))]), pv (49 : Nat) (V.i (Prod.fst (needsR c l per i G))), pv (50 : Nat) (V.i (Prod.snd (needsR c l per i G))), pv (15 : Nat) (V.i (Prod.fst (needsR c l per i G))), pv (16 : Nat) (V.i (Prod.snd (needsR c l per i G)))] (by kernel_rfl) (by kernel_rfl) True.intro ?_
  refine aops_nil ?_
  refine xt_n ?_
  refine hK _ ?_
  clear hK K
  refine aw_seq_k fun K hK => ?_
  refine w_region (n' := 8) (by kernel_rfl) (by kernel_rfl) ?_
  refine aops_n hTT (M := []) (n := 19) [pv (51 : Nat) (V.i (Prod.fst (leastR c l per F))), pv (52 : Nat) (V.i (Prod.fst (leastR c l per F))), pv (53 : Nat) (V.b (decide (Prod.fst (leastR c l per F) = Prod.fst (leastR c l per F)))), pv (54 : Nat) (V.b (decide (Prod.fst (leastR c l per F) = Prod.fst (leastR c l per F)))), pc (55 : Nat) ((True ∧ True) ∧ ((decide (Prod.fst (leastR c l per F) = Prod.fst (leastR c l per F)) == true) = true → True)) (V.gd (decide (Prod.fst (leastR c l per F) = Prod.fst (leastR c l per F)) == true) (V.i (Prod.snd (leastR c l per F)))), pc (56 : Nat) ((True ∧ True) ∧ ((decide (Prod.fst (leastR c l per F) = Prod.fst (leastR c l per F)) == true) = true → True)) (V.gd (decide (Prod.fst (leastR c l per F) = Prod.fst (leastR c l per F)) == true) (V.i (Prod.snd (leastR c l per F)))), pc (57 : Nat) ((((decide (Prod.fst (leastR c l per F) = Prod.fst (leastR c l per F)) == true) = true → (decide (Prod.fst (leastR c l per F) = Prod.fst (leastR c l per F)) == true) = true) ∧ ((decide (Prod.fst (leastR c l per F) = Prod.fst (leastR c l per F)) == true) = true → (decide (Prod.fst (leastR c l per F) = Prod.fst (leastR c l per F)) == true) = true) ∧ True) ∧ ((decide (Prod.fst (leastR c l per F) = Prod.fst (leastR c l per F)) == true) = true → True)) (V.gd (decide (Prod.fst (leastR c l per F) = Prod.fst (leastR c l per F)) == true) (V.b (decide (Prod.snd (leastR c l per F) = Prod.snd (leastR c l per F))))), pc (58 : Nat) ((decide (Prod.fst (leastR c l per F) = Prod.fst (leastR c l per F)) = true → (decide (Prod.fst (leastR c l per F) = Prod.fst (leastR c l per F)) == true) = true) ∧ True) (V.b (decide (Prod.fst (leastR c l per F) = Prod.fst (leastR c l per F)) && decide (Prod.snd (leastR c l per F) = Prod.snd (leastR c l per F)))), pv (59 : Nat) (V.b (decide (Prod.fst (leastR c l per F) = Prod.fst (leastR c l per F)) && decide (Prod.snd (leastR c l per F) = Prod.snd (leastR c l per F)))), pc (60 : Nat) ((True ∧ True) ∧ (((decide (Prod.fst (leastR c l per F) = Prod.fst (leastR c l per F)) && decide (Prod.snd (leastR c l per F) = Prod.snd (leastR c l per F))) == true) = true → True)) (V.gd ((decide (Prod.fst (leastR c l per F) = Prod.fst (leastR c l per F)) && decide (Prod.snd (leastR c l per F) = Prod.snd (leastR c l per F))) == true) (V.i (Prod.fst (needsR c l per i G)))), pc (61 : Nat) ((True ∧ True) ∧ (((decide (Prod.fst (leastR c l per F) = Prod.fst (leastR c l per F)) && decide (Prod.snd (leastR c l per F) = Prod.snd (leastR c l per F))) == true) = true → True)) (V.gd ((decide (Prod.fst (leastR c l per F) = Prod.fst (leastR c l per F)) && decide (Prod.snd (leastR c l per F) = Prod.snd (leastR c l per F))) == true) (V.i (Prod.fst (needsR c l per i G)))), pc (62 : Nat) (((((decide (Prod.fst (leastR c l per F) = Prod.fst (leastR c l per F)) && decide (Prod.snd (leastR c l per F) = Prod.snd (leastR c l per F))) == true) = true → ((decide (Prod.fst (leastR c l per F) = Prod.fst (leastR c l per F)) && decide (Prod.snd (leastR c l per F) = Prod.snd (leastR c l per F))) == true) = true) ∧ (((decide (Prod.fst (leastR c l per F) = Prod.fst (leastR c l per F)) && decide (Prod.snd (leastR c l per F) = Prod.snd (leastR c l per F))) == true) = true → ((decide (Prod.fst (leastR c l per F) = Prod.fst (leastR c l per F)) && decide (Prod.snd (leastR c l per F) = Prod.snd (leastR c l per F))) == true) = true) ∧ True) ∧ (((decide (Prod.fst (leastR c l per F) = Prod.fst (leastR c l per F)) && decide (Prod.snd (leastR c l per F) = Prod.snd (leastR c l per F))) == true) = true → True)) (V.gd ((decide (Prod.fst (leastR c l per F) = Prod.fst (leastR c l per F)) && decide (Prod.snd (leastR c l per F) = Prod.snd (leastR c l per F))) == true) (V.b (decide (Prod.fst (needsR c l per i G) = Prod.fst (needsR c l per i G))))), pc (63 : Nat) (((decide (Prod.fst (leastR c l per F) = Prod.fst (leastR c l per F)) && decide (Prod.snd (leastR c l per F) = Prod.snd (leastR c l per F))) = true → ((decide (Prod.fst (leastR c l per F) = Prod.fst (leastR c l per F)) && decide (Prod.snd (leastR c l per F) = Prod.snd (leastR c l per F))) == true) = true) ∧ True) (V.b (decide (Prod.fst (leastR c l per F) = Prod.fst (leastR c l per F)) && decide (Prod.snd (leastR c l per F) = Prod.snd (leastR c l per F)) && decide (Prod.fst (needsR c l per i G) = Prod.fst (needsR c l per i G)))), pv (64 : Nat) (V.b (decide (Prod.fst (leastR c l per F) = Prod.fst (leastR c l per F)) && decide (Prod.snd (leastR c l per F) = Prod.snd (leastR c l per F)) && decide (Prod.fst (needsR c l per i G) = Prod.fst (needsR c l per i G)))), pc (65 : Nat) ((True ∧ True) ∧ (((decide (Prod.fst (leastR c l per F) = Prod.fst (leastR c l per F)) && decide (Prod.snd (leastR c l per F) = Prod.snd (leastR c l per F)) && decide (Prod.fst (needsR c l per i G) = Prod.fst (needsR c l per i G))) == true) = true → True)) (V.gd ((decide (Prod.fst (leastR c l per F) = Prod.fst (leastR c l per F)) && decide (Prod.snd (leastR c l per F) = Prod.snd (leastR c l per F)) && decide (Prod.fst (needsR c l per i G) = Prod.fst (needsR c l per i G))) == true) (V.i (Prod.snd (needsR c l per i G)))), pc (66 : Nat) ((True ∧ True) ∧ (((decide (Prod.fst (leastR c l per F) = Prod.fst (leastR c l per F)) && decide (Prod.snd (leastR c l per F) = Prod.snd (leastR c l per F)) && decide (Prod.fst (needsR c l per i G) = Prod.fst (needsR c l per i G))) == true) = true → True)) (V.gd ((decide (Prod.fst (leastR c l per F) = Prod.fst (leastR c l per F)) && decide (Prod.snd (leastR c l per F) = Prod.snd (leastR c l per F)) && decide (Prod.fst (needsR c l per i G) = Prod.fst (needsR c l per i G))) == true) (V.i (Prod.snd (needsR c l per i G)))), pc (67 : Nat) (((((decide (Prod.fst (leastR c l per F) = Prod.fst (leastR c l per F)) && decide (Prod.snd (leastR c l per F) = Prod.snd (leastR c l per F)) && decide (Prod.fst (needsR c l per i G) = Prod.fst (needsR c l per i G))) == true) = true → ((decide (Prod.fst (leastR c l per F) = Prod.fst (leastR c l per F)) && decide (Prod.snd (leastR c l per F) = Prod.snd (leastR c l per F)) && decide (Prod.fst (needsR c l per i G) = Prod.fst (needsR c l per i G))) == true) = true) ∧ (((decide (Prod.fst (leastR c l per F) = Prod.fst (leastR c l per F)) && decide (Prod.snd (leastR c l per F) = Prod.snd (leastR c l per F)) && decide (Prod.fst (needsR c l per i G) = Prod.fst (needsR c l per i G))) == true) = true → ((decide (Prod.fst (leastR c l per F) = Prod.fst (leastR c l per F)) && decide (Prod.snd (leastR c l per F) = Prod.snd (leastR c l per F)) && decide (Prod.fst (needsR c l per i G) = Prod.fst (needsR c l per i G))) == true) = true) ∧ True) ∧ (((decide (Prod.fst (leastR c l per F) = Prod.fst (leastR c l per F)) && decide (Prod.snd (leastR c l per F) = Prod.snd (leastR c l per F)) && decide (Prod.fst (needsR c l per i G) = Prod.fst (needsR c l per i G))) == true) = true → True)) (V.gd ((decide (Prod.fst (leastR c l per F) = Prod.fst (leastR c l per F)) && decide (Prod.snd (leastR c l per F) = Prod.snd (leastR c l per F)) && decide (Prod.fst (needsR c l per i G) = Prod.fst (needsR c l per i G))) == true) (V.b (decide (Prod.snd (needsR c l per i G) = Prod.snd (needsR c l per i G))))), pc (68 : Nat) (((decide (Prod.fst (leastR c l per F) = Prod.fst (leastR c l per F)) && decide (Prod.snd (leastR c l per F) = Prod.snd (leastR c l per F)) && decide (Prod.fst (needsR c l per i G) = Prod.fst (needsR c l per i G))) = true → ((decide (Prod.fst (leastR c l per F) = Prod.fst (leastR c l per F)) && decide (Prod.snd (leastR c l per F) = Prod.snd (leastR c l per F)) && decide (Prod.fst (needsR c l per i G) = Prod.fst (needsR c l per i G))) == true) = true) ∧ True) (V.b (decide (Prod.fst (leastR c l per F) = Prod.fst (leastR c l per F)) && decide (Prod.snd (leastR c l per F) = Prod.snd (leastR c l per F)) && decide (Prod.fst (needsR c l per i G) = Prod.fst (needsR c l per i G)) && decide (Prod.snd (needsR c l per i G) = Prod.snd (needsR c l per i G)))), pv (69 : Nat) (V.b (decide (Prod.fst (leastR c l per F) = Prod.fst (leastR c l per F)) && decide (Prod.snd (leastR c l per F) = Prod.snd (leastR c l per F)) && decide (Prod.fst (needsR c l per i G) = Prod.fst (needsR c l per i G)) && decide (Prod.snd (needsR c l per i G) = Prod.snd (needsR c l per i G))))] (by kernel_rfl) (by kernel_rfl) ⟨⟨⟨True.intro, True.intro⟩, (fun _ => True.intro)⟩, ⟨⟨True.intro, True.intro⟩, (fun _ => True.intro)⟩, ⟨⟨(by (exact fun h => h)), ⟨(by (exact fun h => h)), True.intro⟩⟩, (fun _ => True.intro)⟩, ⟨(by (intro h; rw [h]; rfl)), True.intro⟩, ⟨⟨True.intro, True.intro⟩, (fun _ => True.intro)⟩, ⟨⟨True.intro, True.intro⟩, (fun _ => True.intro)⟩, ⟨⟨(by (exact fun h => h)), ⟨(by (exact fun h => h)), True.intro⟩⟩, (fun _ => True.intro)⟩, ⟨(by (intro h; rw [h]; rfl)), True.intro⟩, ⟨⟨True.intro, True.intro⟩, (fun _ => True.intro)⟩, ⟨⟨True.intro, True.intro⟩, (fun _ => True.intro)⟩, ⟨⟨(by (exact fun h => h)), ⟨(by (exact fun h => h)), True.intro⟩⟩, (fun _ => True.intro)⟩, ⟨(by (intro h; rw [h]; rfl)), True.intro⟩, True.intro⟩ ?_
  refine e_callG 0 (g := (decide (Prod.fst (leastR c l per F) = Prod.fst (leastR c l per F)) && decide (Prod.snd (leastR c l per F) = Prod.snd (leastR c l per F)) && decide (Prod.fst (needsR c l per i G) = Prod.fst (needsR c l per i G)) && decide (Prod.snd (needsR c l per i G) = Prod.snd (needsR c l per i G))) == true) (first := []) (caps := []) (by kernel_rfl) (fun h => gWorks_ac) (by kernel_rfl) (by kernel_rfl) (by kernel_rfl) (by kernel_rfl) (by kernel_rfl) (by kernel_rfl) ?_
  refine aops_n hTT (M := []) (n := 2) [pc (71 : Nat) (((decide (Prod.fst (leastR c l per F) = Prod.fst (leastR c l per F)) && decide (Prod.snd (leastR c l per F) = Prod.snd (leastR c l per F)) && decide (Prod.fst (needsR c l per i G) = Prod.fst (needsR c l per i G)) && decide (Prod.snd (needsR c l per i G) = Prod.snd (needsR c l per i G))) = true → ((decide (Prod.fst (leastR c l per F) = Prod.fst (leastR c l per F)) && decide (Prod.snd (leastR c l per F) = Prod.snd (leastR c l per F)) && decide (Prod.fst (needsR c l per i G) = Prod.fst (needsR c l per i G)) && decide (Prod.snd (needsR c l per i G) = Prod.snd (needsR c l per i G))) == true) = true) ∧ True) (V.b (decide (Prod.fst (leastR c l per F) = Prod.fst (leastR c l per F)) && decide (Prod.snd (leastR c l per F) = Prod.snd (leastR c l per F)) && decide (Prod.fst (needsR c l per i G) = Prod.fst (needsR c l per i G)) && decide (Prod.snd (needsR c l per i G) = Prod.snd (needsR c l per i G)) && true)), pv (8 : Nat) (V.b (decide (Prod.fst (leastR c l per F) = Prod.fst (leastR c l per F)) && decide (Prod.snd (leastR c l per F) = Prod.snd (leastR c l per F)) && decide (Prod.fst (needsR c l per i G) = Prod.fst (needsR c l per i G)) && decide (Prod.snd (needsR c l per i G) = Prod.snd (needsR c l per i G)) && true))] (by kernel_rfl) (by kernel_rfl) ⟨⟨(by (intro h; rw [h]; rfl)), True.intro⟩, True.intro⟩ ?_
  refine aops_nil ?_
  refine xt_n ?_
  refine hK _ ?_
  clear hK K
  refine aw_ret ?_
  refine ret_pure (v' := V.b (decide (Prod.fst (leastR c l per F) = Prod.fst (leastR c l per F)) && decide (Prod.snd (leastR c l per F) = Prod.snd (leastR c l per F)) && decide (Prod.fst (needsR c l per i G) = Prod.fst (needsR c l per i G)) && decide (Prod.snd (needsR c l per i G) = Prod.snd (needsR c l per i G)) && true)) (.inr rfl) (by kernel_rfl) ?_ (by kernel_rfl)
  simp
def radiiSh : List Sh := [(.fld (.int .i64) (.fld (.int .i64) (.fld (.int .i64) (.fld (.int .i64) (.fld (.int .i64) (.fld (.int .i64) (.lst (.int .i64)))))))), (.sl (.fld (.int .i64) (.lst (.int .i64)))), (.int .i64), (.int .i64)]
theorem radii_all (x : TL radiiSh) (hx : wfL radiiSh x) : AC Try.prog 7 (valL radiiSh x) (V.b true) [] := by
  obtain ⟨⟨h, g, th, wi, sl, je, st⟩, l, per, i, _⟩ := x
  obtain ⟨_, ⟨h4, _⟩, _, h5, _⟩ := hx
  exact radii_law ⟨h, g, th, wi, sl, je, st⟩ l per i h4 (wf_inR h5)
end Go.Proofs.Ytjjlgegccfolpaa
