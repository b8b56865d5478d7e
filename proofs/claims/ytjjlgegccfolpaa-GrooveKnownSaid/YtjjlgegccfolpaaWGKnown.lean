/-
  GrooveKnown: the walk of the law. No condition.
-/
import Derived.Test.YtjjlgegccfolpaaGA13
import Derived.Test.YtjjlgegccfolpaaMC
namespace Go.Proofs.Ytjjlgegccfolpaa
open Go.Ab Go.RowKit Go.Dw Go.Shelf

theorem dst_at {g d F : Int} (hg : 0 ≤ g) (h0 : 0 ≤ F) (hF : F < 32768) (h1 : F = 0 ∨ dstB g d (F - 1) = false) (h2 : dstB g d F = true) : IsFst (dstB g d) 32768 F := by
  obtain ⟨G, hG⟩ := dst_fst (g := g) (d := d) hg
  have a := (hG.iff (n := F) h0 hF).1 h2
  have b := hG.b
  rcases h1 with h1 | h1
  · have : F = G := by omega
    rw [this]; exact hG
  · by_cases h3 : F = 0
    · have : F = G := by omega
      rw [this]; exact hG
    · have : ¬ G ≤ F - 1 := fun h => by
        have := (hG.iff (n := F - 1) (by omega) (by omega)).2 h
        rw [h1] at this; cases this
      have : F = G := by omega
      rw [this]; exact hG
def knL : List Pt := [(-400, 400), (-400, 1200)]
theorem kn1_ac : AC Try.prog 30 [exC.v, .agg [.i 100, .i (-100)]] (.tup [.agg [.i (-600), .i 600], .i 0]) [] := by
  have A := Wall_ac exC (100, -100)
  rw [show wallR exC (100, -100) = ((-600, 600), 0) by decide +kernel] at A
  exact A
theorem kn2_ac : AC Try.prog 33 [exC.v, .agg [.i (-200), .i 600]] (.tup [.agg [.i 100, .i 100], .i 0]) [] := by
  have A := Back_ac exC (-200, 600) 100 100 ⟨fun _ _ => dst_at (by decide) (by decide) (by decide) (.inr (by decide +kernel)) (by decide +kernel), fun _ _ => dst_at (by decide) (by decide) (by decide) (.inr (by decide +kernel)) (by decide +kernel)⟩
  rw [show backR exC (-200, 600) 100 100 = ((100, 100), 0) by decide +kernel] at A
  exact A
theorem kn3_ac : AC Try.prog 33 [exC.v, .agg [.i (-201), .i 600]] (.tup [.agg [.i 0, .i 0], .i 5]) [] := by
  have A := Back_ac exC (-201, 600) 100 100 ⟨fun _ _ => dst_at (by decide) (by decide) (by decide) (.inr (by decide +kernel)) (by decide +kernel), fun _ _ => dst_at (by decide) (by decide) (by decide) (.inr (by decide +kernel)) (by decide +kernel)⟩
  rw [show backR exC (-201, 600) 100 100 = ((0, 0), 5) by decide +kernel] at A
  exact A
theorem kn4_ac : AC Try.prog 18 [exC.v, V.pts [(0, 0), (400, 0)]] (.tup [V.pts knL, .i 0]) [] := by
  have A := Cut_ac exC [(0, 0), (400, 0)] (by decide)
  rw [show cutR exC [(0, 0), (400, 0)] = (knL, 0) by decide +kernel] at A
  exact A
theorem kn5_ac : AC Try.prog 28 [exC.v, V.pts knL, .i 1000000, .i 1000] (.tup [.i 0, .i 0, .i 5]) [] := by
  have A := Fault_ac exC knL 1000000 1000 (by decide)
  rw [FaultT, show FaultV exC knL 1000000 1000 = (0, 0, 5) by decide +kernel] at A
  exact A
theorem kn6_ac : AC Try.prog 28 [exC.v, V.pts knL, .i 127323, .i 1000] (.tup [.i 1, .i 3, .i 0]) [] := by
  have A := Fault_ac exC knL 127323 1000 (by decide)
  rw [FaultT, show FaultV exC knL 127323 1000 = (1, 3, 0) by decide +kernel] at A
  exact A
theorem kn7_ac : AC Try.prog 21 [exC.v, V.pts knL, .i 1000] (.tup [.i 127324, .i 0]) [] := by
  have A := Least_ac exC knL 1000 127324 (by decide) (fun _ _ => fit_at exC_ok (by decide) (by decide) (by decide) (by decide +kernel) (by decide +kernel))
  rw [show leastR exC knL 1000 127324 = (127324, 0) by decide +kernel] at A
  exact A
theorem kn8_ac : AC Try.prog 38 [exC.v, V.pts [(100, 100), (100, 100)], .i 0, .i 1000] (.tup [.i 40, .i 0]) [] := by
  have A := Loudest_ac exC [(100, 100), (100, 100)] 0 1000 (by decide)
  rw [show loudR exC [(100, 100), (100, 100)] 0 1000 = (40, 0) by decide +kernel] at A
  exact A
theorem kn9_ac : AC Try.prog 38 [exC.v, V.pts [(300, -300)], .i 0, .i 1000] (.tup [.i 20, .i 0]) [] := by
  have A := Loudest_ac exC [(300, -300)] 0 1000 (by decide)
  rw [show loudR exC [(300, -300)] 0 1000 = (20, 0) by decide +kernel] at A
  exact A
theorem pLit1 {row : Nat → List V} {x : Pt} (h0 : row 0 = [.i x.1, .i x.2]) : RImp (.sl 2 1 row) (V.pts [x]) := by
  refine RImp.rows rfl fun i hi => ?_
  obtain rfl : i = 0 := by omega
  exact h0
theorem pLit2 {row : Nat → List V} {x y : Pt} (h0 : row 0 = [.i x.1, .i x.2]) (h1 : row 1 = [.i y.1, .i y.2]) : RImp (.sl 2 2 row) (V.pts [x, y]) := by
  refine RImp.rows rfl fun i hi => ?_
  rcases (by omega : i = 0 ∨ i = 1) with rfl | rfl
  · exact h0
  · exact h1
set_option maxHeartbeats 2000000 in
set_option maxRecDepth 100000 in
theorem gknown_law : AC Try.prog 14 [] (.b true) [] := by
  refine ac_intro hTT hMX (fn := Try.f14) (N := _) ⟨Try.func14, rfl, Try.ntmps14, by kernel_rfl⟩ (by simp) fun C hC hF => ?_
  refine aw_seq_k fun K hK => ?_
  refine w_region (n' := 2) (by kernel_rfl) (by kernel_rfl) ?_
  refine aops_n hTT (M := []) (n := 1) [pv (0 : Nat) (V.b false)] (by kernel_rfl) (by kernel_rfl) True.intro ?_
  refine aops_nil ?_
  refine xt_n ?_
  refine hK _ ?_
  clear hK K
  refine aw_seq_k fun K hK => ?_
  refine w_region (n' := 3) (by kernel_rfl) (by kernel_rfl) ?_
  refine e_call (first := []) (caps := []) (Example_ac) (by kernel_rfl) (by kernel_rfl) (by kernel_rfl) (by kernel_rfl) (by kernel_rfl) ?_
  refine aops_n hTT (M := []) (n := 2) [pn (1 : Nat) (V.ref (200001 : Nat) (0 : Nat)) (200001 : Nat) (Ob.box (23 : Nat) [V.i (0 : Int), V.i (0 : Int), V.i (0 : Int), V.i (0 : Int), V.i (0 : Int), V.i (0 : Int), V.i (0 : Int)]), pw ((0 : Nat) + (7 : Nat) ≤ (7 : Nat)) (200001 : Nat) (Ob.box (23 : Nat) [V.i (Cut.half exC), V.i (Cut.gain exC), V.i (Cut.thin exC), V.i (Cut.wide exC), V.i (Cut.slope exC), V.i (Cut.jerk exC), V.i (Cut.sty exC)])] (by kernel_rfl) (by kernel_rfl) ⟨(by omega), True.intro⟩ ?_
  refine aops_nil ?_
  refine xt_n ?_
  refine hK _ ?_
  clear hK K
  refine aw_seq_k fun K hK => ?_
  refine w_region (n' := 4) (by kernel_rfl) (by kernel_rfl) ?_
  refine aops_n hTT (M := []) (n := 2) [pc (22 : Nat) ((0 : Nat) ≤ (7 : Nat)) (V.agg [V.i (Cut.half exC), V.i (Cut.gain exC), V.i (Cut.thin exC), V.i (Cut.wide exC), V.i (Cut.slope exC), V.i (Cut.jerk exC), V.i (Cut.sty exC)]), pv (23 : Nat) (V.agg [V.i (100 : Int), V.i (-100 : Int)])] (by kernel_rfl) (by kernel_rfl) ⟨(by omega), True.intro⟩ ?_
  refine e_call (first := []) (caps := []) (kn1_ac) (by kernel_rfl) (by kernel_rfl) (by kernel_rfl) (by kernel_rfl) (by kernel_rfl) ?_
  refine aops_n hTT (M := []) (n := 6) [pv (21 : Nat) (V.tup [V.agg [V.i (-600 : Int), V.i (600 : Int)], V.i (0 : Int)]), pv (25 : Nat) (V.agg [V.i (-600 : Int), V.i (600 : Int)]), pv (26 : Nat) (V.i (0 : Int)), pn (2 : Nat) (V.ref (300002 : Nat) (0 : Nat)) (300002 : Nat) (Ob.box (35 : Nat) [V.i (0 : Int), V.i (0 : Int)]), pw ((0 : Nat) + (2 : Nat) ≤ (2 : Nat)) (300002 : Nat) (Ob.box (35 : Nat) [V.i (-600 : Int), V.i (600 : Int)]), pv (3 : Nat) (V.i (0 : Int))] (by kernel_rfl) (by kernel_rfl) ⟨(by omega), True.intro⟩ ?_
  refine aops_nil ?_
  refine xt_n ?_
  refine hK _ ?_
  clear hK K
  refine aw_seq_k fun K hK => ?_
  refine w_region (n' := 5) (by kernel_rfl) (by kernel_rfl) ?_
  refine aops_n hTT (M := []) (n := 2) [pc (28 : Nat) ((0 : Nat) ≤ (7 : Nat)) (V.agg [V.i (Cut.half exC), V.i (Cut.gain exC), V.i (Cut.thin exC), V.i (Cut.wide exC), V.i (Cut.slope exC), V.i (Cut.jerk exC), V.i (Cut.sty exC)]), pv (29 : Nat) (V.agg [V.i (-200 : Int), V.i (600 : Int)])] (by kernel_rfl) (by kernel_rfl) ⟨(by omega), True.intro⟩ ?_
  refine e_call (first := []) (caps := []) (kn2_ac) (by kernel_rfl) (by kernel_rfl) (by kernel_rfl) (by kernel_rfl) (by kernel_rfl) ?_
  refine aops_n hTT (M := []) (n := 6) [pv (27 : Nat) (V.tup [V.agg [V.i (100 : Int), V.i (100 : Int)], V.i (0 : Int)]), pv (31 : Nat) (V.agg [V.i (100 : Int), V.i (100 : Int)]), pv (32 : Nat) (V.i (0 : Int)), pn (4 : Nat) (V.ref (400004 : Nat) (0 : Nat)) (400004 : Nat) (Ob.box (30 : Nat) [V.i (0 : Int), V.i (0 : Int)]), pw ((0 : Nat) + (2 : Nat) ≤ (2 : Nat)) (400004 : Nat) (Ob.box (30 : Nat) [V.i (100 : Int), V.i (100 : Int)]), pv (5 : Nat) (V.i (0 : Int))] (by kernel_rfl) (by kernel_rfl) ⟨(by omega), True.intro⟩ ?_
  refine aops_nil ?_
  refine xt_n ?_
  refine hK _ ?_
  clear hK K
  refine aw_seq_k fun K hK => ?_
  refine w_region (n' := 6) (by kernel_rfl) (by kernel_rfl) ?_
  refine aops_n hTT (M := []) (n := 2) [pc (34 : Nat) ((0 : Nat) ≤ (7 : Nat)) (V.agg [V.i (Cut.half exC), V.i (Cut.gain exC), V.i (Cut.thin exC), V.i (Cut.wide exC), V.i (Cut.slope exC), V.i (Cut.jerk exC), V.i (Cut.sty exC)]), pv (35 : Nat) (V.agg [V.i (-201 : Int), V.i (600 : Int)])] (by kernel_rfl) (by kernel_rfl) ⟨(by omega), True.intro⟩ ?_
  refine e_call (first := []) (caps := []) (kn3_ac) (by kernel_rfl) (by kernel_rfl) (by kernel_rfl) (by kernel_rfl) (by kernel_rfl) ?_
  refine aops_n hTT (M := []) (n := 6) [pv (33 : Nat) (V.tup [V.agg [V.i (0 : Int), V.i (0 : Int)], V.i (5 : Int)]), pv (37 : Nat) (V.agg [V.i (0 : Int), V.i (0 : Int)]), pv (38 : Nat) (V.i (5 : Int)), pn (6 : Nat) (V.ref (500006 : Nat) (0 : Nat)) (500006 : Nat) (Ob.box (30 : Nat) [V.i (0 : Int), V.i (0 : Int)]), pw ((0 : Nat) + (2 : Nat) ≤ (2 : Nat)) (500006 : Nat) (Ob.box (30 : Nat) [V.i (0 : Int), V.i (0 : Int)]), pv (7 : Nat) (V.i (5 : Int))] (by kernel_rfl) (by kernel_rfl) ⟨(by omega), True.intro⟩ ?_
  refine aops_nil ?_
  refine xt_n ?_
  refine hK _ ?_
  clear hK K
  refine aw_seq_k fun K hK => ?_
  refine w_region (n' := 7) (by kernel_rfl) (by kernel_rfl) ?_
  refine aops_n hTT (M := []) (n := 4) [pc (40 : Nat) ((0 : Nat) ≤ (7 : Nat)) (V.agg [V.i (Cut.half exC), V.i (Cut.gain exC), V.i (Cut.thin exC), V.i (Cut.wide exC), V.i (Cut.slope exC), V.i (Cut.jerk exC), V.i (Cut.sty exC)]), pv (41 : Nat) (V.agg [V.i (0 : Int), V.i (0 : Int)]), pv (42 : Nat) (V.agg [V.i (400 : Int), V.i (0 : Int)]), pv (43 : Nat) (V.sl (2 : Nat) (2 : Nat) fun (i : Nat) => List.take (2 : Nat) (List.drop (i * (2 : Nat)) [V.i (0 : Int), V.i (0 : Int), V.i (400 : Int), V.i (0 : Int)]))] (by kernel_rfl) (by kernel_rfl) ⟨(by omega), True.intro⟩ ?_
  refine e_call (first := []) (caps := []) (AC.conv (kn4_ac) (args' := [V.agg [V.i (Cut.half exC), V.i (Cut.gain exC), V.i (Cut.thin exC), V.i (Cut.wide exC), V.i (Cut.slope exC), V.i (Cut.jerk exC), V.i (Cut.sty exC)], V.sl (2 : Nat) (2 : Nat) fun (i : Nat) => List.take (2 : Nat) (List.drop (i * (2 : Nat)) [V.i (0 : Int), V.i (0 : Int), V.i (400 : Int), V.i (0 : Int)])]) ⟨RImp.refl _, ?_, trivial⟩) (by kernel_rfl) (by kernel_rfl) (by kernel_rfl) (by kernel_rfl) (by kernel_rfl) ?_
  · exact pLit2 rfl rfl
  refine aops_n hTT (M := []) (n := 5) [pv (39 : Nat) (V.tup [V.sl (2 : Nat) (2 : Nat) fun (k : Nat) => [V.i (Prod.fst (gp knL k)), V.i (Prod.snd (gp knL k))], V.i (0 : Int)]), pv (45 : Nat) (V.sl (2 : Nat) (2 : Nat) fun (k : Nat) => [V.i (Prod.fst (gp knL k)), V.i (Prod.snd (gp knL k))]), pv (46 : Nat) (V.i (0 : Int)), pv (8 : Nat) (V.sl (2 : Nat) (2 : Nat) fun (k : Nat) => [V.i (Prod.fst (gp knL k)), V.i (Prod.snd (gp knL k))]), pv (9 : Nat) (V.i (0 : Int))] (by kernel_rfl) (by kernel_rfl) True.intro ?_
  refine aops_nil ?_
  refine xt_n ?_
  refine hK _ ?_
  clear hK K
  refine aw_seq_k fun K hK => ?_
  refine w_region (n' := 8) (by kernel_rfl) (by kernel_rfl) ?_
  refine aops_n hTT (M := []) (n := 2) [pc (48 : Nat) ((0 : Nat) ≤ (7 : Nat)) (V.agg [V.i (Cut.half exC), V.i (Cut.gain exC), V.i (Cut.thin exC), V.i (Cut.wide exC), V.i (Cut.slope exC), V.i (Cut.jerk exC), V.i (Cut.sty exC)]), pv (49 : Nat) (V.sl (2 : Nat) (2 : Nat) fun (k : Nat) => [V.i (Prod.fst (gp knL k)), V.i (Prod.snd (gp knL k))])] (by kernel_rfl) (by kernel_rfl) ⟨(by omega), True.intro⟩ ?_
  refine e_call (first := []) (caps := []) (kn5_ac) (by kernel_rfl) (by kernel_rfl) (by kernel_rfl) (by kernel_rfl) (by kernel_rfl) ?_
  refine aops_n hTT (M := []) (n := 7) [pv (47 : Nat) (V.tup [V.i (0 : Int), V.i (0 : Int), V.i (5 : Int)]), pv (51 : Nat) (V.i (0 : Int)), pv (52 : Nat) (V.i (0 : Int)), pv (53 : Nat) (V.i (5 : Int)), pv (10 : Nat) (V.i (0 : Int)), pv (11 : Nat) (V.i (0 : Int)), pv (12 : Nat) (V.i (5 : Int))] (by kernel_rfl) (by kernel_rfl) True.intro ?_
  refine aops_nil ?_
  refine xt_n ?_
  refine hK _ ?_
  clear hK K
  refine aw_seq_k fun K hK => ?_
  refine w_region (n' := 9) (by kernel_rfl) (by kernel_rfl) ?_
  refine aops_n hTT (M := []) (n := 2) [pc (55 : Nat) ((0 : Nat) ≤ (7 : Nat)) (V.agg [V.i (Cut.half exC), V.i (Cut.gain exC), V.i (Cut.thin exC), V.i (Cut.wide exC), V.i (Cut.slope exC), V.i (Cut.jerk exC), V.i (Cut.sty exC)]), pv (56 : Nat) (V.sl (2 : Nat) (2 : Nat) fun (k : Nat) => [V.i (Prod.fst (gp knL k)), V.i (Prod.snd (gp knL k))])] (by kernel_rfl) (by kernel_rfl) ⟨(by omega), True.intro⟩ ?_
  refine e_call (first := []) (caps := []) (kn6_ac) (by kernel_rfl) (by kernel_rfl) (by kernel_rfl) (by kernel_rfl) (by kernel_rfl) ?_
  refine aops_n hTT (M := []) (n := 7) [pv (54 : Nat) (V.tup [V.i (1 : Int), V.i (3 : Int), V.i (0 : Int)]), pv (58 : Nat) (V.i (1 : Int)), pv (59 : Nat) (V.i (3 : Int)), pv (60 : Nat) (V.i (0 : Int)), pv (13 : Nat) (V.i (1 : Int)), pv (14 : Nat) (V.i (3 : Int)), pv (15 : Nat) (V.i (0 : Int))] (by kernel_rfl) (by kernel_rfl) True.intro ?_
  refine aops_nil ?_
  refine xt_n ?_
  refine hK _ ?_
  clear hK K
  refine aw_seq_k fun K hK => ?_
  refine w_region (n' := 10) (by kernel_rfl) (by kernel_rfl) ?_
  refine aops_n hTT (M := []) (n := 2) [pc (62 : Nat) ((0 : Nat) ≤ (7 : Nat)) (V.agg [V.i (Cut.half exC), V.i (Cut.gain exC), V.i (Cut.thin exC), V.i (Cut.wide exC), V.i (Cut.slope exC), V.i (Cut.jerk exC), V.i (Cut.sty exC)]), pv (63 : Nat) (V.sl (2 : Nat) (2 : Nat) fun (k : Nat) => [V.i (Prod.fst (gp knL k)), V.i (Prod.snd (gp knL k))])] (by kernel_rfl) (by kernel_rfl) ⟨(by omega), True.intro⟩ ?_
  refine e_call (first := []) (caps := []) (kn7_ac) (by kernel_rfl) (by kernel_rfl) (by kernel_rfl) (by kernel_rfl) (by kernel_rfl) ?_
  refine aops_n hTT (M := []) (n := 5) [pv (61 : Nat) (V.tup [V.i (127324 : Int), V.i (0 : Int)]), pv (65 : Nat) (V.i (127324 : Int)), pv (66 : Nat) (V.i (0 : Int)), pv (16 : Nat) (V.i (127324 : Int)), pv (17 : Nat) (V.i (0 : Int))] (by kernel_rfl) (by kernel_rfl) True.intro ?_
  refine aops_nil ?_
  refine xt_n ?_
  refine hK _ ?_
  clear hK K
  refine aw_seq_k fun K hK => ?_
  refine aw_seq_k fun K hK => ?_
  refine w_region (n' := 11) (by kernel_rfl) (by kernel_rfl) ?_
  refine aops_n hTT (M := []) (n := 40) [pc (67 : Nat) ((0 : Nat) ≤ (2 : Nat)) (V.agg [V.i (-600 : Int), V.i (600 : Int)]), pv (68 : Nat) (V.agg [V.i (-600 : Int), V.i (600 : Int)]), pv (69 : Nat) (V.b false), pv (70 : Nat) (V.b false), pc (71 : Nat) ((True ∧ True) ∧ ((false == false) = true → (0 : Nat) ≤ (2 : Nat))) (V.gd (false == false) (V.agg [V.i (100 : Int), V.i (100 : Int)])), pc (72 : Nat) ((True ∧ True ∧ True) ∧ ((false == false) = true → True)) (V.gd (false == false) (V.agg [V.i (100 : Int), V.i (100 : Int)])), pc (73 : Nat) ((((false == false) = true → (false == false) = true) ∧ ((false == false) = true → (false == false) = true) ∧ True) ∧ ((false == false) = true → True)) (V.gd (false == false) (V.b false)), pc (74 : Nat) (True ∧ (false = false → (false == false) = true)) (V.b false), pv (75 : Nat) (V.b false), pc (76 : Nat) ((True ∧ True) ∧ ((false == false) = true → True)) (V.gd (false == false) (V.i (5 : Int))), pc (77 : Nat) ((((false == false) = true → (false == false) = true) ∧ True ∧ True) ∧ ((false == false) = true → True)) (V.gd (false == false) (V.b false)), pc (78 : Nat) (True ∧ (false = false → (false == false) = true)) (V.b false), pv (79 : Nat) (V.b false), pc (80 : Nat) ((True ∧ True) ∧ ((false == false) = true → True)) (V.gd (false == false) (V.i (5 : Int))), pc (81 : Nat) ((((false == false) = true → (false == false) = true) ∧ True ∧ True) ∧ ((false == false) = true → True)) (V.gd (false == false) (V.b false)), pc (82 : Nat) (True ∧ (false = false → (false == false) = true)) (V.b false), pv (83 : Nat) (V.b false), pc (84 : Nat) ((True ∧ True) ∧ ((false == false) = true → True)) (V.gd (false == false) (V.i (1 : Int))), pc (85 : Nat) ((((false == false) = true → (false == false) = true) ∧ True ∧ True) ∧ ((false == false) = true → True)) (V.gd (false == false) (V.b false)), pc (86 : Nat) (True ∧ (false = false → (false == false) = true)) (V.b false), pv (87 : Nat) (V.b false), pc (88 : Nat) ((True ∧ True) ∧ ((false == false) = true → True)) (V.gd (false == false) (V.i (3 : Int))), pc (89 : Nat) ((((false == false) = true → (false == false) = true) ∧ True ∧ True) ∧ ((false == false) = true → True)) (V.gd (false == false) (V.b false)), pc (90 : Nat) (True ∧ (false = false → (false == false) = true)) (V.b false), pv (91 : Nat) (V.b false), pc (92 : Nat) ((True ∧ True) ∧ ((false == false) = true → True)) (V.gd (false == false) (V.i (127324 : Int))), pc (93 : Nat) ((((false == false) = true → (false == false) = true) ∧ True ∧ True) ∧ ((false == false) = true → True)) (V.gd (false == false) (V.b false)), pc (94 : Nat) (True ∧ (false = false → (false == false) = true)) (V.b false), pv (95 : Nat) (V.b false), pc (96 : Nat) ((True ∧ True) ∧ ((false == false) = true → True)) (V.gd (false == false) (V.i (0 : Int))), pc (97 : Nat) ((True ∧ True) ∧ ((false == false) = true → True)) (V.gd (false == false) (V.i (0 : Int))), pc (98 : Nat) ((((false == false) = true → (false == false) = true) ∧ ((false == false) = true → (false == false) = true) ∧ True) ∧ ((false == false) = true → (-9223372036854775808 : Int) ≤ (0 : Int) + (0 : Int) ∧ (0 : Int) + (0 : Int) ≤ (9223372036854775807 : Int))) (V.gd (false == false) (V.i ((0 : Int) + (0 : Int)))), pc (99 : Nat) ((True ∧ True) ∧ ((false == false) = true → True)) (V.gd (false == false) (V.i (0 : Int))), pc (100 : Nat) ((((false == false) = true → (false == false) = true) ∧ ((false == false) = true → (false == false) = true) ∧ True) ∧ ((false == false) = true → (-9223372036854775808 : Int) ≤ (0 : Int) + (0 : Int) + (0 : Int) ∧ (0 : Int) + (0 : Int) + (0 : Int) ≤ (9223372036854775807 : Int))) (V.gd (false == false) (V.i ((0 : Int) + (0 : Int) + (0 : Int)))), pc (101 : Nat) ((True ∧ True) ∧ ((false == false) = true → True)) (V.gd (false == false) (V.i (0 : Int))), pc (102 : Nat) ((((false == false) = true → (false == false) = true) ∧ ((false == false) = true → (false == false) = true) ∧ True) ∧ ((false == false) = true → (-9223372036854775808 : Int) ≤ (0 : Int) + (0 : Int) + (0 : Int) + (0 : Int) ∧ (0 : Int) + (0 : Int) + (0 : Int) + (0 : Int) ≤ (9223372036854775807 : Int))) (V.gd (false == false) (V.i ((0 : Int) + (0 : Int) + (0 : Int) + (0 : Int)))), pc (103 : Nat) ((True ∧ True) ∧ ((false == false) = true → True)) (V.gd (false == false) (V.i (0 : Int))), pc (104 : Nat) ((((false == false) = true → (false == false) = true) ∧ ((false == false) = true → (false == false) = true) ∧ True) ∧ ((false == false) = true → (-9223372036854775808 : Int) ≤ (0 : Int) + (0 : Int) + (0 : Int) + (0 : Int) + (0 : Int) ∧ (0 : Int) + (0 : Int) + (0 : Int) + (0 : Int) + (0 : Int) ≤ (9223372036854775807 : Int))) (V.gd (false == false) (V.i ((0 : Int) + (0 : Int) + (0 : Int) + (0 : Int) + (0 : Int)))), pc (105 : Nat) ((((false == false) = true → (false == false) = true) ∧ True ∧ True) ∧ ((false == false) = true → True)) (V.gd (false == false) (V.b false)), pc (106 : Nat) (True ∧ (false = false → (false == false) = true)) (V.b false)] (by kernel_rfl) (by kernel_rfl) ⟨(by omega), ⟨⟨True.intro, True.intro⟩, (by (intro _; simp; done))⟩, ⟨⟨True.intro, ⟨True.intro, True.intro⟩⟩, (fun _ => True.intro)⟩, ⟨⟨(by (exact fun h => h)), ⟨(by (exact fun h => h)), True.intro⟩⟩, (fun _ => True.intro)⟩, ⟨True.intro, (by (intro h; rw [h]; rfl))⟩, ⟨⟨True.intro, True.intro⟩, (fun _ => True.intro)⟩, ⟨⟨(by (exact fun h => h)), ⟨True.intro, True.intro⟩⟩, (fun _ => True.intro)⟩, ⟨True.intro, (by (intro h; rw [h]; rfl))⟩, ⟨⟨True.intro, True.intro⟩, (fun _ => True.intro)⟩, ⟨⟨(by (exact fun h => h)), ⟨True.intro, True.intro⟩⟩, (fun _ => True.intro)⟩, ⟨True.intro, (by (intro h; rw [h]; rfl))⟩, ⟨⟨True.intro, True.intro⟩, (fun _ => True.intro)⟩, ⟨⟨(by (exact fun h => h)), ⟨True.intro, True.intro⟩⟩, (fun _ => True.intro)⟩, ⟨True.intro, (by (intro h; rw [h]; rfl))⟩, ⟨⟨True.intro, True.intro⟩, (fun _ => True.intro)⟩, ⟨⟨(by (exact fun h => h)), ⟨True.intro, True.intro⟩⟩, (fun _ => True.intro)⟩, ⟨True.intro, (by (intro h; rw [h]; rfl))⟩, ⟨⟨True.intro, True.intro⟩, (fun _ => True.intro)⟩, ⟨⟨(by (exact fun h => h)), ⟨True.intro, True.intro⟩⟩, (fun _ => True.intro)⟩, ⟨True.intro, (by (intro h; rw [h]; rfl))⟩, ⟨⟨True.intro, True.intro⟩, (fun _ => True.intro)⟩, ⟨⟨True.intro, True.intro⟩, (fun _ => True.intro)⟩, ⟨⟨(by (exact fun h => h)), ⟨(by (exact fun h => h)), True.intro⟩⟩, (by (intro _; simp; done))⟩, ⟨⟨True.intro, True.intro⟩, (fun _ => True.intro)⟩, ⟨⟨(by (exact fun h => h)), ⟨(by (exact fun h => h)), True.intro⟩⟩, (by (intro _; simp; done))⟩, ⟨⟨True.intro, True.intro⟩, (fun _ => True.intro)⟩, ⟨⟨(by (exact fun h => h)), ⟨(by (exact fun h => h)), True.intro⟩⟩, (by (intro _; simp; done))⟩, ⟨⟨True.intro, True.intro⟩, (fun _ => True.intro)⟩, ⟨⟨(by (exact fun h => h)), ⟨(by (exact fun h => h)), True.intro⟩⟩, (by (intro _; simp; done))⟩, ⟨⟨(by (exact fun h => h)), ⟨True.intro, True.intro⟩⟩, (fun _ => True.intro)⟩, ⟨True.intro, (by (intro h; rw [h]; rfl))⟩, True.intro⟩ ?_
  refine aops_nil ?_
  refine xt_n ?_
  refine hK _ ?_
  clear hK K
  refine w_false (t := false) (by kernel_rfl) rfl ?_
  refine aw_skip ?_
  refine xt_n ?_
  refine hK _ ?_
  clear hK K
  refine aw_seq_k fun K hK => ?_
  refine w_region (n' := 12) (by kernel_rfl) (by kernel_rfl) ?_
  refine aops_n hTT (M := []) (n := 4) [pc (108 : Nat) ((0 : Nat) ≤ (7 : Nat)) (V.agg [V.i (Cut.half exC), V.i (Cut.gain exC), V.i (Cut.thin exC), V.i (Cut.wide exC), V.i (Cut.slope exC), V.i (Cut.jerk exC), V.i (Cut.sty exC)]), pv (109 : Nat) (V.agg [V.i (100 : Int), V.i (100 : Int)]), pv (110 : Nat) (V.agg [V.i (100 : Int), V.i (100 : Int)]), pv (111 : Nat) (V.sl (2 : Nat) (2 : Nat) fun (i : Nat) => List.take (2 : Nat) (List.drop (i * (2 : Nat)) [V.i (100 : Int), V.i (100 : Int), V.i (100 : Int), V.i (100 : Int)]))] (by kernel_rfl) (by kernel_rfl) ⟨(by omega), True.intro⟩ ?_
  refine e_call (first := []) (caps := []) (AC.conv (kn8_ac) (args' := [V.agg [V.i (Cut.half exC), V.i (Cut.gain exC), V.i (Cut.thin exC), V.i (Cut.wide exC), V.i (Cut.slope exC), V.i (Cut.jerk exC), V.i (Cut.sty exC)], V.sl (2 : Nat) (2 : Nat) fun (i : Nat) => List.take (2 : Nat) (List.drop (i * (2 : Nat)) [V.i (100 : Int), V.i (100 : Int), V.i (100 : Int), V.i (100 : Int)]), V.i (0 : Int), V.i (1000 : Int)]) ⟨RImp.refl _, ?_, RImp.refl _, RImp.refl _, trivial⟩) (by kernel_rfl) (by kernel_rfl) (by kernel_rfl) (by kernel_rfl) (by kernel_rfl) ?_
  · exact pLit2 rfl rfl
  refine aops_n hTT (M := []) (n := 5) [pv (107 : Nat) (V.tup [V.i (40 : Int), V.i (0 : Int)]), pv (113 : Nat) (V.i (40 : Int)), pv (114 : Nat) (V.i (0 : Int)), pv (18 : Nat) (V.i (40 : Int)), pv (3 : Nat) (V.i (0 : Int))] (by kernel_rfl) (by kernel_rfl) True.intro ?_
  refine aops_nil ?_
  refine xt_n ?_
  refine hK _ ?_
  clear hK K
  refine aw_seq_k fun K hK => ?_
  refine w_region (n' := 13) (by kernel_rfl) (by kernel_rfl) ?_
  refine aops_n hTT (M := []) (n := 3) [pc (116 : Nat) ((0 : Nat) ≤ (7 : Nat)) (V.agg [V.i (Cut.half exC), V.i (Cut.gain exC), V.i (Cut.thin exC), V.i (Cut.wide exC), V.i (Cut.slope exC), V.i (Cut.jerk exC), V.i (Cut.sty exC)]), pv (117 : Nat) (V.agg [V.i (300 : Int), V.i (-300 : Int)]), pv (118 : Nat) (V.sl (2 : Nat) (1 : Nat) fun (i : Nat) => List.take (2 : Nat) (List.drop (i * (2 : Nat)) [V.i (300 : Int), V.i (-300 : Int)]))] (by kernel_rfl) (by kernel_rfl) ⟨(by omega), True.intro⟩ ?_
  refine e_call (first := []) (caps := []) (AC.conv (kn9_ac) (args' := [V.agg [V.i (Cut.half exC), V.i (Cut.gain exC), V.i (Cut.thin exC), V.i (Cut.wide exC), V.i (Cut.slope exC), V.i (Cut.jerk exC), V.i (Cut.sty exC)], V.sl (2 : Nat) (1 : Nat) fun (i : Nat) => List.take (2 : Nat) (List.drop (i * (2 : Nat)) [V.i (300 : Int), V.i (-300 : Int)]), V.i (0 : Int), V.i (1000 : Int)]) ⟨RImp.refl _, ?_, RImp.refl _, RImp.refl _, trivial⟩) (by kernel_rfl) (by kernel_rfl) (by kernel_rfl) (by kernel_rfl) (by kernel_rfl) ?_
  · exact pLit1 rfl
  refine aops_n hTT (M := []) (n := 5) [pv (115 : Nat) (V.tup [V.i (20 : Int), V.i (0 : Int)]), pv (120 : Nat) (V.i (20 : Int)), pv (121 : Nat) (V.i (0 : Int)), pv (19 : Nat) (V.i (20 : Int)), pv (5 : Nat) (V.i (0 : Int))] (by kernel_rfl) (by kernel_rfl) True.intro ?_
  refine aops_nil ?_
  refine xt_n ?_
  refine hK _ ?_
  clear hK K
  refine aw_seq_k fun K hK => ?_
  refine w_region (n' := 14) (by kernel_rfl) (by kernel_rfl) ?_
  refine aops_n hTT (M := []) (n := 13) [pv (122 : Nat) (V.i (0 : Int)), pv (123 : Nat) (V.i (0 : Int)), pc (124 : Nat) ((-9223372036854775808 : Int) ≤ (0 : Int) + (0 : Int) ∧ (0 : Int) + (0 : Int) ≤ (9223372036854775807 : Int)) (V.i ((0 : Int) + (0 : Int))), pv (125 : Nat) (V.b true), pv (126 : Nat) (V.b true), pc (127 : Nat) ((True ∧ True) ∧ ((true == true) = true → True)) (V.gd (true == true) (V.i (40 : Int))), pc (128 : Nat) ((((true == true) = true → (true == true) = true) ∧ True ∧ True) ∧ ((true == true) = true → True)) (V.gd (true == true) (V.b true)), pc (129 : Nat) ((true = true → (true == true) = true) ∧ True) (V.b true), pv (130 : Nat) (V.b true), pc (131 : Nat) ((True ∧ True) ∧ ((true == true) = true → True)) (V.gd (true == true) (V.i (20 : Int))), pc (132 : Nat) ((((true == true) = true → (true == true) = true) ∧ True ∧ True) ∧ ((true == true) = true → True)) (V.gd (true == true) (V.b true)), pc (133 : Nat) ((true = true → (true == true) = true) ∧ True) (V.b true), pv (134 : Nat) (V.b true)] (by kernel_rfl) (by kernel_rfl) ⟨(by omega), ⟨⟨True.intro, True.intro⟩, (fun _ => True.intro)⟩, ⟨⟨(by (exact fun h => h)), ⟨True.intro, True.intro⟩⟩, (fun _ => True.intro)⟩, ⟨(by (exact fun h => h)), True.intro⟩, ⟨⟨True.intro, True.intro⟩, (fun _ => True.intro)⟩, ⟨⟨(by (exact fun h => h)), ⟨True.intro, True.intro⟩⟩, (fun _ => True.intro)⟩, ⟨(by (exact fun h => h)), True.intro⟩, True.intro⟩ ?_
  refine e_callG 0 (g := true == true) (first := []) (caps := []) (by kernel_rfl) (fun _ => gWorks_ac) (by kernel_rfl) (by kernel_rfl) (by kernel_rfl) (by kernel_rfl) (by kernel_rfl) (by kernel_rfl) ?_
  refine aops_n hTT (M := []) (n := 2) [pc (136 : Nat) ((true = true → (true == true) = true) ∧ True) (V.b true), pv (0 : Nat) (V.b true)] (by kernel_rfl) (by kernel_rfl) ⟨⟨(by (exact fun h => h)), True.intro⟩, True.intro⟩ ?_
  refine aops_nil ?_
  refine xt_n ?_
  refine hK _ ?_
  clear hK K
  refine aw_ret ?_
  refine ret_pure (v' := V.b true) (.inr rfl) (by kernel_rfl) (by kernel_rfl) (by kernel_rfl)
def gknownSh : List Sh := []
theorem gknown_all (x : TL gknownSh) (_ : wfL gknownSh x) : AC Try.prog 14 (valL gknownSh x) (V.b true) [] := gknown_law
end Go.Proofs.Ytjjlgegccfolpaa
