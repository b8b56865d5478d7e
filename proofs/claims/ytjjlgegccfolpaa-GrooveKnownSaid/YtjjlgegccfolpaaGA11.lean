/-
  The chapter's examples, and small functions of the laws on grooves. No condition but the sizes of slices.
-/
import Derived.Test.YtjjlgegccfolpaaGA10
namespace Go.Proofs.Ytjjlgegccfolpaa
open Go.Ab Go.RowKit Go.Dw Go.Shelf

def exC : Cut := ⟨400, 2000, 200, 2000, 1000, 1000, 100⟩
set_option maxRecDepth 100000 in
theorem Example_ac : AC Try.prog 41 [] exC.v [] := by
  refine ac_intro hTT hMX (fn := Try.f41) (N := _) ⟨Try.func41, rfl, Try.ntmps41, by kernel_rfl⟩ (by simp) fun C hC hF => ?_
  refine aw_seq_k fun K hK => ?_
  refine w_region (n' := 2) (by kernel_rfl) (by kernel_rfl) ?_
  refine aops_n hTT (M := []) (n := 1) [pn (0 : Nat) (V.ref (100000 : Nat) (0 : Nat)) (100000 : Nat) (Ob.box (23 : Nat) [V.i (0 : Int), V.i (0 : Int), V.i (0 : Int), V.i (0 : Int), V.i (0 : Int), V.i (0 : Int), V.i (0 : Int)])] (by kernel_rfl) (by kernel_rfl) True.intro ?_
  refine aops_nil ?_
  refine xt_n ?_
  refine hK _ ?_
  clear hK K
  refine aw_seq_k fun K hK => ?_
  refine w_region (n' := 3) (by kernel_rfl) (by kernel_rfl) ?_
  refine aops_n hTT (M := []) (n := 2) [pv (1 : Nat) (V.agg [V.i (400 : Int), V.i (2000 : Int), V.i (200 : Int), V.i (2000 : Int), V.i (1000 : Int), V.i (1000 : Int), V.i (100 : Int)]), pw ((0 : Nat) + (7 : Nat) ≤ (7 : Nat)) (100000 : Nat) (Ob.box (23 : Nat) [V.i (400 : Int), V.i (2000 : Int), V.i (200 : Int), V.i (2000 : Int), V.i (1000 : Int), V.i (1000 : Int), V.i (100 : Int)])] (by kernel_rfl) (by kernel_rfl) ⟨(by omega), True.intro⟩ ?_
  refine aops_nil ?_
  refine xt_n ?_
  refine hK _ ?_
  clear hK K
  refine aw_ret ?_
  refine ret_of_le (le_freezeBox (t := (23 : Nat)) (cs := [V.i (400 : Int), V.i (2000 : Int), V.i (200 : Int), V.i (2000 : Int), V.i (1000 : Int), V.i (1000 : Int), V.i (100 : Int)]) 100000 (by kernel_rfl) (by kernel_rfl)) ?_
  refine ret_pure (v' := V.agg [V.i (400 : Int), V.i (2000 : Int), V.i (200 : Int), V.i (2000 : Int), V.i (1000 : Int), V.i (1000 : Int), V.i (100 : Int)]) (.inr rfl) (by kernel_rfl) (by kernel_rfl) (by kernel_rfl)
theorem fit_at {c : Cut} {l : List Pt} {per F : Int} (hc : cutE c = 0) (hp : 1 ≤ per) (h0 : 0 < F) (hF : F ≤ 4194304) (h1 : fitB c l per (F - 1) = false) (h2 : fitB c l per F = true) : IsFst (fitB c l per) 4194305 F := by
  obtain ⟨G, hG⟩ := fit_fst l hc hp
  have a := (hG.iff (n := F) (by omega) (by omega)).1 h2
  have b : ¬ G ≤ F - 1 := fun h => by
    have := (hG.iff (n := F - 1) (by omega) (by omega)).2 h
    rw [h1] at this; cases this
  obtain rfl : F = G := by omega
  exact hG
def ex3 : List Pt := [(-400, 400), (-200, 600), (-400, 400)]
theorem exC_ok : cutE exC = 0 := by decide
theorem ex3_fst : IsFst (fitB exC ex3 1000) 4194305 31831 := fit_at exC_ok (by decide) (by decide) (by decide) (by decide +kernel) (by decide +kernel)
theorem ex3_least : leastR exC ex3 1000 31831 = (31831, 0) := by decide +kernel
theorem ex3_cut : cutR exC [(0, 0), (100, 100), (0, 0)] = (ex3, 0) := by decide +kernel
theorem gLit3 {row : Nat → List V} {x y z : Pt} (h0 : row 0 = [.i x.1, .i x.2]) (h1 : row 1 = [.i y.1, .i y.2]) (h2 : row 2 = [.i z.1, .i z.2]) : RImp (.sl 2 3 row) (V.pts [x, y, z]) := by
  refine RImp.rows rfl fun i hi => ?_
  rcases (by omega : i = 0 ∨ i = 1 ∨ i = 2) with rfl | rfl | rfl
  · exact h0
  · exact h1
  · exact h2
theorem exL_ac : AC Try.prog 21 [exC.v, V.pts ex3, .i 1000] (.tup [.i 31831, .i 0]) [] := by
  have A := Least_ac exC ex3 1000 31831 (by decide) (fun _ _ => ex3_fst)
  rw [ex3_least] at A
  exact A
theorem exA_ac : AC Try.prog 26 [.i 1130000, .i 1000] (.tup [.i 50410000, .i 0]) [] := by
  have A := Arc_ac 1130000 1000
  rw [show arcR 1130000 1000 = 50410000 by decide +kernel, show plcE 1130000 1000 = 0 by decide +kernel] at A
  exact A
theorem exCut_ac : AC Try.prog 18 [exC.v, V.pts [(0, 0), (100, 100), (0, 0)]] (.tup [V.pts ex3, .i 0]) [] := by
  have A := Cut_ac exC [(0, 0), (100, 100), (0, 0)] (by decide)
  rw [ex3_cut] at A
  exact A
set_option maxRecDepth 100000 in
theorem gWorks_ac : AC Try.prog 17 [] (.b true) [] := by
  refine ac_intro hTT hMX (fn := Try.f17) (N := _) ⟨Try.func17, rfl, Try.ntmps17, by kernel_rfl⟩ (by simp) fun C hC hF => ?_
  refine aw_seq_k fun K hK => ?_
  refine w_region (n' := 2) (by kernel_rfl) (by kernel_rfl) ?_
  refine aops_n hTT (M := []) (n := 1) [pv (0 : Nat) (V.b false)] (by kernel_rfl) (by kernel_rfl) True.intro ?_
  refine aops_nil ?_
  refine xt_n ?_
  refine hK _ ?_
  clear hK K
  refine aw_seq_k fun K hK => ?_
  refine w_region (n' := 3) (by kernel_rfl) (by kernel_rfl) ?_
  refine e_call (first := []) (caps := []) (Example_ac) (by kernel_rfl) (by kernel_rfl) (by kernel_rfl) (by kernel_rfl) (by kernel_rfl) ?_
  refine aops_n hTT (M := []) (n := 4) [pv (9 : Nat) (V.agg [V.i (0 : Int), V.i (0 : Int)]), pv (10 : Nat) (V.agg [V.i (100 : Int), V.i (100 : Int)]), pv (11 : Nat) (V.agg [V.i (0 : Int), V.i (0 : Int)]), pv (12 : Nat) (V.sl (2 : Nat) (3 : Nat) fun (i : Nat) => List.take (2 : Nat) (List.drop (i * (2 : Nat)) [V.i (0 : Int), V.i (0 : Int), V.i (100 : Int), V.i (100 : Int), V.i (0 : Int), V.i (0 : Int)]))] (by kernel_rfl) (by kernel_rfl) True.intro ?_
  refine e_call (first := []) (caps := []) (AC.conv (exCut_ac) (args' := [V.agg [V.i (Cut.half exC), V.i (Cut.gain exC), V.i (Cut.thin exC), V.i (Cut.wide exC), V.i (Cut.slope exC), V.i (Cut.jerk exC), V.i (Cut.sty exC)], V.sl (2 : Nat) (3 : Nat) fun (i : Nat) => List.take (2 : Nat) (List.drop (i * (2 : Nat)) [V.i (0 : Int), V.i (0 : Int), V.i (100 : Int), V.i (100 : Int), V.i (0 : Int), V.i (0 : Int)])]) ⟨RImp.refl _, ?_, trivial⟩) (by kernel_rfl) (by kernel_rfl) (by kernel_rfl) (by kernel_rfl) (by kernel_rfl) ?_
  · exact gLit3 rfl rfl rfl
  refine aops_n hTT (M := []) (n := 5) [pv (7 : Nat) (V.tup [V.sl (2 : Nat) (3 : Nat) fun (k : Nat) => [V.i (Prod.fst (gp ex3 k)), V.i (Prod.snd (gp ex3 k))], V.i (0 : Int)]), pv (14 : Nat) (V.sl (2 : Nat) (3 : Nat) fun (k : Nat) => [V.i (Prod.fst (gp ex3 k)), V.i (Prod.snd (gp ex3 k))]), pv (15 : Nat) (V.i (0 : Int)), pv (1 : Nat) (V.sl (2 : Nat) (3 : Nat) fun (k : Nat) => [V.i (Prod.fst (gp ex3 k)), V.i (Prod.snd (gp ex3 k))]), pv (2 : Nat) (V.i (0 : Int))] (by kernel_rfl) (by kernel_rfl) True.intro ?_
  refine aops_nil ?_
  refine xt_n ?_
  refine hK _ ?_
  clear hK K
  refine aw_seq_k fun K hK => ?_
  refine w_region (n' := 4) (by kernel_rfl) (by kernel_rfl) ?_
  refine e_call (first := []) (caps := []) (Example_ac) (by kernel_rfl) (by kernel_rfl) (by kernel_rfl) (by kernel_rfl) (by kernel_rfl) ?_
  refine aops_n hTT (M := []) (n := 1) [pv (18 : Nat) (V.sl (2 : Nat) (3 : Nat) fun (k : Nat) => [V.i (Prod.fst (gp ex3 k)), V.i (Prod.snd (gp ex3 k))])] (by kernel_rfl) (by kernel_rfl) True.intro ?_
  refine e_call (first := []) (caps := []) (exL_ac) (by kernel_rfl) (by kernel_rfl) (by kernel_rfl) (by kernel_rfl) (by kernel_rfl) ?_
  refine aops_n hTT (M := []) (n := 5) [pv (16 : Nat) (V.tup [V.i (31831 : Int), V.i (0 : Int)]), pv (20 : Nat) (V.i (31831 : Int)), pv (21 : Nat) (V.i (0 : Int)), pv (3 : Nat) (V.i (31831 : Int)), pv (4 : Nat) (V.i (0 : Int))] (by kernel_rfl) (by kernel_rfl) True.intro ?_
  refine aops_nil ?_
  refine xt_n ?_
  refine hK _ ?_
  clear hK K
  refine aw_seq_k fun K hK => ?_
  refine w_region (n' := 5) (by kernel_rfl) (by kernel_rfl) ?_
  refine e_call (first := []) (caps := []) (exA_ac) (by kernel_rfl) (by kernel_rfl) (by kernel_rfl) (by kernel_rfl) (by kernel_rfl) ?_
  refine aops_n hTT (M := []) (n := 5) [pv (22 : Nat) (V.tup [V.i (50410000 : Int), V.i (0 : Int)]), pv (24 : Nat) (V.i (50410000 : Int)), pv (25 : Nat) (V.i (0 : Int)), pv (5 : Nat) (V.i (50410000 : Int)), pv (6 : Nat) (V.i (0 : Int))] (by kernel_rfl) (by kernel_rfl) True.intro ?_
  refine aops_nil ?_
  refine xt_n ?_
  refine hK _ ?_
  clear hK K
  refine aw_seq_k fun K hK => ?_
  refine w_region (n' := 6) (by kernel_rfl) (by kernel_rfl) ?_
  refine aops_n hTT (M := []) (n := 27) [pv (26 : Nat) (V.i (0 : Int)), pv (27 : Nat) (V.i (0 : Int)), pc (28 : Nat) ((-9223372036854775808 : Int) ≤ (0 : Int) + (0 : Int) ∧ (0 : Int) + (0 : Int) ≤ (9223372036854775807 : Int)) (V.i ((0 : Int) + (0 : Int))), pv (29 : Nat) (V.i (0 : Int)), pc (30 : Nat) ((-9223372036854775808 : Int) ≤ (0 : Int) + (0 : Int) + (0 : Int) ∧ (0 : Int) + (0 : Int) + (0 : Int) ≤ (9223372036854775807 : Int)) (V.i ((0 : Int) + (0 : Int) + (0 : Int))), pv (31 : Nat) (V.b true), pv (32 : Nat) (V.b true), pc (33 : Nat) ((True ∧ True) ∧ ((true == true) = true → True)) (V.gd (true == true) (V.sl (2 : Nat) (3 : Nat) fun (k : Nat) => [V.i (Prod.fst (gp ex3 k)), V.i (Prod.snd (gp ex3 k))])), pc (34 : Nat) ((((true == true) = true → (true == true) = true) ∧ True) ∧ ((true == true) = true → True)) (V.gd (true == true) (V.i (↑(3 : Nat) : Int))), pc (35 : Nat) ((((true == true) = true → (true == true) = true) ∧ True ∧ True) ∧ ((true == true) = true → True)) (V.gd (true == true) (V.b true)), pc (36 : Nat) ((true = true → (true == true) = true) ∧ True) (V.b true), pv (37 : Nat) (V.b true), pc (38 : Nat) ((True ∧ True) ∧ ((true == true) = true → True)) (V.gd (true == true) (V.sl (2 : Nat) (3 : Nat) fun (k : Nat) => [V.i (Prod.fst (gp ex3 k)), V.i (Prod.snd (gp ex3 k))])), pc (39 : Nat) ((((true == true) = true → (true == true) = true) ∧ True ∧ True) ∧ ((true == true) = true → (0 : Int) ≤ (1 : Int) ∧ (1 : Int) < (↑(3 : Nat) : Int))) (V.gd (true == true) (V.ptr [V.i (Prod.fst (gp ex3 (1 : Nat))), V.i (Prod.snd (gp ex3 (1 : Nat)))])), pc (40 : Nat) ((((true == true) = true → (true == true) = true) ∧ True) ∧ ((true == true) = true → True)) (V.gd (true == true) (V.agg [V.i (Prod.fst (gp ex3 (1 : Nat))), V.i (Prod.snd (gp ex3 (1 : Nat)))])), pc (41 : Nat) ((True ∧ True ∧ True) ∧ ((true == true) = true → True)) (V.gd (true == true) (V.agg [V.i (-200 : Int), V.i (600 : Int)])), pc (42 : Nat) ((((true == true) = true → (true == true) = true) ∧ ((true == true) = true → (true == true) = true) ∧ True) ∧ ((true == true) = true → True)) (V.gd (true == true) (V.b true)), pc (43 : Nat) ((true = true → (true == true) = true) ∧ True) (V.b true), pv (44 : Nat) (V.b true), pc (45 : Nat) ((True ∧ True) ∧ ((true == true) = true → True)) (V.gd (true == true) (V.i (31831 : Int))), pc (46 : Nat) ((((true == true) = true → (true == true) = true) ∧ True ∧ True) ∧ ((true == true) = true → True)) (V.gd (true == true) (V.b true)), pc (47 : Nat) ((true = true → (true == true) = true) ∧ True) (V.b true), pv (48 : Nat) (V.b true), pc (49 : Nat) ((True ∧ True) ∧ ((true == true) = true → True)) (V.gd (true == true) (V.i (50410000 : Int))), pc (50 : Nat) ((((true == true) = true → (true == true) = true) ∧ True ∧ True) ∧ ((true == true) = true → True)) (V.gd (true == true) (V.b true)), pc (51 : Nat) ((true = true → (true == true) = true) ∧ True) (V.b true), pv (0 : Nat) (V.b true)] (by kernel_rfl) (by kernel_rfl) ⟨(by omega), (by omega), ⟨⟨True.intro, True.intro⟩, (fun _ => True.intro)⟩, ⟨⟨(by (exact fun h => h)), True.intro⟩, (fun _ => True.intro)⟩, ⟨⟨(by (exact fun h => h)), ⟨True.intro, True.intro⟩⟩, (fun _ => True.intro)⟩, ⟨(by (exact fun h => h)), True.intro⟩, ⟨⟨True.intro, True.intro⟩, (fun _ => True.intro)⟩, ⟨⟨(by (exact fun h => h)), ⟨True.intro, True.intro⟩⟩, (by (intro _; simp; done))⟩, ⟨⟨(by (exact fun h => h)), True.intro⟩, (fun _ => True.intro)⟩, ⟨⟨True.intro, ⟨True.intro, True.intro⟩⟩, (fun _ => True.intro)⟩, ⟨⟨(by (exact fun h => h)), ⟨(by (exact fun h => h)), True.intro⟩⟩, (fun _ => True.intro)⟩, ⟨(by (exact fun h => h)), True.intro⟩, ⟨⟨True.intro, True.intro⟩, (fun _ => True.intro)⟩, ⟨⟨(by (exact fun h => h)), ⟨True.intro, True.intro⟩⟩, (fun _ => True.intro)⟩, ⟨(by (exact fun h => h)), True.intro⟩, ⟨⟨True.intro, True.intro⟩, (fun _ => True.intro)⟩, ⟨⟨(by (exact fun h => h)), ⟨True.intro, True.intro⟩⟩, (fun _ => True.intro)⟩, ⟨(by (exact fun h => h)), True.intro⟩, True.intro⟩ ?_
  refine aops_nil ?_
  refine xt_n ?_
  refine hK _ ?_
  clear hK K
  refine aw_ret ?_
  refine ret_pure (v' := V.b true) (.inr rfl) (by kernel_rfl) (by kernel_rfl) (by kernel_rfl)
end Go.Proofs.Ytjjlgegccfolpaa
