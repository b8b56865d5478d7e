/-
  FilterSides: the walk of the law. No condition.
-/
import Derived.Test.YtblipieipldanaaFA18
import Derived.Test.YtblipieipldanaaMC
namespace Go.Proofs.Ytblipieipldanaa
open Go.Ab Go.RowKit Go.Dw Go.Shelf

set_option maxRecDepth 100000 in
theorem sides_law (c : Cv) (p : List Pt) (hc : cvL c) (hp : p.length ≤ bigL) : AC Try.prog 14 [V.cv c, V.pts p] (.b true) [] := by
  refine ac_intro hTT hMX (fn := Try.f14) (N := _) ⟨Try.func14, rfl, Try.ntmps14, by kernel_rfl⟩ (by simp) fun C hC hF => ?_
  refine aw_seq_k fun K hK => ?_
  refine w_region (n' := 2) (by kernel_rfl) (by kernel_rfl) ?_
  refine aops_n hTT (M := []) (n := 2) [pv (2 : Nat) (V.ptr [V.sl (1 : Nat) (List.length (Cv.feed c)) fun (k : Nat) => [V.i (gi (Cv.feed c) k)], V.sl (1 : Nat) (List.length (Cv.back c)) fun (k : Nat) => [V.i (gi (Cv.back c) k)], V.i (Cv.share c)]), pv (4 : Nat) (V.b false)] (by kernel_rfl) (by kernel_rfl) True.intro ?_
  refine aops_nil ?_
  refine xt_n ?_
  refine hK _ ?_
  clear hK K
  refine aw_seq_k fun K hK => ?_
  refine aw_seq_k fun K hK => ?_
  refine w_region (n' := 3) (by kernel_rfl) (by kernel_rfl) ?_
  refine aops_n hTT (M := []) (n := 2) [pv (13 : Nat) (V.agg [V.sl (1 : Nat) (List.length (Cv.feed c)) fun (k : Nat) => [V.i (gi (Cv.feed c) k)], V.sl (1 : Nat) (List.length (Cv.back c)) fun (k : Nat) => [V.i (gi (Cv.back c) k)], V.i (Cv.share c)]), pv (14 : Nat) (V.sl (3 : Nat) (1 : Nat) fun (i : Nat) => List.take (3 : Nat) (List.drop (i * (3 : Nat)) [V.sl (1 : Nat) (List.length (Cv.feed c)) fun (k : Nat) => [V.i (gi (Cv.feed c) k)], V.sl (1 : Nat) (List.length (Cv.back c)) fun (k : Nat) => [V.i (gi (Cv.back c) k)], V.i (Cv.share c)]))] (by kernel_rfl) (by kernel_rfl) True.intro ?_
  refine e_call (first := []) (caps := []) (AC.conv (chains_ac [c] (by unfold bigL; simp)) (args' := [V.sl (3 : Nat) (1 : Nat) fun (i : Nat) => List.take (3 : Nat) (List.drop (i * (3 : Nat)) [V.sl (1 : Nat) (List.length (Cv.feed c)) fun (k : Nat) => [V.i (gi (Cv.feed c) k)], V.sl (1 : Nat) (List.length (Cv.back c)) fun (k : Nat) => [V.i (gi (Cv.back c) k)], V.i (Cv.share c)])]) ⟨?_, trivial⟩) (by kernel_rfl) (by kernel_rfl) (by kernel_rfl) (by kernel_rfl) (by kernel_rfl) ?_
  · refine RImp.rows rfl fun i hi => ?_
    obtain rfl : i = 0 := by omega
    rfl
  refine aops_n hTT (M := []) (n := 3) [pv (16 : Nat) (V.b (longC [c])), pc (17 : Nat) ((True ∧ True) ∧ ((longC [c] == false) = true → True)) (V.gd (longC [c] == false) (V.sl (2 : Nat) (List.length p) fun (k : Nat) => [V.i (Prod.fst (gp p k)), V.i (Prod.snd (gp p k))])), pc (18 : Nat) ((((longC [c] == false) = true → (longC [c] == false) = true) ∧ True) ∧ ((longC [c] == false) = true → True)) (V.gd (longC [c] == false) (V.i (↑(List.length p) : Int)))] (by kernel_rfl) (by kernel_rfl) ⟨⟨⟨True.intro, True.intro⟩, (fun _ => True.intro)⟩, ⟨⟨(by (exact fun h => h)), True.intro⟩, (fun _ => True.intro)⟩, True.intro⟩ ?_
  refine e_callG 1 (g := longC [c] == false) (first := []) (caps := []) (by kernel_rfl) (fun h => long_ac p.length 400) (by kernel_rfl) (by kernel_rfl) (by kernel_rfl) (by kernel_rfl) (by kernel_rfl) (by kernel_rfl) ?_
  refine aops_n hTT (M := []) (n := 1) [pc (20 : Nat) (True ∧ (longC [c] = false → (longC [c] == false) = true)) (V.b (longC [c] || (decide ((400 : Int) < (↑(List.length p) : Int)) && decide ((↑(List.length p) : Int) ≤ (4096 : Int)) || decide ((4116 : Int) < (↑(List.length p) : Int)))))] (by kernel_rfl) (by kernel_rfl) ⟨⟨True.intro, (by (intro h; rw [h]; rfl))⟩, True.intro⟩ ?_
  refine aops_nil ?_
  refine xt_n ?_
  refine hK _ ?_
  clear hK K
  refine w_cond (t := longC [c] || (decide ((400 : Int) < (↑(List.length p) : Int)) && decide ((↑(List.length p) : Int) ≤ (4096 : Int)) || decide ((4116 : Int) < (↑(List.length p) : Int)))) (by kernel_rfl) (fun c1 => ?_) (fun c1 => ?_)
  · refine aw_seq_k fun K hK => ?_
    refine w_region (n' := 4) (by kernel_rfl) (by kernel_rfl) ?_
    refine e_call (first := []) (caps := []) (works_ac) (by kernel_rfl) (by kernel_rfl) (by kernel_rfl) (by kernel_rfl) (by kernel_rfl) ?_
    refine aops_n hTT (M := []) (n := 1) [pv (4 : Nat) (V.b true)] (by kernel_rfl) (by kernel_rfl) True.intro ?_
    refine aops_nil ?_
    refine xt_n ?_
    refine hK _ ?_
    clear hK K
    refine aw_ret ?_
    refine xt_r ?_
    refine ret_pure (v' := V.b true) (.inr rfl) (by kernel_rfl) (by kernel_rfl) (by kernel_rfl)
  refine aw_skip ?_
  refine xt_n ?_
  refine hK _ ?_
  clear hK K
  refine aw_seq_k fun K hK => ?_
  refine w_region (n' := 4) (by kernel_rfl) (by kernel_rfl) ?_
  refine aops_n hTT (M := []) (n := 2) [pv (23 : Nat) (V.agg [V.sl (1 : Nat) (List.length (Cv.feed c)) fun (k : Nat) => [V.i (gi (Cv.feed c) k)], V.sl (1 : Nat) (List.length (Cv.back c)) fun (k : Nat) => [V.i (gi (Cv.back c) k)], V.i (Cv.share c)]), pv (24 : Nat) (V.sl (2 : Nat) (List.length p) fun (k : Nat) => [V.i (Prod.fst (gp p k)), V.i (Prod.snd (gp p k))])] (by kernel_rfl) (by kernel_rfl) True.intro ?_
  refine e_call (first := []) (caps := []) (Narrow_ac c p hc hp) (by kernel_rfl) (by kernel_rfl) (by kernel_rfl) (by kernel_rfl) (by kernel_rfl) ?_
  refine aops_n hTT (M := []) (n := 5) [pv (22 : Nat) (V.tup [V.sl (2 : Nat) (List.length (Prod.snd (sdR c false p))) fun (k : Nat) => [V.i (Prod.fst (gp (Prod.snd (sdR c false p)) k)), V.i (Prod.snd (gp (Prod.snd (sdR c false p)) k))], V.i (Prod.fst (sdR c false p))]), pv (26 : Nat) (V.sl (2 : Nat) (List.length (Prod.snd (sdR c false p))) fun (k : Nat) => [V.i (Prod.fst (gp (Prod.snd (sdR c false p)) k)), V.i (Prod.snd (gp (Prod.snd (sdR c false p)) k))]), pv (27 : Nat) (V.i (Prod.fst (sdR c false p))), pv (5 : Nat) (V.sl (2 : Nat) (List.length (Prod.snd (sdR c false p))) fun (k : Nat) => [V.i (Prod.fst (gp (Prod.snd (sdR c false p)) k)), V.i (Prod.snd (gp (Prod.snd (sdR c false p)) k))]), pv (6 : Nat) (V.i (Prod.fst (sdR c false p)))] (by kernel_rfl) (by kernel_rfl) True.intro ?_
  refine aops_nil ?_
  refine xt_n ?_
  refine hK _ ?_
  clear hK K
  refine aw_seq_k fun K hK => ?_
  refine w_region (n' := 5) (by kernel_rfl) (by kernel_rfl) ?_
  refine aops_n hTT (M := []) (n := 2) [pv (29 : Nat) (V.agg [V.sl (1 : Nat) (List.length (Cv.feed c)) fun (k : Nat) => [V.i (gi (Cv.feed c) k)], V.sl (1 : Nat) (List.length (Cv.back c)) fun (k : Nat) => [V.i (gi (Cv.back c) k)], V.i (Cv.share c)]), pv (30 : Nat) (V.sl (2 : Nat) (List.length p) fun (k : Nat) => [V.i (Prod.fst (gp p k)), V.i (Prod.snd (gp p k))])] (by kernel_rfl) (by kernel_rfl) True.intro ?_
  refine e_call (first := []) (caps := []) (refNarrow_ac c p hc hp) (by kernel_rfl) (by kernel_rfl) (by kernel_rfl) (by kernel_rfl) (by kernel_rfl) ?_
  refine aops_n hTT (M := []) (n := 5) [pv (28 : Nat) (V.tup [V.sl (2 : Nat) (List.length (Prod.snd (sdR c false p))) fun (k : Nat) => [V.i (Prod.fst (gp (Prod.snd (sdR c false p)) k)), V.i (Prod.snd (gp (Prod.snd (sdR c false p)) k))], V.i (Prod.fst (sdR c false p))]), pv (32 : Nat) (V.sl (2 : Nat) (List.length (Prod.snd (sdR c false p))) fun (k : Nat) => [V.i (Prod.fst (gp (Prod.snd (sdR c false p)) k)), V.i (Prod.snd (gp (Prod.snd (sdR c false p)) k))]), pv (33 : Nat) (V.i (Prod.fst (sdR c false p))), pv (7 : Nat) (V.sl (2 : Nat) (List.length (Prod.snd (sdR c false p))) fun (k : Nat) => [V.i (Prod.fst (gp (Prod.snd (sdR c false p)) k)), V.i (Prod.snd (gp (Prod.snd (sdR c false p)) k))]), pv (8 : Nat) (V.i (Prod.fst (sdR c false p)))] (by kernel_rfl) (by kernel_rfl) True.intro ?_
  refine aops_nil ?_
  refine xt_n ?_
  refine hK _ ?_
  clear hK K
  refine aw_seq_k fun K hK => ?_
  refine w_region (n' := 6) (by kernel_rfl) (by kernel_rfl) ?_
  refine aops_n hTT (M := []) (n := 2) [pv (35 : Nat) (V.agg [V.sl (1 : Nat) (List.length (Cv.feed c)) fun (k : Nat) => [V.i (gi (Cv.feed c) k)], V.sl (1 : Nat) (List.length (Cv.back c)) fun (k : Nat) => [V.i (gi (Cv.back c) k)], V.i (Cv.share c)]), pv (36 : Nat) (V.sl (2 : Nat) (List.length p) fun (k : Nat) => [V.i (Prod.fst (gp p k)), V.i (Prod.snd (gp p k))])] (by kernel_rfl) (by kernel_rfl) True.intro ?_
  refine e_call (first := []) (caps := []) (Widen_ac c p hc hp) (by kernel_rfl) (by kernel_rfl) (by kernel_rfl) (by kernel_rfl) (by kernel_rfl) ?_
  refine aops_n hTT (M := []) (n := 5) [pv (34 : Nat) (V.tup [V.sl (2 : Nat) (List.length (Prod.snd (sdR c true p))) fun (k : Nat) => [V.i (Prod.fst (gp (Prod.snd (sdR c true p)) k)), V.i (Prod.snd (gp (Prod.snd (sdR c true p)) k))], V.i (Prod.fst (sdR c true p))]), pv (38 : Nat) (V.sl (2 : Nat) (List.length (Prod.snd (sdR c true p))) fun (k : Nat) => [V.i (Prod.fst (gp (Prod.snd (sdR c true p)) k)), V.i (Prod.snd (gp (Prod.snd (sdR c true p)) k))]), pv (39 : Nat) (V.i (Prod.fst (sdR c true p))), pv (9 : Nat) (V.sl (2 : Nat) (List.length (Prod.snd (sdR c true p))) fun (k : Nat) => [V.i (Prod.fst (gp (Prod.snd (sdR c true p)) k)), V.i (Prod.snd (gp (Prod.snd (sdR c true p)) k))]), pv (10 : Nat) (V.i (Prod.fst (sdR c true p)))] (by kernel_rfl) (by kernel_rfl) True.intro ?_
  refine aops_nil ?_
  refine xt_n ?_
  refine hK _ ?_
  clear hK K
  refine aw_seq_k fun K hK => ?_
  refine w_region (n' := 7) (by kernel_rfl) (by kernel_rfl) ?_
  refine aops_n hTT (M := []) (n := 2) [pv (41 : Nat) (V.agg [V.sl (1 : Nat) (List.length (Cv.feed c)) fun (k : Nat) => [V.i (gi (Cv.feed c) k)], V.sl (1 : Nat) (List.length (Cv.back c)) fun (k : Nat) => [V.i (gi (Cv.back c) k)], V.i (Cv.share c)]), pv (42 : Nat) (V.sl (2 : Nat) (List.length p) fun (k : Nat) => [V.i (Prod.fst (gp p k)), V.i (Prod.snd (gp p k))])] (by kernel_rfl) (by kernel_rfl) True.intro ?_
  refine e_call (first := []) (caps := []) (refWiden_ac c p hc hp) (by kernel_rfl) (by kernel_rfl) (by kernel_rfl) (by kernel_rfl) (by kernel_rfl) ?_
  refine aops_n hTT (M := []) (n := 5) [pv (40 : Nat) (V.tup [V.sl (2 : Nat) (List.length (Prod.snd (sdR c true p))) fun (k : Nat) => [V.i (Prod.fst (gp (Prod.snd (sdR c true p)) k)), V.i (Prod.snd (gp (Prod.snd (sdR c true p)) k))], V.i (Prod.fst (sdR c true p))]), pv (44 : Nat) (V.sl (2 : Nat) (List.length (Prod.snd (sdR c true p))) fun (k : Nat) => [V.i (Prod.fst (gp (Prod.snd (sdR c true p)) k)), V.i (Prod.snd (gp (Prod.snd (sdR c true p)) k))]), pv (45 : Nat) (V.i (Prod.fst (sdR c true p))), pv (11 : Nat) (V.sl (2 : Nat) (List.length (Prod.snd (sdR c true p))) fun (k : Nat) => [V.i (Prod.fst (gp (Prod.snd (sdR c true p)) k)), V.i (Prod.snd (gp (Prod.snd (sdR c true p)) k))]), pv (12 : Nat) (V.i (Prod.fst (sdR c true p)))] (by kernel_rfl) (by kernel_rfl) True.intro ?_
  refine aops_nil ?_
  refine xt_n ?_
  refine hK _ ?_
  clear hK K
  refine aw_seq_k fun K hK => ?_
  refine w_region (n' := 8) (by kernel_rfl) (by kernel_rfl) ?_
  refine aops_n hTT (M := []) (n := 6) [pv (46 : Nat) (V.i (Prod.fst (sdR c false p))), pv (47 : Nat) (V.i (Prod.fst (sdR c false p))), pv (48 : Nat) (V.b (decide (Prod.fst (sdR c false p) = Prod.fst (sdR c false p)))), pv (49 : Nat) (V.b (decide (Prod.fst (sdR c false p) = Prod.fst (sdR c false p)))), pc (50 : Nat) ((True ∧ True) ∧ ((decide (Prod.fst (sdR c false p) = Prod.fst (sdR c false p)) == true) = true → True)) (V.gd (decide (Prod.fst (sdR c false p) = Prod.fst (sdR c false p)) == true) (V.sl (2 : Nat) (List.length (Prod.snd (sdR c false p))) fun (k : Nat) => [V.i (Prod.fst (gp (Prod.snd (sdR c false p)) k)), V.i (Prod.snd (gp (Prod.snd (sdR c false p)) k))])), pc (51 : Nat) ((True ∧ True) ∧ ((decide (Prod.fst (sdR c false p) = Prod.fst (sdR c false p)) == true) = true → True)) (V.gd (decide (Prod.fst (sdR c false p) = Prod.fst (sdR c false p)) == true) (V.sl (2 : Nat) (List.length (Prod.snd (sdR c false p))) fun (k : Nat) => [V.i (Prod.fst (gp (Prod.snd (sdR c false p)) k)), V.i (Prod.snd (gp (Prod.snd (sdR c false p)) k))]))] (by kernel_rfl) (by kernel_rfl) ⟨⟨⟨True.intro, True.intro⟩, (fun _ => True.intro)⟩, ⟨⟨True.intro, True.intro⟩, (fun _ => True.intro)⟩, True.intro⟩ ?_
  refine e_callG 2 (g := decide (Prod.fst (sdR c false p) = Prod.fst (sdR c false p)) == true) (first := []) (caps := []) (by kernel_rfl) (fun h => refSamePrograms_ac (sdR c false p).2 (sdR c false p).2 (sdR_len hp) (sdR_len hp)) (by kernel_rfl) (by kernel_rfl) (by kernel_rfl) (by kernel_rfl) (by kernel_rfl) (by kernel_rfl) ?_
  refine aops_n hTT (M := []) (n := 9) [pc (53 : Nat) ((decide (Prod.fst (sdR c false p) = Prod.fst (sdR c false p)) = true → (decide (Prod.fst (sdR c false p) = Prod.fst (sdR c false p)) == true) = true) ∧ True) (V.b (decide (Prod.fst (sdR c false p) = Prod.fst (sdR c false p)) && decide (Prod.snd (sdR c false p) = Prod.snd (sdR c false p)))), pv (54 : Nat) (V.b (decide (Prod.fst (sdR c false p) = Prod.fst (sdR c false p)) && decide (Prod.snd (sdR c false p) = Prod.snd (sdR c false p)))), pc (55 : Nat) ((True ∧ True) ∧ (((decide (Prod.fst (sdR c false p) = Prod.fst (sdR c false p)) && decide (Prod.snd (sdR c false p) = Prod.snd (sdR c false p))) == true) = true → True)) (V.gd ((decide (Prod.fst (sdR c false p) = Prod.fst (sdR c false p)) && decide (Prod.snd (sdR c false p) = Prod.snd (sdR c false p))) == true) (V.i (Prod.fst (sdR c true p)))), pc (56 : Nat) ((True ∧ True) ∧ (((decide (Prod.fst (sdR c false p) = Prod.fst (sdR c false p)) && decide (Prod.snd (sdR c false p) = Prod.snd (sdR c false p))) == true) = true → True)) (V.gd ((decide (Prod.fst (sdR c false p) = Prod.fst (sdR c false p)) && decide (Prod.snd (sdR c false p) = Prod.snd (sdR c false p))) == true) (V.i (Prod.fst (sdR c true p)))), pc (57 : Nat) (((((decide (Prod.fst (sdR c false p) = Prod.fst (sdR c false p)) && decide (Prod.snd (sdR c false p) = Prod.snd (sdR c false p))) == true) = true → ((decide (Prod.fst (sdR c false p) = Prod.fst (sdR c false p)) && decide (Prod.snd (sdR c false p) = Prod.snd (sdR c false p))) == true) = true) ∧ (((decide (Prod.fst (sdR c false p) = Prod.fst (sdR c false p)) && decide (Prod.snd (sdR c false p) = Prod.snd (sdR c false p))) == true) = true → ((decide (Prod.fst (sdR c false p) = Prod.fst (sdR c false p)) && decide (Prod.snd (sdR c false p) = Prod.snd (sdR c false p))) == true) = true) ∧ True) ∧ (((decide (Prod.fst (sdR c false p) = Prod.fst (sdR c false p)) && decide (Prod.snd (sdR c false p) = Prod.snd (sdR c false p))) == true) = true → True)) (V.gd ((decide (Prod.fst (sdR c false p) = Prod.fst (sdR c false p)) && decide (Prod.snd (sdR c false p) = Prod.snd (sdR c false p))) == true) (V.b (decide (Prod.fst (sdR c true p) = Prod.fst (sdR c true p))))), pc (58 : Nat) (((decide (Prod.fst (sdR c false p) = Prod.fst (sdR c false p)) && decide (Prod.snd (sdR c false p) = Prod.snd (sdR c false p))) = true → ((decide (Prod.fst (sdR c false p) = Prod.fst (sdR c false p)) && decide (Prod.snd (sdR c false p) = Prod.snd (sdR c false p))) == true) = true) ∧ True) (V.b (decide (Prod.fst (sdR c false p) = Prod.fst (sdR c false p)) && decide (Prod.snd (sdR c false p) = Prod.snd (sdR c false p)) && decide (Prod.fst (sdR c true p) = Prod.fst (sdR c true p)))), pv (59 : Nat) (V.b (decide (Prod.fst (sdR c false p) = Prod.fst (sdR c false p)) && decide (Prod.snd (sdR c false p) = Prod.snd (sdR c false p)) && decide (Prod.fst (sdR c true p) = Prod.fst (sdR c true p)))), pc (60 : Nat) ((True ∧ True) ∧ (((decide (Prod.fst (sdR c false p) = Prod.fst (sdR c false p)) && decide (Prod.snd (sdR c false p) = Prod.snd (sdR c false p)) && decide (Prod.fst (sdR c true p) = Prod.fst (sdR c true p))) == true) = true → True)) (V.gd ((decide (Prod.fst (sdR c false p) = Prod.fst (sdR c false p)) && decide (Prod.snd (sdR c false p) = Prod.snd (sdR c false p)) && decide (Prod.fst (sdR c true p) = Prod.fst (sdR c true p))) == true) (V.sl (2 : Nat) (List.length (Prod.snd (sdR c true p))) fun (k : Nat) => [V.i (Prod.fst (gp (Prod.snd (sdR c true p)) k)), V.i (Prod.snd (gp (Prod.snd (sdR c true p)) k))])), pc (61 : Nat) ((True ∧ True) ∧ (((decide (Prod.fst (sdR c false p) = Prod.fst (sdR c false p)) && decide (Prod.snd (sdR c false p) = Prod.snd (sdR c false p)) && decide (Prod.fst (sdR c true p) = Prod.fst (sdR c true p))) == true) = true → True)) (V.gd ((decide (Prod.fst (sdR c false p) = Prod.fst (sdR c false p)) && decide (Prod.snd (sdR c false p) = Prod.snd (sdR c false p)) && decide (Prod.fst (sdR c true p) = Prod.fst (sdR c true p))) == true) (V.sl (2 : Nat) (List.length (Prod.snd (sdR c true p))) fun (k : Nat) => [V.i (Prod.fst (gp (Prod.snd (sdR c true p)) k)), V.i (Prod.snd (gp (Prod.snd (sdR c true p)) k))]))] (by kernel_rfl) (by kernel_rfl) ⟨⟨(by (intro h; rw [h]; rfl)), True.intro⟩, ⟨⟨True.intro, True.intro⟩, (fun _ => True.intro)⟩, ⟨⟨True.intro, True.intro⟩, (fun _ => True.intro)⟩, ⟨⟨(by (exact fun h => h)), ⟨(by (exact fun h => h)), True.intro⟩⟩, (fun _ => True.intro)⟩, ⟨(by (intro h; rw [h]; rfl)), True.intro⟩, ⟨⟨True.intro, True.intro⟩, (fun _ => True.intro)⟩, ⟨⟨True.intro, True.intro⟩, (fun _ => True.intro)⟩, True.intro⟩ ?_
  refine e_callG 2 (g := (decide (Prod.fst (sdR c false p) = Prod.fst (sdR c false p)) && decide (Prod.snd (sdR c false p) = Prod.snd (sdR c false p)) && decide (Prod.fst (sdR c true p) = Prod.fst (sdR c true p))) == true) (first := []) (caps := []) (by kernel_rfl) (fun h => refSamePrograms_ac (sdR c true p).2 (sdR c true p).2 (sdR_len hp) (sdR_len hp)) (by kernel_rfl) (by kernel_rfl) (by kernel_rfl) (by kernel_rfl) (by kernel_rfl) (by kernel_rfl) ?_
  refine aops_n hTT (M := []) (n := 2) [pc (63 : Nat) (((decide (Prod.fst (sdR c false p) = Prod.fst (sdR c false p)) && decide (Prod.snd (sdR c false p) = Prod.snd (sdR c false p)) && decide (Prod.fst (sdR c true p) = Prod.fst (sdR c true p))) = true → ((decide (Prod.fst (sdR c false p) = Prod.fst (sdR c false p)) && decide (Prod.snd (sdR c false p) = Prod.snd (sdR c false p)) && decide (Prod.fst (sdR c true p) = Prod.fst (sdR c true p))) == true) = true) ∧ True) (V.b (decide (Prod.fst (sdR c false p) = Prod.fst (sdR c false p)) && decide (Prod.snd (sdR c false p) = Prod.snd (sdR c false p)) && decide (Prod.fst (sdR c true p) = Prod.fst (sdR c true p)) && decide (Prod.snd (sdR c true p) = Prod.snd (sdR c true p)))), pv (64 : Nat) (V.b (decide (Prod.fst (sdR c false p) = Prod.fst (sdR c false p)) && decide (Prod.snd (sdR c false p) = Prod.snd (sdR c false p)) && decide (Prod.fst (sdR c true p) = Prod.fst (sdR c true p)) && decide (Prod.snd (sdR c true p) = Prod.snd (sdR c true p))))] (by kernel_rfl) (by kernel_rfl) ⟨⟨(by (intro h; rw [h]; rfl)), True.intro⟩, True.intro⟩ ?_
  refine e_callG 0 (g := (decide (Prod.fst (sdR c false p) = Prod.fst (sdR c false p)) && decide (Prod.snd (sdR c false p) = Prod.snd (sdR c false p)) && decide (Prod.fst (sdR c true p) = Prod.fst (sdR c true p)) && decide (Prod.snd (sdR c true p) = Prod.snd (sdR c true p))) == true) (first := []) (caps := []) (by kernel_rfl) (fun h => works_ac) (by kernel_rfl) (by kernel_rfl) (by kernel_rfl) (by kernel_rfl) (by kernel_rfl) (by kernel_rfl) ?_
  refine aops_n hTT (M := []) (n := 2) [pc (66 : Nat) (((decide (Prod.fst (sdR c false p) = Prod.fst (sdR c false p)) && decide (Prod.snd (sdR c false p) = Prod.snd (sdR c false p)) && decide (Prod.fst (sdR c true p) = Prod.fst (sdR c true p)) && decide (Prod.snd (sdR c true p) = Prod.snd (sdR c true p))) = true → ((decide (Prod.fst (sdR c false p) = Prod.fst (sdR c false p)) && decide (Prod.snd (sdR c false p) = Prod.snd (sdR c false p)) && decide (Prod.fst (sdR c true p) = Prod.fst (sdR c true p)) && decide (Prod.snd (sdR c true p) = Prod.snd (sdR c true p))) == true) = true) ∧ True) (V.b (decide (Prod.fst (sdR c false p) = Prod.fst (sdR c false p)) && decide (Prod.snd (sdR c false p) = Prod.snd (sdR c false p)) && decide (Prod.fst (sdR c true p) = Prod.fst (sdR c true p)) && decide (Prod.snd (sdR c true p) = Prod.snd (sdR c true p)) && true)), pv (4 : Nat) (V.b (decide (Prod.fst (sdR c false p) = Prod.fst (sdR c false p)) && decide (Prod.snd (sdR c false p) = Prod.snd (sdR c false p)) && decide (Prod.fst (sdR c true p) = Prod.fst (sdR c true p)) && decide (Prod.snd (sdR c true p) = Prod.snd (sdR c true p)) && true))] (by kernel_rfl) (by kernel_rfl) ⟨⟨(by (intro h; rw [h]; rfl)), True.intro⟩, True.intro⟩ ?_
  refine aops_nil ?_
  refine xt_n ?_
  refine hK _ ?_
  clear hK K
  refine aw_ret ?_
  refine ret_pure (v' := V.b (decide (Prod.fst (sdR c false p) = Prod.fst (sdR c false p)) && decide (Prod.snd (sdR c false p) = Prod.snd (sdR c false p)) && decide (Prod.fst (sdR c true p) = Prod.fst (sdR c true p)) && decide (Prod.snd (sdR c true p) = Prod.snd (sdR c true p)) && true)) (.inr rfl) (by kernel_rfl) ?_ (by kernel_rfl)
  simp
def sidesSh : List Sh := [(.fld (.sl (.int .i64)) (.fld (.sl (.int .i64)) (.lst (.int .i64)))), (.sl (.fld (.int .i64) (.lst (.int .i64))))]
theorem sides_all (x : TL sidesSh) (hx : wfL sidesSh x) : AC Try.prog 14 (valL sidesSh x) (V.b true) [] := by
  obtain ⟨⟨f, b, s⟩, p, _⟩ := x
  obtain ⟨⟨⟨h1, _⟩, ⟨h2, _⟩, h3⟩, ⟨h4, _⟩, _⟩ := hx
  exact sides_law ⟨f, b, s⟩ p ⟨h1, h2⟩ h4
end Go.Proofs.Ytblipieipldanaa
