/-
  FilterApplies: the walk of the law. No condition.
-/
import Derived.Test.YtblipieipldanaaFA11
import Derived.Test.YtblipieipldanaaMC
namespace Go.Proofs.Ytblipieipldanaa
open Go.Ab Go.RowKit Go.Dw Go.Shelf

theorem apR_len {c : Cv} {u : Bool} {x : List Int} (hx : x.length ≤ bigL) : (apR c u x).2.length ≤ bigL := by
  by_cases h : cvE c = 0
  · by_cases h2 : sigE x = 0
    · cases h3 : runI c u 32767 x with
      | none => rw [apR_3 h h2 h3]; exact Nat.zero_le _
      | some y => rw [apR_4 h h2 h3]; show y.length ≤ _; rw [runI_len h3]; exact hx
    · rw [apR_2 h h2]; exact Nat.zero_le _
  · rw [apR_1 h]; exact Nat.zero_le _
theorem wf_cv {f b : List Int} {s : Int} (h : f.length ≤ bigL ∧ b.length ≤ bigL) : cvL ⟨f, b, s⟩ := h
set_option maxRecDepth 100000 in
theorem applies_law (c : Cv) (x : List Int) (hc : cvL c) (hx : x.length ≤ bigL) : AC Try.prog 5 [V.cv c, V.ints x] (.b true) [] := by
  have l1 := apR_len (c := c) (u := false) hx
  have l2 := apR_len (c := c) (u := true) hx
  refine ac_intro hTT hMX (fn := Try.f5) (N := _) ⟨Try.func5, rfl, Try.ntmps5, by kernel_rfl⟩ (by simp) fun C hC hF => ?_
  refine aw_seq_k fun K hK => ?_
  refine w_region (n' := 2) (by kernel_rfl) (by kernel_rfl) ?_
  refine aops_n hTT (M := []) (n := 2) [pv (2 : Nat) (V.ptr [V.sl (1 : Nat) (List.length (Cv.feed c)) fun (k : Nat) => [V.i (gi (Cv.feed c) k)], V.sl (1 : Nat) (List.length (Cv.back c)) fun (k : Nat) => [V.i (gi (Cv.back c) k)], V.i (Cv.share c)]), pv (4 : Nat) (V.b false)] (by kernel_rfl) (by kernel_rfl) True.intro ?_
  refine aops_nil ?_
  refine xt_n ?_
  refine hK _ ?_
  clear hK K
  refine aw_seq_k fun K hK => ?_
  refine aw_seq_k fun K hK => ?_
  refine w_region (n' := 3) (by kernel_rfl) (by kernel_rfl) ?_
  refine aops_n hTT (M := []) (n := 2) [pv (13 : Nat) (V.agg [V.sl (1 : Nat) (List.length (Cv.feed c)) fun (k : Nat) => [V.i (gi (Cv.feed c) k)], V.sl (1 : Nat) (List.length (Cv.back c)) fun (k : Nat) => [V.i (gi (Cv.back c) k)], V.i (Cv.share c)]), pv (14 : Nat) (V.sl (3 : Nat) (1 : Nat) fun (i : Nat) => List.take (3 : Nat) (List.drop (i * (3 : Nat)) [V.sl (1 : Nat) (List.length (Cv.feed c)) fun (k : Nat) => [V.i (gi (Cv.feed c) k)], V.sl (1 : Nat) (List.length (Cv.back c)) fun (k : Nat) => [V.i (gi (Cv.back c) k)], V.i (Cv.share c)]))] (by kernel_rfl) (by kernel_rfl) True.intro ?_
  refine e_call (first := []) (caps := []) (AC.conv (chains_ac [c] (by unfold bigL; simp)) (args' := [V.sl (3 : Nat) (1 : Nat) fun (i : Nat) => List.take (3 : Nat) (List.drop (i * (3 : Nat)) [V.sl (1 : Nat) (List.length (Cv.feed c)) fun (k : Nat) => [V.i (gi (Cv.feed c) k)], V.sl (1 : Nat) (List.length (Cv.back c)) fun (k : Nat) => [V.i (gi (Cv.back c) k)], V.i (Cv.share c)])]) ⟨?_, trivial⟩) (by kernel_rfl) (by kernel_rfl) (by kernel_rfl) (by kernel_rfl) (by kernel_rfl) ?_
  · refine RImp.rows rfl fun i hi => ?_
    obtain rfl : i = 0 := by omega
    rfl
  refine aops_n hTT (M := []) (n := 3) [pv (16 : Nat) (V.b (longC [c])), pc (17 : Nat) ((True ∧ True) ∧ ((longC [c] == false) = true → True)) (V.gd (longC [c] == false) (V.sl (1 : Nat) (List.length x) fun (k : Nat) => [V.i (gi x k)])), pc (18 : Nat) ((((longC [c] == false) = true → (longC [c] == false) = true) ∧ True) ∧ ((longC [c] == false) = true → True)) (V.gd (longC [c] == false) (V.i (↑(List.length x) : Int)))] (by kernel_rfl) (by kernel_rfl) ⟨⟨⟨True.intro, True.intro⟩, (fun _ => True.intro)⟩, ⟨⟨(by (exact fun h => h)), True.intro⟩, (fun _ => True.intro)⟩, True.intro⟩ ?_
  refine e_callG 1 (g := longC [c] == false) (first := []) (caps := []) (by kernel_rfl) (fun h => long_ac x.length 400) (by kernel_rfl) (by kernel_rfl) (by kernel_rfl) (by kernel_rfl) (by kernel_rfl) (by kernel_rfl) ?_
  refine aops_n hTT (M := []) (n := 1) [pc (20 : Nat) (True ∧ (longC [c] = false → (longC [c] == false) = true)) (V.b (longC [c] || (decide ((400 : Int) < (↑(List.length x) : Int)) && decide ((↑(List.length x) : Int) ≤ (4096 : Int)) || decide ((4116 : Int) < (↑(List.length x) : Int)))))] (by kernel_rfl) (by kernel_rfl) ⟨⟨True.intro, (by (intro h; rw [h]; rfl))⟩, True.intro⟩ ?_
  refine aops_nil ?_
  refine xt_n ?_
  refine hK _ ?_
  clear hK K
  refine w_cond (t := longC [c] || (decide ((400 : Int) < (↑(List.length x) : Int)) && decide ((↑(List.length x) : Int) ≤ (4096 : Int)) || decide ((4116 : Int) < (↑(List.length x) : Int)))) (by kernel_rfl) (fun c1 => ?_) (fun c1 => ?_)
  · refine aw_seq_k fun K hK => ?_
    refine w_region (n' := 4) (by kernel_rfl) (by kernel_rfl) ?_
    refine e_call (first := []) (caps := []) (works_ac) (by kernel_rfl) (by kernel_rfl) (by kernel_rfl) (by kernel_rfl) (by kernel_rfl) ?_
    refine aops_n hTT (M := []) (n := 1) [pv (4 : Nat) (V.b true)] (by kernel_rfl) (by kernel_rfl) True.intro ?_
    refine aops_nil ?_
    refine xt_n ?_
    refine hK _ ?_
    clear hK K
    refine aw_ret ?_
    refine xt_r ?_
    refine ret_pure (v' := V.b true) (.inr rfl) (by kernel_rfl) (by kernel_rfl) (by kernel_rfl)
  refine aw_skip ?_
  refine xt_n ?_
  refine hK _ ?_
  clear hK K
  refine aw_seq_k fun K hK => ?_
  refine w_region (n' := 4) (by kernel_rfl) (by kernel_rfl) ?_
  refine aops_n hTT (M := []) (n := 2) [pv (23 : Nat) (V.agg [V.sl (1 : Nat) (List.length (Cv.feed c)) fun (k : Nat) => [V.i (gi (Cv.feed c) k)], V.sl (1 : Nat) (List.length (Cv.back c)) fun (k : Nat) => [V.i (gi (Cv.back c) k)], V.i (Cv.share c)]), pv (24 : Nat) (V.sl (1 : Nat) (List.length x) fun (k : Nat) => [V.i (gi x k)])] (by kernel_rfl) (by kernel_rfl) True.intro ?_
  refine e_call (first := []) (caps := []) (Apply_ac c x hc hx) (by kernel_rfl) (by kernel_rfl) (by kernel_rfl) (by kernel_rfl) (by kernel_rfl) ?_
  refine aops_n hTT (M := []) (n := 5) [pv (22 : Nat) (V.tup [V.sl (1 : Nat) (List.length (Prod.snd (apR c false x))) fun (k : Nat) => [V.i (gi (Prod.snd (apR c false x)) k)], V.i (Prod.fst (apR c false x))]), pv (26 : Nat) (V.sl (1 : Nat) (List.length (Prod.snd (apR c false x))) fun (k : Nat) => [V.i (gi (Prod.snd (apR c false x)) k)]), pv (27 : Nat) (V.i (Prod.fst (apR c false x))), pv (5 : Nat) (V.sl (1 : Nat) (List.length (Prod.snd (apR c false x))) fun (k : Nat) => [V.i (gi (Prod.snd (apR c false x)) k)]), pv (6 : Nat) (V.i (Prod.fst (apR c false x)))] (by kernel_rfl) (by kernel_rfl) True.intro ?_
  refine aops_nil ?_
  refine xt_n ?_
  refine hK _ ?_
  clear hK K
  refine aw_seq_k fun K hK => ?_
  refine w_region (n' := 5) (by kernel_rfl) (by kernel_rfl) ?_
  refine aops_n hTT (M := []) (n := 2) [pv (29 : Nat) (V.agg [V.sl (1 : Nat) (List.length (Cv.feed c)) fun (k : Nat) => [V.i (gi (Cv.feed c) k)], V.sl (1 : Nat) (List.length (Cv.back c)) fun (k : Nat) => [V.i (gi (Cv.back c) k)], V.i (Cv.share c)]), pv (30 : Nat) (V.sl (1 : Nat) (List.length x) fun (k : Nat) => [V.i (gi x k)])] (by kernel_rfl) (by kernel_rfl) True.intro ?_
  refine e_call (first := []) (caps := []) (refApply_ac c x hc hx) (by kernel_rfl) (by kernel_rfl) (by kernel_rfl) (by kernel_rfl) (by kernel_rfl) ?_
  refine aops_n hTT (M := []) (n := 5) [pv (28 : Nat) (V.tup [V.sl (1 : Nat) (List.length (Prod.snd (apR c false x))) fun (k : Nat) => [V.i (gi (Prod.snd (apR c false x)) k)], V.i (Prod.fst (apR c false x))]), pv (32 : Nat) (V.sl (1 : Nat) (List.length (Prod.snd (apR c false x))) fun (k : Nat) => [V.i (gi (Prod.snd (apR c false x)) k)]), pv (33 : Nat) (V.i (Prod.fst (apR c false x))), pv (7 : Nat) (V.sl (1 : Nat) (List.length (Prod.snd (apR c false x))) fun (k : Nat) => [V.i (gi (Prod.snd (apR c false x)) k)]), pv (8 : Nat) (V.i (Prod.fst (apR c false x)))] (by kernel_rfl) (by kernel_rfl) True.intro ?_
  refine aops_nil ?_
  refine xt_n ?_
  refine hK _ ?_
  clear hK K
  refine aw_seq_k fun K hK => ?_
  refine w_region (n' := 6) (by kernel_rfl) (by kernel_rfl) ?_
  refine aops_n hTT (M := []) (n := 2) [pv (35 : Nat) (V.agg [V.sl (1 : Nat) (List.length (Cv.feed c)) fun (k : Nat) => [V.i (gi (Cv.feed c) k)], V.sl (1 : Nat) (List.length (Cv.back c)) fun (k : Nat) => [V.i (gi (Cv.back c) k)], V.i (Cv.share c)]), pv (36 : Nat) (V.sl (1 : Nat) (List.length x) fun (k : Nat) => [V.i (gi x k)])] (by kernel_rfl) (by kernel_rfl) True.intro ?_
  refine e_call (first := []) (caps := []) (Undo_ac c x hc hx) (by kernel_rfl) (by kernel_rfl) (by kernel_rfl) (by kernel_rfl) (by kernel_rfl) ?_
  refine aops_n hTT (M := []) (n := 5) [pv (34 : Nat) (V.tup [V.sl (1 : Nat) (List.length (Prod.snd (apR c true x))) fun (k : Nat) => [V.i (gi (Prod.snd (apR c true x)) k)], V.i (Prod.fst (apR c true x))]), pv (38 : Nat) (V.sl (1 : Nat) (List.length (Prod.snd (apR c true x))) fun (k : Nat) => [V.i (gi (Prod.snd (apR c true x)) k)]), pv (39 : Nat) (V.i (Prod.fst (apR c true x))), pv (9 : Nat) (V.sl (1 : Nat) (List.length (Prod.snd (apR c true x))) fun (k : Nat) => [V.i (gi (Prod.snd (apR c true x)) k)]), pv (10 : Nat) (V.i (Prod.fst (apR c true x)))] (by kernel_rfl) (by kernel_rfl) True.intro ?_
  refine aops_nil ?_
  refine xt_n ?_
  refine hK _ ?_
  clear hK K
  refine aw_seq_k fun K hK => ?_
  refine w_region (n' := 7) (by kernel_rfl) (by kernel_rfl) ?_
  refine aops_n hTT (M := []) (n := 2) [pv (41 : Nat) (V.agg [V.sl (1 : Nat) (List.length (Cv.feed c)) fun (k : Nat) => [V.i (gi (Cv.feed c) k)], V.sl (1 : Nat) (List.length (Cv.back c)) fun (k : Nat) => [V.i (gi (Cv.back c) k)], V.i (Cv.share c)]), pv (42 : Nat) (V.sl (1 : Nat) (List.length x) fun (k : Nat) => [V.i (gi x k)])] (by kernel_rfl) (by kernel_rfl) True.intro ?_
  refine e_call (first := []) (caps := []) (refUndo_ac c x hc hx) (by kernel_rfl) (by kernel_rfl) (by kernel_rfl) (by kernel_rfl) (by kernel_rfl) ?_
  refine aops_n hTT (M := []) (n := 5) [pv (40 : Nat) (V.tup [V.sl (1 : Nat) (List.length (Prod.snd (apR c true x))) fun (k : Nat) => [V.i (gi (Prod.snd (apR c true x)) k)], V.i (Prod.fst (apR c true x))]), pv (44 : Nat) (V.sl (1 : Nat) (List.length (Prod.snd (apR c true x))) fun (k : Nat) => [V.i (gi (Prod.snd (apR c true x)) k)]), pv (45 : Nat) (V.i (Prod.fst (apR c true x))), pv (11 : Nat) (V.sl (1 : Nat) (List.length (Prod.snd (apR c true x))) fun (k : Nat) => [V.i (gi (Prod.snd (apR c true x)) k)]), pv (12 : Nat) (V.i (Prod.fst (apR c true x)))] (by kernel_rfl) (by kernel_rfl) True.intro ?_
  refine aops_nil ?_
  refine xt_n ?_
  refine hK _ ?_
  clear hK K
  refine aw_seq_k fun K hK => ?_
  refine w_region (n' := 8) (by kernel_rfl) (by kernel_rfl) ?_
  refine aops_n hTT (M := []) (n := 6) [pv (46 : Nat) (V.i (Prod.fst (apR c false x))), pv (47 : Nat) (V.i (Prod.fst (apR c false x))), pv (48 : Nat) (V.b (decide (Prod.fst (apR c false x) = Prod.fst (apR c false x)))), pv (49 : Nat) (V.b (decide (Prod.fst (apR c false x) = Prod.fst (apR c false x)))), pc (50 : Nat) ((True ∧ True) ∧ ((decide (Prod.fst (apR c false x) = Prod.fst (apR c false x)) == true) = true → True)) (V.gd (decide (Prod.fst (apR c false x) = Prod.fst (apR c false x)) == true) (V.sl (1 : Nat) (List.length (Prod.snd (apR c false x))) fun (k : Nat) => [V.i (gi (Prod.snd (apR c false x)) k)])), pc (51 : Nat) ((True ∧ True) ∧ ((decide (Prod.fst (apR c false x) = Prod.fst (apR c false x)) == true) = true → True)) (V.gd (decide (Prod.fst (apR c false x) = Prod.fst (apR c false x)) == true) (V.sl (1 : Nat) (List.length (Prod.snd (apR c false x))) fun (k : Nat) => [V.i (gi (Prod.snd (apR c false x)) k)]))] (by kernel_rfl) (by kernel_rfl) ⟨⟨⟨True.intro, True.intro⟩, (fun _ => True.intro)⟩, ⟨⟨True.intro, True.intro⟩, (fun _ => True.intro)⟩, True.intro⟩ ?_
  refine e_callG 2 (g := decide (Prod.fst (apR c false x) = Prod.fst (apR c false x)) == true) (first := []) (caps := []) (by kernel_rfl) (fun h => refSame_ac (apR c false x).2 (apR c false x).2 l1 l1) (by kernel_rfl) (by kernel_rfl) (by kernel_rfl) (by kernel_rfl) (by kernel_rfl) (by kernel_rfl) ?_
  refine aops_n hTT (M := []) (n := 9) [pc (53 : Nat) ((decide (Prod.fst (apR c false x) = Prod.fst (apR c false x)) = true → (decide (Prod.fst (apR c false x) = Prod.fst (apR c false x)) == true) = true) ∧ True) (V.b (decide (Prod.fst (apR c false x) = Prod.fst (apR c false x)) && decide (Prod.snd (apR c false x) = Prod.snd (apR c false x)))), pv (54 : Nat) (V.b (decide (Prod.fst (apR c false x) = Prod.fst (apR c false x)) && decide (Prod.snd (apR c false x) = Prod.snd (apR c false x)))), pc (55 : Nat) ((True ∧ True) ∧ (((decide (Prod.fst (apR c false x) = Prod.fst (apR c false x)) && decide (Prod.snd (apR c false x) = Prod.snd (apR c false x))) == true) = true → True)) (V.gd ((decide (Prod.fst (apR c false x) = Prod.fst (apR c false x)) && decide (Prod.snd (apR c false x) = Prod.snd (apR c false x))) == true) (V.i (Prod.fst (apR c true x)))), pc (56 : Nat) ((True ∧ True) ∧ (((decide (Prod.fst (apR c false x) = Prod.fst (apR c false x)) && decide (Prod.snd (apR c false x) = Prod.snd (apR c false x))) == true) = true → True)) (V.gd ((decide (Prod.fst (apR c false x) = Prod.fst (apR c false x)) && decide (Prod.snd (apR c false x) = Prod.snd (apR c false x))) == true) (V.i (Prod.fst (apR c true x)))), pc (57 : Nat) (((((decide (Prod.fst (apR c false x) = Prod.fst (apR c false x)) && decide (Prod.snd (apR c false x) = Prod.snd (apR c false x))) == true) = true → ((decide (Prod.fst (apR c false x) = Prod.fst (apR c false x)) && decide (Prod.snd (apR c false x) = Prod.snd (apR c false x))) == true) = true) ∧ (((decide (Prod.fst (apR c false x) = Prod.fst (apR c false x)) && decide (Prod.snd (apR c false x) = Prod.snd (apR c false x))) == true) = true → ((decide (Prod.fst (apR c false x) = Prod.fst (apR c false x)) && decide (Prod.snd (apR c false x) = Prod.snd (apR c false x))) == true) = true) ∧ True) ∧ (((decide (Prod.fst (apR c false x) = Prod.fst (apR c false x)) && decide (Prod.snd (apR c false x) = Prod.snd (apR c false x))) == true) = true → True)) (V.gd ((decide (Prod.fst (apR c false x) = Prod.fst (apR c false x)) && decide (Prod.snd (apR c false x) = Prod.snd (apR c false x))) == true) (V.b (decide (Prod.fst (apR c true x) = Prod.fst (apR c true x))))), pc (58 : Nat) (((decide (Prod.fst (apR c false x) = Prod.fst (apR c false x)) && decide (Prod.snd (apR c false x) = Prod.snd (apR c false x))) = true → ((decide (Prod.fst (apR c false x) = Prod.fst (apR c false x)) && decide (Prod.snd (apR c false x) = Prod.snd (apR c false x))) == true) = true) ∧ True) (V.b (decide (Prod.fst (apR c false x) = Prod.fst (apR c false x)) && decide (Prod.snd (apR c false x) = Prod.snd (apR c false x)) && decide (Prod.fst (apR c true x) = Prod.fst (apR c true x)))), pv (59 : Nat) (V.b (decide (Prod.fst (apR c false x) = Prod.fst (apR c false x)) && decide (Prod.snd (apR c false x) = Prod.snd (apR c false x)) && decide (Prod.fst (apR c true x) = Prod.fst (apR c true x)))), pc (60 : Nat) ((True ∧ True) ∧ (((decide (Prod.fst (apR c false x) = Prod.fst (apR c false x)) && decide (Prod.snd (apR c false x) = Prod.snd (apR c false x)) && decide (Prod.fst (apR c true x) = Prod.fst (apR c true x))) == true) = true → True)) (V.gd ((decide (Prod.fst (apR c false x) = Prod.fst (apR c false x)) && decide (Prod.snd (apR c false x) = Prod.snd (apR c false x)) && decide (Prod.fst (apR c true x) = Prod.fst (apR c true x))) == true) (V.sl (1 : Nat) (List.length (Prod.snd (apR c true x))) fun (k : Nat) => [V.i (gi (Prod.snd (apR c true x)) k)])), pc (61 : Nat) ((True ∧ True) ∧ (((decide (Prod.fst (apR c false x) = Prod.fst (apR c false x)) && decide (Prod.snd (apR c false x) = Prod.snd (apR c false x)) && decide (Prod.fst (apR c true x) = Prod.fst (apR c true x))) == true) = true → True)) (V.gd ((decide (Prod.fst (apR c false x) = Prod.fst (apR c false x)) && decide (Prod.snd (apR c false x) = Prod.snd (apR c false x)) && decide (Prod.fst (apR c true x) = Prod.fst (apR c true x))) == true) (V.sl (1 : Nat) (List.length (Prod.snd (apR c true x))) fun (k : Nat) => [V.i (gi (Prod.snd (apR c true x)) k)]))] (by kernel_rfl) (by kernel_rfl) ⟨⟨(by (intro h; rw [h]; rfl)), True.intro⟩, ⟨⟨True.intro, True.intro⟩, (fun _ => True.intro)⟩, ⟨⟨True.intro, True.intro⟩, (fun _ => True.intro)⟩, ⟨⟨(by (exact fun h => h)), ⟨(by (exact fun h => h)), True.intro⟩⟩, (fun _ => True.intro)⟩, ⟨(by (intro h; rw [h]; rfl)), True.intro⟩, ⟨⟨True.intro, True.intro⟩, (fun _ => True.intro)⟩, ⟨⟨True.intro, True.intro⟩, (fun _ => True.intro)⟩, True.intro⟩ ?_
  refine e_callG 2 (g := (decide (Prod.fst (apR c false x) = Prod.fst (apR c false x)) && decide (Prod.snd (apR c false x) = Prod.snd (apR c false x)) && decide (Prod.fst (apR c true x) = Prod.fst (apR c true x))) == true) (first := []) (caps := []) (by kernel_rfl) (fun h => refSame_ac (apR c true x).2 (apR c true x).2 l2 l2) (by kernel_rfl) (by kernel_rfl) (by kernel_rfl) (by kernel_rfl) (by kernel_rfl) (by kernel_rfl) ?_
  refine aops_n hTT (M := []) (n := 2) [pc (63 : Nat) (((decide (Prod.fst (apR c false x) = Prod.fst (apR c false x)) && decide (Prod.snd (apR c false x) = Prod.snd (apR c false x)) && decide (Prod.fst (apR c true x) = Prod.fst (apR c true x))) = true → ((decide (Prod.fst (apR c false x) = Prod.fst (apR c false x)) && decide (Prod.snd (apR c false x) = Prod.snd (apR c false x)) && decide (Prod.fst (apR c true x) = Prod.fst (apR c true x))) == true) = true) ∧ True) (V.b (decide (Prod.fst (apR c false x) = Prod.fst (apR c false x)) && decide (Prod.snd (apR c false x) = Prod.snd (apR c false x)) && decide (Prod.fst (apR c true x) = Prod.fst (apR c true x)) && decide (Prod.snd (apR c true x) = Prod.snd (apR c true x)))), pv (64 : Nat) (V.b (decide (Prod.fst (apR c false x) = Prod.fst (apR c false x)) && decide (Prod.snd (apR c false x) = Prod.snd (apR c false x)) && decide (Prod.fst (apR c true x) = Prod.fst (apR c true x)) && decide (Prod.snd (apR c true x) = Prod.snd (apR c true x))))] (by kernel_rfl) (by kernel_rfl) ⟨⟨(by (intro h; rw [h]; rfl)), True.intro⟩, True.intro⟩ ?_
  refine e_callG 0 (g := (decide (Prod.fst (apR c false x) = Prod.fst (apR c false x)) && decide (Prod.snd (apR c false x) = Prod.snd (apR c false x)) && decide (Prod.fst (apR c true x) = Prod.fst (apR c true x)) && decide (Prod.snd (apR c true x) = Prod.snd (apR c true x))) == true) (first := []) (caps := []) (by kernel_rfl) (fun h => works_ac) (by kernel_rfl) (by kernel_rfl) (by kernel_rfl) (by kernel_rfl) (by kernel_rfl) (by kernel_rfl) ?_
  refine aops_n hTT (M := []) (n := 2) [pc (66 : Nat) (((decide (Prod.fst (apR c false x) = Prod.fst (apR c false x)) && decide (Prod.snd (apR c false x) = Prod.snd (apR c false x)) && decide (Prod.fst (apR c true x) = Prod.fst (apR c true x)) && decide (Prod.snd (apR c true x) = Prod.snd (apR c true x))) = true → ((decide (Prod.fst (apR c false x) = Prod.fst (apR c false x)) && decide (Prod.snd (apR c false x) = Prod.snd (apR c false x)) && decide (Prod.fst (apR c true x) = Prod.fst (apR c true x)) && decide (Prod.snd (apR c true x) = Prod.snd (apR c true x))) == true) = true) ∧ True) (V.b (decide (Prod.fst (apR c false x) = Prod.fst (apR c false x)) && decide (Prod.snd (apR c false x) = Prod.snd (apR c false x)) && decide (Prod.fst (apR c true x) = Prod.fst (apR c true x)) && decide (Prod.snd (apR c true x) = Prod.snd (apR c true x)) && true)), pv (4 : Nat) (V.b (decide (Prod.fst (apR c false x) = Prod.fst (apR c false x)) && decide (Prod.snd (apR c false x) = Prod.snd (apR c false x)) && decide (Prod.fst (apR c true x) = Prod.fst (apR c true x)) && decide (Prod.snd (apR c true x) = Prod.snd (apR c true x)) && true))] (by kernel_rfl) (by kernel_rfl) ⟨⟨(by (intro h; rw [h]; rfl)), True.intro⟩, True.intro⟩ ?_
  refine aops_nil ?_
  refine xt_n ?_
  refine hK _ ?_
  clear hK K
  refine aw_ret ?_
  refine ret_pure (v' := V.b (decide (Prod.fst (apR c false x) = Prod.fst (apR c false x)) && decide (Prod.snd (apR c false x) = Prod.snd (apR c false x)) && decide (Prod.fst (apR c true x) = Prod.fst (apR c true x)) && decide (Prod.snd (apR c true x) = Prod.snd (apR c true x)) && true)) (.inr rfl) (by kernel_rfl) ?_ (by kernel_rfl)
  simp
def appliesSh : List Sh := [(.fld (.sl (.int .i64)) (.fld (.sl (.int .i64)) (.lst (.int .i64)))), (.sl (.int .i64))]
theorem applies_all (x : TL appliesSh) (hx : wfL appliesSh x) : AC Try.prog 5 (valL appliesSh x) (V.b true) [] := by
  obtain ⟨⟨f, b, s⟩, l, _⟩ := x
  obtain ⟨⟨⟨h1, _⟩, ⟨h2, _⟩, h3⟩, ⟨h4, _⟩, _⟩ := hx
  exact applies_law ⟨f, b, s⟩ l ⟨h1, h2⟩ h4
end Go.Proofs.Ytblipieipldanaa
