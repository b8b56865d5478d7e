/-
  FilterUndone: the walk of the law. No condition.
-/
import Derived.Test.YtblipieipldanaaWApplies
namespace Go.Proofs.Ytblipieipldanaa
open Go.Ab Go.RowKit Go.Dw Go.Shelf

theorem validB_ok {c : Cv} {x : List Int} {m : Int} (h : validB c x m = true) : (x.length : Int) ≤ m ∧ cvE c = 0 ∧ sigE x = 0 := by
  simp only [validB, Bool.and_eq_true, decide_eq_true_eq] at h
  exact ⟨h.1.1, h.1.2, h.2⟩
/-- what a curve gives for a valid signal -/
theorem apR_or {c : Cv} {u : Bool} {x : List Int} (h : cvE c = 0) (h2 : sigE x = 0) : (apR c u x = (4, []) ∧ runI c u 32767 x = none) ∨ ∃ y, apR c u x = (0, y) ∧ runI c u 32767 x = some y ∧ sigE y = 0 ∧ apR c (!u) y = (0, x) := by
  cases h3 : runI c u 32767 x with
  | none => exact .inl ⟨apR_3 h h2 h3, rfl⟩
  | some y =>
    have hs := sigE_ok.1 h2
    have hy : sigE y = 0 := sigE_ok.2 ⟨by rw [runI_len h3]; exact hs.1, (runI_eq.1 h3).1⟩
    exact .inr ⟨y, apR_4 h h2 h3, rfl, hy, apR_4 h hy (runI_undo hs.2 h3)⟩
set_option maxRecDepth 100000 in
theorem undone_law (c : Cv) (x z : List Int) (hc : cvL c) (hx : x.length ≤ bigL) (hz : z.length ≤ bigL) : AC Try.prog 6 [V.cv c, V.ints x, V.ints z] (.b true) [] := by
  have l1 := apR_len (c := c) (u := false) hx
  have l2 := apR_len (c := c) (u := true) hx
  have l3 := apR_len (c := c) (u := false) hz
  refine ac_intro hTT hMX (fn := Try.f6) (N := _) ⟨Try.func6, rfl, Try.ntmps6, by kernel_rfl⟩ (by simp) fun C hC hF => ?_
  refine aw_seq_k fun K hK => ?_
  refine w_region (n' := 2) (by kernel_rfl) (by kernel_rfl) ?_
  refine aops_n hTT (M := []) (n := 2) [pv (3 : Nat) (V.ptr [V.sl (1 : Nat) (List.length (Cv.feed c)) fun (k : Nat) => [V.i (gi (Cv.feed c) k)], V.sl (1 : Nat) (List.length (Cv.back c)) fun (k : Nat) => [V.i (gi (Cv.back c) k)], V.i (Cv.share c)]), pv (6 : Nat) (V.b false)] (by kernel_rfl) (by kernel_rfl) True.intro ?_
  refine aops_nil ?_
  refine xt_n ?_
  refine hK _ ?_
  clear hK K
  refine aw_seq_k fun K hK => ?_
  refine aw_seq_k fun K hK => ?_
  refine w_region (n' := 3) (by kernel_rfl) (by kernel_rfl) ?_
  refine aops_n hTT (M := []) (n := 2) [pv (16 : Nat) (V.agg [V.sl (1 : Nat) (List.length (Cv.feed c)) fun (k : Nat) => [V.i (gi (Cv.feed c) k)], V.sl (1 : Nat) (List.length (Cv.back c)) fun (k : Nat) => [V.i (gi (Cv.back c) k)], V.i (Cv.share c)]), pv (17 : Nat) (V.sl (1 : Nat) (List.length x) fun (k : Nat) => [V.i (gi x k)])] (by kernel_rfl) (by kernel_rfl) True.intro ?_
  refine e_call (first := []) (caps := []) (valid_ac c x 400 hc hx) (by kernel_rfl) (by kernel_rfl) (by kernel_rfl) (by kernel_rfl) (by kernel_rfl) ?_
  refine aops_n hTT (M := []) (n := 4) [pv (19 : Nat) (V.b !validB c x (400 : Int)), pv (20 : Nat) (V.b !validB c x (400 : Int)), pc (21 : Nat) ((True ∧ True) ∧ (((!validB c x (400 : Int)) == false) = true → True)) (V.gd ((!validB c x (400 : Int)) == false) (V.agg [V.sl (1 : Nat) (List.length (Cv.feed c)) fun (k : Nat) => [V.i (gi (Cv.feed c) k)], V.sl (1 : Nat) (List.length (Cv.back c)) fun (k : Nat) => [V.i (gi (Cv.back c) k)], V.i (Cv.share c)])), pc (22 : Nat) ((True ∧ True) ∧ (((!validB c x (400 : Int)) == false) = true → True)) (V.gd ((!validB c x (400 : Int)) == false) (V.sl (1 : Nat) (List.length z) fun (k : Nat) => [V.i (gi z k)]))] (by kernel_rfl) (by kernel_rfl) ⟨⟨⟨True.intro, True.intro⟩, (fun _ => True.intro)⟩, ⟨⟨True.intro, True.intro⟩, (fun _ => True.intro)⟩, True.intro⟩ ?_
  refine e_callG 2 (g := (!validB c x (400 : Int)) == false) (first := []) (caps := []) (by kernel_rfl) (fun h => valid_ac c z 400 hc hz) (by kernel_rfl) (by kernel_rfl) (by kernel_rfl) (by kernel_rfl) (by kernel_rfl) (by kernel_rfl) ?_
  refine aops_n hTT (M := []) (n := 2) [pc (24 : Nat) (((((!validB c x (400 : Int)) == false) = true → ((!validB c x (400 : Int)) == false) = true) ∧ True) ∧ (((!validB c x (400 : Int)) == false) = true → True)) (V.gd ((!validB c x (400 : Int)) == false) (V.b !validB c z (400 : Int))), pc (25 : Nat) (True ∧ ((!validB c x (400 : Int)) = false → ((!validB c x (400 : Int)) == false) = true)) (V.b (!validB c x (400 : Int) || !validB c z (400 : Int)))] (by kernel_rfl) (by kernel_rfl) ⟨⟨⟨(by (exact fun h => h)), True.intro⟩, (fun _ => True.intro)⟩, ⟨True.intro, (by (intro h; rw [h]; rfl))⟩, True.intro⟩ ?_
  refine aops_nil ?_
  refine xt_n ?_
  refine hK _ ?_
  clear hK K
  refine w_cond (t := !validB c x (400 : Int) || !validB c z (400 : Int)) (by kernel_rfl) (fun c1 => ?_) (fun c1 => ?_)
  · refine aw_seq_k fun K hK => ?_
    refine w_region (n' := 4) (by kernel_rfl) (by kernel_rfl) ?_
    refine e_call (first := []) (caps := []) (works_ac) (by kernel_rfl) (by kernel_rfl) (by kernel_rfl) (by kernel_rfl) (by kernel_rfl) ?_
    refine aops_n hTT (M := []) (n := 1) [pv (6 : Nat) (V.b true)] (by kernel_rfl) (by kernel_rfl) True.intro ?_
    refine aops_nil ?_
    refine xt_n ?_
    refine hK _ ?_
    clear hK K
    refine aw_ret ?_
    refine xt_r ?_
    refine ret_pure (v' := V.b true) (.inr rfl) (by kernel_rfl) (by kernel_rfl) (by kernel_rfl)
  have hv : validB c x 400 = true ∧ validB c z 400 = true := by simpa using c1
  obtain ⟨v1, v2, v3⟩ := validB_ok hv.1
  obtain ⟨w1, w2, w3⟩ := validB_ok hv.2
  have A1 := Apply_ac c x hc hx
  rcases apR_or (u := false) v2 v3 with ⟨e1, r1⟩ | ⟨y, e1, r1, hy, ey⟩
  · rw [e1] at A1
    refine aw_skip ?_
    refine xt_n ?_
    refine hK _ ?_
    clear hK K
    refine aw_seq_k fun K hK => ?_
    refine w_region (n' := 4) (by kernel_rfl) (by kernel_rfl) ?_
    refine aops_n hTT (M := []) (n := 2) [pv (28 : Nat) (V.agg [V.sl (1 : Nat) (List.length (Cv.feed c)) fun (k : Nat) => [V.i (gi (Cv.feed c) k)], V.sl (1 : Nat) (List.length (Cv.back c)) fun (k : Nat) => [V.i (gi (Cv.back c) k)], V.i (Cv.share c)]), pv (29 : Nat) (V.sl (1 : Nat) (List.length x) fun (k : Nat) => [V.i (gi x k)])] (by kernel_rfl) (by kernel_rfl) True.intro ?_
    refine e_call (first := []) (caps := []) (A1) (by kernel_rfl) (by kernel_rfl) (by kernel_rfl) (by kernel_rfl) (by kernel_rfl) ?_
    refine aops_n hTT (M := []) (n := 5) [pv (27 : Nat) (V.tup [V.sl (1 : Nat) (0 : Nat) fun (k : Nat) => [V.i (gi [] k)], V.i (4 : Int)]), pv (31 : Nat) (V.sl (1 : Nat) (0 : Nat) fun (k : Nat) => [V.i (gi [] k)]), pv (32 : Nat) (V.i (4 : Int)), pv (7 : Nat) (V.sl (1 : Nat) (0 : Nat) fun (k : Nat) => [V.i (gi [] k)]), pv (8 : Nat) (V.i (4 : Int))] (by kernel_rfl) (by kernel_rfl) True.intro ?_
    refine aops_nil ?_
    refine xt_n ?_
    refine hK _ ?_
    clear hK K
    refine aw_seq_k fun K hK => ?_
    refine aw_seq_k fun K hK => ?_
    refine w_region (n' := 5) (by kernel_rfl) (by kernel_rfl) ?_
    refine aops_n hTT (M := []) (n := 2) [pv (33 : Nat) (V.i (4 : Int)), pv (34 : Nat) (V.b false)] (by kernel_rfl) (by kernel_rfl) True.intro ?_
    refine aops_nil ?_
    refine xt_n ?_
    refine hK _ ?_
    clear hK K
    refine w_false (t := false) (by kernel_rfl) rfl ?_
    refine aw_skip ?_
    refine xt_n ?_
    refine hK _ ?_
    clear hK K
    refine aw_seq_k fun K hK => ?_
    refine w_region (n' := 6) (by kernel_rfl) (by kernel_rfl) ?_
    refine aops_n hTT (M := []) (n := 2) [pv (67 : Nat) (V.agg [V.sl (1 : Nat) (List.length (Cv.feed c)) fun (k : Nat) => [V.i (gi (Cv.feed c) k)], V.sl (1 : Nat) (List.length (Cv.back c)) fun (k : Nat) => [V.i (gi (Cv.back c) k)], V.i (Cv.share c)]), pv (68 : Nat) (V.sl (1 : Nat) (List.length x) fun (k : Nat) => [V.i (gi x k)])] (by kernel_rfl) (by kernel_rfl) True.intro ?_
    have A2 := Undo_ac c x hc hx
    rcases apR_or (u := true) v2 v3 with ⟨e2, r2⟩ | ⟨u, e2, r2, hu, eu⟩
    · rw [e2] at A2
      skip
      refine e_call (first := []) (caps := []) (A2) (by kernel_rfl) (by kernel_rfl) (by kernel_rfl) (by kernel_rfl) (by kernel_rfl) ?_
      refine aops_n hTT (M := []) (n := 5) [pv (66 : Nat) (V.tup [V.sl (1 : Nat) (0 : Nat) fun (k : Nat) => [V.i (gi [] k)], V.i (4 : Int)]), pv (70 : Nat) (V.sl (1 : Nat) (0 : Nat) fun (k : Nat) => [V.i (gi [] k)]), pv (71 : Nat) (V.i (4 : Int)), pv (12 : Nat) (V.sl (1 : Nat) (0 : Nat) fun (k : Nat) => [V.i (gi [] k)]), pv (13 : Nat) (V.i (4 : Int))] (by kernel_rfl) (by kernel_rfl) True.intro ?_
      refine aops_nil ?_
      refine xt_n ?_
      refine hK _ ?_
      clear hK K
      refine aw_seq_k fun K hK => ?_
      refine aw_seq_k fun K hK => ?_
      refine w_region (n' := 7) (by kernel_rfl) (by kernel_rfl) ?_
      refine aops_n hTT (M := []) (n := 2) [pv (72 : Nat) (V.i (4 : Int)), pv (73 : Nat) (V.b false)] (by kernel_rfl) (by kernel_rfl) True.intro ?_
      refine aops_nil ?_
      refine xt_n ?_
      refine hK _ ?_
      clear hK K
      refine w_false (t := false) (by kernel_rfl) rfl ?_
      refine aw_skip ?_
      refine xt_n ?_
      refine hK _ ?_
      clear hK K
      refine aw_seq_k fun K hK => ?_
      refine w_region (n' := 8) (by kernel_rfl) (by kernel_rfl) ?_
      refine aops_n hTT (M := []) (n := 15) [pv (88 : Nat) (V.i (4 : Int)), pv (89 : Nat) (V.b false), pv (90 : Nat) (V.b false), pc (91 : Nat) ((True ∧ True) ∧ ((false == false) = true → True)) (V.gd (false == false) (V.i (4 : Int))), pc (92 : Nat) ((((false == false) = true → (false == false) = true) ∧ True ∧ True) ∧ ((false == false) = true → True)) (V.gd (false == false) (V.b true)), pc (93 : Nat) (True ∧ (false = false → (false == false) = true)) (V.b true), pv (94 : Nat) (V.b true), pc (95 : Nat) ((True ∧ True) ∧ ((true == true) = true → True)) (V.gd (true == true) (V.i (4 : Int))), pc (96 : Nat) ((((true == true) = true → (true == true) = true) ∧ True ∧ True) ∧ ((true == true) = true → True)) (V.gd (true == true) (V.b false)), pc (97 : Nat) ((((true == true) = true → (true == true) = true) ∧ True) ∧ ((true == true) = true → True)) (V.gd (true == true) (V.b false)), pc (98 : Nat) ((True ∧ True) ∧ ((true == true && false == false) = true → True)) (V.gd (true == true && false == false) (V.i (4 : Int))), pc (99 : Nat) ((((true == true && false == false) = true → (true == true && false == false) = true) ∧ True ∧ True) ∧ ((true == true && false == false) = true → True)) (V.gd (true == true && false == false) (V.b true)), pc (100 : Nat) (((true == true) = true → (true == true) = true) ∧ ((true == true) = true → True) ∧ ((true == true) = true → false = false → (true == true && false == false) = true)) (V.gd (true == true) (V.b true)), pc (101 : Nat) ((true = true → (true == true) = true) ∧ True) (V.b true), pv (102 : Nat) (V.b true)] (by kernel_rfl) (by kernel_rfl) ⟨⟨⟨True.intro, True.intro⟩, (fun _ => True.intro)⟩, ⟨⟨(by (exact fun h => h)), ⟨True.intro, True.intro⟩⟩, (fun _ => True.intro)⟩, ⟨True.intro, (by (intro h; rw [h]; rfl))⟩, ⟨⟨True.intro, True.intro⟩, (fun _ => True.intro)⟩, ⟨⟨(by (exact fun h => h)), ⟨True.intro, True.intro⟩⟩, (fun _ => True.intro)⟩, ⟨⟨(by (exact fun h => h)), True.intro⟩, (fun _ => True.intro)⟩, ⟨⟨True.intro, True.intro⟩, (fun _ => True.intro)⟩, ⟨⟨(by (exact fun h => h)), ⟨True.intro, True.intro⟩⟩, (fun _ => True.intro)⟩, ⟨(by (exact fun h => h)), ⟨(fun _ => True.intro), (by (intro _; simp; done))⟩⟩, ⟨(by (exact fun h => h)), True.intro⟩, True.intro⟩ ?_
      refine e_callG 0 (g := true == true) (first := []) (caps := []) (by kernel_rfl) (fun _ => works_ac) (by kernel_rfl) (by kernel_rfl) (by kernel_rfl) (by kernel_rfl) (by kernel_rfl) (by kernel_rfl) ?_
      refine aops_n hTT (M := []) (n := 2) [pc (104 : Nat) ((true = true → (true == true) = true) ∧ True) (V.b true), pv (6 : Nat) (V.b true)] (by kernel_rfl) (by kernel_rfl) ⟨⟨(by (exact fun h => h)), True.intro⟩, True.intro⟩ ?_
      refine aops_nil ?_
      refine xt_n ?_
      refine hK _ ?_
      clear hK K
      refine aw_ret ?_
      refine ret_pure (v' := V.b true) (.inr rfl) (by kernel_rfl) (by kernel_rfl) (by kernel_rfl)
    · have lu : u.length ≤ bigL := by rw [runI_len r2]; exact hx
      have A3 := Apply_ac c u hc lu
      rw [show apR c false u = (0, x) from eu] at A3
      rw [e2] at A2
      skip
      refine e_call (first := []) (caps := []) (A2) (by kernel_rfl) (by kernel_rfl) (by kernel_rfl) (by kernel_rfl) (by kernel_rfl) ?_
      refine aops_n hTT (M := []) (n := 5) [pv (66 : Nat) (V.tup [V.sl (1 : Nat) (List.length u) fun (k : Nat) => [V.i (gi u k)], V.i (0 : Int)]), pv (70 : Nat) (V.sl (1 : Nat) (List.length u) fun (k : Nat) => [V.i (gi u k)]), pv (71 : Nat) (V.i (0 : Int)), pv (12 : Nat) (V.sl (1 : Nat) (List.length u) fun (k : Nat) => [V.i (gi u k)]), pv (13 : Nat) (V.i (0 : Int))] (by kernel_rfl) (by kernel_rfl) True.intro ?_
      refine aops_nil ?_
      refine xt_n ?_
      refine hK _ ?_
      clear hK K
      refine aw_seq_k fun K hK => ?_
      refine aw_seq_k fun K hK => ?_
      refine w_region (n' := 7) (by kernel_rfl) (by kernel_rfl) ?_
      refine aops_n hTT (M := []) (n := 2) [pv (72 : Nat) (V.i (0 : Int)), pv (73 : Nat) (V.b true)] (by kernel_rfl) (by kernel_rfl) True.intro ?_
      refine aops_nil ?_
      refine xt_n ?_
      refine hK _ ?_
      clear hK K
      refine w_true (t := true) (by kernel_rfl) rfl ?_
      refine aw_seq_k fun K hK => ?_
      refine w_region (n' := 8) (by kernel_rfl) (by kernel_rfl) ?_
      refine aops_n hTT (M := []) (n := 2) [pv (75 : Nat) (V.agg [V.sl (1 : Nat) (List.length (Cv.feed c)) fun (k : Nat) => [V.i (gi (Cv.feed c) k)], V.sl (1 : Nat) (List.length (Cv.back c)) fun (k : Nat) => [V.i (gi (Cv.back c) k)], V.i (Cv.share c)]), pv (76 : Nat) (V.sl (1 : Nat) (List.length u) fun (k : Nat) => [V.i (gi u k)])] (by kernel_rfl) (by kernel_rfl) True.intro ?_
      refine e_call (first := []) (caps := []) (A3) (by kernel_rfl) (by kernel_rfl) (by kernel_rfl) (by kernel_rfl) (by kernel_rfl) ?_
      refine aops_n hTT (M := []) (n := 5) [pv (74 : Nat) (V.tup [V.sl (1 : Nat) (List.length x) fun (k : Nat) => [V.i (gi x k)], V.i (0 : Int)]), pv (78 : Nat) (V.sl (1 : Nat) (List.length x) fun (k : Nat) => [V.i (gi x k)]), pv (79 : Nat) (V.i (0 : Int)), pv (14 : Nat) (V.sl (1 : Nat) (List.length x) fun (k : Nat) => [V.i (gi x k)]), pv (15 : Nat) (V.i (0 : Int))] (by kernel_rfl) (by kernel_rfl) True.intro ?_
      refine aops_nil ?_
      refine xt_n ?_
      refine hK _ ?_
      clear hK K
      refine aw_seq_k fun K hK => ?_
      refine w_region (n' := 9) (by kernel_rfl) (by kernel_rfl) ?_
      refine aops_n hTT (M := []) (n := 5) [pv (80 : Nat) (V.i (0 : Int)), pv (81 : Nat) (V.b false), pv (82 : Nat) (V.b false), pc (83 : Nat) ((True ∧ True) ∧ ((false == false) = true → True)) (V.gd (false == false) (V.sl (1 : Nat) (List.length x) fun (k : Nat) => [V.i (gi x k)])), pc (84 : Nat) ((True ∧ True) ∧ ((false == false) = true → True)) (V.gd (false == false) (V.sl (1 : Nat) (List.length x) fun (k : Nat) => [V.i (gi x k)]))] (by kernel_rfl) (by kernel_rfl) ⟨⟨⟨True.intro, True.intro⟩, (fun _ => True.intro)⟩, ⟨⟨True.intro, True.intro⟩, (fun _ => True.intro)⟩, True.intro⟩ ?_
      refine e_callG 2 (g := false == false) (first := []) (caps := []) (by kernel_rfl) (fun h => refSame_ac x x hx hx) (by kernel_rfl) (by kernel_rfl) (by kernel_rfl) (by kernel_rfl) (by kernel_rfl) (by kernel_rfl) ?_
      refine aops_n hTT (M := []) (n := 2) [pc (86 : Nat) ((((false == false) = true → (false == false) = true) ∧ True) ∧ ((false == false) = true → True)) (V.gd (false == false) (V.b !decide (x = x))), pc (87 : Nat) (True ∧ (false = false → (false == false) = true)) (V.b !decide (x = x))] (by kernel_rfl) (by kernel_rfl) ⟨⟨⟨(by (exact fun h => h)), True.intro⟩, (fun _ => True.intro)⟩, ⟨True.intro, (by (intro h; rw [h]; rfl))⟩, True.intro⟩ ?_
      refine aops_nil ?_
      refine xt_n ?_
      refine hK _ ?_
      clear hK K
      refine w_cond (t := !decide (x = x)) (by kernel_rfl) (fun c5 => ?_) (fun c5 => ?_)
      · simp at c5
      refine aw_skip ?_
      refine xt_n ?_
      refine hK _ ?_
      clear hK K
      refine aw_seq_k fun K hK => ?_
      refine w_region (n' := 10) (by kernel_rfl) (by kernel_rfl) ?_
      refine aops_n hTT (M := []) (n := 15) [pv (88 : Nat) (V.i (4 : Int)), pv (89 : Nat) (V.b false), pv (90 : Nat) (V.b false), pc (91 : Nat) ((True ∧ True) ∧ ((false == false) = true → True)) (V.gd (false == false) (V.i (4 : Int))), pc (92 : Nat) ((((false == false) = true → (false == false) = true) ∧ True ∧ True) ∧ ((false == false) = true → True)) (V.gd (false == false) (V.b true)), pc (93 : Nat) (True ∧ (false = false → (false == false) = true)) (V.b true), pv (94 : Nat) (V.b true), pc (95 : Nat) ((True ∧ True) ∧ ((true == true) = true → True)) (V.gd (true == true) (V.i (0 : Int))), pc (96 : Nat) ((((true == true) = true → (true == true) = true) ∧ True ∧ True) ∧ ((true == true) = true → True)) (V.gd (true == true) (V.b true)), pc (97 : Nat) ((((true == true) = true → (true == true) = true) ∧ True) ∧ ((true == true) = true → True)) (V.gd (true == true) (V.b true)), pc (98 : Nat) ((True ∧ True) ∧ ((true == true && true == false) = true → True)) (V.gd (true == true && true == false) (V.i (0 : Int))), pc (99 : Nat) ((((true == true && true == false) = true → (true == true && true == false) = true) ∧ True ∧ True) ∧ ((true == true && true == false) = true → True)) (V.gd (true == true && true == false) (V.b false)), pc (100 : Nat) (((true == true) = true → (true == true) = true) ∧ ((true == true) = true → True) ∧ ((true == true) = true → true = false → (true == true && true == false) = true)) (V.gd (true == true) (V.b true)), pc (101 : Nat) ((true = true → (true == true) = true) ∧ True) (V.b true), pv (102 : Nat) (V.b true)] (by kernel_rfl) (by kernel_rfl) ⟨⟨⟨True.intro, True.intro⟩, (fun _ => True.intro)⟩, ⟨⟨(by (exact fun h => h)), ⟨True.intro, True.intro⟩⟩, (fun _ => True.intro)⟩, ⟨True.intro, (by (intro h; rw [h]; rfl))⟩, ⟨⟨True.intro, True.intro⟩, (fun _ => True.intro)⟩, ⟨⟨(by (exact fun h => h)), ⟨True.intro, True.intro⟩⟩, (fun _ => True.intro)⟩, ⟨⟨(by (exact fun h => h)), True.intro⟩, (fun _ => True.intro)⟩, ⟨⟨True.intro, True.intro⟩, (fun _ => True.intro)⟩, ⟨⟨(by (exact fun h => h)), ⟨True.intro, True.intro⟩⟩, (fun _ => True.intro)⟩, ⟨(by (exact fun h => h)), ⟨(fun _ => True.intro), (by (intro _; simp; done))⟩⟩, ⟨(by (exact fun h => h)), True.intro⟩, True.intro⟩ ?_
      refine e_callG 0 (g := true == true) (first := []) (caps := []) (by kernel_rfl) (fun _ => works_ac) (by kernel_rfl) (by kernel_rfl) (by kernel_rfl) (by kernel_rfl) (by kernel_rfl) (by kernel_rfl) ?_
      refine aops_n hTT (M := []) (n := 2) [pc (104 : Nat) ((true = true → (true == true) = true) ∧ True) (V.b true), pv (6 : Nat) (V.b true)] (by kernel_rfl) (by kernel_rfl) ⟨⟨(by (exact fun h => h)), True.intro⟩, True.intro⟩ ?_
      refine aops_nil ?_
      refine xt_n ?_
      refine hK _ ?_
      clear hK K
      refine aw_ret ?_
      refine ret_pure (v' := V.b true) (.inr rfl) (by kernel_rfl) (by kernel_rfl) (by kernel_rfl)
  · have ly : y.length ≤ bigL := by rw [runI_len r1]; exact hx
    have A4 := Undo_ac c y hc ly
    rw [show apR c true y = (0, x) from ey] at A4
    rw [e1] at A1
    have hkey : (apR c false z).1 = 0 → ((apR c false z).2 = y ↔ z = x) := by
      intro h0
      rcases apR_or (u := false) w2 w3 with ⟨e3, _⟩ | ⟨y', e3, r3, _, _⟩
      · rw [e3] at h0; cases h0
      · rw [e3]
        show y' = y ↔ z = x
        rw [(runI_eq.1 r3).2, (runI_eq.1 r1).2]
        exact resL_inj
    refine aw_skip ?_
    refine xt_n ?_
    refine hK _ ?_
    clear hK K
    refine aw_seq_k fun K hK => ?_
    refine w_region (n' := 4) (by kernel_rfl) (by kernel_rfl) ?_
    refine aops_n hTT (M := []) (n := 2) [pv (28 : Nat) (V.agg [V.sl (1 : Nat) (List.length (Cv.feed c)) fun (k : Nat) => [V.i (gi (Cv.feed c) k)], V.sl (1 : Nat) (List.length (Cv.back c)) fun (k : Nat) => [V.i (gi (Cv.back c) k)], V.i (Cv.share c)]), pv (29 : Nat) (V.sl (1 : Nat) (List.length x) fun (k : Nat) => [V.i (gi x k)])] (by kernel_rfl) (by kernel_rfl) True.intro ?_
    refine e_call (first := []) (caps := []) (A1) (by kernel_rfl) (by kernel_rfl) (by kernel_rfl) (by kernel_rfl) (by kernel_rfl) ?_
    refine aops_n hTT (M := []) (n := 5) [pv (27 : Nat) (V.tup [V.sl (1 : Nat) (List.length y) fun (k : Nat) => [V.i (gi y k)], V.i (0 : Int)]), pv (31 : Nat) (V.sl (1 : Nat) (List.length y) fun (k : Nat) => [V.i (gi y k)]), pv (32 : Nat) (V.i (0 : Int)), pv (7 : Nat) (V.sl (1 : Nat) (List.length y) fun (k : Nat) => [V.i (gi y k)]), pv (8 : Nat) (V.i (0 : Int))] (by kernel_rfl) (by kernel_rfl) True.intro ?_
    refine aops_nil ?_
    refine xt_n ?_
    refine hK _ ?_
    clear hK K
    refine aw_seq_k fun K hK => ?_
    refine aw_seq_k fun K hK => ?_
    refine w_region (n' := 5) (by kernel_rfl) (by kernel_rfl) ?_
    refine aops_n hTT (M := []) (n := 2) [pv (33 : Nat) (V.i (0 : Int)), pv (34 : Nat) (V.b true)] (by kernel_rfl) (by kernel_rfl) True.intro ?_
    refine aops_nil ?_
    refine xt_n ?_
    refine hK _ ?_
    clear hK K
    refine w_true (t := true) (by kernel_rfl) rfl ?_
    refine aw_seq_k fun K hK => ?_
    refine w_region (n' := 6) (by kernel_rfl) (by kernel_rfl) ?_
    refine aops_n hTT (M := []) (n := 2) [pv (36 : Nat) (V.agg [V.sl (1 : Nat) (List.length (Cv.feed c)) fun (k : Nat) => [V.i (gi (Cv.feed c) k)], V.sl (1 : Nat) (List.length (Cv.back c)) fun (k : Nat) => [V.i (gi (Cv.back c) k)], V.i (Cv.share c)]), pv (37 : Nat) (V.sl (1 : Nat) (List.length y) fun (k : Nat) => [V.i (gi y k)])] (by kernel_rfl) (by kernel_rfl) True.intro ?_
    refine e_call (first := []) (caps := []) (A4) (by kernel_rfl) (by kernel_rfl) (by kernel_rfl) (by kernel_rfl) (by kernel_rfl) ?_
    refine aops_n hTT (M := []) (n := 5) [pv (35 : Nat) (V.tup [V.sl (1 : Nat) (List.length x) fun (k : Nat) => [V.i (gi x k)], V.i (0 : Int)]), pv (39 : Nat) (V.sl (1 : Nat) (List.length x) fun (k : Nat) => [V.i (gi x k)]), pv (40 : Nat) (V.i (0 : Int)), pv (9 : Nat) (V.sl (1 : Nat) (List.length x) fun (k : Nat) => [V.i (gi x k)]), pv (10 : Nat) (V.i (0 : Int))] (by kernel_rfl) (by kernel_rfl) True.intro ?_
    refine aops_nil ?_
    refine xt_n ?_
    refine hK _ ?_
    clear hK K
    refine aw_seq_k fun K hK => ?_
    refine aw_seq_k fun K hK => ?_
    refine w_region (n' := 7) (by kernel_rfl) (by kernel_rfl) ?_
    refine aops_n hTT (M := []) (n := 5) [pv (41 : Nat) (V.i (0 : Int)), pv (42 : Nat) (V.b false), pv (43 : Nat) (V.b false), pc (44 : Nat) ((True ∧ True) ∧ ((false == false) = true → True)) (V.gd (false == false) (V.sl (1 : Nat) (List.length x) fun (k : Nat) => [V.i (gi x k)])), pc (45 : Nat) ((True ∧ True) ∧ ((false == false) = true → True)) (V.gd (false == false) (V.sl (1 : Nat) (List.length x) fun (k : Nat) => [V.i (gi x k)]))] (by kernel_rfl) (by kernel_rfl) ⟨⟨⟨True.intro, True.intro⟩, (fun _ => True.intro)⟩, ⟨⟨True.intro, True.intro⟩, (fun _ => True.intro)⟩, True.intro⟩ ?_
    refine e_callG 2 (g := false == false) (first := []) (caps := []) (by kernel_rfl) (fun h => refSame_ac x x hx hx) (by kernel_rfl) (by kernel_rfl) (by kernel_rfl) (by kernel_rfl) (by kernel_rfl) (by kernel_rfl) ?_
    refine aops_n hTT (M := []) (n := 2) [pc (47 : Nat) ((((false == false) = true → (false == false) = true) ∧ True) ∧ ((false == false) = true → True)) (V.gd (false == false) (V.b !decide (x = x))), pc (48 : Nat) (True ∧ (false = false → (false == false) = true)) (V.b !decide (x = x))] (by kernel_rfl) (by kernel_rfl) ⟨⟨⟨(by (exact fun h => h)), True.intro⟩, (fun _ => True.intro)⟩, ⟨True.intro, (by (intro h; rw [h]; rfl))⟩, True.intro⟩ ?_
    refine aops_nil ?_
    refine xt_n ?_
    refine hK _ ?_
    clear hK K
    refine w_cond (t := !decide (x = x)) (by kernel_rfl) (fun c3 => ?_) (fun c3 => ?_)
    · simp at c3
    refine aw_skip ?_
    refine xt_n ?_
    refine hK _ ?_
    clear hK K
    refine aw_seq_k fun K hK => ?_
    refine w_region (n' := 8) (by kernel_rfl) (by kernel_rfl) ?_
    refine aops_n hTT (M := []) (n := 2) [pv (50 : Nat) (V.agg [V.sl (1 : Nat) (List.length (Cv.feed c)) fun (k : Nat) => [V.i (gi (Cv.feed c) k)], V.sl (1 : Nat) (List.length (Cv.back c)) fun (k : Nat) => [V.i (gi (Cv.back c) k)], V.i (Cv.share c)]), pv (51 : Nat) (V.sl (1 : Nat) (List.length z) fun (k : Nat) => [V.i (gi z k)])] (by kernel_rfl) (by kernel_rfl) True.intro ?_
    refine e_call (first := []) (caps := []) (Apply_ac c z hc hz) (by kernel_rfl) (by kernel_rfl) (by kernel_rfl) (by kernel_rfl) (by kernel_rfl) ?_
    refine aops_n hTT (M := []) (n := 5) [pv (49 : Nat) (V.tup [V.sl (1 : Nat) (List.length (Prod.snd (apR c false z))) fun (k : Nat) => [V.i (gi (Prod.snd (apR c false z)) k)], V.i (Prod.fst (apR c false z))]), pv (53 : Nat) (V.sl (1 : Nat) (List.length (Prod.snd (apR c false z))) fun (k : Nat) => [V.i (gi (Prod.snd (apR c false z)) k)]), pv (54 : Nat) (V.i (Prod.fst (apR c false z))), pv (11 : Nat) (V.sl (1 : Nat) (List.length (Prod.snd (apR c false z))) fun (k : Nat) => [V.i (gi (Prod.snd (apR c false z)) k)]), pv (10 : Nat) (V.i (Prod.fst (apR c false z)))] (by kernel_rfl) (by kernel_rfl) True.intro ?_
    refine aops_nil ?_
    refine xt_n ?_
    refine hK _ ?_
    clear hK K
    refine aw_seq_k fun K hK => ?_
    refine w_region (n' := 9) (by kernel_rfl) (by kernel_rfl) ?_
    refine aops_n hTT (M := []) (n := 5) [pv (55 : Nat) (V.i (Prod.fst (apR c false z))), pv (56 : Nat) (V.b (decide (Prod.fst (apR c false z) = (0 : Int)))), pv (57 : Nat) (V.b (decide (Prod.fst (apR c false z) = (0 : Int)))), pc (58 : Nat) ((True ∧ True) ∧ ((decide (Prod.fst (apR c false z) = (0 : Int)) == true) = true → True)) (V.gd (decide (Prod.fst (apR c false z) = (0 : Int)) == true) (V.sl (1 : Nat) (List.length (Prod.snd (apR c false z))) fun (k : Nat) => [V.i (gi (Prod.snd (apR c false z)) k)])), pc (59 : Nat) ((True ∧ True) ∧ ((decide (Prod.fst (apR c false z) = (0 : Int)) == true) = true → True)) (V.gd (decide (Prod.fst (apR c false z) = (0 : Int)) == true) (V.sl (1 : Nat) (List.length y) fun (k : Nat) => [V.i (gi y k)]))] (by kernel_rfl) (by kernel_rfl) ⟨⟨⟨True.intro, True.intro⟩, (fun _ => True.intro)⟩, ⟨⟨True.intro, True.intro⟩, (fun _ => True.intro)⟩, True.intro⟩ ?_
    refine e_callG 2 (g := decide (Prod.fst (apR c false z) = (0 : Int)) == true) (first := []) (caps := []) (by kernel_rfl) (fun h => refSame_ac (apR c false z).2 y l3 ly) (by kernel_rfl) (by kernel_rfl) (by kernel_rfl) (by kernel_rfl) (by kernel_rfl) (by kernel_rfl) ?_
    refine aops_n hTT (M := []) (n := 2) [pc (61 : Nat) ((True ∧ True) ∧ ((decide (Prod.fst (apR c false z) = (0 : Int)) == true) = true → True)) (V.gd (decide (Prod.fst (apR c false z) = (0 : Int)) == true) (V.sl (1 : Nat) (List.length z) fun (k : Nat) => [V.i (gi z k)])), pc (62 : Nat) ((True ∧ True) ∧ ((decide (Prod.fst (apR c false z) = (0 : Int)) == true) = true → True)) (V.gd (decide (Prod.fst (apR c false z) = (0 : Int)) == true) (V.sl (1 : Nat) (List.length x) fun (k : Nat) => [V.i (gi x k)]))] (by kernel_rfl) (by kernel_rfl) ⟨⟨⟨True.intro, True.intro⟩, (fun _ => True.intro)⟩, ⟨⟨True.intro, True.intro⟩, (fun _ => True.intro)⟩, True.intro⟩ ?_
    refine e_callG 2 (g := decide (Prod.fst (apR c false z) = (0 : Int)) == true) (first := []) (caps := []) (by kernel_rfl) (fun h => refSame_ac z x hz hx) (by kernel_rfl) (by kernel_rfl) (by kernel_rfl) (by kernel_rfl) (by kernel_rfl) (by kernel_rfl) ?_
    refine aops_n hTT (M := []) (n := 2) [pc (64 : Nat) ((((decide (Prod.fst (apR c false z) = (0 : Int)) == true) = true → (decide (Prod.fst (apR c false z) = (0 : Int)) == true) = true) ∧ ((decide (Prod.fst (apR c false z) = (0 : Int)) == true) = true → (decide (Prod.fst (apR c false z) = (0 : Int)) == true) = true) ∧ True) ∧ ((decide (Prod.fst (apR c false z) = (0 : Int)) == true) = true → True)) (V.gd (decide (Prod.fst (apR c false z) = (0 : Int)) == true) (V.b !decide (Prod.snd (apR c false z) = y) == decide (z = x))), pc (65 : Nat) ((decide (Prod.fst (apR c false z) = (0 : Int)) = true → (decide (Prod.fst (apR c false z) = (0 : Int)) == true) = true) ∧ True) (V.b (decide (Prod.fst (apR c false z) = (0 : Int)) && !decide (Prod.snd (apR c false z) = y) == decide (z = x)))] (by kernel_rfl) (by kernel_rfl) ⟨⟨⟨(by (exact fun h => h)), ⟨(by (exact fun h => h)), True.intro⟩⟩, (fun _ => True.intro)⟩, ⟨(by (intro h; rw [h]; rfl)), True.intro⟩, True.intro⟩ ?_
    refine aops_nil ?_
    refine xt_n ?_
    refine hK _ ?_
    clear hK K
    refine w_cond (t := decide (Prod.fst (apR c false z) = (0 : Int)) && !decide (Prod.snd (apR c false z) = y) == decide (z = x)) (by kernel_rfl) (fun c4 => ?_) (fun c4 => ?_)
    · simp at c4
      have h5 := hkey c4.1
      simp [h5] at c4
    refine aw_skip ?_
    refine xt_n ?_
    refine hK _ ?_
    clear hK K
    refine aw_seq_k fun K hK => ?_
    refine w_region (n' := 10) (by kernel_rfl) (by kernel_rfl) ?_
    refine aops_n hTT (M := []) (n := 2) [pv (67 : Nat) (V.agg [V.sl (1 : Nat) (List.length (Cv.feed c)) fun (k : Nat) => [V.i (gi (Cv.feed c) k)], V.sl (1 : Nat) (List.length (Cv.back c)) fun (k : Nat) => [V.i (gi (Cv.back c) k)], V.i (Cv.share c)]), pv (68 : Nat) (V.sl (1 : Nat) (List.length x) fun (k : Nat) => [V.i (gi x k)])] (by kernel_rfl) (by kernel_rfl) True.intro ?_
    have A2 := Undo_ac c x hc hx
    rcases apR_or (u := true) v2 v3 with ⟨e2, r2⟩ | ⟨u, e2, r2, hu, eu⟩
    · rw [e2] at A2
      skip
      refine e_call (first := []) (caps := []) (A2) (by kernel_rfl) (by kernel_rfl) (by kernel_rfl) (by kernel_rfl) (by kernel_rfl) ?_
      refine aops_n hTT (M := []) (n := 5) [pv (66 : Nat) (V.tup [V.sl (1 : Nat) (0 : Nat) fun (k : Nat) => [V.i (gi [] k)], V.i (4 : Int)]), pv (70 : Nat) (V.sl (1 : Nat) (0 : Nat) fun (k : Nat) => [V.i (gi [] k)]), pv (71 : Nat) (V.i (4 : Int)), pv (12 : Nat) (V.sl (1 : Nat) (0 : Nat) fun (k : Nat) => [V.i (gi [] k)]), pv (13 : Nat) (V.i (4 : Int))] (by kernel_rfl) (by kernel_rfl) True.intro ?_
      refine aops_nil ?_
      refine xt_n ?_
      refine hK _ ?_
      clear hK K
      refine aw_seq_k fun K hK => ?_
      refine aw_seq_k fun K hK => ?_
      refine w_region (n' := 11) (by kernel_rfl) (by kernel_rfl) ?_
      refine aops_n hTT (M := []) (n := 2) [pv (72 : Nat) (V.i (4 : Int)), pv (73 : Nat) (V.b false)] (by kernel_rfl) (by kernel_rfl) True.intro ?_
      refine aops_nil ?_
      refine xt_n ?_
      refine hK _ ?_
      clear hK K
      refine w_false (t := false) (by kernel_rfl) rfl ?_
      refine aw_skip ?_
      refine xt_n ?_
      refine hK _ ?_
      clear hK K
      refine aw_seq_k fun K hK => ?_
      refine w_region (n' := 12) (by kernel_rfl) (by kernel_rfl) ?_
      refine aops_n hTT (M := []) (n := 15) [pv (88 : Nat) (V.i (0 : Int)), pv (89 : Nat) (V.b true), pv (90 : Nat) (V.b true), pc (91 : Nat) ((True ∧ True) ∧ ((true == false) = true → True)) (V.gd (true == false) (V.i (0 : Int))), pc (92 : Nat) ((((true == false) = true → (true == false) = true) ∧ True ∧ True) ∧ ((true == false) = true → True)) (V.gd (true == false) (V.b false)), pc (93 : Nat) (True ∧ (true = false → (true == false) = true)) (V.b true), pv (94 : Nat) (V.b true), pc (95 : Nat) ((True ∧ True) ∧ ((true == true) = true → True)) (V.gd (true == true) (V.i (4 : Int))), pc (96 : Nat) ((((true == true) = true → (true == true) = true) ∧ True ∧ True) ∧ ((true == true) = true → True)) (V.gd (true == true) (V.b false)), pc (97 : Nat) ((((true == true) = true → (true == true) = true) ∧ True) ∧ ((true == true) = true → True)) (V.gd (true == true) (V.b false)), pc (98 : Nat) ((True ∧ True) ∧ ((true == true && false == false) = true → True)) (V.gd (true == true && false == false) (V.i (4 : Int))), pc (99 : Nat) ((((true == true && false == false) = true → (true == true && false == false) = true) ∧ True ∧ True) ∧ ((true == true && false == false) = true → True)) (V.gd (true == true && false == false) (V.b true)), pc (100 : Nat) (((true == true) = true → (true == true) = true) ∧ ((true == true) = true → True) ∧ ((true == true) = true → false = false → (true == true && false == false) = true)) (V.gd (true == true) (V.b true)), pc (101 : Nat) ((true = true → (true == true) = true) ∧ True) (V.b true), pv (102 : Nat) (V.b true)] (by kernel_rfl) (by kernel_rfl) ⟨⟨⟨True.intro, True.intro⟩, (fun _ => True.intro)⟩, ⟨⟨(by (exact fun h => h)), ⟨True.intro, True.intro⟩⟩, (fun _ => True.intro)⟩, ⟨True.intro, (by (intro h; simp at h; done))⟩, ⟨⟨True.intro, True.intro⟩, (fun _ => True.intro)⟩, ⟨⟨(by (exact fun h => h)), ⟨True.intro, True.intro⟩⟩, (fun _ => True.intro)⟩, ⟨⟨(by (exact fun h => h)), True.intro⟩, (fun _ => True.intro)⟩, ⟨⟨True.intro, True.intro⟩, (fun _ => True.intro)⟩, ⟨⟨(by (exact fun h => h)), ⟨True.intro, True.intro⟩⟩, (fun _ => True.intro)⟩, ⟨(by (exact fun h => h)), ⟨(fun _ => True.intro), (by (intro _; simp; done))⟩⟩, ⟨(by (exact fun h => h)), True.intro⟩, True.intro⟩ ?_
      refine e_callG 0 (g := true == true) (first := []) (caps := []) (by kernel_rfl) (fun _ => works_ac) (by kernel_rfl) (by kernel_rfl) (by kernel_rfl) (by kernel_rfl) (by kernel_rfl) (by kernel_rfl) ?_
      refine aops_n hTT (M := []) (n := 2) [pc (104 : Nat) ((true = true → (true == true) = true) ∧ True) (V.b true), pv (6 : Nat) (V.b true)] (by kernel_rfl) (by kernel_rfl) ⟨⟨(by (exact fun h => h)), True.intro⟩, True.intro⟩ ?_
      refine aops_nil ?_
      refine xt_n ?_
      refine hK _ ?_
      clear hK K
      refine aw_ret ?_
      refine ret_pure (v' := V.b true) (.inr rfl) (by kernel_rfl) (by kernel_rfl) (by kernel_rfl)
    · have lu : u.length ≤ bigL := by rw [runI_len r2]; exact hx
      have A3 := Apply_ac c u hc lu
      rw [show apR c false u = (0, x) from eu] at A3
      rw [e2] at A2
      skip
      refine e_call (first := []) (caps := []) (A2) (by kernel_rfl) (by kernel_rfl) (by kernel_rfl) (by kernel_rfl) (by kernel_rfl) ?_
      refine aops_n hTT (M := []) (n := 5) [pv (66 : Nat) (V.tup [V.sl (1 : Nat) (List.length u) fun (k : Nat) => [V.i (gi u k)], V.i (0 : Int)]), pv (70 : Nat) (V.sl (1 : Nat) (List.length u) fun (k : Nat) => [V.i (gi u k)]), pv (71 : Nat) (V.i (0 : Int)), pv (12 : Nat) (V.sl (1 : Nat) (List.length u) fun (k : Nat) => [V.i (gi u k)]), pv (13 : Nat) (V.i (0 : Int))] (by kernel_rfl) (by kernel_rfl) True.intro ?_
      refine aops_nil ?_
      refine xt_n ?_
      refine hK _ ?_
      clear hK K
      refine aw_seq_k fun K hK => ?_
      refine aw_seq_k fun K hK => ?_
      refine w_region (n' := 11) (by kernel_rfl) (by kernel_rfl) ?_
      refine aops_n hTT (M := []) (n := 2) [pv (72 : Nat) (V.i (0 : Int)), pv (73 : Nat) (V.b true)] (by kernel_rfl) (by kernel_rfl) True.intro ?_
      refine aops_nil ?_
      refine xt_n ?_
      refine hK _ ?_
      clear hK K
      refine w_true (t := true) (by kernel_rfl) rfl ?_
      refine aw_seq_k fun K hK => ?_
      refine w_region (n' := 12) (by kernel_rfl) (by kernel_rfl) ?_
      refine aops_n hTT (M := []) (n := 2) [pv (75 : Nat) (V.agg [V.sl (1 : Nat) (List.length (Cv.feed c)) fun (k : Nat) => [V.i (gi (Cv.feed c) k)], V.sl (1 : Nat) (List.length (Cv.back c)) fun (k : Nat) => [V.i (gi (Cv.back c) k)], V.i (Cv.share c)]), pv (76 : Nat) (V.sl (1 : Nat) (List.length u) fun (k : Nat) => [V.i (gi u k)])] (by kernel_rfl) (by kernel_rfl) True.intro ?_
      refine e_call (first := []) (caps := []) (A3) (by kernel_rfl) (by kernel_rfl) (by kernel_rfl) (by kernel_rfl) (by kernel_rfl) ?_
      refine aops_n hTT (M := []) (n := 5) [pv (74 : Nat) (V.tup [V.sl (1 : Nat) (List.length x) fun (k : Nat) => [V.i (gi x k)], V.i (0 : Int)]), pv (78 : Nat) (V.sl (1 : Nat) (List.length x) fun (k : Nat) => [V.i (gi x k)]), pv (79 : Nat) (V.i (0 : Int)), pv (14 : Nat) (V.sl (1 : Nat) (List.length x) fun (k : Nat) => [V.i (gi x k)]), pv (15 : Nat) (V.i (0 : Int))] (by kernel_rfl) (by kernel_rfl) True.intro ?_
      refine aops_nil ?_
      refine xt_n ?_
      refine hK _ ?_
      clear hK K
      refine aw_seq_k fun K hK => ?_
      refine w_region (n' := 13) (by kernel_rfl) (by kernel_rfl) ?_
      refine aops_n hTT (M := []) (n := 5) [pv (80 : Nat) (V.i (0 : Int)), pv (81 : Nat) (V.b false), pv (82 : Nat) (V.b false), pc (83 : Nat) ((True ∧ True) ∧ ((false == false) = true → True)) (V.gd (false == false) (V.sl (1 : Nat) (List.length x) fun (k : Nat) => [V.i (gi x k)])), pc (84 : Nat) ((True ∧ True) ∧ ((false == false) = true → True)) (V.gd (false == false) (V.sl (1 : Nat) (List.length x) fun (k : Nat) => [V.i (gi x k)]))] (by kernel_rfl) (by kernel_rfl) ⟨⟨⟨True.intro, True.intro⟩, (fun _ => True.intro)⟩, ⟨⟨True.intro, True.intro⟩, (fun _ => True.intro)⟩, True.intro⟩ ?_
      refine e_callG 2 (g := false == false) (first := []) (caps := []) (by kernel_rfl) (fun h => refSame_ac x x hx hx) (by kernel_rfl) (by kernel_rfl) (by kernel_rfl) (by kernel_rfl) (by kernel_rfl) (by kernel_rfl) ?_
      refine aops_n hTT (M := []) (n := 2) [pc (86 : Nat) ((((false == false) = true → (false == false) = true) ∧ True) ∧ ((false == false) = true → True)) (V.gd (false == false) (V.b !decide (x = x))), pc (87 : Nat) (True ∧ (false = false → (false == false) = true)) (V.b !decide (x = x))] (by kernel_rfl) (by kernel_rfl) ⟨⟨⟨(by (exact fun h => h)), True.intro⟩, (fun _ => True.intro)⟩, ⟨True.intro, (by (intro h; rw [h]; rfl))⟩, True.intro⟩ ?_
      refine aops_nil ?_
      refine xt_n ?_
      refine hK _ ?_
      clear hK K
      refine w_cond (t := !decide (x = x)) (by kernel_rfl) (fun c5 => ?_) (fun c5 => ?_)
      · simp at c5
      refine aw_skip ?_
      refine xt_n ?_
      refine hK _ ?_
      clear hK K
      refine aw_seq_k fun K hK => ?_
      refine w_region (n' := 14) (by kernel_rfl) (by kernel_rfl) ?_
      refine aops_n hTT (M := []) (n := 15) [pv (88 : Nat) (V.i (0 : Int)), pv (89 : Nat) (V.b true), pv (90 : Nat) (V.b true), pc (91 : Nat) ((True ∧ True) ∧ ((true == false) = true → True)) (V.gd (true == false) (V.i (0 : Int))), pc (92 : Nat) ((((true == false) = true → (true == false) = true) ∧ True ∧ True) ∧ ((true == false) = true → True)) (V.gd (true == false) (V.b false)), pc (93 : Nat) (True ∧ (true = false → (true == false) = true)) (V.b true), pv (94 : Nat) (V.b true), pc (95 : Nat) ((True ∧ True) ∧ ((true == true) = true → True)) (V.gd (true == true) (V.i (0 : Int))), pc (96 : Nat) ((((true == true) = true → (true == true) = true) ∧ True ∧ True) ∧ ((true == true) = true → True)) (V.gd (true == true) (V.b true)), pc (97 : Nat) ((((true == true) = true → (true == true) = true) ∧ True) ∧ ((true == true) = true → True)) (V.gd (true == true) (V.b true)), pc (98 : Nat) ((True ∧ True) ∧ ((true == true && true == false) = true → True)) (V.gd (true == true && true == false) (V.i (0 : Int))), pc (99 : Nat) ((((true == true && true == false) = true → (true == true && true == false) = true) ∧ True ∧ True) ∧ ((true == true && true == false) = true → True)) (V.gd (true == true && true == false) (V.b false)), pc (100 : Nat) (((true == true) = true → (true == true) = true) ∧ ((true == true) = true → True) ∧ ((true == true) = true → true = false → (true == true && true == false) = true)) (V.gd (true == true) (V.b true)), pc (101 : Nat) ((true = true → (true == true) = true) ∧ True) (V.b true), pv (102 : Nat) (V.b true)] (by kernel_rfl) (by kernel_rfl) ⟨⟨⟨True.intro, True.intro⟩, (fun _ => True.intro)⟩, ⟨⟨(by (exact fun h => h)), ⟨True.intro, True.intro⟩⟩, (fun _ => True.intro)⟩, ⟨True.intro, (by (intro h; simp at h; done))⟩, ⟨⟨True.intro, True.intro⟩, (fun _ => True.intro)⟩, ⟨⟨(by (exact fun h => h)), ⟨True.intro, True.intro⟩⟩, (fun _ => True.intro)⟩, ⟨⟨(by (exact fun h => h)), True.intro⟩, (fun _ => True.intro)⟩, ⟨⟨True.intro, True.intro⟩, (fun _ => True.intro)⟩, ⟨⟨(by (exact fun h => h)), ⟨True.intro, True.intro⟩⟩, (fun _ => True.intro)⟩, ⟨(by (exact fun h => h)), ⟨(fun _ => True.intro), (by (intro _; simp; done))⟩⟩, ⟨(by (exact fun h => h)), True.intro⟩, True.intro⟩ ?_
      refine e_callG 0 (g := true == true) (first := []) (caps := []) (by kernel_rfl) (fun _ => works_ac) (by kernel_rfl) (by kernel_rfl) (by kernel_rfl) (by kernel_rfl) (by kernel_rfl) (by kernel_rfl) ?_
      refine aops_n hTT (M := []) (n := 2) [pc (104 : Nat) ((true = true → (true == true) = true) ∧ True) (V.b true), pv (6 : Nat) (V.b true)] (by kernel_rfl) (by kernel_rfl) ⟨⟨(by (exact fun h => h)), True.intro⟩, True.intro⟩ ?_
      refine aops_nil ?_
      refine xt_n ?_
      refine hK _ ?_
      clear hK K
      refine aw_ret ?_
      refine ret_pure (v' := V.b true) (.inr rfl) (by kernel_rfl) (by kernel_rfl) (by kernel_rfl)
def undoneSh : List Sh := [(.fld (.sl (.int .i64)) (.fld (.sl (.int .i64)) (.lst (.int .i64)))), (.sl (.int .i64)), (.sl (.int .i64))]
theorem undone_all (x : TL undoneSh) (hx : wfL undoneSh x) : AC Try.prog 6 (valL undoneSh x) (V.b true) [] := by
  obtain ⟨⟨f, b, s⟩, l, m, _⟩ := x
  obtain ⟨⟨⟨h1, _⟩, ⟨h2, _⟩, h3⟩, ⟨h4, _⟩, ⟨h5, _⟩, _⟩ := hx
  exact undone_law ⟨f, b, s⟩ l m ⟨h1, h2⟩ h4 h5
end Go.Proofs.Ytblipieipldanaa
