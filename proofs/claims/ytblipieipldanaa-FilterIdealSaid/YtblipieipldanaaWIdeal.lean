/-
  FilterIdeal: the walk of the law. No condition.
-/
import Derived.Test.YtblipieipldanaaWUndone
import Derived.Test.YtblipieipldanaaFA15
import Derived.Test.YtblipieipldanaaFPl7
import Derived.Test.YtblipieipldanaaAbs29
namespace Go.Proofs.Ytblipieipldanaa
open Go.Ab Go.RowKit Go.Dw Go.Shelf

set_option maxRecDepth 100000 in
theorem ideal_law (c : Cv) (x : List Int) (hc : cvL c) (hx : x.length ≤ bigL) : AC Try.prog 3 [V.cv c, V.ints x] (.b true) [] := by
  refine ac_intro hTT hMX (fn := Try.f3) (N := _) ⟨Try.func3, rfl, Try.ntmps3, by kernel_rfl⟩ (by simp) fun C hC hF => ?_
  by_cases hv : validB c x 4 = true
  · obtain ⟨v1, v2, v3⟩ := validB_ok hv
    have hcv := cvE_ok.1 v2
    have hxa := (sigE_ok.1 v3).2
    have hsh := hcv.2.2.2.2
    have l8 := hcv.1
    have l9 := hcv.2.1
    have V1 := valid_ac c x 4 hc hx
    rw [hv] at V1
    refine aw_seq_k fun K hK => ?_
    refine w_region (n' := 2) (by kernel_rfl) (by kernel_rfl) ?_
    refine aops_n hTT (M := []) (n := 2) [pv (2 : Nat) (V.ptr [V.sl (1 : Nat) (List.length (Cv.feed c)) fun (k : Nat) => [V.i (gi (Cv.feed c) k)], V.sl (1 : Nat) (List.length (Cv.back c)) fun (k : Nat) => [V.i (gi (Cv.back c) k)], V.i (Cv.share c)]), pv (4 : Nat) (V.b false)] (by kernel_rfl) (by kernel_rfl) True.intro ?_
    refine aops_nil ?_
    refine xt_n ?_
    refine hK _ ?_
    clear hK K
    refine aw_seq_k fun K hK => ?_
    refine aw_seq_k fun K hK => ?_
    refine w_regionD (n' := 3) (by kernel_rfl) (by kernel_rfl) ?_
    refine aops_n hTT (M := []) (n := 2) [pv (15 : Nat) (V.agg [V.sl (1 : Nat) (List.length (Cv.feed c)) fun (k : Nat) => [V.i (gi (Cv.feed c) k)], V.sl (1 : Nat) (List.length (Cv.back c)) fun (k : Nat) => [V.i (gi (Cv.back c) k)], V.i (Cv.share c)]), pv (16 : Nat) (V.sl (1 : Nat) (List.length x) fun (k : Nat) => [V.i (gi x k)])] (by kernel_rfl) (by kernel_rfl) True.intro ?_
    refine e_call (first := []) (caps := []) (V1) (by kernel_rfl) (by kernel_rfl) (by kernel_rfl) (by kernel_rfl) (by kernel_rfl) ?_
    refine aops_n hTT (M := []) (n := 9) [pv (18 : Nat) (V.b false), pv (19 : Nat) (V.b false), pc (20 : Nat) ((True ∧ True) ∧ ((false == false) = true → True)) (V.gd (false == false) (V.ptr [V.i (Cv.share c)])), pc (21 : Nat) ((((false == false) = true → (false == false) = true) ∧ True) ∧ ((false == false) = true → True)) (V.gd (false == false) (V.i (Cv.share c))), pc (22 : Nat) ((((false == false) = true → (false == false) = true) ∧ True ∧ True) ∧ ((false == false) = true → True)) (V.gd (false == false) (V.b (decide ((256 : Int) < Cv.share c)))), pc (23 : Nat) (True ∧ (false = false → (false == false) = true)) (V.b (decide ((256 : Int) < Cv.share c))), pv (24 : Nat) (V.b (decide ((256 : Int) < Cv.share c))), pc (25 : Nat) ((True ∧ True) ∧ ((decide ((256 : Int) < Cv.share c) == false) = true → True)) (V.gd (decide ((256 : Int) < Cv.share c) == false) (V.ptr [V.sl (1 : Nat) (List.length (Cv.back c)) fun (k : Nat) => [V.i (gi (Cv.back c) k)], V.i (Cv.share c)])), pc (26 : Nat) ((((decide ((256 : Int) < Cv.share c) == false) = true → (decide ((256 : Int) < Cv.share c) == false) = true) ∧ True) ∧ ((decide ((256 : Int) < Cv.share c) == false) = true → True)) (V.gd (decide ((256 : Int) < Cv.share c) == false) (V.sl (1 : Nat) (List.length (Cv.back c)) fun (k : Nat) => [V.i (gi (Cv.back c) k)]))] (by kernel_rfl) (by kernel_rfl) ⟨⟨⟨True.intro, True.intro⟩, (fun _ => True.intro)⟩, ⟨⟨(by (exact fun h => h)), True.intro⟩, (fun _ => True.intro)⟩, ⟨⟨(by (exact fun h => h)), ⟨True.intro, True.intro⟩⟩, (fun _ => True.intro)⟩, ⟨True.intro, (by (intro h; rw [h]; rfl))⟩, ⟨⟨True.intro, True.intro⟩, (fun _ => True.intro)⟩, ⟨⟨(by (exact fun h => h)), True.intro⟩, (fun _ => True.intro)⟩, True.intro⟩ ?_
    refine e_callG 1 (g := decide ((256 : Int) < Cv.share c) == false) (first := []) (caps := []) (by kernel_rfl) (fun h => refAmounts_ac c.back hcv.2.2.2.1 hcv.2.1) (by kernel_rfl) (by kernel_rfl) (by kernel_rfl) (by kernel_rfl) (by kernel_rfl) (by kernel_rfl) ?_
    refine aops_n hTT (M := []) (n := 4) [pc (28 : Nat) ((True ∧ True) ∧ ((decide ((256 : Int) < Cv.share c) == false) = true → True)) (V.gd (decide ((256 : Int) < Cv.share c) == false) (V.ptr [V.i (Cv.share c)])), pc (29 : Nat) ((((decide ((256 : Int) < Cv.share c) == false) = true → (decide ((256 : Int) < Cv.share c) == false) = true) ∧ True) ∧ ((decide ((256 : Int) < Cv.share c) == false) = true → True)) (V.gd (decide ((256 : Int) < Cv.share c) == false) (V.i (Cv.share c))), pc (30 : Nat) ((((decide ((256 : Int) < Cv.share c) == false) = true → (decide ((256 : Int) < Cv.share c) == false) = true) ∧ ((decide ((256 : Int) < Cv.share c) == false) = true → (decide ((256 : Int) < Cv.share c) == false) = true) ∧ True) ∧ ((decide ((256 : Int) < Cv.share c) == false) = true → True)) (V.gd (decide ((256 : Int) < Cv.share c) == false) (V.b (decide (Cv.share c ≤ amtL (Cv.back c))))), pc (31 : Nat) (True ∧ (decide ((256 : Int) < Cv.share c) = false → (decide ((256 : Int) < Cv.share c) == false) = true)) (V.b (decide ((256 : Int) < Cv.share c) || decide (Cv.share c ≤ amtL (Cv.back c))))] (by kernel_rfl) (by kernel_rfl) ⟨⟨⟨True.intro, True.intro⟩, (fun _ => True.intro)⟩, ⟨⟨(by (exact fun h => h)), True.intro⟩, (fun _ => True.intro)⟩, ⟨⟨(by (exact fun h => h)), ⟨(by (exact fun h => h)), True.intro⟩⟩, (fun _ => True.intro)⟩, ⟨True.intro, (by (intro h; rw [h]; rfl))⟩, True.intro⟩ ?_
    refine aops_nil ⟨by kernel_rfl, ?_⟩
    refine xt_n ?_
    refine hK _ ?_
    clear hK K
    refine w_cond (t := decide ((256 : Int) < Cv.share c) || decide (Cv.share c ≤ amtL (Cv.back c))) (by kernel_rfl) (fun c1 => ?_) (fun c1 => ?_)
    · refine aw_seq_k fun K hK => ?_
      refine w_region (n' := 4) (by kernel_rfl) (by kernel_rfl) ?_
      refine e_call (first := []) (caps := []) (works_ac) (by kernel_rfl) (by kernel_rfl) (by kernel_rfl) (by kernel_rfl) (by kernel_rfl) ?_
      refine aops_n hTT (M := []) (n := 1) [pv (4 : Nat) (V.b true)] (by kernel_rfl) (by kernel_rfl) True.intro ?_
      refine aops_nil ?_
      refine xt_n ?_
      refine hK _ ?_
      clear hK K
      refine aw_ret ?_
      refine xt_r ?_
      refine ret_pure (v' := V.b true) (.inr rfl) (by kernel_rfl) (by kernel_rfl) (by kernel_rfl)
    have ht : c.share ≤ 256 ∧ amtL c.back < c.share := by simp at c1; omega
    obtain ⟨t1, t2⟩ := ht
    have A1 := Apply_ac c x hc hx
    have A2 := refApply_ac c x hc hx
    rcases apR_or (u := false) v2 v3 with ⟨e1, r1⟩ | ⟨y, e1, r1, hy, ey⟩
    · rw [e1] at A1
      refine aw_skip ?_
      refine xt_n ?_
      refine hK _ ?_
      clear hK K
      refine aw_seq_k fun K hK => ?_
      refine w_region (n' := 4) (by kernel_rfl) (by kernel_rfl) ?_
      refine aops_n hTT (M := []) (n := 2) [pv (34 : Nat) (V.agg [V.sl (1 : Nat) (List.length (Cv.feed c)) fun (k : Nat) => [V.i (gi (Cv.feed c) k)], V.sl (1 : Nat) (List.length (Cv.back c)) fun (k : Nat) => [V.i (gi (Cv.back c) k)], V.i (Cv.share c)]), pv (35 : Nat) (V.sl (1 : Nat) (List.length x) fun (k : Nat) => [V.i (gi x k)])] (by kernel_rfl) (by kernel_rfl) True.intro ?_
      refine e_call (first := []) (caps := []) (A1) (by kernel_rfl) (by kernel_rfl) (by kernel_rfl) (by kernel_rfl) (by kernel_rfl) ?_
      refine aops_n hTT (M := []) (n := 5) [pv (33 : Nat) (V.tup [V.sl (1 : Nat) (0 : Nat) fun (k : Nat) => [V.i (gi [] k)], V.i (4 : Int)]), pv (37 : Nat) (V.sl (1 : Nat) (0 : Nat) fun (k : Nat) => [V.i (gi [] k)]), pv (38 : Nat) (V.i (4 : Int)), pv (5 : Nat) (V.sl (1 : Nat) (0 : Nat) fun (k : Nat) => [V.i (gi [] k)]), pv (6 : Nat) (V.i (4 : Int))] (by kernel_rfl) (by kernel_rfl) True.intro ?_
      refine aops_nil ?_
      refine xt_n ?_
      refine hK _ ?_
      clear hK K
      refine aw_seq_k fun K hK => ?_
      refine aw_seq_k fun K hK => ?_
      refine w_region (n' := 5) (by kernel_rfl) (by kernel_rfl) ?_
      refine aops_n hTT (M := []) (n := 2) [pv (39 : Nat) (V.i (4 : Int)), pv (40 : Nat) (V.b true)] (by kernel_rfl) (by kernel_rfl) True.intro ?_
      refine aops_nil ?_
      refine xt_n ?_
      refine hK _ ?_
      clear hK K
      refine w_true (t := true) (by kernel_rfl) rfl ?_
      refine aw_seq_k fun K hK => ?_
      refine w_region (n' := 6) (by kernel_rfl) (by kernel_rfl) ?_
      refine aops_n hTT (M := []) (n := 3) [pv (41 : Nat) (V.i (4 : Int)), pv (42 : Nat) (V.b true), pv (43 : Nat) (V.b true)] (by kernel_rfl) (by kernel_rfl) True.intro ?_
      refine e_callG 0 (g := true == true) (first := []) (caps := []) (by kernel_rfl) (fun h => works_ac) (by kernel_rfl) (by kernel_rfl) (by kernel_rfl) (by kernel_rfl) (by kernel_rfl) (by kernel_rfl) ?_
      refine aops_n hTT (M := []) (n := 2) [pc (45 : Nat) ((true = true → (true == true) = true) ∧ True) (V.b true), pv (4 : Nat) (V.b true)] (by kernel_rfl) (by kernel_rfl) ⟨⟨(by (exact fun h => h)), True.intro⟩, True.intro⟩ ?_
      refine aops_nil ?_
      refine xt_n ?_
      refine hK _ ?_
      clear hK K
      refine aw_ret ?_
      refine xt_r ?_
      refine ret_pure (v' := V.b true) (.inr rfl) (by kernel_rfl) (by kernel_rfl) (by kernel_rfl)
    have hyl := runI_len r1
    have hyr := (runI_eq.1 r1).2
    have hya := (runI_eq.1 r1).1
    rw [e1] at A1 A2
    refine aw_skip ?_
    refine xt_n ?_
    refine hK _ ?_
    clear hK K
    refine aw_seq_k fun K hK => ?_
    refine w_region (n' := 4) (by kernel_rfl) (by kernel_rfl) ?_
    refine aops_n hTT (M := []) (n := 2) [pv (34 : Nat) (V.agg [V.sl (1 : Nat) (List.length (Cv.feed c)) fun (k : Nat) => [V.i (gi (Cv.feed c) k)], V.sl (1 : Nat) (List.length (Cv.back c)) fun (k : Nat) => [V.i (gi (Cv.back c) k)], V.i (Cv.share c)]), pv (35 : Nat) (V.sl (1 : Nat) (List.length x) fun (k : Nat) => [V.i (gi x k)])] (by kernel_rfl) (by kernel_rfl) True.intro ?_
    refine e_call (first := []) (caps := []) (A1) (by kernel_rfl) (by kernel_rfl) (by kernel_rfl) (by kernel_rfl) (by kernel_rfl) ?_
    refine aops_n hTT (M := []) (n := 5) [pv (33 : Nat) (V.tup [V.sl (1 : Nat) (List.length y) fun (k : Nat) => [V.i (gi y k)], V.i (0 : Int)]), pv (37 : Nat) (V.sl (1 : Nat) (List.length y) fun (k : Nat) => [V.i (gi y k)]), pv (38 : Nat) (V.i (0 : Int)), pv (5 : Nat) (V.sl (1 : Nat) (List.length y) fun (k : Nat) => [V.i (gi y k)]), pv (6 : Nat) (V.i (0 : Int))] (by kernel_rfl) (by kernel_rfl) True.intro ?_
    refine aops_nil ?_
    refine xt_n ?_
    refine hK _ ?_
    clear hK K
    refine aw_seq_k fun K hK => ?_
    refine aw_seq_k fun K hK => ?_
    refine w_region (n' := 5) (by kernel_rfl) (by kernel_rfl) ?_
    refine aops_n hTT (M := []) (n := 2) [pv (39 : Nat) (V.i (0 : Int)), pv (40 : Nat) (V.b false)] (by kernel_rfl) (by kernel_rfl) True.intro ?_
    refine aops_nil ?_
    refine xt_n ?_
    refine hK _ ?_
    clear hK K
    refine w_false (t := false) (by kernel_rfl) rfl ?_
    refine aw_skip ?_
    refine xt_n ?_
    refine hK _ ?_
    clear hK K
    refine aw_seq_k fun K hK => ?_
    refine w_region (n' := 6) (by kernel_rfl) (by kernel_rfl) ?_
    refine aops_n hTT (M := []) (n := 2) [pv (47 : Nat) (V.agg [V.sl (1 : Nat) (List.length (Cv.feed c)) fun (k : Nat) => [V.i (gi (Cv.feed c) k)], V.sl (1 : Nat) (List.length (Cv.back c)) fun (k : Nat) => [V.i (gi (Cv.back c) k)], V.i (Cv.share c)]), pv (48 : Nat) (V.sl (1 : Nat) (List.length x) fun (k : Nat) => [V.i (gi x k)])] (by kernel_rfl) (by kernel_rfl) True.intro ?_
    refine e_call (first := []) (caps := []) (A2) (by kernel_rfl) (by kernel_rfl) (by kernel_rfl) (by kernel_rfl) (by kernel_rfl) ?_
    refine aops_n hTT (M := []) (n := 5) [pv (46 : Nat) (V.tup [V.sl (1 : Nat) (List.length y) fun (k : Nat) => [V.i (gi y k)], V.i (0 : Int)]), pv (50 : Nat) (V.sl (1 : Nat) (List.length y) fun (k : Nat) => [V.i (gi y k)]), pv (51 : Nat) (V.i (0 : Int)), pv (7 : Nat) (V.sl (1 : Nat) (List.length y) fun (k : Nat) => [V.i (gi y k)]), pv (8 : Nat) (V.i (0 : Int))] (by kernel_rfl) (by kernel_rfl) True.intro ?_
    refine aops_nil ?_
    refine xt_n ?_
    refine hK _ ?_
    clear hK K
    refine aw_seq_k fun K hK => ?_
    refine aw_seq_k fun K hK => ?_
    refine w_region (n' := 7) (by kernel_rfl) (by kernel_rfl) ?_
    refine aops_n hTT (M := []) (n := 9) [pv (52 : Nat) (V.i (0 : Int)), pv (53 : Nat) (V.b false), pv (54 : Nat) (V.b false), pc (55 : Nat) ((True ∧ True) ∧ ((false == false) = true → True)) (V.gd (false == false) (V.sl (1 : Nat) (List.length y) fun (k : Nat) => [V.i (gi y k)])), pc (56 : Nat) ((((false == false) = true → (false == false) = true) ∧ True) ∧ ((false == false) = true → True)) (V.gd (false == false) (V.i (↑(List.length y) : Int))), pc (57 : Nat) ((True ∧ True) ∧ ((false == false) = true → True)) (V.gd (false == false) (V.sl (1 : Nat) (List.length x) fun (k : Nat) => [V.i (gi x k)])), pc (58 : Nat) ((((false == false) = true → (false == false) = true) ∧ True) ∧ ((false == false) = true → True)) (V.gd (false == false) (V.i (↑(List.length x) : Int))), pc (59 : Nat) ((((false == false) = true → (false == false) = true) ∧ ((false == false) = true → (false == false) = true) ∧ True) ∧ ((false == false) = true → True)) (V.gd (false == false) (V.b !decide ((↑(List.length y) : Int) = (↑(List.length x) : Int)))), pc (60 : Nat) (True ∧ (false = false → (false == false) = true)) (V.b !decide ((↑(List.length y) : Int) = (↑(List.length x) : Int)))] (by kernel_rfl) (by kernel_rfl) ⟨⟨⟨True.intro, True.intro⟩, (fun _ => True.intro)⟩, ⟨⟨(by (exact fun h => h)), True.intro⟩, (fun _ => True.intro)⟩, ⟨⟨True.intro, True.intro⟩, (fun _ => True.intro)⟩, ⟨⟨(by (exact fun h => h)), True.intro⟩, (fun _ => True.intro)⟩, ⟨⟨(by (exact fun h => h)), ⟨(by (exact fun h => h)), True.intro⟩⟩, (fun _ => True.intro)⟩, ⟨True.intro, (by (intro h; rw [h]; rfl))⟩, True.intro⟩ ?_
    refine aops_nil ?_
    refine xt_n ?_
    refine hK _ ?_
    clear hK K
    refine w_cond (t := !decide ((↑(List.length y) : Int) = (↑(List.length x) : Int))) (by kernel_rfl) (fun c2 => ?_) (fun c2 => ?_)
    · simp at c2
      omega
    refine aw_skip ?_
    refine xt_n ?_
    refine hK _ ?_
    clear hK K
    refine aw_seq_k fun K hK => ?_
    refine w_region (n' := 8) (by kernel_rfl) (by kernel_rfl) ?_
    refine aops_n hTT (M := [61, 62]) (n := 4) [pn (61 : Nat) (V.own (700061 : Nat)) (700061 : Nat) (Ob.row (2 : Nat) (1 : Nat) (1 : Nat) fun (i : Nat) => List.take (1 : Nat) (List.drop (i * (1 : Nat)) [V.i (1 : Int)])), pn (62 : Nat) (V.own (700062 : Nat)) (700062 : Nat) (Ob.row (2 : Nat) (1 : Nat) (0 : Nat) fun (i : Nat) => List.take (1 : Nat) (List.drop (i * (1 : Nat)) (repV (0 : Nat) [V.c (Value.int IntKind.i64 (0 : Int))]))), pv (9 : Nat) (V.own (700061 : Nat)), pv (10 : Nat) (V.own (700062 : Nat))] (by kernel_rfl) (by kernel_rfl) True.intro ?_
    refine aops_nil ?_
    refine xt_n ?_
    refine hK _ ?_
    clear hK K
    refine aw_seq_k fun K hK => ?_
    refine aw_seq_k fun K hK => ?_
    refine w_region (n' := 9) (by kernel_rfl) (by kernel_rfl) ?_
    refine aops_n hTT (M := [61, 62]) (n := 1) [pv (11 : Nat) (V.i (0 : Int))] (by kernel_rfl) (by kernel_rfl) True.intro ?_
    refine aops_nil ?_
    refine xt_n ?_
    refine hK _ ?_
    clear hK K
    refine aw_block ?_
    refine w_loop (ι := Nat) (fun k => [(1, V.ints x), (2, .ptr (cvC c)), (5, V.ints y), (9, .own 9), (10, .own 10), (11, .i k)]) (fun k => [(9, .row 2 1 (k + 1) fun j => [.i (c.share ^ j)]), (10, .row 2 1 k fun j => [.i (idF c x j)])]) (fun k => k ≤ x.length) (fun k => x.length - k) 0 (Nat.zero_le _) ?_ ?_
    · refine le_ren (tl := [(1, V.sl (1 : Nat) (List.length x) fun (k : Nat) => [V.i (gi x k)]), (2, V.ptr [V.sl (1 : Nat) (List.length (Cv.feed c)) fun (k : Nat) => [V.i (gi (Cv.feed c) k)], V.sl (1 : Nat) (List.length (Cv.back c)) fun (k : Nat) => [V.i (gi (Cv.back c) k)], V.i (Cv.share c)]), (5, V.sl (1 : Nat) (List.length y) fun (k : Nat) => [V.i (gi y k)]), (9, V.own (9 : Nat)), (10, V.own (10 : Nat)), (11, V.i (↑(0 : Nat) : Int))]) (sl := [(9, Ob.row (2 : Nat) (1 : Nat) (1 : Nat) fun (j : Nat) => [V.i (Cv.share c ^ j)]), (10, Ob.row (2 : Nat) (1 : Nat) (0 : Nat) fun (j : Nat) => [V.i (idF c x j)])]) [(9, 700061), (10, 700062)] (.cons (by kernel_rfl) (.cons (by kernel_rfl) (.cons (by kernel_rfl) (.cons (by kernel_rfl) (.cons (by kernel_rfl) (.cons (by kernel_rfl) .nil)))))) (.cons ⟨Ob.row (2 : Nat) (1 : Nat) (1 : Nat) fun (i : Nat) => List.take (1 : Nat) (List.drop (i * (1 : Nat)) [V.i (1 : Int)]), (by kernel_rfl), .row (by kernel_rfl) ?_⟩ (.cons ⟨Ob.row (2 : Nat) (1 : Nat) (0 : Nat) fun (i : Nat) => List.take (1 : Nat) (List.drop (i * (1 : Nat)) (repV (0 : Nat) [V.c (Value.int IntKind.i64 (0 : Int))])), (by kernel_rfl), .row (by kernel_rfl) ?_⟩ .nil)) (by kernel_rfl) (by kernel_rfl)
      · intro i hi
        obtain rfl : i = 0 := by omega
        show [V.i 1] = [V.i (c.share ^ 0)]
        rw [Int.pow_zero]
      · intro i hi
        omega
    intro k hk
    refine aw_seq_k fun K hK => ?_
    refine aw_seq_k fun K hK => ?_
    refine w_region (n' := 2) (by kernel_rfl) (by kernel_rfl) ?_
    refine aops_n hTT (M := []) (n := 4) [pv (63 : Nat) (V.i (↑k : Int)), pv (64 : Nat) (V.sl (1 : Nat) (List.length x) fun (k : Nat) => [V.i (gi x k)]), pv (65 : Nat) (V.i (↑(List.length x) : Int)), pv (66 : Nat) (V.b (decide ((↑k : Int) < (↑(List.length x) : Int))))] (by kernel_rfl) (by kernel_rfl) True.intro ?_
    refine aops_nil ?_
    refine xt_n ?_
    refine hK _ ?_
    clear hK K
    refine w_cond (t := decide ((↑k : Int) < (↑(List.length x) : Int))) (by kernel_rfl) (fun c3 => ?_) (fun c3 => ?_)
    · simp at c3
      have k3 : k ≤ 3 := by omega
      have y1 : gi y k = outK c false x k := by rw [hyr, resL_gi c3]
      have za := fun i (hi : i ≤ 8) => zA_bd hcv hxa t1 k3 hi
      have zb := fun i (hi : i ≤ 8) => zB_bd hcv hxa t1 k3 hi
      have z0 := zA_zero c x k
      have e0 : ((k : Int) - 1).toNat = k - 1 := by omega
      have zz := za 0 (by omega)
      rw [z0] at zz
      refine aw_skip ?_
      refine xt_n ?_
      refine hK _ ?_
      clear hK K
      refine aw_seq_k fun K hK => ?_
      refine aw_block ?_
      refine aw_seq_k fun K hK => ?_
      refine w_regionD (n' := 3) (by kernel_rfl) (by kernel_rfl) ?_
      refine aops_n hTT (M := []) (n := 10) [pv (69 : Nat) (V.sl (1 : Nat) (List.length x) fun (k : Nat) => [V.i (gi x k)]), pv (70 : Nat) (V.i (↑k : Int)), pc (71 : Nat) ((0 : Int) ≤ (↑k : Int) ∧ (↑k : Int) < (↑(List.length x) : Int)) (V.ptr [V.i (gi x k)]), pv (72 : Nat) (V.i (gi x k)), pv (73 : Nat) (V.own (9 : Nat)), pv (74 : Nat) (V.i (↑k : Int)), pc (75 : Nat) ((0 : Int) ≤ (↑k : Int) ∧ (↑k : Int) < (↑(k + (1 : Nat)) : Int)) (V.oel (9 : Nat) (1 : Nat) k (0 : Nat)), pc (76 : Nat) (k < k + (1 : Nat) ∧ (0 : Nat) ≤ (1 : Nat)) (V.i (Cv.share c ^ k)), pc (77 : Nat) ((-9223372036854775808 : Int) ≤ gi x k * Cv.share c ^ k ∧ gi x k * Cv.share c ^ k ≤ (9223372036854775807 : Int)) (V.i (gi x k * Cv.share c ^ k)), pv (12 : Nat) (V.i (gi x k * Cv.share c ^ k))] (by kernel_rfl) (by kernel_rfl) ⟨(by omega), (by omega), (by omega), (by omega), True.intro⟩ ?_
      refine aops_nil ⟨by kernel_rfl, ?_⟩
      refine xt_n ?_
      refine hK _ ?_
      clear hK K
      refine aw_seq_k fun K hK => ?_
      refine aw_seq_k fun K hK => ?_
      refine w_region (n' := 4) (by kernel_rfl) (by kernel_rfl) ?_
      refine aops_n hTT (M := []) (n := 1) [pv (13 : Nat) (V.i (0 : Int))] (by kernel_rfl) (by kernel_rfl) True.intro ?_
      refine aops_nil ?_
      refine xt_n ?_
      refine hK _ ?_
      clear hK K
      refine aw_block ?_
      refine w_loop (ι := Nat) (fun i => [(1, V.ints x), (2, .ptr (cvC c)), (5, V.ints y), (9, .own 9), (10, .own 10), (11, .i k), (12, .i (zA c x k i)), (13, .i i)]) (fun _ => [(9, .row 2 1 (k + 1) fun j => [.i (c.share ^ j)]), (10, .row 2 1 k fun j => [.i (idF c x j)])]) (fun i => i ≤ c.feed.length) (fun i => c.feed.length - i) 0 (Nat.zero_le _) ?_ ?_
      · rw [z0]
        refine le_ren (sl := [(9, Ob.row (2 : Nat) (1 : Nat) (k + (1 : Nat)) fun (j : Nat) => [V.i (Cv.share c ^ j)]), (10, Ob.row (2 : Nat) (1 : Nat) k fun (j : Nat) => [V.i (idF c x j)])]) [(9, 9), (10, 10)] (.cons (by kernel_rfl) (.cons (by kernel_rfl) (.cons (by kernel_rfl) (.cons (by kernel_rfl) (.cons (by kernel_rfl) (.cons (by kernel_rfl) (.cons (by kernel_rfl) (.cons (by kernel_rfl) .nil)))))))) (.cons ⟨Ob.row (2 : Nat) (1 : Nat) (k + (1 : Nat)) fun (j : Nat) => [V.i (Cv.share c ^ j)], (by kernel_rfl), .row (by kernel_rfl) (fun _ _ => rfl)⟩ (.cons ⟨Ob.row (2 : Nat) (1 : Nat) k fun (j : Nat) => [V.i (idF c x j)], (by kernel_rfl), .row (by kernel_rfl) (fun _ _ => rfl)⟩ .nil)) (by kernel_rfl) (by kernel_rfl)
      intro i hi
      have zi := za i (by have := hcv.1; omega)
      refine aw_seq_k fun K hK => ?_
      refine aw_seq_k fun K hK => ?_
      refine w_region (n' := 2) (by kernel_rfl) (by kernel_rfl) ?_
      refine aops_n hTT (M := []) (n := 12) [pv (78 : Nat) (V.i (↑i : Int)), pv (79 : Nat) (V.ptr [V.sl (1 : Nat) (List.length (Cv.feed c)) fun (k : Nat) => [V.i (gi (Cv.feed c) k)], V.sl (1 : Nat) (List.length (Cv.back c)) fun (k : Nat) => [V.i (gi (Cv.back c) k)], V.i (Cv.share c)]), pv (80 : Nat) (V.sl (1 : Nat) (List.length (Cv.feed c)) fun (k : Nat) => [V.i (gi (Cv.feed c) k)]), pv (81 : Nat) (V.i (↑(List.length (Cv.feed c)) : Int)), pv (82 : Nat) (V.b (decide ((↑i : Int) < (↑(List.length (Cv.feed c)) : Int)))), pv (83 : Nat) (V.b (decide ((↑i : Int) < (↑(List.length (Cv.feed c)) : Int)))), pc (84 : Nat) ((True ∧ True) ∧ ((decide ((↑i : Int) < (↑(List.length (Cv.feed c)) : Int)) == true) = true → True)) (V.gd (decide ((↑i : Int) < (↑(List.length (Cv.feed c)) : Int)) == true) (V.i (↑k : Int))), pc (85 : Nat) ((((decide ((↑i : Int) < (↑(List.length (Cv.feed c)) : Int)) == true) = true → (decide ((↑i : Int) < (↑(List.length (Cv.feed c)) : Int)) == true) = true) ∧ True ∧ True) ∧ ((decide ((↑i : Int) < (↑(List.length (Cv.feed c)) : Int)) == true) = true → (-9223372036854775808 : Int) ≤ (↑k : Int) - (1 : Int) ∧ (↑k : Int) - (1 : Int) ≤ (9223372036854775807 : Int))) (V.gd (decide ((↑i : Int) < (↑(List.length (Cv.feed c)) : Int)) == true) (V.i ((↑k : Int) - (1 : Int)))), pc (86 : Nat) ((True ∧ True) ∧ ((decide ((↑i : Int) < (↑(List.length (Cv.feed c)) : Int)) == true) = true → True)) (V.gd (decide ((↑i : Int) < (↑(List.length (Cv.feed c)) : Int)) == true) (V.i (↑i : Int))), pc (87 : Nat) ((((decide ((↑i : Int) < (↑(List.length (Cv.feed c)) : Int)) == true) = true → (decide ((↑i : Int) < (↑(List.length (Cv.feed c)) : Int)) == true) = true) ∧ ((decide ((↑i : Int) < (↑(List.length (Cv.feed c)) : Int)) == true) = true → (decide ((↑i : Int) < (↑(List.length (Cv.feed c)) : Int)) == true) = true) ∧ True) ∧ ((decide ((↑i : Int) < (↑(List.length (Cv.feed c)) : Int)) == true) = true → (-9223372036854775808 : Int) ≤ (↑k : Int) - (1 : Int) - (↑i : Int) ∧ (↑k : Int) - (1 : Int) - (↑i : Int) ≤ (9223372036854775807 : Int))) (V.gd (decide ((↑i : Int) < (↑(List.length (Cv.feed c)) : Int)) == true) (V.i ((↑k : Int) - (1 : Int) - (↑i : Int)))), pc (88 : Nat) ((((decide ((↑i : Int) < (↑(List.length (Cv.feed c)) : Int)) == true) = true → (decide ((↑i : Int) < (↑(List.length (Cv.feed c)) : Int)) == true) = true) ∧ True ∧ True) ∧ ((decide ((↑i : Int) < (↑(List.length (Cv.feed c)) : Int)) == true) = true → True)) (V.gd (decide ((↑i : Int) < (↑(List.length (Cv.feed c)) : Int)) == true) (V.b (decide ((0 : Int) ≤ (↑k : Int) - (1 : Int) - (↑i : Int))))), pc (89 : Nat) ((decide ((↑i : Int) < (↑(List.length (Cv.feed c)) : Int)) = true → (decide ((↑i : Int) < (↑(List.length (Cv.feed c)) : Int)) == true) = true) ∧ True) (V.b (decide ((↑i : Int) < (↑(List.length (Cv.feed c)) : Int)) && decide ((0 : Int) ≤ (↑k : Int) - (1 : Int) - (↑i : Int))))] (by kernel_rfl) (by kernel_rfl) ⟨⟨⟨True.intro, True.intro⟩, (fun _ => True.intro)⟩, ⟨⟨(by (exact fun h => h)), ⟨True.intro, True.intro⟩⟩, (by (intro hg; simp at hg; omega))⟩, ⟨⟨True.intro, True.intro⟩, (fun _ => True.intro)⟩, ⟨⟨(by (exact fun h => h)), ⟨(by (exact fun h => h)), True.intro⟩⟩, (by (intro hg; simp at hg; omega))⟩, ⟨⟨(by (exact fun h => h)), ⟨True.intro, True.intro⟩⟩, (fun _ => True.intro)⟩, ⟨(by (intro h; rw [h]; rfl)), True.intro⟩, True.intro⟩ ?_
      refine aops_nil ?_
      refine xt_n ?_
      refine hK _ ?_
      clear hK K
      refine w_cond (t := decide ((↑i : Int) < (↑(List.length (Cv.feed c)) : Int)) && decide ((0 : Int) ≤ (↑k : Int) - (1 : Int) - (↑i : Int))) (by kernel_rfl) (fun c4 => ?_) (fun c4 => ?_)
      · have h4 : i < c.feed.length ∧ i < k := by simp at c4; omega
        obtain ⟨h4, h5⟩ := h4
        obtain ⟨f1, f2⟩ := feed_bd3 (t := k) hcv hxa t1 k3 i (k - 1 - i)
        have zs := zA_succ (c := c) (x := x) h5
        have zn := za (i + 1) (by have := hcv.1; omega)
        have e1 : ((k : Int) - 1 - (i : Int)).toNat = k - 1 - i := by omega
        rw [zs] at zn
        rw [← e1] at f1 f2 zs zn
        rw [← e0] at f2 zs zn
        refine aw_skip ?_
        refine xt_n ?_
        refine hK _ ?_
        clear hK K
        refine aw_seq_k fun K hK => ?_
        refine aw_block ?_
        refine w_regionD (n' := 3) (by kernel_rfl) (by kernel_rfl) ?_
        refine aops_n hTT (M := []) (n := 22) [pv (92 : Nat) (V.i (zA c x k i)), pv (93 : Nat) (V.ptr [V.sl (1 : Nat) (List.length (Cv.feed c)) fun (k : Nat) => [V.i (gi (Cv.feed c) k)], V.sl (1 : Nat) (List.length (Cv.back c)) fun (k : Nat) => [V.i (gi (Cv.back c) k)], V.i (Cv.share c)]), pv (94 : Nat) (V.sl (1 : Nat) (List.length (Cv.feed c)) fun (k : Nat) => [V.i (gi (Cv.feed c) k)]), pv (95 : Nat) (V.i (↑i : Int)), pc (96 : Nat) ((0 : Int) ≤ (↑i : Int) ∧ (↑i : Int) < (↑(List.length (Cv.feed c)) : Int)) (V.ptr [V.i (gi (Cv.feed c) i)]), pv (97 : Nat) (V.i (gi (Cv.feed c) i)), pv (98 : Nat) (V.sl (1 : Nat) (List.length x) fun (k : Nat) => [V.i (gi x k)]), pv (99 : Nat) (V.i (↑k : Int)), pc (100 : Nat) ((-9223372036854775808 : Int) ≤ (↑k : Int) - (1 : Int) ∧ (↑k : Int) - (1 : Int) ≤ (9223372036854775807 : Int)) (V.i ((↑k : Int) - (1 : Int))), pv (101 : Nat) (V.i (↑i : Int)), pc (102 : Nat) ((-9223372036854775808 : Int) ≤ (↑k : Int) - (1 : Int) - (↑i : Int) ∧ (↑k : Int) - (1 : Int) - (↑i : Int) ≤ (9223372036854775807 : Int)) (V.i ((↑k : Int) - (1 : Int) - (↑i : Int))), pc (103 : Nat) ((0 : Int) ≤ (↑k : Int) - (1 : Int) - (↑i : Int) ∧ (↑k : Int) - (1 : Int) - (↑i : Int) < (↑(List.length x) : Int)) (V.ptr [V.i (gi x (Int.toNat ((↑k : Int) - (1 : Int) - (↑i : Int))))]), pv (104 : Nat) (V.i (gi x (Int.toNat ((↑k : Int) - (1 : Int) - (↑i : Int))))), pc (105 : Nat) ((-9223372036854775808 : Int) ≤ gi (Cv.feed c) i * gi x (Int.toNat ((↑k : Int) - (1 : Int) - (↑i : Int))) ∧ gi (Cv.feed c) i * gi x (Int.toNat ((↑k : Int) - (1 : Int) - (↑i : Int))) ≤ (9223372036854775807 : Int)) (V.i (gi (Cv.feed c) i * gi x (Int.toNat ((↑k : Int) - (1 : Int) - (↑i : Int))))), pv (106 : Nat) (V.own (9 : Nat)), pv (107 : Nat) (V.i (↑k : Int)), pc (108 : Nat) ((-9223372036854775808 : Int) ≤ (↑k : Int) - (1 : Int) ∧ (↑k : Int) - (1 : Int) ≤ (9223372036854775807 : Int)) (V.i ((↑k : Int) - (1 : Int))), pc (109 : Nat) ((0 : Int) ≤ (↑k : Int) - (1 : Int) ∧ (↑k : Int) - (1 : Int) < (↑(k + (1 : Nat)) : Int)) (V.oel (9 : Nat) (1 : Nat) (Int.toNat ((↑k : Int) - (1 : Int))) (0 : Nat)), pc (110 : Nat) (Int.toNat ((↑k : Int) - (1 : Int)) < k + (1 : Nat) ∧ (0 : Nat) ≤ (1 : Nat)) (V.i (Cv.share c ^ Int.toNat ((↑k : Int) - (1 : Int)))), pc (111 : Nat) ((-9223372036854775808 : Int) ≤ gi (Cv.feed c) i * gi x (Int.toNat ((↑k : Int) - (1 : Int) - (↑i : Int))) * Cv.share c ^ Int.toNat ((↑k : Int) - (1 : Int)) ∧ gi (Cv.feed c) i * gi x (Int.toNat ((↑k : Int) - (1 : Int) - (↑i : Int))) * Cv.share c ^ Int.toNat ((↑k : Int) - (1 : Int)) ≤ (9223372036854775807 : Int)) (V.i (gi (Cv.feed c) i * gi x (Int.toNat ((↑k : Int) - (1 : Int) - (↑i : Int))) * Cv.share c ^ Int.toNat ((↑k : Int) - (1 : Int)))), pc (112 : Nat) ((-9223372036854775808 : Int) ≤ zA c x k i + gi (Cv.feed c) i * gi x (Int.toNat ((↑k : Int) - (1 : Int) - (↑i : Int))) * Cv.share c ^ Int.toNat ((↑k : Int) - (1 : Int)) ∧ zA c x k i + gi (Cv.feed c) i * gi x (Int.toNat ((↑k : Int) - (1 : Int) - (↑i : Int))) * Cv.share c ^ Int.toNat ((↑k : Int) - (1 : Int)) ≤ (9223372036854775807 : Int)) (V.i (zA c x k i + gi (Cv.feed c) i * gi x (Int.toNat ((↑k : Int) - (1 : Int) - (↑i : Int))) * Cv.share c ^ Int.toNat ((↑k : Int) - (1 : Int)))), pv (12 : Nat) (V.i (zA c x k i + gi (Cv.feed c) i * gi x (Int.toNat ((↑k : Int) - (1 : Int) - (↑i : Int))) * Cv.share c ^ Int.toNat ((↑k : Int) - (1 : Int))))] (by kernel_rfl) (by kernel_rfl) ⟨(by omega), (by omega), (by omega), (by omega), (by omega), (by omega), (by omega), (by omega), (by omega), (by omega), True.intro⟩ ?_
        refine aops_nil ⟨by kernel_rfl, ?_⟩
        refine xb_n ?_
        refine xt_n ?_
        refine hK _ ?_
        clear hK K
        refine w_region (n' := 4) (by kernel_rfl) (by kernel_rfl) ?_
        refine aops_n hTT (M := []) (n := 3) [pv (90 : Nat) (V.i (↑i : Int)), pc (91 : Nat) ((-9223372036854775808 : Int) ≤ (↑i : Int) + (1 : Int) ∧ (↑i : Int) + (1 : Int) ≤ (9223372036854775807 : Int)) (V.i ((↑i : Int) + (1 : Int))), pv (13 : Nat) (V.i ((↑i : Int) + (1 : Int)))] (by kernel_rfl) (by kernel_rfl) ⟨(by omega), True.intro⟩ ?_
        refine aops_nil ?_
        refine xt_n ?_
        refine ⟨i + 1, by omega, ?_, by omega⟩
        rw [zs]
        refine le_ren (sl := [(9, Ob.row (2 : Nat) (1 : Nat) (k + (1 : Nat)) fun (j : Nat) => [V.i (Cv.share c ^ j)]), (10, Ob.row (2 : Nat) (1 : Nat) k fun (j : Nat) => [V.i (idF c x j)])]) [(9, 9), (10, 10)] (.cons (by kernel_rfl) (.cons (by kernel_rfl) (.cons (by kernel_rfl) (.cons (by kernel_rfl) (.cons (by kernel_rfl) (.cons (by kernel_rfl) (.cons (by kernel_rfl) (.cons (by kernel_rfl) .nil)))))))) (.cons ⟨Ob.row (2 : Nat) (1 : Nat) (k + (1 : Nat)) fun (j : Nat) => [V.i (Cv.share c ^ j)], (by kernel_rfl), .row (by kernel_rfl) (fun _ _ => rfl)⟩ (.cons ⟨Ob.row (2 : Nat) (1 : Nat) k fun (j : Nat) => [V.i (idF c x j)], (by kernel_rfl), .row (by kernel_rfl) (fun _ _ => rfl)⟩ .nil)) (by kernel_rfl) (by kernel_rfl)
      have h4 : ¬ i < c.feed.length ∨ k ≤ i := by simp at c4; omega
      have zae : zA c x k i = zA c x k c.feed.length := by rw [zA, zA, dot_end hi h4]
      have zb0 := zB_zero c x k
      rw [zae, ← zb0]
      refine aw_exit ?_
      refine xt_x ?_
      refine xt_x ?_
      refine xb_same ?_
      refine xt_n ?_
      clear hK K
      refine hK _ ?_
      clear hK K
      refine aw_seq_k fun K hK => ?_
      refine aw_seq_k fun K hK => ?_
      refine w_region (n' := 3) (by kernel_rfl) (by kernel_rfl) ?_
      refine aops_n hTT (M := []) (n := 1) [pv (14 : Nat) (V.i (0 : Int))] (by kernel_rfl) (by kernel_rfl) True.intro ?_
      refine aops_nil ?_
      refine xt_n ?_
      refine hK _ ?_
      clear hK K
      refine aw_block ?_
      refine w_loop (ι := Nat) (fun i => [(1, V.ints x), (2, .ptr (cvC c)), (5, V.ints y), (9, .own 9), (10, .own 10), (11, .i k), (12, .i (zB c x k i)), (14, .i i)]) (fun _ => [(9, .row 2 1 (k + 1) fun j => [.i (c.share ^ j)]), (10, .row 2 1 k fun j => [.i (idF c x j)])]) (fun i => i ≤ c.back.length) (fun i => c.back.length - i) 0 (Nat.zero_le _) ?_ ?_
      · refine le_ren (sl := [(9, Ob.row (2 : Nat) (1 : Nat) (k + (1 : Nat)) fun (j : Nat) => [V.i (Cv.share c ^ j)]), (10, Ob.row (2 : Nat) (1 : Nat) k fun (j : Nat) => [V.i (idF c x j)])]) [(9, 9), (10, 10)] (.cons (by kernel_rfl) (.cons (by kernel_rfl) (.cons (by kernel_rfl) (.cons (by kernel_rfl) (.cons (by kernel_rfl) (.cons (by kernel_rfl) (.cons (by kernel_rfl) (.cons (by kernel_rfl) .nil)))))))) (.cons ⟨Ob.row (2 : Nat) (1 : Nat) (k + (1 : Nat)) fun (j : Nat) => [V.i (Cv.share c ^ j)], (by kernel_rfl), .row (by kernel_rfl) (fun _ _ => rfl)⟩ (.cons ⟨Ob.row (2 : Nat) (1 : Nat) k fun (j : Nat) => [V.i (idF c x j)], (by kernel_rfl), .row (by kernel_rfl) (fun _ _ => rfl)⟩ .nil)) (by kernel_rfl) (by kernel_rfl)
      intro i hi
      have zi := zb i (by have := hcv.2.1; omega)
      refine aw_seq_k fun K hK => ?_
      refine aw_seq_k fun K hK => ?_
      refine w_region (n' := 2) (by kernel_rfl) (by kernel_rfl) ?_
      refine aops_n hTT (M := []) (n := 12) [pv (113 : Nat) (V.i (↑i : Int)), pv (114 : Nat) (V.ptr [V.sl (1 : Nat) (List.length (Cv.back c)) fun (k : Nat) => [V.i (gi (Cv.back c) k)], V.i (Cv.share c)]), pv (115 : Nat) (V.sl (1 : Nat) (List.length (Cv.back c)) fun (k : Nat) => [V.i (gi (Cv.back c) k)]), pv (116 : Nat) (V.i (↑(List.length (Cv.back c)) : Int)), pv (117 : Nat) (V.b (decide ((↑i : Int) < (↑(List.length (Cv.back c)) : Int)))), pv (118 : Nat) (V.b (decide ((↑i : Int) < (↑(List.length (Cv.back c)) : Int)))), pc (119 : Nat) ((True ∧ True) ∧ ((decide ((↑i : Int) < (↑(List.length (Cv.back c)) : Int)) == true) = true → True)) (V.gd (decide ((↑i : Int) < (↑(List.length (Cv.back c)) : Int)) == true) (V.i (↑k : Int))), pc (120 : Nat) ((((decide ((↑i : Int) < (↑(List.length (Cv.back c)) : Int)) == true) = true → (decide ((↑i : Int) < (↑(List.length (Cv.back c)) : Int)) == true) = true) ∧ True ∧ True) ∧ ((decide ((↑i : Int) < (↑(List.length (Cv.back c)) : Int)) == true) = true → (-9223372036854775808 : Int) ≤ (↑k : Int) - (1 : Int) ∧ (↑k : Int) - (1 : Int) ≤ (9223372036854775807 : Int))) (V.gd (decide ((↑i : Int) < (↑(List.length (Cv.back c)) : Int)) == true) (V.i ((↑k : Int) - (1 : Int)))), pc (121 : Nat) ((True ∧ True) ∧ ((decide ((↑i : Int) < (↑(List.length (Cv.back c)) : Int)) == true) = true → True)) (V.gd (decide ((↑i : Int) < (↑(List.length (Cv.back c)) : Int)) == true) (V.i (↑i : Int))), pc (122 : Nat) ((((decide ((↑i : Int) < (↑(List.length (Cv.back c)) : Int)) == true) = true → (decide ((↑i : Int) < (↑(List.length (Cv.back c)) : Int)) == true) = true) ∧ ((decide ((↑i : Int) < (↑(List.length (Cv.back c)) : Int)) == true) = true → (decide ((↑i : Int) < (↑(List.length (Cv.back c)) : Int)) == true) = true) ∧ True) ∧ ((decide ((↑i : Int) < (↑(List.length (Cv.back c)) : Int)) == true) = true → (-9223372036854775808 : Int) ≤ (↑k : Int) - (1 : Int) - (↑i : Int) ∧ (↑k : Int) - (1 : Int) - (↑i : Int) ≤ (9223372036854775807 : Int))) (V.gd (decide ((↑i : Int) < (↑(List.length (Cv.back c)) : Int)) == true) (V.i ((↑k : Int) - (1 : Int) - (↑i : Int)))), pc (123 : Nat) ((((decide ((↑i : Int) < (↑(List.length (Cv.back c)) : Int)) == true) = true → (decide ((↑i : Int) < (↑(List.length (Cv.back c)) : Int)) == true) = true) ∧ True ∧ True) ∧ ((decide ((↑i : Int) < (↑(List.length (Cv.back c)) : Int)) == true) = true → True)) (V.gd (decide ((↑i : Int) < (↑(List.length (Cv.back c)) : Int)) == true) (V.b (decide ((0 : Int) ≤ (↑k : Int) - (1 : Int) - (↑i : Int))))), pc (124 : Nat) ((decide ((↑i : Int) < (↑(List.length (Cv.back c)) : Int)) = true → (decide ((↑i : Int) < (↑(List.length (Cv.back c)) : Int)) == true) = true) ∧ True) (V.b (decide ((↑i : Int) < (↑(List.length (Cv.back c)) : Int)) && decide ((0 : Int) ≤ (↑k : Int) - (1 : Int) - (↑i : Int))))] (by kernel_rfl) (by kernel_rfl) ⟨⟨⟨True.intro, True.intro⟩, (fun _ => True.intro)⟩, ⟨⟨(by (exact fun h => h)), ⟨True.intro, True.intro⟩⟩, (by (intro hg; simp at hg; omega))⟩, ⟨⟨True.intro, True.intro⟩, (fun _ => True.intro)⟩, ⟨⟨(by (exact fun h => h)), ⟨(by (exact fun h => h)), True.intro⟩⟩, (by (intro hg; simp at hg; omega))⟩, ⟨⟨(by (exact fun h => h)), ⟨True.intro, True.intro⟩⟩, (fun _ => True.intro)⟩, ⟨(by (intro h; rw [h]; rfl)), True.intro⟩, True.intro⟩ ?_
      refine aops_nil ?_
      refine xt_n ?_
      refine hK _ ?_
      clear hK K
      refine w_cond (t := decide ((↑i : Int) < (↑(List.length (Cv.back c)) : Int)) && decide ((0 : Int) ≤ (↑k : Int) - (1 : Int) - (↑i : Int))) (by kernel_rfl) (fun c5 => ?_) (fun c5 => ?_)
      · have h5 : i < c.back.length ∧ i < k := by simp at c5; omega
        obtain ⟨h6, h5⟩ := h5
        obtain ⟨f1, f2⟩ := idF_bd3 (t := k) hcv hxa t1 k3 h5
        have zs := zB_succ (c := c) (x := x) h5
        have zn := zb (i + 1) (by have := hcv.2.1; omega)
        have e1 : ((k : Int) - 1 - (i : Int)).toNat = k - 1 - i := by omega
        rw [zs] at zn
        rw [← e1] at f1 f2 zs zn
        refine aw_skip ?_
        refine xt_n ?_
        refine hK _ ?_
        clear hK K
        refine aw_seq_k fun K hK => ?_
        refine aw_block ?_
        refine w_regionD (n' := 3) (by kernel_rfl) (by kernel_rfl) ?_
        refine aops_n hTT (M := []) (n := 21) [pv (127 : Nat) (V.i (zB c x k i)), pv (128 : Nat) (V.ptr [V.sl (1 : Nat) (List.length (Cv.back c)) fun (k : Nat) => [V.i (gi (Cv.back c) k)], V.i (Cv.share c)]), pv (129 : Nat) (V.sl (1 : Nat) (List.length (Cv.back c)) fun (k : Nat) => [V.i (gi (Cv.back c) k)]), pv (130 : Nat) (V.i (↑i : Int)), pc (131 : Nat) ((0 : Int) ≤ (↑i : Int) ∧ (↑i : Int) < (↑(List.length (Cv.back c)) : Int)) (V.ptr [V.i (gi (Cv.back c) i)]), pv (132 : Nat) (V.i (gi (Cv.back c) i)), pv (133 : Nat) (V.own (10 : Nat)), pv (134 : Nat) (V.i (↑k : Int)), pc (135 : Nat) ((-9223372036854775808 : Int) ≤ (↑k : Int) - (1 : Int) ∧ (↑k : Int) - (1 : Int) ≤ (9223372036854775807 : Int)) (V.i ((↑k : Int) - (1 : Int))), pv (136 : Nat) (V.i (↑i : Int)), pc (137 : Nat) ((-9223372036854775808 : Int) ≤ (↑k : Int) - (1 : Int) - (↑i : Int) ∧ (↑k : Int) - (1 : Int) - (↑i : Int) ≤ (9223372036854775807 : Int)) (V.i ((↑k : Int) - (1 : Int) - (↑i : Int))), pc (138 : Nat) ((0 : Int) ≤ (↑k : Int) - (1 : Int) - (↑i : Int) ∧ (↑k : Int) - (1 : Int) - (↑i : Int) < (↑k : Int)) (V.oel (10 : Nat) (1 : Nat) (Int.toNat ((↑k : Int) - (1 : Int) - (↑i : Int))) (0 : Nat)), pc (139 : Nat) (Int.toNat ((↑k : Int) - (1 : Int) - (↑i : Int)) < k ∧ (0 : Nat) ≤ (1 : Nat)) (V.i (idF c x (Int.toNat ((↑k : Int) - (1 : Int) - (↑i : Int))))), pc (140 : Nat) ((-9223372036854775808 : Int) ≤ gi (Cv.back c) i * idF c x (Int.toNat ((↑k : Int) - (1 : Int) - (↑i : Int))) ∧ gi (Cv.back c) i * idF c x (Int.toNat ((↑k : Int) - (1 : Int) - (↑i : Int))) ≤ (9223372036854775807 : Int)) (V.i (gi (Cv.back c) i * idF c x (Int.toNat ((↑k : Int) - (1 : Int) - (↑i : Int))))), pv (141 : Nat) (V.own (9 : Nat)), pv (142 : Nat) (V.i (↑i : Int)), pc (143 : Nat) ((0 : Int) ≤ (↑i : Int) ∧ (↑i : Int) < (↑(k + (1 : Nat)) : Int)) (V.oel (9 : Nat) (1 : Nat) i (0 : Nat)), pc (144 : Nat) (i < k + (1 : Nat) ∧ (0 : Nat) ≤ (1 : Nat)) (V.i (Cv.share c ^ i)), pc (145 : Nat) ((-9223372036854775808 : Int) ≤ gi (Cv.back c) i * idF c x (Int.toNat ((↑k : Int) - (1 : Int) - (↑i : Int))) * Cv.share c ^ i ∧ gi (Cv.back c) i * idF c x (Int.toNat ((↑k : Int) - (1 : Int) - (↑i : Int))) * Cv.share c ^ i ≤ (9223372036854775807 : Int)) (V.i (gi (Cv.back c) i * idF c x (Int.toNat ((↑k : Int) - (1 : Int) - (↑i : Int))) * Cv.share c ^ i)), pc (146 : Nat) ((-9223372036854775808 : Int) ≤ zB c x k i + gi (Cv.back c) i * idF c x (Int.toNat ((↑k : Int) - (1 : Int) - (↑i : Int))) * Cv.share c ^ i ∧ zB c x k i + gi (Cv.back c) i * idF c x (Int.toNat ((↑k : Int) - (1 : Int) - (↑i : Int))) * Cv.share c ^ i ≤ (9223372036854775807 : Int)) (V.i (zB c x k i + gi (Cv.back c) i * idF c x (Int.toNat ((↑k : Int) - (1 : Int) - (↑i : Int))) * Cv.share c ^ i)), pv (12 : Nat) (V.i (zB c x k i + gi (Cv.back c) i * idF c x (Int.toNat ((↑k : Int) - (1 : Int) - (↑i : Int))) * Cv.share c ^ i))] (by kernel_rfl) (by kernel_rfl) ⟨(by omega), (by omega), (by omega), (by omega), (by omega), (by omega), (by omega), (by omega), (by omega), (by omega), True.intro⟩ ?_
        refine aops_nil ⟨by kernel_rfl, ?_⟩
        refine xb_n ?_
        refine xt_n ?_
        refine hK _ ?_
        clear hK K
        refine w_region (n' := 4) (by kernel_rfl) (by kernel_rfl) ?_
        refine aops_n hTT (M := []) (n := 3) [pv (125 : Nat) (V.i (↑i : Int)), pc (126 : Nat) ((-9223372036854775808 : Int) ≤ (↑i : Int) + (1 : Int) ∧ (↑i : Int) + (1 : Int) ≤ (9223372036854775807 : Int)) (V.i ((↑i : Int) + (1 : Int))), pv (14 : Nat) (V.i ((↑i : Int) + (1 : Int)))] (by kernel_rfl) (by kernel_rfl) ⟨(by omega), True.intro⟩ ?_
        refine aops_nil ?_
        refine xt_n ?_
        refine ⟨i + 1, by omega, ?_, by omega⟩
        rw [zs]
        refine le_ren (sl := [(9, Ob.row (2 : Nat) (1 : Nat) (k + (1 : Nat)) fun (j : Nat) => [V.i (Cv.share c ^ j)]), (10, Ob.row (2 : Nat) (1 : Nat) k fun (j : Nat) => [V.i (idF c x j)])]) [(9, 9), (10, 10)] (.cons (by kernel_rfl) (.cons (by kernel_rfl) (.cons (by kernel_rfl) (.cons (by kernel_rfl) (.cons (by kernel_rfl) (.cons (by kernel_rfl) (.cons (by kernel_rfl) (.cons (by kernel_rfl) .nil)))))))) (.cons ⟨Ob.row (2 : Nat) (1 : Nat) (k + (1 : Nat)) fun (j : Nat) => [V.i (Cv.share c ^ j)], (by kernel_rfl), .row (by kernel_rfl) (fun _ _ => rfl)⟩ (.cons ⟨Ob.row (2 : Nat) (1 : Nat) k fun (j : Nat) => [V.i (idF c x j)], (by kernel_rfl), .row (by kernel_rfl) (fun _ _ => rfl)⟩ .nil)) (by kernel_rfl) (by kernel_rfl)
      have h5 : ¬ i < c.back.length ∨ k ≤ i := by simp at c5; omega
      have zbe : zB c x k i = idF c x k := by rw [← zB_end, zB, zB, dotS_end hi h5]
      rw [zbe]
      have q0 := pow_256 hsh.1 t1 k
      have q1 : (256 : Int) ^ k ≤ 16777216 := by
        rcases (by omega : k = 0 ∨ k = 1 ∨ k = 2 ∨ k = 3) with rfl | rfl | rfl | rfl <;> decide
      have q2 : 1 ≤ c.share ^ k ∧ c.share ^ k ≤ 16777216 := ⟨q0.1, Int.le_trans q0.2 q1⟩
      have er := er_le (x := x) hsh.1 t2 k
      rw [erF, ← y1] at er
      have ym := mul_bd (n := 16777216) (hya.gi (by decide) k) ⟨by omega, q2.2⟩
      have sm := mul_bd (m := 256) (n := 16777216) (a := c.share - 1) (b := c.share ^ k) ⟨by omega, by omega⟩ ⟨by omega, q2.2⟩
      have sn := mul_bd (m := 16777216) (n := 256) (a := c.share ^ k) (b := c.share) ⟨by omega, q2.2⟩ ⟨by omega, by omega⟩
      have zk := zb c.back.length l9
      rw [zB_end] at zk
      have an := Int.mul_nonneg (absI_nonneg (gi y k * c.share ^ k - idF c x k)) (show 0 ≤ c.share - amtL c.back by omega)
      have am := amt_nonneg c.back c.back.length
      have am' : 0 ≤ amtL c.back := am
      refine aw_exit ?_
      refine xt_x ?_
      refine xt_x ?_
      refine xb_same ?_
      refine xt_n ?_
      clear hK K
      refine hK _ ?_
      clear hK K
      refine aw_seq_k fun K hK => ?_
      refine w_region (n' := 3) (by kernel_rfl) (by kernel_rfl) ?_
      refine aops_n hTT (M := []) (n := 5) [pv (147 : Nat) (V.own (10 : Nat)), pv (148 : Nat) (V.i (idF c x k)), pv (149 : Nat) (V.sl (1 : Nat) (1 : Nat) fun (i : Nat) => List.take (1 : Nat) (List.drop (i * (1 : Nat)) [V.i (idF c x k)])), PR.mk (some (150 : Nat)) (some (k + (1 : Nat) ≤ (1099511627776 : Nat))) (V.own (200150 : Nat)) [((10 : Nat), none), ((200150 : Nat), some (Ob.row (2 : Nat) (1 : Nat) (k + (1 : Nat)) (appRow k (fun (j : Nat) => [V.i (idF c x j)]) fun (i : Nat) => List.take (1 : Nat) (List.drop (i * (1 : Nat)) [V.i (idF c x k)]))))] false, pv (10 : Nat) (V.own (200150 : Nat))] (by kernel_rfl) (by kernel_rfl) ⟨(by omega), True.intro⟩ ?_
      refine aops_nil ?_
      refine xt_n ?_
      refine hK _ ?_
      clear hK K
      refine aw_seq_k fun K hK => ?_
      refine aw_seq_k fun K hK => ?_
      refine w_regionD (n' := 4) (by kernel_rfl) (by kernel_rfl) ?_
      refine aops_n hTT (M := []) (n := 11) [pv (151 : Nat) (V.sl (1 : Nat) (List.length y) fun (k : Nat) => [V.i (gi y k)]), pv (152 : Nat) (V.i (↑k : Int)), pc (153 : Nat) ((0 : Int) ≤ (↑k : Int) ∧ (↑k : Int) < (↑(List.length y) : Int)) (V.ptr [V.i (gi y k)]), pv (154 : Nat) (V.i (gi y k)), pv (155 : Nat) (V.own (9 : Nat)), pv (156 : Nat) (V.i (↑k : Int)), pc (157 : Nat) ((0 : Int) ≤ (↑k : Int) ∧ (↑k : Int) < (↑(k + (1 : Nat)) : Int)) (V.oel (9 : Nat) (1 : Nat) k (0 : Nat)), pc (158 : Nat) (k < k + (1 : Nat) ∧ (0 : Nat) ≤ (1 : Nat)) (V.i (Cv.share c ^ k)), pc (159 : Nat) ((-9223372036854775808 : Int) ≤ gi y k * Cv.share c ^ k ∧ gi y k * Cv.share c ^ k ≤ (9223372036854775807 : Int)) (V.i (gi y k * Cv.share c ^ k)), pv (160 : Nat) (V.i (idF c x k)), pc (161 : Nat) ((-9223372036854775808 : Int) ≤ gi y k * Cv.share c ^ k - idF c x k ∧ gi y k * Cv.share c ^ k - idF c x k ≤ (9223372036854775807 : Int)) (V.i (gi y k * Cv.share c ^ k - idF c x k))] (by kernel_rfl) (by kernel_rfl) ⟨(by omega), (by omega), (by omega), (by omega), (by omega), True.intro⟩ ?_
      refine e_call (first := []) (caps := []) (refAbs_ac (gi y k * c.share ^ k - idF c x k) (by omega)) (by kernel_rfl) (by kernel_rfl) (by kernel_rfl) (by kernel_rfl) (by kernel_rfl) ?_
      refine aops_n hTT (M := []) (n := 4) [pv (163 : Nat) (V.ptr [V.i (Cv.share c)]), pv (164 : Nat) (V.i (Cv.share c)), pv (165 : Nat) (V.ptr [V.sl (1 : Nat) (List.length (Cv.back c)) fun (k : Nat) => [V.i (gi (Cv.back c) k)], V.i (Cv.share c)]), pv (166 : Nat) (V.sl (1 : Nat) (List.length (Cv.back c)) fun (k : Nat) => [V.i (gi (Cv.back c) k)])] (by kernel_rfl) (by kernel_rfl) True.intro ?_
      refine e_call (first := []) (caps := []) (refAmounts_ac c.back hcv.2.2.2.1 hcv.2.1) (by kernel_rfl) (by kernel_rfl) (by kernel_rfl) (by kernel_rfl) (by kernel_rfl) ?_
      refine aops_n hTT (M := []) (n := 11) [pc (168 : Nat) ((-9223372036854775808 : Int) ≤ Cv.share c - amtL (Cv.back c) ∧ Cv.share c - amtL (Cv.back c) ≤ (9223372036854775807 : Int)) (V.i (Cv.share c - amtL (Cv.back c))), pc (169 : Nat) ((-9223372036854775808 : Int) ≤ absI (gi y k * Cv.share c ^ k - idF c x k) * (Cv.share c - amtL (Cv.back c)) ∧ absI (gi y k * Cv.share c ^ k - idF c x k) * (Cv.share c - amtL (Cv.back c)) ≤ (9223372036854775807 : Int)) (V.i (absI (gi y k * Cv.share c ^ k - idF c x k) * (Cv.share c - amtL (Cv.back c)))), pv (170 : Nat) (V.ptr [V.i (Cv.share c)]), pv (171 : Nat) (V.i (Cv.share c)), pc (172 : Nat) ((-9223372036854775808 : Int) ≤ Cv.share c - (1 : Int) ∧ Cv.share c - (1 : Int) ≤ (9223372036854775807 : Int)) (V.i (Cv.share c - (1 : Int))), pv (173 : Nat) (V.own (9 : Nat)), pv (174 : Nat) (V.i (↑k : Int)), pc (175 : Nat) ((0 : Int) ≤ (↑k : Int) ∧ (↑k : Int) < (↑(k + (1 : Nat)) : Int)) (V.oel (9 : Nat) (1 : Nat) k (0 : Nat)), pc (176 : Nat) (k < k + (1 : Nat) ∧ (0 : Nat) ≤ (1 : Nat)) (V.i (Cv.share c ^ k)), pc (177 : Nat) ((-9223372036854775808 : Int) ≤ (Cv.share c - (1 : Int)) * Cv.share c ^ k ∧ (Cv.share c - (1 : Int)) * Cv.share c ^ k ≤ (9223372036854775807 : Int)) (V.i ((Cv.share c - (1 : Int)) * Cv.share c ^ k)), pv (178 : Nat) (V.b (decide ((Cv.share c - (1 : Int)) * Cv.share c ^ k < absI (gi y k * Cv.share c ^ k - idF c x k) * (Cv.share c - amtL (Cv.back c)))))] (by kernel_rfl) (by kernel_rfl) ⟨(by omega), (by omega), (by omega), (by omega), (by omega), (by omega), True.intro⟩ ?_
      refine aops_nil ⟨by kernel_rfl, ?_⟩
      refine xt_n ?_
      refine hK _ ?_
      clear hK K
      refine w_cond (t := decide ((Cv.share c - (1 : Int)) * Cv.share c ^ k < absI (gi y k * Cv.share c ^ k - idF c x k) * (Cv.share c - amtL (Cv.back c)))) (by kernel_rfl) (fun c6 => ?_) (fun c6 => ?_)
      · simp at c6
        omega
      refine aw_skip ?_
      refine xt_n ?_
      refine hK _ ?_
      clear hK K
      refine w_regionD (n' := 5) (by kernel_rfl) (by kernel_rfl) ?_
      refine aops_n hTT (M := []) (n := 11) [pv (179 : Nat) (V.own (9 : Nat)), pv (180 : Nat) (V.own (9 : Nat)), pv (181 : Nat) (V.i (↑k : Int)), pc (182 : Nat) ((0 : Int) ≤ (↑k : Int) ∧ (↑k : Int) < (↑(k + (1 : Nat)) : Int)) (V.oel (9 : Nat) (1 : Nat) k (0 : Nat)), pc (183 : Nat) (k < k + (1 : Nat) ∧ (0 : Nat) ≤ (1 : Nat)) (V.i (Cv.share c ^ k)), pv (184 : Nat) (V.ptr [V.i (Cv.share c)]), pv (185 : Nat) (V.i (Cv.share c)), pc (186 : Nat) ((-9223372036854775808 : Int) ≤ Cv.share c ^ k * Cv.share c ∧ Cv.share c ^ k * Cv.share c ≤ (9223372036854775807 : Int)) (V.i (Cv.share c ^ k * Cv.share c)), pv (187 : Nat) (V.sl (1 : Nat) (1 : Nat) fun (i : Nat) => List.take (1 : Nat) (List.drop (i * (1 : Nat)) [V.i (Cv.share c ^ k * Cv.share c)])), PR.mk (some (188 : Nat)) (some (k + (1 : Nat) + (1 : Nat) ≤ (1099511627776 : Nat))) (V.own (400188 : Nat)) [((9 : Nat), none), ((400188 : Nat), some (Ob.row (2 : Nat) (1 : Nat) (k + (1 : Nat) + (1 : Nat)) (appRow (k + (1 : Nat)) (fun (j : Nat) => [V.i (Cv.share c ^ j)]) fun (i : Nat) => List.take (1 : Nat) (List.drop (i * (1 : Nat)) [V.i (Cv.share c ^ k * Cv.share c)]))))] false, pv (9 : Nat) (V.own (400188 : Nat))] (by kernel_rfl) (by kernel_rfl) ⟨(by omega), (by omega), (by omega), (by omega), True.intro⟩ ?_
      refine aops_nil ⟨by kernel_rfl, ?_⟩
      refine xb_n ?_
      refine xt_n ?_
      refine hK _ ?_
      clear hK K
      refine w_region (n' := 6) (by kernel_rfl) (by kernel_rfl) ?_
      refine aops_n hTT (M := []) (n := 3) [pv (67 : Nat) (V.i (↑k : Int)), pc (68 : Nat) ((-9223372036854775808 : Int) ≤ (↑k : Int) + (1 : Int) ∧ (↑k : Int) + (1 : Int) ≤ (9223372036854775807 : Int)) (V.i ((↑k : Int) + (1 : Int))), pv (11 : Nat) (V.i ((↑k : Int) + (1 : Int)))] (by kernel_rfl) (by kernel_rfl) ⟨(by omega), True.intro⟩ ?_
      refine aops_nil ?_
      refine xt_n ?_
      refine ⟨k + 1, by omega, ?_, by omega⟩
      refine le_ren (tl := [(1, V.sl (1 : Nat) (List.length x) fun (k : Nat) => [V.i (gi x k)]), (2, V.ptr [V.sl (1 : Nat) (List.length (Cv.feed c)) fun (k : Nat) => [V.i (gi (Cv.feed c) k)], V.sl (1 : Nat) (List.length (Cv.back c)) fun (k : Nat) => [V.i (gi (Cv.back c) k)], V.i (Cv.share c)]), (5, V.sl (1 : Nat) (List.length y) fun (k : Nat) => [V.i (gi y k)]), (9, V.own (9 : Nat)), (10, V.own (10 : Nat)), (11, V.i (↑(k + (1 : Nat)) : Int))]) (sl := [(9, Ob.row (2 : Nat) (1 : Nat) (k + (1 : Nat) + (1 : Nat)) fun (j : Nat) => [V.i (Cv.share c ^ j)]), (10, Ob.row (2 : Nat) (1 : Nat) (k + (1 : Nat)) fun (j : Nat) => [V.i (idF c x j)])]) [(9, 400188), (10, 200150)] (.cons (by kernel_rfl) (.cons (by kernel_rfl) (.cons (by kernel_rfl) (.cons (by kernel_rfl) (.cons (by kernel_rfl) (.cons (by kernel_rfl) .nil)))))) (.cons ⟨Ob.row (2 : Nat) (1 : Nat) (k + (1 : Nat) + (1 : Nat)) (appRow (k + (1 : Nat)) (fun (j : Nat) => [V.i (Cv.share c ^ j)]) fun (i : Nat) => List.take (1 : Nat) (List.drop (i * (1 : Nat)) [V.i (Cv.share c ^ k * Cv.share c)])), (by kernel_rfl), .row (by kernel_rfl) ?_⟩ (.cons ⟨Ob.row (2 : Nat) (1 : Nat) (k + (1 : Nat)) (appRow k (fun (j : Nat) => [V.i (idF c x j)]) fun (i : Nat) => List.take (1 : Nat) (List.drop (i * (1 : Nat)) [V.i (idF c x k)])), (by kernel_rfl), .row (by kernel_rfl) ?_⟩ .nil)) (by kernel_rfl) (by kernel_rfl)
      · exact appRow_i rfl (Int.pow_succ _ _).symm
      · exact appRow_i rfl rfl
    · simp at c3
      refine aw_exit ?_
      refine xt_x ?_
      refine xt_x ?_
      refine xb_same ?_
      refine xt_n ?_
      clear hK K
      refine hK _ ?_
      clear hK K
      refine aw_seq_k fun K hK => ?_
      refine w_region (n' := 3) (by kernel_rfl) (by kernel_rfl) ?_
      refine e_call (first := []) (caps := []) (works_ac) (by kernel_rfl) (by kernel_rfl) (by kernel_rfl) (by kernel_rfl) (by kernel_rfl) ?_
      refine aops_n hTT (M := []) (n := 1) [pv (4 : Nat) (V.b true)] (by kernel_rfl) (by kernel_rfl) True.intro ?_
      refine aops_nil ?_
      refine xt_n ?_
      refine hK _ ?_
      clear hK K
      refine aw_ret ?_
      refine ret_pure (v' := V.b true) (.inr rfl) (by kernel_rfl) (by kernel_rfl) (by kernel_rfl)
  · have V1 := valid_ac c x 4 hc hx
    rw [show validB c x 4 = false by simpa using hv] at V1
    refine aw_seq_k fun K hK => ?_
    refine w_region (n' := 2) (by kernel_rfl) (by kernel_rfl) ?_
    refine aops_n hTT (M := []) (n := 2) [pv (2 : Nat) (V.ptr [V.sl (1 : Nat) (List.length (Cv.feed c)) fun (k : Nat) => [V.i (gi (Cv.feed c) k)], V.sl (1 : Nat) (List.length (Cv.back c)) fun (k : Nat) => [V.i (gi (Cv.back c) k)], V.i (Cv.share c)]), pv (4 : Nat) (V.b false)] (by kernel_rfl) (by kernel_rfl) True.intro ?_
    refine aops_nil ?_
    refine xt_n ?_
    refine hK _ ?_
    clear hK K
    refine aw_seq_k fun K hK => ?_
    refine aw_seq_k fun K hK => ?_
    refine w_regionD (n' := 3) (by kernel_rfl) (by kernel_rfl) ?_
    refine aops_n hTT (M := []) (n := 2) [pv (15 : Nat) (V.agg [V.sl (1 : Nat) (List.length (Cv.feed c)) fun (k : Nat) => [V.i (gi (Cv.feed c) k)], V.sl (1 : Nat) (List.length (Cv.back c)) fun (k : Nat) => [V.i (gi (Cv.back c) k)], V.i (Cv.share c)]), pv (16 : Nat) (V.sl (1 : Nat) (List.length x) fun (k : Nat) => [V.i (gi x k)])] (by kernel_rfl) (by kernel_rfl) True.intro ?_
    refine e_call (first := []) (caps := []) (V1) (by kernel_rfl) (by kernel_rfl) (by kernel_rfl) (by kernel_rfl) (by kernel_rfl) ?_
    refine aops_n hTT (M := []) (n := 9) [pv (18 : Nat) (V.b true), pv (19 : Nat) (V.b true), pc (20 : Nat) ((True ∧ True) ∧ ((true == false) = true → True)) (V.gd (true == false) (V.ptr [V.i (Cv.share c)])), pc (21 : Nat) ((((true == false) = true → (true == false) = true) ∧ True) ∧ ((true == false) = true → True)) (V.gd (true == false) (V.i (Cv.share c))), pc (22 : Nat) ((((true == false) = true → (true == false) = true) ∧ True ∧ True) ∧ ((true == false) = true → True)) (V.gd (true == false) (V.b (decide ((256 : Int) < Cv.share c)))), pc (23 : Nat) (True ∧ (true = false → (true == false) = true)) (V.b true), pv (24 : Nat) (V.b true), pc (25 : Nat) ((True ∧ True) ∧ ((true == false) = true → True)) (V.gd (true == false) (V.ptr [V.sl (1 : Nat) (List.length (Cv.back c)) fun (k : Nat) => [V.i (gi (Cv.back c) k)], V.i (Cv.share c)])), pc (26 : Nat) ((((true == false) = true → (true == false) = true) ∧ True) ∧ ((true == false) = true → True)) (V.gd (true == false) (V.sl (1 : Nat) (List.length (Cv.back c)) fun (k : Nat) => [V.i (gi (Cv.back c) k)]))] (by kernel_rfl) (by kernel_rfl) ⟨⟨⟨True.intro, True.intro⟩, (fun _ => True.intro)⟩, ⟨⟨(by (exact fun h => h)), True.intro⟩, (fun _ => True.intro)⟩, ⟨⟨(by (exact fun h => h)), ⟨True.intro, True.intro⟩⟩, (fun _ => True.intro)⟩, ⟨True.intro, (by (intro h; simp at h; done))⟩, ⟨⟨True.intro, True.intro⟩, (fun _ => True.intro)⟩, ⟨⟨(by (exact fun h => h)), True.intro⟩, (fun _ => True.intro)⟩, True.intro⟩ ?_
    refine e_callG 1 (g := true == false) (first := []) (caps := []) (by kernel_rfl) (fun h => refAmounts_ac c.back (by simp at h) (by simp at h)) (by kernel_rfl) (by kernel_rfl) (by kernel_rfl) (by kernel_rfl) (by kernel_rfl) (by kernel_rfl) ?_
    refine aops_n hTT (M := []) (n := 4) [pc (28 : Nat) ((True ∧ True) ∧ ((true == false) = true → True)) (V.gd (true == false) (V.ptr [V.i (Cv.share c)])), pc (29 : Nat) ((((true == false) = true → (true == false) = true) ∧ True) ∧ ((true == false) = true → True)) (V.gd (true == false) (V.i (Cv.share c))), pc (30 : Nat) ((((true == false) = true → (true == false) = true) ∧ ((true == false) = true → (true == false) = true) ∧ True) ∧ ((true == false) = true → True)) (V.gd (true == false) (V.b (decide (Cv.share c ≤ amtL (Cv.back c))))), pc (31 : Nat) (True ∧ (true = false → (true == false) = true)) (V.b true)] (by kernel_rfl) (by kernel_rfl) ⟨⟨⟨True.intro, True.intro⟩, (fun _ => True.intro)⟩, ⟨⟨(by (exact fun h => h)), True.intro⟩, (fun _ => True.intro)⟩, ⟨⟨(by (exact fun h => h)), ⟨(by (exact fun h => h)), True.intro⟩⟩, (fun _ => True.intro)⟩, ⟨True.intro, (by (intro h; simp at h; done))⟩, True.intro⟩ ?_
    refine aops_nil ⟨by kernel_rfl, ?_⟩
    refine xt_n ?_
    refine hK _ ?_
    clear hK K
    refine w_true (t := true) (by kernel_rfl) rfl ?_
    refine aw_seq_k fun K hK => ?_
    refine w_region (n' := 4) (by kernel_rfl) (by kernel_rfl) ?_
    refine e_call (first := []) (caps := []) (works_ac) (by kernel_rfl) (by kernel_rfl) (by kernel_rfl) (by kernel_rfl) (by kernel_rfl) ?_
    refine aops_n hTT (M := []) (n := 1) [pv (4 : Nat) (V.b true)] (by kernel_rfl) (by kernel_rfl) True.intro ?_
    refine aops_nil ?_
    refine xt_n ?_
    refine hK _ ?_
    clear hK K
    refine aw_ret ?_
    refine xt_r ?_
    refine ret_pure (v' := V.b true) (.inr rfl) (by kernel_rfl) (by kernel_rfl) (by kernel_rfl)
def idealSh : List Sh := [(.fld (.sl (.int .i64)) (.fld (.sl (.int .i64)) (.lst (.int .i64)))), (.sl (.int .i64))]
theorem ideal_all (x : TL idealSh) (hx : wfL idealSh x) : AC Try.prog 3 (valL idealSh x) (V.b true) [] := by
  obtain ⟨⟨f, b, s⟩, x, _⟩ := x
  obtain ⟨⟨⟨h1, _⟩, ⟨h2, _⟩, h3⟩, ⟨h4, _⟩, _⟩ := hx
  exact ideal_law ⟨f, b, s⟩ x ⟨h1, h2⟩ h4
end Go.Proofs.Ytblipieipldanaa
