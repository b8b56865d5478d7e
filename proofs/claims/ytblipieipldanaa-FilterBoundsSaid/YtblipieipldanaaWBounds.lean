/-
  FilterBounds: the walk of the law. No condition.
-/
import Derived.Test.YtblipieipldanaaFA15
import Derived.Test.YtblipieipldanaaMC
namespace Go.Proofs.Ytblipieipldanaa
open Go.Ab Go.RowKit Go.Dw Go.Shelf

set_option maxRecDepth 100000 in
theorem bounds_law (c : Cv) (m : Int) (hc : cvL c) : AC Try.prog 16 [V.cv c, .i m] (.b true) [] := by
  refine ac_intro hTT hMX (fn := Try.f16) (N := _) ⟨Try.func16, rfl, Try.ntmps16, by kernel_rfl⟩ (by simp) fun C hC hF => ?_
  refine aw_seq_k fun K hK => ?_
  refine w_region (n' := 2) (by kernel_rfl) (by kernel_rfl) ?_
  refine aops_n hTT (M := []) (n := 2) [pv (2 : Nat) (V.ptr [V.sl (1 : Nat) (List.length (Cv.feed c)) fun (k : Nat) => [V.i (gi (Cv.feed c) k)], V.sl (1 : Nat) (List.length (Cv.back c)) fun (k : Nat) => [V.i (gi (Cv.back c) k)], V.i (Cv.share c)]), pv (4 : Nat) (V.b false)] (by kernel_rfl) (by kernel_rfl) True.intro ?_
  refine aops_nil ?_
  refine xt_n ?_
  refine hK _ ?_
  clear hK K
  refine aw_seq_k fun K hK => ?_
  refine aw_seq_k fun K hK => ?_
  refine w_region (n' := 3) (by kernel_rfl) (by kernel_rfl) ?_
  refine aops_n hTT (M := []) (n := 2) [pv (13 : Nat) (V.agg [V.sl (1 : Nat) (List.length (Cv.feed c)) fun (k : Nat) => [V.i (gi (Cv.feed c) k)], V.sl (1 : Nat) (List.length (Cv.back c)) fun (k : Nat) => [V.i (gi (Cv.back c) k)], V.i (Cv.share c)]), pv (14 : Nat) (V.sl (3 : Nat) (1 : Nat) fun (i : Nat) => List.take (3 : Nat) (List.drop (i * (3 : Nat)) [V.sl (1 : Nat) (List.length (Cv.feed c)) fun (k : Nat) => [V.i (gi (Cv.feed c) k)], V.sl (1 : Nat) (List.length (Cv.back c)) fun (k : Nat) => [V.i (gi (Cv.back c) k)], V.i (Cv.share c)]))] (by kernel_rfl) (by kernel_rfl) True.intro ?_
  refine e_call (first := []) (caps := []) (AC.conv (chains_ac [c] (by unfold bigL; simp)) (args' := [V.sl (3 : Nat) (1 : Nat) fun (i : Nat) => List.take (3 : Nat) (List.drop (i * (3 : Nat)) [V.sl (1 : Nat) (List.length (Cv.feed c)) fun (k : Nat) => [V.i (gi (Cv.feed c) k)], V.sl (1 : Nat) (List.length (Cv.back c)) fun (k : Nat) => [V.i (gi (Cv.back c) k)], V.i (Cv.share c)])]) ⟨?_, trivial⟩) (by kernel_rfl) (by kernel_rfl) (by kernel_rfl) (by kernel_rfl) (by kernel_rfl) ?_
  · refine RImp.rows rfl fun i hi => ?_
    obtain rfl : i = 0 := by omega
    rfl
  refine aops_nil ?_
  refine xt_n ?_
  refine hK _ ?_
  clear hK K
  refine w_cond (t := longC [c]) (by kernel_rfl) (fun c1 => ?_) (fun c1 => ?_)
  · refine aw_seq_k fun K hK => ?_
    refine w_region (n' := 4) (by kernel_rfl) (by kernel_rfl) ?_
    refine e_call (first := []) (caps := []) (works_ac) (by kernel_rfl) (by kernel_rfl) (by kernel_rfl) (by kernel_rfl) (by kernel_rfl) ?_
    refine aops_n hTT (M := []) (n := 1) [pv (4 : Nat) (V.b true)] (by kernel_rfl) (by kernel_rfl) True.intro ?_
    refine aops_nil ?_
    refine xt_n ?_
    refine hK _ ?_
    clear hK K
    refine aw_ret ?_
    refine xt_r ?_
    refine ret_pure (v' := V.b true) (.inr rfl) (by kernel_rfl) (by kernel_rfl) (by kernel_rfl)
  refine aw_skip ?_
  refine xt_n ?_
  refine hK _ ?_
  clear hK K
  refine aw_seq_k fun K hK => ?_
  refine w_region (n' := 4) (by kernel_rfl) (by kernel_rfl) ?_
  refine aops_n hTT (M := []) (n := 2) [pv (18 : Nat) (V.agg [V.sl (1 : Nat) (List.length (Cv.feed c)) fun (k : Nat) => [V.i (gi (Cv.feed c) k)], V.sl (1 : Nat) (List.length (Cv.back c)) fun (k : Nat) => [V.i (gi (Cv.back c) k)], V.i (Cv.share c)]), pv (19 : Nat) (V.i m)] (by kernel_rfl) (by kernel_rfl) True.intro ?_
  refine e_call (first := []) (caps := []) (Bound_ac c m hc) (by kernel_rfl) (by kernel_rfl) (by kernel_rfl) (by kernel_rfl) (by kernel_rfl) ?_
  refine aops_n hTT (M := []) (n := 5) [pv (17 : Nat) (V.tup [V.i (bdR c m), V.i (bdE c m)]), pv (21 : Nat) (V.i (bdR c m)), pv (22 : Nat) (V.i (bdE c m)), pv (5 : Nat) (V.i (bdR c m)), pv (6 : Nat) (V.i (bdE c m))] (by kernel_rfl) (by kernel_rfl) True.intro ?_
  refine aops_nil ?_
  refine xt_n ?_
  refine hK _ ?_
  clear hK K
  refine aw_seq_k fun K hK => ?_
  refine w_region (n' := 5) (by kernel_rfl) (by kernel_rfl) ?_
  refine aops_n hTT (M := []) (n := 2) [pv (24 : Nat) (V.agg [V.sl (1 : Nat) (List.length (Cv.feed c)) fun (k : Nat) => [V.i (gi (Cv.feed c) k)], V.sl (1 : Nat) (List.length (Cv.back c)) fun (k : Nat) => [V.i (gi (Cv.back c) k)], V.i (Cv.share c)]), pv (25 : Nat) (V.i m)] (by kernel_rfl) (by kernel_rfl) True.intro ?_
  refine e_call (first := []) (caps := []) (refBound_ac c m hc) (by kernel_rfl) (by kernel_rfl) (by kernel_rfl) (by kernel_rfl) (by kernel_rfl) ?_
  refine aops_n hTT (M := []) (n := 5) [pv (23 : Nat) (V.tup [V.i (bdR c m), V.i (bdE c m)]), pv (27 : Nat) (V.i (bdR c m)), pv (28 : Nat) (V.i (bdE c m)), pv (7 : Nat) (V.i (bdR c m)), pv (8 : Nat) (V.i (bdE c m))] (by kernel_rfl) (by kernel_rfl) True.intro ?_
  refine aops_nil ?_
  refine xt_n ?_
  refine hK _ ?_
  clear hK K
  refine aw_seq_k fun K hK => ?_
  refine w_region (n' := 6) (by kernel_rfl) (by kernel_rfl) ?_
  refine aops_n hTT (M := []) (n := 1) [pv (30 : Nat) (V.agg [V.sl (1 : Nat) (List.length (Cv.feed c)) fun (k : Nat) => [V.i (gi (Cv.feed c) k)], V.sl (1 : Nat) (List.length (Cv.back c)) fun (k : Nat) => [V.i (gi (Cv.back c) k)], V.i (Cv.share c)])] (by kernel_rfl) (by kernel_rfl) True.intro ?_
  refine e_call (first := []) (caps := []) (Headroom_ac c hc) (by kernel_rfl) (by kernel_rfl) (by kernel_rfl) (by kernel_rfl) (by kernel_rfl) ?_
  refine aops_n hTT (M := []) (n := 5) [pv (29 : Nat) (V.tup [V.i (hdR c), V.i (hdE c)]), pv (32 : Nat) (V.i (hdR c)), pv (33 : Nat) (V.i (hdE c)), pv (9 : Nat) (V.i (hdR c)), pv (10 : Nat) (V.i (hdE c))] (by kernel_rfl) (by kernel_rfl) True.intro ?_
  refine aops_nil ?_
  refine xt_n ?_
  refine hK _ ?_
  clear hK K
  refine aw_seq_k fun K hK => ?_
  refine w_region (n' := 7) (by kernel_rfl) (by kernel_rfl) ?_
  refine aops_n hTT (M := []) (n := 1) [pv (35 : Nat) (V.agg [V.sl (1 : Nat) (List.length (Cv.feed c)) fun (k : Nat) => [V.i (gi (Cv.feed c) k)], V.sl (1 : Nat) (List.length (Cv.back c)) fun (k : Nat) => [V.i (gi (Cv.back c) k)], V.i (Cv.share c)])] (by kernel_rfl) (by kernel_rfl) True.intro ?_
  refine e_call (first := []) (caps := []) (refHeadroom_ac c hc) (by kernel_rfl) (by kernel_rfl) (by kernel_rfl) (by kernel_rfl) (by kernel_rfl) ?_
  refine aops_n hTT (M := []) (n := 5) [pv (34 : Nat) (V.tup [V.i (hdR c), V.i (hdE c)]), pv (37 : Nat) (V.i (hdR c)), pv (38 : Nat) (V.i (hdE c)), pv (11 : Nat) (V.i (hdR c)), pv (12 : Nat) (V.i (hdE c))] (by kernel_rfl) (by kernel_rfl) True.intro ?_
  refine aops_nil ?_
  refine xt_n ?_
  refine hK _ ?_
  clear hK K
  refine aw_seq_k fun K hK => ?_
  refine w_region (n' := 8) (by kernel_rfl) (by kernel_rfl) ?_
  refine aops_n hTT (M := []) (n := 19) [pv (39 : Nat) (V.i (bdR c m)), pv (40 : Nat) (V.i (bdR c m)), pv (41 : Nat) (V.b (decide (bdR c m = bdR c m))), pv (42 : Nat) (V.b (decide (bdR c m = bdR c m))), pc (43 : Nat) ((True ∧ True) ∧ ((decide (bdR c m = bdR c m) == true) = true → True)) (V.gd (decide (bdR c m = bdR c m) == true) (V.i (bdE c m))), pc (44 : Nat) ((True ∧ True) ∧ ((decide (bdR c m = bdR c m) == true) = true → True)) (V.gd (decide (bdR c m = bdR c m) == true) (V.i (bdE c m))), pc (45 : Nat) ((((decide (bdR c m = bdR c m) == true) = true → (decide (bdR c m = bdR c m) == true) = true) ∧ ((decide (bdR c m = bdR c m) == true) = true → (decide (bdR c m = bdR c m) == true) = true) ∧ True) ∧ ((decide (bdR c m = bdR c m) == true) = true → True)) (V.gd (decide (bdR c m = bdR c m) == true) (V.b (decide (bdE c m = bdE c m)))), pc (46 : Nat) ((decide (bdR c m = bdR c m) = true → (decide (bdR c m = bdR c m) == true) = true) ∧ True) (V.b (decide (bdR c m = bdR c m) && decide (bdE c m = bdE c m))), pv (47 : Nat) (V.b (decide (bdR c m = bdR c m) && decide (bdE c m = bdE c m))), pc (48 : Nat) ((True ∧ True) ∧ (((decide (bdR c m = bdR c m) && decide (bdE c m = bdE c m)) == true) = true → True)) (V.gd ((decide (bdR c m = bdR c m) && decide (bdE c m = bdE c m)) == true) (V.i (hdR c))), pc (49 : Nat) ((True ∧ True) ∧ (((decide (bdR c m = bdR c m) && decide (bdE c m = bdE c m)) == true) = true → True)) (V.gd ((decide (bdR c m = bdR c m) && decide (bdE c m = bdE c m)) == true) (V.i (hdR c))), pc (50 : Nat) (((((decide (bdR c m = bdR c m) && decide (bdE c m = bdE c m)) == true) = true → ((decide (bdR c m = bdR c m) && decide (bdE c m = bdE c m)) == true) = true) ∧ (((decide (bdR c m = bdR c m) && decide (bdE c m = bdE c m)) == true) = true → ((decide (bdR c m = bdR c m) && decide (bdE c m = bdE c m)) == true) = true) ∧ True) ∧ (((decide (bdR c m = bdR c m) && decide (bdE c m = bdE c m)) == true) = true → True)) (V.gd ((decide (bdR c m = bdR c m) && decide (bdE c m = bdE c m)) == true) (V.b (decide (hdR c = hdR c)))), pc (51 : Nat) (((decide (bdR c m = bdR c m) && decide (bdE c m = bdE c m)) = true → ((decide (bdR c m = bdR c m) && decide (bdE c m = bdE c m)) == true) = true) ∧ True) (V.b (decide (bdR c m = bdR c m) && decide (bdE c m = bdE c m) && decide (hdR c = hdR c))), pv (52 : Nat) (V.b (decide (bdR c m = bdR c m) && decide (bdE c m = bdE c m) && decide (hdR c = hdR c))), pc (53 : Nat) ((True ∧ True) ∧ (((decide (bdR c m = bdR c m) && decide (bdE c m = bdE c m) && decide (hdR c = hdR c)) == true) = true → True)) (V.gd ((decide (bdR c m = bdR c m) && decide (bdE c m = bdE c m) && decide (hdR c = hdR c)) == true) (V.i (hdE c))), pc (54 : Nat) ((True ∧ True) ∧ (((decide (bdR c m = bdR c m) && decide (bdE c m = bdE c m) && decide (hdR c = hdR c)) == true) = true → True)) (V.gd ((decide (bdR c m = bdR c m) && decide (bdE c m = bdE c m) && decide (hdR c = hdR c)) == true) (V.i (hdE c))), pc (55 : Nat) (((((decide (bdR c m = bdR c m) && decide (bdE c m = bdE c m) && decide (hdR c = hdR c)) == true) = true → ((decide (bdR c m = bdR c m) && decide (bdE c m = bdE c m) && decide (hdR c = hdR c)) == true) = true) ∧ (((decide (bdR c m = bdR c m) && decide (bdE c m = bdE c m) && decide (hdR c = hdR c)) == true) = true → ((decide (bdR c m = bdR c m) && decide (bdE c m = bdE c m) && decide (hdR c = hdR c)) == true) = true) ∧ True) ∧ (((decide (bdR c m = bdR c m) && decide (bdE c m = bdE c m) && decide (hdR c = hdR c)) == true) = true → True)) (V.gd ((decide (bdR c m = bdR c m) && decide (bdE c m = bdE c m) && decide (hdR c = hdR c)) == true) (V.b (decide (hdE c = hdE c)))), pc (56 : Nat) (((decide (bdR c m = bdR c m) && decide (bdE c m = bdE c m) && decide (hdR c = hdR c)) = true → ((decide (bdR c m = bdR c m) && decide (bdE c m = bdE c m) && decide (hdR c = hdR c)) == true) = true) ∧ True) (V.b (decide (bdR c m = bdR c m) && decide (bdE c m = bdE c m) && decide (hdR c = hdR c) && decide (hdE c = hdE c))), pv (57 : Nat) (V.b (decide (bdR c m = bdR c m) && decide (bdE c m = bdE c m) && decide (hdR c = hdR c) && decide (hdE c = hdE c)))] (by kernel_rfl) (by kernel_rfl) ⟨⟨⟨True.intro, True.intro⟩, (fun _ => True.intro)⟩, ⟨⟨True.intro, True.intro⟩, (fun _ => True.intro)⟩, ⟨⟨(by (exact fun h => h)), ⟨(by (exact fun h => h)), True.intro⟩⟩, (fun _ => True.intro)⟩, ⟨(by (intro h; rw [h]; rfl)), True.intro⟩, ⟨⟨True.intro, True.intro⟩, (fun _ => True.intro)⟩, ⟨⟨True.intro, True.intro⟩, (fun _ => True.intro)⟩, ⟨⟨(by (exact fun h => h)), ⟨(by (exact fun h => h)), True.intro⟩⟩, (fun _ => True.intro)⟩, ⟨(by (intro h; rw [h]; rfl)), True.intro⟩, ⟨⟨True.intro, True.intro⟩, (fun _ => True.intro)⟩, ⟨⟨True.intro, True.intro⟩, (fun _ => True.intro)⟩, ⟨⟨(by (exact fun h => h)), ⟨(by (exact fun h => h)), True.intro⟩⟩, (fun _ => True.intro)⟩, ⟨(by (intro h; rw [h]; rfl)), True.intro⟩, True.intro⟩ ?_
  refine e_callG 0 (g := (decide (bdR c m = bdR c m) && decide (bdE c m = bdE c m) && decide (hdR c = hdR c) && decide (hdE c = hdE c)) == true) (first := []) (caps := []) (by kernel_rfl) (fun h => works_ac) (by kernel_rfl) (by kernel_rfl) (by kernel_rfl) (by kernel_rfl) (by kernel_rfl) (by kernel_rfl) ?_
  refine aops_n hTT (M := []) (n := 2) [pc (59 : Nat) (((decide (bdR c m = bdR c m) && decide (bdE c m = bdE c m) && decide (hdR c = hdR c) && decide (hdE c = hdE c)) = true → ((decide (bdR c m = bdR c m) && decide (bdE c m = bdE c m) && decide (hdR c = hdR c) && decide (hdE c = hdE c)) == true) = true) ∧ True) (V.b (decide (bdR c m = bdR c m) && decide (bdE c m = bdE c m) && decide (hdR c = hdR c) && decide (hdE c = hdE c) && true)), pv (4 : Nat) (V.b (decide (bdR c m = bdR c m) && decide (bdE c m = bdE c m) && decide (hdR c = hdR c) && decide (hdE c = hdE c) && true))] (by kernel_rfl) (by kernel_rfl) ⟨⟨(by (intro h; rw [h]; rfl)), True.intro⟩, True.intro⟩ ?_
  refine aops_nil ?_
  refine xt_n ?_
  refine hK _ ?_
  clear hK K
  refine aw_ret ?_
  refine ret_pure (v' := V.b (decide (bdR c m = bdR c m) && decide (bdE c m = bdE c m) && decide (hdR c = hdR c) && decide (hdE c = hdE c) && true)) (.inr rfl) (by kernel_rfl) ?_ (by kernel_rfl)
  simp
def boundsSh : List Sh := [(.fld (.sl (.int .i64)) (.fld (.sl (.int .i64)) (.lst (.int .i64)))), (.int .i64)]
theorem bounds_all (x : TL boundsSh) (hx : wfL boundsSh x) : AC Try.prog 16 (valL boundsSh x) (V.b true) [] := by
  obtain ⟨⟨f, b, s⟩, m, _⟩ := x
  obtain ⟨⟨⟨h1, _⟩, ⟨h2, _⟩, h3⟩, h4, _⟩ := hx
  exact bounds_law ⟨f, b, s⟩ m ⟨h1, h2⟩
end Go.Proofs.Ytblipieipldanaa
