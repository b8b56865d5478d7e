/-
  FilterMono: the walk of the law. No condition.
-/
import Derived.Test.YtblipieipldanaaFA18
import Derived.Test.YtblipieipldanaaMC
namespace Go.Proofs.Ytblipieipldanaa
open Go.Ab Go.RowKit Go.Dw Go.Shelf

theorem jo_sp {p : List Pt} (h : progE p = 0) : joE (spM p) (spD p) = 0 ∧ joR (spM p) (spD p) = p := by
  have hl := (progE_ok.1 h).1
  have e4 : jnE (spM p) (spD p) = 0 := (jnE_prog (by rw [spM_len]; exact hl)).1 (by rw [jn_sp]; exact h)
  have h0 : jo0 (spM p) (spD p) = 0 := jo0_ok.2 ⟨by rw [spM_len]; exact hl, by rw [spM_len, spD_len], spM_le h, spD_le h⟩
  rw [(jo_2 h0).1, (jo_2 h0).2, e4]
  refine ⟨rfl, ?_⟩
  unfold jnR
  unfold jnE at e4
  split
  · rename_i hh; rw [if_pos hh] at e4; cases e4
  · exact jn_sp p
/-- what a programme becomes: too loud, or a programme with the same middles that is brought back -/
theorem sd_or {c : Cv} {u : Bool} {p : List Pt} (h : cvE c = 0) (h2 : progE p = 0) : (sdR c u p).1 = 4 ∨ ((sdR c u p).1 = 0 ∧ progE (sdR c u p).2 = 0 ∧ spM (sdR c u p).2 = spM p ∧ sdR c (!u) (sdR c u p).2 = (0, p)) := by
  by_cases h3 : (sdR c u p).1 = 0
  · exact .inr ⟨h3, sd_back h h2 h3⟩
  · refine .inl ?_
    cases hr : runI c u 65534 (spD p) with
    | none => rw [sd_3 h h2 hr]
    | some d =>
      rw [sd_4 h h2 hr] at h3 ⊢
      simp only at h3 ⊢
      unfold jnE at h3 ⊢
      split
      · rfl
      · rename_i hh; rw [if_neg hh] at h3; exact absurd rfl h3
theorem same_pts {a : List Pt} (h : a.length ≤ bigL) : AC Try.prog 41 [V.pts a, V.pts a] (.b true) [] := by
  have S := refSamePrograms_ac a a h h
  rw [show decide (a = a) = true by simp] at S
  exact S
theorem same_ints {a : List Int} (h : a.length ≤ bigL) : AC Try.prog 26 [V.ints a, V.ints a] (.b true) [] := by
  have S := refSame_ac a a h h
  rw [show decide (a = a) = true by simp] at S
  exact S
set_option maxRecDepth 100000 in
theorem mono_law (c : Cv) (p : List Pt) (hc : cvL c) (hp : p.length ≤ bigL) : AC Try.prog 18 [V.cv c, V.pts p] (.b true) [] := by
  refine ac_intro hTT hMX (fn := Try.f18) (N := _) ⟨Try.func18, rfl, Try.ntmps18, by kernel_rfl⟩ (by simp) fun C hC hF => ?_
  refine aw_seq_k fun K hK => ?_
  refine w_region (n' := 2) (by kernel_rfl) (by kernel_rfl) ?_
  refine aops_n hTT (M := []) (n := 2) [pv (2 : Nat) (V.ptr [V.sl (1 : Nat) (List.length (Cv.feed c)) fun (k : Nat) => [V.i (gi (Cv.feed c) k)], V.sl (1 : Nat) (List.length (Cv.back c)) fun (k : Nat) => [V.i (gi (Cv.back c) k)], V.i (Cv.share c)]), pv (4 : Nat) (V.b false)] (by kernel_rfl) (by kernel_rfl) True.intro ?_
  refine aops_nil ?_
  refine xt_n ?_
  refine hK _ ?_
  clear hK K
  refine aw_seq_k fun K hK => ?_
  refine aw_seq_k fun K hK => ?_
  refine w_region (n' := 3) (by kernel_rfl) (by kernel_rfl) ?_
  refine aops_n hTT (M := []) (n := 5) [pv (24 : Nat) (V.sl (2 : Nat) (List.length p) fun (k : Nat) => [V.i (Prod.fst (gp p k)), V.i (Prod.snd (gp p k))]), pv (25 : Nat) (V.i (↑(List.length p) : Int)), pv (26 : Nat) (V.b (decide ((200 : Int) < (↑(List.length p) : Int)))), pv (27 : Nat) (V.b (decide ((200 : Int) < (↑(List.length p) : Int)))), pc (28 : Nat) ((True ∧ True) ∧ ((decide ((200 : Int) < (↑(List.length p) : Int)) == false) = true → True)) (V.gd (decide ((200 : Int) < (↑(List.length p) : Int)) == false) (V.agg [V.sl (1 : Nat) (List.length (Cv.feed c)) fun (k : Nat) => [V.i (gi (Cv.feed c) k)], V.sl (1 : Nat) (List.length (Cv.back c)) fun (k : Nat) => [V.i (gi (Cv.back c) k)], V.i (Cv.share c)]))] (by kernel_rfl) (by kernel_rfl) ⟨⟨⟨True.intro, True.intro⟩, (fun _ => True.intro)⟩, True.intro⟩ ?_
  refine e_callG 1 (g := decide ((200 : Int) < (↑(List.length p) : Int)) == false) (first := []) (caps := []) (by kernel_rfl) (fun h => refCheckCurve_ac c hc) (by kernel_rfl) (by kernel_rfl) (by kernel_rfl) (by kernel_rfl) (by kernel_rfl) (by kernel_rfl) ?_
  refine aops_n hTT (M := []) (n := 4) [pc (30 : Nat) ((((decide ((200 : Int) < (↑(List.length p) : Int)) == false) = true → (decide ((200 : Int) < (↑(List.length p) : Int)) == false) = true) ∧ True ∧ True) ∧ ((decide ((200 : Int) < (↑(List.length p) : Int)) == false) = true → True)) (V.gd (decide ((200 : Int) < (↑(List.length p) : Int)) == false) (V.b !decide (cvE c = (0 : Int)))), pc (31 : Nat) (True ∧ (decide ((200 : Int) < (↑(List.length p) : Int)) = false → (decide ((200 : Int) < (↑(List.length p) : Int)) == false) = true)) (V.b (decide ((200 : Int) < (↑(List.length p) : Int)) || !decide (cvE c = (0 : Int)))), pv (32 : Nat) (V.b (decide ((200 : Int) < (↑(List.length p) : Int)) || !decide (cvE c = (0 : Int)))), pc (33 : Nat) ((True ∧ True) ∧ (((decide ((200 : Int) < (↑(List.length p) : Int)) || !decide (cvE c = (0 : Int))) == false) = true → True)) (V.gd ((decide ((200 : Int) < (↑(List.length p) : Int)) || !decide (cvE c = (0 : Int))) == false) (V.sl (2 : Nat) (List.length p) fun (k : Nat) => [V.i (Prod.fst (gp p k)), V.i (Prod.snd (gp p k))]))] (by kernel_rfl) (by kernel_rfl) ⟨⟨⟨(by (exact fun h => h)), ⟨True.intro, True.intro⟩⟩, (fun _ => True.intro)⟩, ⟨True.intro, (by (intro h; rw [h]; rfl))⟩, ⟨⟨True.intro, True.intro⟩, (fun _ => True.intro)⟩, True.intro⟩ ?_
  refine e_callG 1 (g := (decide ((200 : Int) < (↑(List.length p) : Int)) || !decide (cvE c = (0 : Int))) == false) (first := []) (caps := []) (by kernel_rfl) (fun h => refProgramme_ac p hp) (by kernel_rfl) (by kernel_rfl) (by kernel_rfl) (by kernel_rfl) (by kernel_rfl) (by kernel_rfl) ?_
  refine aops_n hTT (M := []) (n := 2) [pc (35 : Nat) (((((decide ((200 : Int) < (↑(List.length p) : Int)) || !decide (cvE c = (0 : Int))) == false) = true → ((decide ((200 : Int) < (↑(List.length p) : Int)) || !decide (cvE c = (0 : Int))) == false) = true) ∧ True ∧ True) ∧ (((decide ((200 : Int) < (↑(List.length p) : Int)) || !decide (cvE c = (0 : Int))) == false) = true → True)) (V.gd ((decide ((200 : Int) < (↑(List.length p) : Int)) || !decide (cvE c = (0 : Int))) == false) (V.b !decide (progE p = (0 : Int)))), pc (36 : Nat) (True ∧ ((decide ((200 : Int) < (↑(List.length p) : Int)) || !decide (cvE c = (0 : Int))) = false → ((decide ((200 : Int) < (↑(List.length p) : Int)) || !decide (cvE c = (0 : Int))) == false) = true)) (V.b (decide ((200 : Int) < (↑(List.length p) : Int)) || !decide (cvE c = (0 : Int)) || !decide (progE p = (0 : Int))))] (by kernel_rfl) (by kernel_rfl) ⟨⟨⟨(by (exact fun h => h)), ⟨True.intro, True.intro⟩⟩, (fun _ => True.intro)⟩, ⟨True.intro, (by (intro h; rw [h]; rfl))⟩, True.intro⟩ ?_
  refine aops_nil ?_
  refine xt_n ?_
  refine hK _ ?_
  clear hK K
  refine w_cond (t := decide ((200 : Int) < (↑(List.length p) : Int)) || !decide (cvE c = (0 : Int)) || !decide (progE p = (0 : Int))) (by kernel_rfl) (fun c1 => ?_) (fun c1 => ?_)
  · refine aw_seq_k fun K hK => ?_
    refine w_region (n' := 4) (by kernel_rfl) (by kernel_rfl) ?_
    refine e_call (first := []) (caps := []) (works_ac) (by kernel_rfl) (by kernel_rfl) (by kernel_rfl) (by kernel_rfl) (by kernel_rfl) ?_
    refine aops_n hTT (M := []) (n := 1) [pv (4 : Nat) (V.b true)] (by kernel_rfl) (by kernel_rfl) True.intro ?_
    refine aops_nil ?_
    refine xt_n ?_
    refine hK _ ?_
    clear hK K
    refine aw_ret ?_
    refine xt_r ?_
    refine ret_pure (v' := V.b true) (.inr rfl) (by kernel_rfl) (by kernel_rfl) (by kernel_rfl)
  have hv : p.length ≤ 200 ∧ cvE c = 0 ∧ progE p = 0 := by
    simp at c1
    omega
  obtain ⟨v1, v2, v3⟩ := hv
  have hpp := progE_ok.1 v3
  have ml : (monoL p).length ≤ bigL := by rw [monoL_len]; exact hp
  have N1 := Narrow_ac c (monoL p) hc ml
  have W1 := Widen_ac c (monoL p) hc ml
  rw [sd_mono v2 v3] at N1 W1
  have S1 := Split_ac p hp
  rw [(sp_yes v3).1, (sp_yes v3).2, v3] at S1
  have ms : (spM p).length ≤ bigL := by rw [spM_len]; exact hp
  have J1 := Join_ac (spM p) (spD p) ms (by rw [spD_len]; exact hp)
  rw [(jo_sp v3).1, (jo_sp v3).2] at J1
  have NN := Narrow_ac c p hc hp
  have WW := Widen_ac c p hc hp
  refine aw_skip ?_
  refine xt_n ?_
  refine hK _ ?_
  clear hK K
  refine aw_seq_k fun K hK => ?_
  refine w_region (n' := 4) (by kernel_rfl) (by kernel_rfl) ?_
  refine aops_n hTT (M := []) (n := 1) [pv (5 : Nat) V.nil] (by kernel_rfl) (by kernel_rfl) True.intro ?_
  refine aops_nil ?_
  refine xt_n ?_
  refine hK _ ?_
  clear hK K
  refine aw_seq_k fun K hK => ?_
  refine aw_seq_k fun K hK => ?_
  refine w_region (n' := 5) (by kernel_rfl) (by kernel_rfl) ?_
  refine aops_n hTT (M := []) (n := 1) [pv (6 : Nat) (V.i (0 : Int))] (by kernel_rfl) (by kernel_rfl) True.intro ?_
  refine aops_nil ?_
  refine xt_n ?_
  refine hK _ ?_
  clear hK K
  refine aw_block ?_
  refine w_le (le_open 5 50 2 (fun k => [.i (gp p k).1, .i (gp p k).1]) (by kernel_rfl) rfl) ?_
  skip
  refine w_loop (ι := Nat) (fun k => [(1, V.pts p), (2, .ptr (cvC c)), (5, .own 5), (6, .i k)]) (fun k => [(5, .row 50 2 k fun k => [.i (gp p k).1, .i (gp p k).1])]) (fun k => k ≤ p.length) (fun k => p.length - k) 0 (Nat.zero_le _) ?_ ?_
  · refine le_ren (sl := [(5, Ob.row (50 : Nat) (2 : Nat) (0 : Nat) fun (k : Nat) => [V.i (Prod.fst (gp p k)), V.i (Prod.fst (gp p k))])]) [(5, 500005)] (.cons (by kernel_rfl) (.cons (by kernel_rfl) (.cons (by kernel_rfl) (.cons (by kernel_rfl) .nil)))) (.cons ⟨Ob.row (50 : Nat) (2 : Nat) (0 : Nat) fun (k : Nat) => [V.i (Prod.fst (gp p k)), V.i (Prod.fst (gp p k))], (by kernel_rfl), .row (by kernel_rfl) (fun _ _ => rfl)⟩ .nil) (by kernel_rfl) (by kernel_rfl)
  intro k hk
  refine aw_seq_k fun K hK => ?_
  refine aw_seq_k fun K hK => ?_
  refine w_region (n' := 2) (by kernel_rfl) (by kernel_rfl) ?_
  refine aops_n hTT (M := []) (n := 4) [pv (38 : Nat) (V.i (↑k : Int)), pv (39 : Nat) (V.sl (2 : Nat) (List.length p) fun (k : Nat) => [V.i (Prod.fst (gp p k)), V.i (Prod.snd (gp p k))]), pv (40 : Nat) (V.i (↑(List.length p) : Int)), pv (41 : Nat) (V.b (decide ((↑k : Int) < (↑(List.length p) : Int))))] (by kernel_rfl) (by kernel_rfl) True.intro ?_
  refine aops_nil ?_
  refine xt_n ?_
  refine hK _ ?_
  clear hK K
  refine w_cond (t := decide ((↑k : Int) < (↑(List.length p) : Int))) (by kernel_rfl) (fun c2 => ?_) (fun c2 => ?_)
  · simp at c2
    refine aw_skip ?_
    refine xt_n ?_
    refine hK _ ?_
    clear hK K
    refine aw_seq_k fun K hK => ?_
    refine aw_block ?_
    refine w_regionD (n' := 3) (by kernel_rfl) (by kernel_rfl) ?_
    refine aops_n hTT (M := []) (n := 15) [pv (44 : Nat) (V.own (5 : Nat)), pv (45 : Nat) (V.sl (2 : Nat) (List.length p) fun (k : Nat) => [V.i (Prod.fst (gp p k)), V.i (Prod.snd (gp p k))]), pv (46 : Nat) (V.i (↑k : Int)), pc (47 : Nat) ((0 : Int) ≤ (↑k : Int) ∧ (↑k : Int) < (↑(List.length p) : Int)) (V.ptr [V.i (Prod.fst (gp p k)), V.i (Prod.snd (gp p k))]), pv (48 : Nat) (V.ptr [V.i (Prod.fst (gp p k)), V.i (Prod.snd (gp p k))]), pv (49 : Nat) (V.i (Prod.fst (gp p k))), pv (50 : Nat) (V.sl (2 : Nat) (List.length p) fun (k : Nat) => [V.i (Prod.fst (gp p k)), V.i (Prod.snd (gp p k))]), pv (51 : Nat) (V.i (↑k : Int)), pc (52 : Nat) ((0 : Int) ≤ (↑k : Int) ∧ (↑k : Int) < (↑(List.length p) : Int)) (V.ptr [V.i (Prod.fst (gp p k)), V.i (Prod.snd (gp p k))]), pv (53 : Nat) (V.ptr [V.i (Prod.fst (gp p k)), V.i (Prod.snd (gp p k))]), pv (54 : Nat) (V.i (Prod.fst (gp p k))), pv (55 : Nat) (V.agg [V.i (Prod.fst (gp p k)), V.i (Prod.fst (gp p k))]), pv (56 : Nat) (V.sl (2 : Nat) (1 : Nat) fun (i : Nat) => List.take (2 : Nat) (List.drop (i * (2 : Nat)) [V.i (Prod.fst (gp p k)), V.i (Prod.fst (gp p k))])), PR.mk (some (57 : Nat)) (some (k + (1 : Nat) ≤ (1099511627776 : Nat))) (V.own (200057 : Nat)) [((5 : Nat), none), ((200057 : Nat), some (Ob.row (50 : Nat) (2 : Nat) (k + (1 : Nat)) (appRow k (fun (k : Nat) => [V.i (Prod.fst (gp p k)), V.i (Prod.fst (gp p k))]) fun (i : Nat) => List.take (2 : Nat) (List.drop (i * (2 : Nat)) [V.i (Prod.fst (gp p k)), V.i (Prod.fst (gp p k))]))))] false, pv (5 : Nat) (V.own (200057 : Nat))] (by kernel_rfl) (by kernel_rfl) ⟨(by omega), (by omega), (by omega), True.intro⟩ ?_
    refine aops_nil ⟨by kernel_rfl, ?_⟩
    refine xb_n ?_
    refine xt_n ?_
    refine hK _ ?_
    clear hK K
    refine w_region (n' := 4) (by kernel_rfl) (by kernel_rfl) ?_
    refine aops_n hTT (M := []) (n := 3) [pv (42 : Nat) (V.i (↑k : Int)), pc (43 : Nat) ((-9223372036854775808 : Int) ≤ (↑k : Int) + (1 : Int) ∧ (↑k : Int) + (1 : Int) ≤ (9223372036854775807 : Int)) (V.i ((↑k : Int) + (1 : Int))), pv (6 : Nat) (V.i ((↑k : Int) + (1 : Int)))] (by kernel_rfl) (by kernel_rfl) ⟨(by omega), True.intro⟩ ?_
    refine aops_nil ?_
    refine xt_n ?_
    refine ⟨k + 1, by omega, ?_, by omega⟩
    refine le_ren (tl := [(1, V.sl (2 : Nat) (List.length p) fun (k : Nat) => [V.i (Prod.fst (gp p k)), V.i (Prod.snd (gp p k))]), (2, V.ptr [V.sl (1 : Nat) (List.length (Cv.feed c)) fun (k : Nat) => [V.i (gi (Cv.feed c) k)], V.sl (1 : Nat) (List.length (Cv.back c)) fun (k : Nat) => [V.i (gi (Cv.back c) k)], V.i (Cv.share c)]), (5, V.own (5 : Nat)), (6, V.i (↑(k + (1 : Nat)) : Int))]) (sl := [(5, Ob.row (50 : Nat) (2 : Nat) (k + (1 : Nat)) fun (k : Nat) => [V.i (Prod.fst (gp p k)), V.i (Prod.fst (gp p k))])]) [(5, 200057)] (.cons (by kernel_rfl) (.cons (by kernel_rfl) (.cons (by kernel_rfl) (.cons (by kernel_rfl) .nil)))) (.cons ⟨Ob.row (50 : Nat) (2 : Nat) (k + (1 : Nat)) (appRow k (fun (k : Nat) => [V.i (Prod.fst (gp p k)), V.i (Prod.fst (gp p k))]) fun (i : Nat) => List.take (2 : Nat) (List.drop (i * (2 : Nat)) [V.i (Prod.fst (gp p k)), V.i (Prod.fst (gp p k))])), (by kernel_rfl), .row (by kernel_rfl) ?_⟩ .nil) (by kernel_rfl) (by kernel_rfl)
    exact appRow_p rfl rfl rfl
  simp at c2
  obtain rfl : k = p.length := by omega
  refine aw_exit ?_
  refine xt_x ?_
  refine xt_x ?_
  refine xb_same ?_
  refine xt_n ?_
  clear hK K
  refine hK _ ?_
  clear hK K
  refine aw_seq_k fun K hK => ?_
  refine w_le (le_shut 5 5 (e := (50 : Nat)) (sz := (2 : Nat)) (n := List.length p) (n' := (monoL p).length) (row := fun (k : Nat) => [V.i (Prod.fst (gp p k)), V.i (Prod.fst (gp p k))]) (row' := (fun k => [.i (gp (monoL p) k).1, .i (gp (monoL p) k).2])) (by kernel_rfl) (by kernel_rfl) (fun _ _ => rfl) ?_ ?_) ?_
  · rw [monoL_len]
  · intro i hi
    rw [monoL_gp hi]
  refine w_region (n' := 3) (by kernel_rfl) (by kernel_rfl) ?_
  refine aops_n hTT (M := []) (n := 2) [pv (59 : Nat) (V.agg [V.sl (1 : Nat) (List.length (Cv.feed c)) fun (k : Nat) => [V.i (gi (Cv.feed c) k)], V.sl (1 : Nat) (List.length (Cv.back c)) fun (k : Nat) => [V.i (gi (Cv.back c) k)], V.i (Cv.share c)]), pv (60 : Nat) (V.sl (2 : Nat) (List.length (monoL p)) fun (k : Nat) => [V.i (Prod.fst (gp (monoL p) k)), V.i (Prod.snd (gp (monoL p) k))])] (by kernel_rfl) (by kernel_rfl) True.intro ?_
  refine e_call (first := []) (caps := []) (N1) (by kernel_rfl) (by kernel_rfl) (by kernel_rfl) (by kernel_rfl) (by kernel_rfl) ?_
  refine aops_n hTT (M := []) (n := 5) [pv (58 : Nat) (V.tup [V.sl (2 : Nat) (List.length (monoL p)) fun (k : Nat) => [V.i (Prod.fst (gp (monoL p) k)), V.i (Prod.snd (gp (monoL p) k))], V.i (0 : Int)]), pv (62 : Nat) (V.sl (2 : Nat) (List.length (monoL p)) fun (k : Nat) => [V.i (Prod.fst (gp (monoL p) k)), V.i (Prod.snd (gp (monoL p) k))]), pv (63 : Nat) (V.i (0 : Int)), pv (7 : Nat) (V.sl (2 : Nat) (List.length (monoL p)) fun (k : Nat) => [V.i (Prod.fst (gp (monoL p) k)), V.i (Prod.snd (gp (monoL p) k))]), pv (8 : Nat) (V.i (0 : Int))] (by kernel_rfl) (by kernel_rfl) True.intro ?_
  refine aops_nil ?_
  refine xt_n ?_
  refine hK _ ?_
  clear hK K
  refine aw_seq_k fun K hK => ?_
  refine w_region (n' := 4) (by kernel_rfl) (by kernel_rfl) ?_
  refine aops_n hTT (M := []) (n := 2) [pv (65 : Nat) (V.agg [V.sl (1 : Nat) (List.length (Cv.feed c)) fun (k : Nat) => [V.i (gi (Cv.feed c) k)], V.sl (1 : Nat) (List.length (Cv.back c)) fun (k : Nat) => [V.i (gi (Cv.back c) k)], V.i (Cv.share c)]), pv (66 : Nat) (V.sl (2 : Nat) (List.length (monoL p)) fun (k : Nat) => [V.i (Prod.fst (gp (monoL p) k)), V.i (Prod.snd (gp (monoL p) k))])] (by kernel_rfl) (by kernel_rfl) True.intro ?_
  refine e_call (first := []) (caps := []) (W1) (by kernel_rfl) (by kernel_rfl) (by kernel_rfl) (by kernel_rfl) (by kernel_rfl) ?_
  refine aops_n hTT (M := []) (n := 5) [pv (64 : Nat) (V.tup [V.sl (2 : Nat) (List.length (monoL p)) fun (k : Nat) => [V.i (Prod.fst (gp (monoL p) k)), V.i (Prod.snd (gp (monoL p) k))], V.i (0 : Int)]), pv (68 : Nat) (V.sl (2 : Nat) (List.length (monoL p)) fun (k : Nat) => [V.i (Prod.fst (gp (monoL p) k)), V.i (Prod.snd (gp (monoL p) k))]), pv (69 : Nat) (V.i (0 : Int)), pv (9 : Nat) (V.sl (2 : Nat) (List.length (monoL p)) fun (k : Nat) => [V.i (Prod.fst (gp (monoL p) k)), V.i (Prod.snd (gp (monoL p) k))]), pv (10 : Nat) (V.i (0 : Int))] (by kernel_rfl) (by kernel_rfl) True.intro ?_
  refine aops_nil ?_
  refine xt_n ?_
  refine hK _ ?_
  clear hK K
  refine aw_seq_k fun K hK => ?_
  refine aw_seq_k fun K hK => ?_
  refine w_region (n' := 5) (by kernel_rfl) (by kernel_rfl) ?_
  refine aops_n hTT (M := []) (n := 9) [pv (70 : Nat) (V.i (0 : Int)), pv (71 : Nat) (V.b false), pv (72 : Nat) (V.b false), pc (73 : Nat) ((True ∧ True) ∧ ((false == false) = true → True)) (V.gd (false == false) (V.i (0 : Int))), pc (74 : Nat) ((((false == false) = true → (false == false) = true) ∧ True ∧ True) ∧ ((false == false) = true → True)) (V.gd (false == false) (V.b false)), pc (75 : Nat) (True ∧ (false = false → (false == false) = true)) (V.b false), pv (76 : Nat) (V.b false), pc (77 : Nat) ((True ∧ True) ∧ ((false == false) = true → True)) (V.gd (false == false) (V.sl (2 : Nat) (List.length (monoL p)) fun (k : Nat) => [V.i (Prod.fst (gp (monoL p) k)), V.i (Prod.snd (gp (monoL p) k))])), pc (78 : Nat) ((True ∧ True) ∧ ((false == false) = true → True)) (V.gd (false == false) (V.sl (2 : Nat) (List.length (monoL p)) fun (k : Nat) => [V.i (Prod.fst (gp (monoL p) k)), V.i (Prod.snd (gp (monoL p) k))]))] (by kernel_rfl) (by kernel_rfl) ⟨⟨⟨True.intro, True.intro⟩, (fun _ => True.intro)⟩, ⟨⟨(by (exact fun h => h)), ⟨True.intro, True.intro⟩⟩, (fun _ => True.intro)⟩, ⟨True.intro, (by (intro h; rw [h]; rfl))⟩, ⟨⟨True.intro, True.intro⟩, (fun _ => True.intro)⟩, ⟨⟨True.intro, True.intro⟩, (fun _ => True.intro)⟩, True.intro⟩ ?_
  refine e_callG 2 (g := false == false) (first := []) (caps := []) (by kernel_rfl) (fun h => same_pts ml) (by kernel_rfl) (by kernel_rfl) (by kernel_rfl) (by kernel_rfl) (by kernel_rfl) (by kernel_rfl) ?_
  refine aops_n hTT (M := []) (n := 5) [pc (80 : Nat) ((((false == false) = true → (false == false) = true) ∧ True) ∧ ((false == false) = true → True)) (V.gd (false == false) (V.b false)), pc (81 : Nat) (True ∧ (false = false → (false == false) = true)) (V.b false), pv (82 : Nat) (V.b false), pc (83 : Nat) ((True ∧ True) ∧ ((false == false) = true → True)) (V.gd (false == false) (V.sl (2 : Nat) (List.length (monoL p)) fun (k : Nat) => [V.i (Prod.fst (gp (monoL p) k)), V.i (Prod.snd (gp (monoL p) k))])), pc (84 : Nat) ((True ∧ True) ∧ ((false == false) = true → True)) (V.gd (false == false) (V.sl (2 : Nat) (List.length (monoL p)) fun (k : Nat) => [V.i (Prod.fst (gp (monoL p) k)), V.i (Prod.snd (gp (monoL p) k))]))] (by kernel_rfl) (by kernel_rfl) ⟨⟨⟨(by (exact fun h => h)), True.intro⟩, (fun _ => True.intro)⟩, ⟨True.intro, (by (intro h; rw [h]; rfl))⟩, ⟨⟨True.intro, True.intro⟩, (fun _ => True.intro)⟩, ⟨⟨True.intro, True.intro⟩, (fun _ => True.intro)⟩, True.intro⟩ ?_
  refine e_callG 2 (g := false == false) (first := []) (caps := []) (by kernel_rfl) (fun h => same_pts ml) (by kernel_rfl) (by kernel_rfl) (by kernel_rfl) (by kernel_rfl) (by kernel_rfl) (by kernel_rfl) ?_
  refine aops_n hTT (M := []) (n := 2) [pc (86 : Nat) ((((false == false) = true → (false == false) = true) ∧ True) ∧ ((false == false) = true → True)) (V.gd (false == false) (V.b false)), pc (87 : Nat) (True ∧ (false = false → (false == false) = true)) (V.b false)] (by kernel_rfl) (by kernel_rfl) ⟨⟨⟨(by (exact fun h => h)), True.intro⟩, (fun _ => True.intro)⟩, ⟨True.intro, (by (intro h; rw [h]; rfl))⟩, True.intro⟩ ?_
  refine aops_nil ?_
  refine xt_n ?_
  refine hK _ ?_
  clear hK K
  refine w_false (t := false) (by kernel_rfl) rfl ?_
  refine aw_skip ?_
  refine xt_n ?_
  refine hK _ ?_
  clear hK K
  refine aw_seq_k fun K hK => ?_
  refine w_region (n' := 6) (by kernel_rfl) (by kernel_rfl) ?_
  refine aops_n hTT (M := []) (n := 1) [pv (89 : Nat) (V.sl (2 : Nat) (List.length p) fun (k : Nat) => [V.i (Prod.fst (gp p k)), V.i (Prod.snd (gp p k))])] (by kernel_rfl) (by kernel_rfl) True.intro ?_
  refine e_call (first := []) (caps := []) (S1) (by kernel_rfl) (by kernel_rfl) (by kernel_rfl) (by kernel_rfl) (by kernel_rfl) ?_
  refine aops_n hTT (M := []) (n := 7) [pv (88 : Nat) (V.tup [V.sl (1 : Nat) (List.length (spM p)) fun (k : Nat) => [V.i (gi (spM p) k)], V.sl (1 : Nat) (List.length (spD p)) fun (k : Nat) => [V.i (gi (spD p) k)], V.i (0 : Int)]), pv (91 : Nat) (V.sl (1 : Nat) (List.length (spM p)) fun (k : Nat) => [V.i (gi (spM p) k)]), pv (92 : Nat) (V.sl (1 : Nat) (List.length (spD p)) fun (k : Nat) => [V.i (gi (spD p) k)]), pv (93 : Nat) (V.i (0 : Int)), pv (11 : Nat) (V.sl (1 : Nat) (List.length (spM p)) fun (k : Nat) => [V.i (gi (spM p) k)]), pv (12 : Nat) (V.sl (1 : Nat) (List.length (spD p)) fun (k : Nat) => [V.i (gi (spD p) k)]), pv (8 : Nat) (V.i (0 : Int))] (by kernel_rfl) (by kernel_rfl) True.intro ?_
  refine aops_nil ?_
  refine xt_n ?_
  refine hK _ ?_
  clear hK K
  refine aw_seq_k fun K hK => ?_
  refine w_region (n' := 7) (by kernel_rfl) (by kernel_rfl) ?_
  refine aops_n hTT (M := []) (n := 2) [pv (95 : Nat) (V.sl (1 : Nat) (List.length (spM p)) fun (k : Nat) => [V.i (gi (spM p) k)]), pv (96 : Nat) (V.sl (1 : Nat) (List.length (spD p)) fun (k : Nat) => [V.i (gi (spD p) k)])] (by kernel_rfl) (by kernel_rfl) True.intro ?_
  refine e_call (first := []) (caps := []) (J1) (by kernel_rfl) (by kernel_rfl) (by kernel_rfl) (by kernel_rfl) (by kernel_rfl) ?_
  refine aops_n hTT (M := []) (n := 5) [pv (94 : Nat) (V.tup [V.sl (2 : Nat) (List.length p) fun (k : Nat) => [V.i (Prod.fst (gp p k)), V.i (Prod.snd (gp p k))], V.i (0 : Int)]), pv (98 : Nat) (V.sl (2 : Nat) (List.length p) fun (k : Nat) => [V.i (Prod.fst (gp p k)), V.i (Prod.snd (gp p k))]), pv (99 : Nat) (V.i (0 : Int)), pv (13 : Nat) (V.sl (2 : Nat) (List.length p) fun (k : Nat) => [V.i (Prod.fst (gp p k)), V.i (Prod.snd (gp p k))]), pv (10 : Nat) (V.i (0 : Int))] (by kernel_rfl) (by kernel_rfl) True.intro ?_
  refine aops_nil ?_
  refine xt_n ?_
  refine hK _ ?_
  clear hK K
  refine aw_seq_k fun K hK => ?_
  refine aw_seq_k fun K hK => ?_
  refine w_region (n' := 8) (by kernel_rfl) (by kernel_rfl) ?_
  refine aops_n hTT (M := []) (n := 9) [pv (100 : Nat) (V.i (0 : Int)), pv (101 : Nat) (V.b false), pv (102 : Nat) (V.b false), pc (103 : Nat) ((True ∧ True) ∧ ((false == false) = true → True)) (V.gd (false == false) (V.i (0 : Int))), pc (104 : Nat) ((((false == false) = true → (false == false) = true) ∧ True ∧ True) ∧ ((false == false) = true → True)) (V.gd (false == false) (V.b false)), pc (105 : Nat) (True ∧ (false = false → (false == false) = true)) (V.b false), pv (106 : Nat) (V.b false), pc (107 : Nat) ((True ∧ True) ∧ ((false == false) = true → True)) (V.gd (false == false) (V.sl (2 : Nat) (List.length p) fun (k : Nat) => [V.i (Prod.fst (gp p k)), V.i (Prod.snd (gp p k))])), pc (108 : Nat) ((True ∧ True) ∧ ((false == false) = true → True)) (V.gd (false == false) (V.sl (2 : Nat) (List.length p) fun (k : Nat) => [V.i (Prod.fst (gp p k)), V.i (Prod.snd (gp p k))]))] (by kernel_rfl) (by kernel_rfl) ⟨⟨⟨True.intro, True.intro⟩, (fun _ => True.intro)⟩, ⟨⟨(by (exact fun h => h)), ⟨True.intro, True.intro⟩⟩, (fun _ => True.intro)⟩, ⟨True.intro, (by (intro h; rw [h]; rfl))⟩, ⟨⟨True.intro, True.intro⟩, (fun _ => True.intro)⟩, ⟨⟨True.intro, True.intro⟩, (fun _ => True.intro)⟩, True.intro⟩ ?_
  refine e_callG 2 (g := false == false) (first := []) (caps := []) (by kernel_rfl) (fun h => same_pts hp) (by kernel_rfl) (by kernel_rfl) (by kernel_rfl) (by kernel_rfl) (by kernel_rfl) (by kernel_rfl) ?_
  refine aops_n hTT (M := []) (n := 2) [pc (110 : Nat) ((((false == false) = true → (false == false) = true) ∧ True) ∧ ((false == false) = true → True)) (V.gd (false == false) (V.b false)), pc (111 : Nat) (True ∧ (false = false → (false == false) = true)) (V.b false)] (by kernel_rfl) (by kernel_rfl) ⟨⟨⟨(by (exact fun h => h)), True.intro⟩, (fun _ => True.intro)⟩, ⟨True.intro, (by (intro h; rw [h]; rfl))⟩, True.intro⟩ ?_
  refine aops_nil ?_
  refine xt_n ?_
  refine hK _ ?_
  clear hK K
  refine w_false (t := false) (by kernel_rfl) rfl ?_
  refine aw_skip ?_
  refine xt_n ?_
  refine hK _ ?_
  clear hK K
  refine aw_seq_k fun K hK => ?_
  refine w_region (n' := 9) (by kernel_rfl) (by kernel_rfl) ?_
  refine aops_n hTT (M := []) (n := 2) [pv (113 : Nat) (V.agg [V.sl (1 : Nat) (List.length (Cv.feed c)) fun (k : Nat) => [V.i (gi (Cv.feed c) k)], V.sl (1 : Nat) (List.length (Cv.back c)) fun (k : Nat) => [V.i (gi (Cv.back c) k)], V.i (Cv.share c)]), pv (114 : Nat) (V.sl (2 : Nat) (List.length p) fun (k : Nat) => [V.i (Prod.fst (gp p k)), V.i (Prod.snd (gp p k))])] (by kernel_rfl) (by kernel_rfl) True.intro ?_
  rcases sd_or (u := false) v2 v3 with e1 | ⟨e1, q1, q2, q3⟩
  · rw [e1] at NN
    refine e_call (first := []) (caps := []) (NN) (by kernel_rfl) (by kernel_rfl) (by kernel_rfl) (by kernel_rfl) (by kernel_rfl) ?_
    refine aops_n hTT (M := []) (n := 5) [pv (112 : Nat) (V.tup [V.sl (2 : Nat) (List.length (Prod.snd (sdR c false p))) fun (k : Nat) => [V.i (Prod.fst (gp (Prod.snd (sdR c false p)) k)), V.i (Prod.snd (gp (Prod.snd (sdR c false p)) k))], V.i (4 : Int)]), pv (116 : Nat) (V.sl (2 : Nat) (List.length (Prod.snd (sdR c false p))) fun (k : Nat) => [V.i (Prod.fst (gp (Prod.snd (sdR c false p)) k)), V.i (Prod.snd (gp (Prod.snd (sdR c false p)) k))]), pv (117 : Nat) (V.i (4 : Int)), pv (7 : Nat) (V.sl (2 : Nat) (List.length (Prod.snd (sdR c false p))) fun (k : Nat) => [V.i (Prod.fst (gp (Prod.snd (sdR c false p)) k)), V.i (Prod.snd (gp (Prod.snd (sdR c false p)) k))]), pv (8 : Nat) (V.i (4 : Int))] (by kernel_rfl) (by kernel_rfl) True.intro ?_
    refine aops_nil ?_
    refine xt_n ?_
    refine hK _ ?_
    clear hK K
    refine aw_seq_k fun K hK => ?_
    refine aw_seq_k fun K hK => ?_
    refine w_region (n' := 10) (by kernel_rfl) (by kernel_rfl) ?_
    refine aops_n hTT (M := []) (n := 2) [pv (118 : Nat) (V.i (4 : Int)), pv (119 : Nat) (V.b false)] (by kernel_rfl) (by kernel_rfl) True.intro ?_
    refine aops_nil ?_
    refine xt_n ?_
    refine hK _ ?_
    clear hK K
    refine w_false (t := false) (by kernel_rfl) rfl ?_
    refine aw_skip ?_
    refine xt_n ?_
    refine hK _ ?_
    clear hK K
    refine aw_seq_k fun K hK => ?_
    refine w_region (n' := 11) (by kernel_rfl) (by kernel_rfl) ?_
    refine aops_n hTT (M := []) (n := 2) [pv (151 : Nat) (V.agg [V.sl (1 : Nat) (List.length (Cv.feed c)) fun (k : Nat) => [V.i (gi (Cv.feed c) k)], V.sl (1 : Nat) (List.length (Cv.back c)) fun (k : Nat) => [V.i (gi (Cv.back c) k)], V.i (Cv.share c)]), pv (152 : Nat) (V.sl (2 : Nat) (List.length p) fun (k : Nat) => [V.i (Prod.fst (gp p k)), V.i (Prod.snd (gp p k))])] (by kernel_rfl) (by kernel_rfl) True.intro ?_
    rcases sd_or (u := true) v2 v3 with e2 | ⟨e2, r1, r2, r3⟩
    · rw [e2] at WW
      refine e_call (first := []) (caps := []) (WW) (by kernel_rfl) (by kernel_rfl) (by kernel_rfl) (by kernel_rfl) (by kernel_rfl) ?_
      refine aops_n hTT (M := []) (n := 5) [pv (150 : Nat) (V.tup [V.sl (2 : Nat) (List.length (Prod.snd (sdR c true p))) fun (k : Nat) => [V.i (Prod.fst (gp (Prod.snd (sdR c true p)) k)), V.i (Prod.snd (gp (Prod.snd (sdR c true p)) k))], V.i (4 : Int)]), pv (154 : Nat) (V.sl (2 : Nat) (List.length (Prod.snd (sdR c true p))) fun (k : Nat) => [V.i (Prod.fst (gp (Prod.snd (sdR c true p)) k)), V.i (Prod.snd (gp (Prod.snd (sdR c true p)) k))]), pv (155 : Nat) (V.i (4 : Int)), pv (9 : Nat) (V.sl (2 : Nat) (List.length (Prod.snd (sdR c true p))) fun (k : Nat) => [V.i (Prod.fst (gp (Prod.snd (sdR c true p)) k)), V.i (Prod.snd (gp (Prod.snd (sdR c true p)) k))]), pv (10 : Nat) (V.i (4 : Int))] (by kernel_rfl) (by kernel_rfl) True.intro ?_
      refine aops_nil ?_
      refine xt_n ?_
      refine hK _ ?_
      clear hK K
      refine aw_seq_k fun K hK => ?_
      refine aw_seq_k fun K hK => ?_
      refine w_region (n' := 12) (by kernel_rfl) (by kernel_rfl) ?_
      refine aops_n hTT (M := []) (n := 2) [pv (156 : Nat) (V.i (4 : Int)), pv (157 : Nat) (V.b false)] (by kernel_rfl) (by kernel_rfl) True.intro ?_
      refine aops_nil ?_
      refine xt_n ?_
      refine hK _ ?_
      clear hK K
      refine w_false (t := false) (by kernel_rfl) rfl ?_
      refine aw_skip ?_
      refine xt_n ?_
      refine hK _ ?_
      clear hK K
      refine aw_seq_k fun K hK => ?_
      refine w_region (n' := 13) (by kernel_rfl) (by kernel_rfl) ?_
      refine aops_n hTT (M := []) (n := 15) [pv (188 : Nat) (V.i (4 : Int)), pv (189 : Nat) (V.b false), pv (190 : Nat) (V.b false), pc (191 : Nat) ((True ∧ True) ∧ ((false == false) = true → True)) (V.gd (false == false) (V.i (4 : Int))), pc (192 : Nat) ((((false == false) = true → (false == false) = true) ∧ True ∧ True) ∧ ((false == false) = true → True)) (V.gd (false == false) (V.b true)), pc (193 : Nat) (True ∧ (false = false → (false == false) = true)) (V.b true), pv (194 : Nat) (V.b true), pc (195 : Nat) ((True ∧ True) ∧ ((true == true) = true → True)) (V.gd (true == true) (V.i (4 : Int))), pc (196 : Nat) ((((true == true) = true → (true == true) = true) ∧ True ∧ True) ∧ ((true == true) = true → True)) (V.gd (true == true) (V.b false)), pc (197 : Nat) ((((true == true) = true → (true == true) = true) ∧ True) ∧ ((true == true) = true → True)) (V.gd (true == true) (V.b false)), pc (198 : Nat) ((True ∧ True) ∧ ((true == true && false == false) = true → True)) (V.gd (true == true && false == false) (V.i (4 : Int))), pc (199 : Nat) ((((true == true && false == false) = true → (true == true && false == false) = true) ∧ True ∧ True) ∧ ((true == true && false == false) = true → True)) (V.gd (true == true && false == false) (V.b true)), pc (200 : Nat) (((true == true) = true → (true == true) = true) ∧ ((true == true) = true → True) ∧ ((true == true) = true → false = false → (true == true && false == false) = true)) (V.gd (true == true) (V.b true)), pc (201 : Nat) ((true = true → (true == true) = true) ∧ True) (V.b true), pv (202 : Nat) (V.b true)] (by kernel_rfl) (by kernel_rfl) ⟨⟨⟨True.intro, True.intro⟩, (fun _ => True.intro)⟩, ⟨⟨(by (exact fun h => h)), ⟨True.intro, True.intro⟩⟩, (fun _ => True.intro)⟩, ⟨True.intro, (by (intro h; rw [h]; rfl))⟩, ⟨⟨True.intro, True.intro⟩, (fun _ => True.intro)⟩, ⟨⟨(by (exact fun h => h)), ⟨True.intro, True.intro⟩⟩, (fun _ => True.intro)⟩, ⟨⟨(by (exact fun h => h)), True.intro⟩, (fun _ => True.intro)⟩, ⟨⟨True.intro, True.intro⟩, (fun _ => True.intro)⟩, ⟨⟨(by (exact fun h => h)), ⟨True.intro, True.intro⟩⟩, (fun _ => True.intro)⟩, ⟨(by (exact fun h => h)), ⟨(fun _ => True.intro), (by (intro _; simp; done))⟩⟩, ⟨(by (exact fun h => h)), True.intro⟩, True.intro⟩ ?_
      refine e_callG 0 (g := true == true) (first := []) (caps := []) (by kernel_rfl) (fun h => works_ac) (by kernel_rfl) (by kernel_rfl) (by kernel_rfl) (by kernel_rfl) (by kernel_rfl) (by kernel_rfl) ?_
      refine aops_n hTT (M := []) (n := 2) [pc (204 : Nat) ((true = true → (true == true) = true) ∧ True) (V.b true), pv (4 : Nat) (V.b true)] (by kernel_rfl) (by kernel_rfl) ⟨⟨(by (exact fun h => h)), True.intro⟩, True.intro⟩ ?_
      refine aops_nil ?_
      refine xt_n ?_
      refine hK _ ?_
      clear hK K
      refine aw_ret ?_
      refine ret_pure (v' := V.b true) (.inr rfl) (by kernel_rfl) (by kernel_rfl) (by kernel_rfl)
    · have hb := sdR_len (c := c) (u := true) hp
      rw [e2] at WW
      generalize (sdR c true p).2 = r at WW r1 r2 r3 hb
      have S3 := Split_ac r hb
      rw [(sp_yes r1).1, (sp_yes r1).2, r1, r2] at S3
      have N3 := Narrow_ac c r hc hb
      rw [show sdR c false r = (0, p) from r3] at N3
      refine e_call (first := []) (caps := []) (WW) (by kernel_rfl) (by kernel_rfl) (by kernel_rfl) (by kernel_rfl) (by kernel_rfl) ?_
      refine aops_n hTT (M := []) (n := 5) [pv (150 : Nat) (V.tup [V.sl (2 : Nat) (List.length r) fun (k : Nat) => [V.i (Prod.fst (gp r k)), V.i (Prod.snd (gp r k))], V.i (0 : Int)]), pv (154 : Nat) (V.sl (2 : Nat) (List.length r) fun (k : Nat) => [V.i (Prod.fst (gp r k)), V.i (Prod.snd (gp r k))]), pv (155 : Nat) (V.i (0 : Int)), pv (9 : Nat) (V.sl (2 : Nat) (List.length r) fun (k : Nat) => [V.i (Prod.fst (gp r k)), V.i (Prod.snd (gp r k))]), pv (10 : Nat) (V.i (0 : Int))] (by kernel_rfl) (by kernel_rfl) True.intro ?_
      refine aops_nil ?_
      refine xt_n ?_
      refine hK _ ?_
      clear hK K
      refine aw_seq_k fun K hK => ?_
      refine aw_seq_k fun K hK => ?_
      refine w_region (n' := 12) (by kernel_rfl) (by kernel_rfl) ?_
      refine aops_n hTT (M := []) (n := 2) [pv (156 : Nat) (V.i (0 : Int)), pv (157 : Nat) (V.b true)] (by kernel_rfl) (by kernel_rfl) True.intro ?_
      refine aops_nil ?_
      refine xt_n ?_
      refine hK _ ?_
      clear hK K
      refine w_true (t := true) (by kernel_rfl) rfl ?_
      refine aw_seq_k fun K hK => ?_
      refine w_region (n' := 13) (by kernel_rfl) (by kernel_rfl) ?_
      refine aops_n hTT (M := []) (n := 1) [pv (159 : Nat) (V.sl (2 : Nat) (List.length r) fun (k : Nat) => [V.i (Prod.fst (gp r k)), V.i (Prod.snd (gp r k))])] (by kernel_rfl) (by kernel_rfl) True.intro ?_
      refine e_call (first := []) (caps := []) (S3) (by kernel_rfl) (by kernel_rfl) (by kernel_rfl) (by kernel_rfl) (by kernel_rfl) ?_
      refine aops_n hTT (M := []) (n := 7) [pv (158 : Nat) (V.tup [V.sl (1 : Nat) (List.length (spM p)) fun (k : Nat) => [V.i (gi (spM p) k)], V.sl (1 : Nat) (List.length (spD r)) fun (k : Nat) => [V.i (gi (spD r) k)], V.i (0 : Int)]), pv (161 : Nat) (V.sl (1 : Nat) (List.length (spM p)) fun (k : Nat) => [V.i (gi (spM p) k)]), pv (162 : Nat) (V.sl (1 : Nat) (List.length (spD r)) fun (k : Nat) => [V.i (gi (spD r) k)]), pv (163 : Nat) (V.i (0 : Int)), pv (19 : Nat) (V.sl (1 : Nat) (List.length (spM p)) fun (k : Nat) => [V.i (gi (spM p) k)]), pv (20 : Nat) (V.sl (1 : Nat) (List.length (spD r)) fun (k : Nat) => [V.i (gi (spD r) k)]), pv (21 : Nat) (V.i (0 : Int))] (by kernel_rfl) (by kernel_rfl) True.intro ?_
      refine aops_nil ?_
      refine xt_n ?_
      refine hK _ ?_
      clear hK K
      refine aw_seq_k fun K hK => ?_
      refine w_region (n' := 14) (by kernel_rfl) (by kernel_rfl) ?_
      refine aops_n hTT (M := []) (n := 2) [pv (165 : Nat) (V.agg [V.sl (1 : Nat) (List.length (Cv.feed c)) fun (k : Nat) => [V.i (gi (Cv.feed c) k)], V.sl (1 : Nat) (List.length (Cv.back c)) fun (k : Nat) => [V.i (gi (Cv.back c) k)], V.i (Cv.share c)]), pv (166 : Nat) (V.sl (2 : Nat) (List.length r) fun (k : Nat) => [V.i (Prod.fst (gp r k)), V.i (Prod.snd (gp r k))])] (by kernel_rfl) (by kernel_rfl) True.intro ?_
      refine e_call (first := []) (caps := []) (N3) (by kernel_rfl) (by kernel_rfl) (by kernel_rfl) (by kernel_rfl) (by kernel_rfl) ?_
      refine aops_n hTT (M := []) (n := 5) [pv (164 : Nat) (V.tup [V.sl (2 : Nat) (List.length p) fun (k : Nat) => [V.i (Prod.fst (gp p k)), V.i (Prod.snd (gp p k))], V.i (0 : Int)]), pv (168 : Nat) (V.sl (2 : Nat) (List.length p) fun (k : Nat) => [V.i (Prod.fst (gp p k)), V.i (Prod.snd (gp p k))]), pv (169 : Nat) (V.i (0 : Int)), pv (22 : Nat) (V.sl (2 : Nat) (List.length p) fun (k : Nat) => [V.i (Prod.fst (gp p k)), V.i (Prod.snd (gp p k))]), pv (23 : Nat) (V.i (0 : Int))] (by kernel_rfl) (by kernel_rfl) True.intro ?_
      refine aops_nil ?_
      refine xt_n ?_
      refine hK _ ?_
      clear hK K
      refine aw_seq_k fun K hK => ?_
      refine w_region (n' := 15) (by kernel_rfl) (by kernel_rfl) ?_
      refine aops_n hTT (M := []) (n := 9) [pv (170 : Nat) (V.i (0 : Int)), pv (171 : Nat) (V.b false), pv (172 : Nat) (V.b false), pc (173 : Nat) ((True ∧ True) ∧ ((false == false) = true → True)) (V.gd (false == false) (V.i (0 : Int))), pc (174 : Nat) ((((false == false) = true → (false == false) = true) ∧ True ∧ True) ∧ ((false == false) = true → True)) (V.gd (false == false) (V.b false)), pc (175 : Nat) (True ∧ (false = false → (false == false) = true)) (V.b false), pv (176 : Nat) (V.b false), pc (177 : Nat) ((True ∧ True) ∧ ((false == false) = true → True)) (V.gd (false == false) (V.sl (1 : Nat) (List.length (spM p)) fun (k : Nat) => [V.i (gi (spM p) k)])), pc (178 : Nat) ((True ∧ True) ∧ ((false == false) = true → True)) (V.gd (false == false) (V.sl (1 : Nat) (List.length (spM p)) fun (k : Nat) => [V.i (gi (spM p) k)]))] (by kernel_rfl) (by kernel_rfl) ⟨⟨⟨True.intro, True.intro⟩, (fun _ => True.intro)⟩, ⟨⟨(by (exact fun h => h)), ⟨True.intro, True.intro⟩⟩, (fun _ => True.intro)⟩, ⟨True.intro, (by (intro h; rw [h]; rfl))⟩, ⟨⟨True.intro, True.intro⟩, (fun _ => True.intro)⟩, ⟨⟨True.intro, True.intro⟩, (fun _ => True.intro)⟩, True.intro⟩ ?_
      refine e_callG 2 (g := false == false) (first := []) (caps := []) (by kernel_rfl) (fun h => same_ints ms) (by kernel_rfl) (by kernel_rfl) (by kernel_rfl) (by kernel_rfl) (by kernel_rfl) (by kernel_rfl) ?_
      refine aops_n hTT (M := []) (n := 5) [pc (180 : Nat) ((((false == false) = true → (false == false) = true) ∧ True) ∧ ((false == false) = true → True)) (V.gd (false == false) (V.b false)), pc (181 : Nat) (True ∧ (false = false → (false == false) = true)) (V.b false), pv (182 : Nat) (V.b false), pc (183 : Nat) ((True ∧ True) ∧ ((false == false) = true → True)) (V.gd (false == false) (V.sl (2 : Nat) (List.length p) fun (k : Nat) => [V.i (Prod.fst (gp p k)), V.i (Prod.snd (gp p k))])), pc (184 : Nat) ((True ∧ True) ∧ ((false == false) = true → True)) (V.gd (false == false) (V.sl (2 : Nat) (List.length p) fun (k : Nat) => [V.i (Prod.fst (gp p k)), V.i (Prod.snd (gp p k))]))] (by kernel_rfl) (by kernel_rfl) ⟨⟨⟨(by (exact fun h => h)), True.intro⟩, (fun _ => True.intro)⟩, ⟨True.intro, (by (intro h; rw [h]; rfl))⟩, ⟨⟨True.intro, True.intro⟩, (fun _ => True.intro)⟩, ⟨⟨True.intro, True.intro⟩, (fun _ => True.intro)⟩, True.intro⟩ ?_
      refine e_callG 2 (g := false == false) (first := []) (caps := []) (by kernel_rfl) (fun h => same_pts hp) (by kernel_rfl) (by kernel_rfl) (by kernel_rfl) (by kernel_rfl) (by kernel_rfl) (by kernel_rfl) ?_
      refine aops_n hTT (M := []) (n := 2) [pc (186 : Nat) ((((false == false) = true → (false == false) = true) ∧ True) ∧ ((false == false) = true → True)) (V.gd (false == false) (V.b false)), pc (187 : Nat) (True ∧ (false = false → (false == false) = true)) (V.b false)] (by kernel_rfl) (by kernel_rfl) ⟨⟨⟨(by (exact fun h => h)), True.intro⟩, (fun _ => True.intro)⟩, ⟨True.intro, (by (intro h; rw [h]; rfl))⟩, True.intro⟩ ?_
      refine aops_nil ?_
      refine xt_n ?_
      refine hK _ ?_
      clear hK K
      refine w_false (t := false) (by kernel_rfl) rfl ?_
      refine aw_skip ?_
      refine xt_n ?_
      refine hK _ ?_
      clear hK K
      refine aw_seq_k fun K hK => ?_
      refine w_region (n' := 16) (by kernel_rfl) (by kernel_rfl) ?_
      refine aops_n hTT (M := []) (n := 15) [pv (188 : Nat) (V.i (4 : Int)), pv (189 : Nat) (V.b false), pv (190 : Nat) (V.b false), pc (191 : Nat) ((True ∧ True) ∧ ((false == false) = true → True)) (V.gd (false == false) (V.i (4 : Int))), pc (192 : Nat) ((((false == false) = true → (false == false) = true) ∧ True ∧ True) ∧ ((false == false) = true → True)) (V.gd (false == false) (V.b true)), pc (193 : Nat) (True ∧ (false = false → (false == false) = true)) (V.b true), pv (194 : Nat) (V.b true), pc (195 : Nat) ((True ∧ True) ∧ ((true == true) = true → True)) (V.gd (true == true) (V.i (0 : Int))), pc (196 : Nat) ((((true == true) = true → (true == true) = true) ∧ True ∧ True) ∧ ((true == true) = true → True)) (V.gd (true == true) (V.b true)), pc (197 : Nat) ((((true == true) = true → (true == true) = true) ∧ True) ∧ ((true == true) = true → True)) (V.gd (true == true) (V.b true)), pc (198 : Nat) ((True ∧ True) ∧ ((true == true && true == false) = true → True)) (V.gd (true == true && true == false) (V.i (0 : Int))), pc (199 : Nat) ((((true == true && true == false) = true → (true == true && true == false) = true) ∧ True ∧ True) ∧ ((true == true && true == false) = true → True)) (V.gd (true == true && true == false) (V.b false)), pc (200 : Nat) (((true == true) = true → (true == true) = true) ∧ ((true == true) = true → True) ∧ ((true == true) = true → true = false → (true == true && true == false) = true)) (V.gd (true == true) (V.b true)), pc (201 : Nat) ((true = true → (true == true) = true) ∧ True) (V.b true), pv (202 : Nat) (V.b true)] (by kernel_rfl) (by kernel_rfl) ⟨⟨⟨True.intro, True.intro⟩, (fun _ => True.intro)⟩, ⟨⟨(by (exact fun h => h)), ⟨True.intro, True.intro⟩⟩, (fun _ => True.intro)⟩, ⟨True.intro, (by (intro h; rw [h]; rfl))⟩, ⟨⟨True.intro, True.intro⟩, (fun _ => True.intro)⟩, ⟨⟨(by (exact fun h => h)), ⟨True.intro, True.intro⟩⟩, (fun _ => True.intro)⟩, ⟨⟨(by (exact fun h => h)), True.intro⟩, (fun _ => True.intro)⟩, ⟨⟨True.intro, True.intro⟩, (fun _ => True.intro)⟩, ⟨⟨(by (exact fun h => h)), ⟨True.intro, True.intro⟩⟩, (fun _ => True.intro)⟩, ⟨(by (exact fun h => h)), ⟨(fun _ => True.intro), (by (intro _; simp; done))⟩⟩, ⟨(by (exact fun h => h)), True.intro⟩, True.intro⟩ ?_
      refine e_callG 0 (g := true == true) (first := []) (caps := []) (by kernel_rfl) (fun h => works_ac) (by kernel_rfl) (by kernel_rfl) (by kernel_rfl) (by kernel_rfl) (by kernel_rfl) (by kernel_rfl) ?_
      refine aops_n hTT (M := []) (n := 2) [pc (204 : Nat) ((true = true → (true == true) = true) ∧ True) (V.b true), pv (4 : Nat) (V.b true)] (by kernel_rfl) (by kernel_rfl) ⟨⟨(by (exact fun h => h)), True.intro⟩, True.intro⟩ ?_
      refine aops_nil ?_
      refine xt_n ?_
      refine hK _ ?_
      clear hK K
      refine aw_ret ?_
      refine ret_pure (v' := V.b true) (.inr rfl) (by kernel_rfl) (by kernel_rfl) (by kernel_rfl)
  · have ha := sdR_len (c := c) (u := false) hp
    rw [e1] at NN
    generalize (sdR c false p).2 = q at NN q1 q2 q3 ha
    have S2 := Split_ac q ha
    rw [(sp_yes q1).1, (sp_yes q1).2, q1, q2] at S2
    have W2 := Widen_ac c q hc ha
    rw [show sdR c true q = (0, p) from q3] at W2
    refine e_call (first := []) (caps := []) (NN) (by kernel_rfl) (by kernel_rfl) (by kernel_rfl) (by kernel_rfl) (by kernel_rfl) ?_
    refine aops_n hTT (M := []) (n := 5) [pv (112 : Nat) (V.tup [V.sl (2 : Nat) (List.length q) fun (k : Nat) => [V.i (Prod.fst (gp q k)), V.i (Prod.snd (gp q k))], V.i (0 : Int)]), pv (116 : Nat) (V.sl (2 : Nat) (List.length q) fun (k : Nat) => [V.i (Prod.fst (gp q k)), V.i (Prod.snd (gp q k))]), pv (117 : Nat) (V.i (0 : Int)), pv (7 : Nat) (V.sl (2 : Nat) (List.length q) fun (k : Nat) => [V.i (Prod.fst (gp q k)), V.i (Prod.snd (gp q k))]), pv (8 : Nat) (V.i (0 : Int))] (by kernel_rfl) (by kernel_rfl) True.intro ?_
    refine aops_nil ?_
    refine xt_n ?_
    refine hK _ ?_
    clear hK K
    refine aw_seq_k fun K hK => ?_
    refine aw_seq_k fun K hK => ?_
    refine w_region (n' := 10) (by kernel_rfl) (by kernel_rfl) ?_
    refine aops_n hTT (M := []) (n := 2) [pv (118 : Nat) (V.i (0 : Int)), pv (119 : Nat) (V.b true)] (by kernel_rfl) (by kernel_rfl) True.intro ?_
    refine aops_nil ?_
    refine xt_n ?_
    refine hK _ ?_
    clear hK K
    refine w_true (t := true) (by kernel_rfl) rfl ?_
    refine aw_seq_k fun K hK => ?_
    refine w_region (n' := 11) (by kernel_rfl) (by kernel_rfl) ?_
    refine aops_n hTT (M := []) (n := 1) [pv (121 : Nat) (V.sl (2 : Nat) (List.length q) fun (k : Nat) => [V.i (Prod.fst (gp q k)), V.i (Prod.snd (gp q k))])] (by kernel_rfl) (by kernel_rfl) True.intro ?_
    refine e_call (first := []) (caps := []) (S2) (by kernel_rfl) (by kernel_rfl) (by kernel_rfl) (by kernel_rfl) (by kernel_rfl) ?_
    refine aops_n hTT (M := []) (n := 7) [pv (120 : Nat) (V.tup [V.sl (1 : Nat) (List.length (spM p)) fun (k : Nat) => [V.i (gi (spM p) k)], V.sl (1 : Nat) (List.length (spD q)) fun (k : Nat) => [V.i (gi (spD q) k)], V.i (0 : Int)]), pv (123 : Nat) (V.sl (1 : Nat) (List.length (spM p)) fun (k : Nat) => [V.i (gi (spM p) k)]), pv (124 : Nat) (V.sl (1 : Nat) (List.length (spD q)) fun (k : Nat) => [V.i (gi (spD q) k)]), pv (125 : Nat) (V.i (0 : Int)), pv (14 : Nat) (V.sl (1 : Nat) (List.length (spM p)) fun (k : Nat) => [V.i (gi (spM p) k)]), pv (15 : Nat) (V.sl (1 : Nat) (List.length (spD q)) fun (k : Nat) => [V.i (gi (spD q) k)]), pv (16 : Nat) (V.i (0 : Int))] (by kernel_rfl) (by kernel_rfl) True.intro ?_
    refine aops_nil ?_
    refine xt_n ?_
    refine hK _ ?_
    clear hK K
    refine aw_seq_k fun K hK => ?_
    refine w_region (n' := 12) (by kernel_rfl) (by kernel_rfl) ?_
    refine aops_n hTT (M := []) (n := 2) [pv (127 : Nat) (V.agg [V.sl (1 : Nat) (List.length (Cv.feed c)) fun (k : Nat) => [V.i (gi (Cv.feed c) k)], V.sl (1 : Nat) (List.length (Cv.back c)) fun (k : Nat) => [V.i (gi (Cv.back c) k)], V.i (Cv.share c)]), pv (128 : Nat) (V.sl (2 : Nat) (List.length q) fun (k : Nat) => [V.i (Prod.fst (gp q k)), V.i (Prod.snd (gp q k))])] (by kernel_rfl) (by kernel_rfl) True.intro ?_
    refine e_call (first := []) (caps := []) (W2) (by kernel_rfl) (by kernel_rfl) (by kernel_rfl) (by kernel_rfl) (by kernel_rfl) ?_
    refine aops_n hTT (M := []) (n := 5) [pv (126 : Nat) (V.tup [V.sl (2 : Nat) (List.length p) fun (k : Nat) => [V.i (Prod.fst (gp p k)), V.i (Prod.snd (gp p k))], V.i (0 : Int)]), pv (130 : Nat) (V.sl (2 : Nat) (List.length p) fun (k : Nat) => [V.i (Prod.fst (gp p k)), V.i (Prod.snd (gp p k))]), pv (131 : Nat) (V.i (0 : Int)), pv (17 : Nat) (V.sl (2 : Nat) (List.length p) fun (k : Nat) => [V.i (Prod.fst (gp p k)), V.i (Prod.snd (gp p k))]), pv (18 : Nat) (V.i (0 : Int))] (by kernel_rfl) (by kernel_rfl) True.intro ?_
    refine aops_nil ?_
    refine xt_n ?_
    refine hK _ ?_
    clear hK K
    refine aw_seq_k fun K hK => ?_
    refine w_region (n' := 13) (by kernel_rfl) (by kernel_rfl) ?_
    refine aops_n hTT (M := []) (n := 9) [pv (132 : Nat) (V.i (0 : Int)), pv (133 : Nat) (V.b false), pv (134 : Nat) (V.b false), pc (135 : Nat) ((True ∧ True) ∧ ((false == false) = true → True)) (V.gd (false == false) (V.i (0 : Int))), pc (136 : Nat) ((((false == false) = true → (false == false) = true) ∧ True ∧ True) ∧ ((false == false) = true → True)) (V.gd (false == false) (V.b false)), pc (137 : Nat) (True ∧ (false = false → (false == false) = true)) (V.b false), pv (138 : Nat) (V.b false), pc (139 : Nat) ((True ∧ True) ∧ ((false == false) = true → True)) (V.gd (false == false) (V.sl (1 : Nat) (List.length (spM p)) fun (k : Nat) => [V.i (gi (spM p) k)])), pc (140 : Nat) ((True ∧ True) ∧ ((false == false) = true → True)) (V.gd (false == false) (V.sl (1 : Nat) (List.length (spM p)) fun (k : Nat) => [V.i (gi (spM p) k)]))] (by kernel_rfl) (by kernel_rfl) ⟨⟨⟨True.intro, True.intro⟩, (fun _ => True.intro)⟩, ⟨⟨(by (exact fun h => h)), ⟨True.intro, True.intro⟩⟩, (fun _ => True.intro)⟩, ⟨True.intro, (by (intro h; rw [h]; rfl))⟩, ⟨⟨True.intro, True.intro⟩, (fun _ => True.intro)⟩, ⟨⟨True.intro, True.intro⟩, (fun _ => True.intro)⟩, True.intro⟩ ?_
    refine e_callG 2 (g := false == false) (first := []) (caps := []) (by kernel_rfl) (fun h => same_ints ms) (by kernel_rfl) (by kernel_rfl) (by kernel_rfl) (by kernel_rfl) (by kernel_rfl) (by kernel_rfl) ?_
    refine aops_n hTT (M := []) (n := 5) [pc (142 : Nat) ((((false == false) = true → (false == false) = true) ∧ True) ∧ ((false == false) = true → True)) (V.gd (false == false) (V.b false)), pc (143 : Nat) (True ∧ (false = false → (false == false) = true)) (V.b false), pv (144 : Nat) (V.b false), pc (145 : Nat) ((True ∧ True) ∧ ((false == false) = true → True)) (V.gd (false == false) (V.sl (2 : Nat) (List.length p) fun (k : Nat) => [V.i (Prod.fst (gp p k)), V.i (Prod.snd (gp p k))])), pc (146 : Nat) ((True ∧ True) ∧ ((false == false) = true → True)) (V.gd (false == false) (V.sl (2 : Nat) (List.length p) fun (k : Nat) => [V.i (Prod.fst (gp p k)), V.i (Prod.snd (gp p k))]))] (by kernel_rfl) (by kernel_rfl) ⟨⟨⟨(by (exact fun h => h)), True.intro⟩, (fun _ => True.intro)⟩, ⟨True.intro, (by (intro h; rw [h]; rfl))⟩, ⟨⟨True.intro, True.intro⟩, (fun _ => True.intro)⟩, ⟨⟨True.intro, True.intro⟩, (fun _ => True.intro)⟩, True.intro⟩ ?_
    refine e_callG 2 (g := false == false) (first := []) (caps := []) (by kernel_rfl) (fun h => same_pts hp) (by kernel_rfl) (by kernel_rfl) (by kernel_rfl) (by kernel_rfl) (by kernel_rfl) (by kernel_rfl) ?_
    refine aops_n hTT (M := []) (n := 2) [pc (148 : Nat) ((((false == false) = true → (false == false) = true) ∧ True) ∧ ((false == false) = true → True)) (V.gd (false == false) (V.b false)), pc (149 : Nat) (True ∧ (false = false → (false == false) = true)) (V.b false)] (by kernel_rfl) (by kernel_rfl) ⟨⟨⟨(by (exact fun h => h)), True.intro⟩, (fun _ => True.intro)⟩, ⟨True.intro, (by (intro h; rw [h]; rfl))⟩, True.intro⟩ ?_
    refine aops_nil ?_
    refine xt_n ?_
    refine hK _ ?_
    clear hK K
    refine w_false (t := false) (by kernel_rfl) rfl ?_
    refine aw_skip ?_
    refine xt_n ?_
    refine hK _ ?_
    clear hK K
    refine aw_seq_k fun K hK => ?_
    refine w_region (n' := 14) (by kernel_rfl) (by kernel_rfl) ?_
    refine aops_n hTT (M := []) (n := 2) [pv (151 : Nat) (V.agg [V.sl (1 : Nat) (List.length (Cv.feed c)) fun (k : Nat) => [V.i (gi (Cv.feed c) k)], V.sl (1 : Nat) (List.length (Cv.back c)) fun (k : Nat) => [V.i (gi (Cv.back c) k)], V.i (Cv.share c)]), pv (152 : Nat) (V.sl (2 : Nat) (List.length p) fun (k : Nat) => [V.i (Prod.fst (gp p k)), V.i (Prod.snd (gp p k))])] (by kernel_rfl) (by kernel_rfl) True.intro ?_
    rcases sd_or (u := true) v2 v3 with e2 | ⟨e2, r1, r2, r3⟩
    · rw [e2] at WW
      refine e_call (first := []) (caps := []) (WW) (by kernel_rfl) (by kernel_rfl) (by kernel_rfl) (by kernel_rfl) (by kernel_rfl) ?_
      refine aops_n hTT (M := []) (n := 5) [pv (150 : Nat) (V.tup [V.sl (2 : Nat) (List.length (Prod.snd (sdR c true p))) fun (k : Nat) => [V.i (Prod.fst (gp (Prod.snd (sdR c true p)) k)), V.i (Prod.snd (gp (Prod.snd (sdR c true p)) k))], V.i (4 : Int)]), pv (154 : Nat) (V.sl (2 : Nat) (List.length (Prod.snd (sdR c true p))) fun (k : Nat) => [V.i (Prod.fst (gp (Prod.snd (sdR c true p)) k)), V.i (Prod.snd (gp (Prod.snd (sdR c true p)) k))]), pv (155 : Nat) (V.i (4 : Int)), pv (9 : Nat) (V.sl (2 : Nat) (List.length (Prod.snd (sdR c true p))) fun (k : Nat) => [V.i (Prod.fst (gp (Prod.snd (sdR c true p)) k)), V.i (Prod.snd (gp (Prod.snd (sdR c true p)) k))]), pv (10 : Nat) (V.i (4 : Int))] (by kernel_rfl) (by kernel_rfl) True.intro ?_
      refine aops_nil ?_
      refine xt_n ?_
      refine hK _ ?_
      clear hK K
      refine aw_seq_k fun K hK => ?_
      refine aw_seq_k fun K hK => ?_
      refine w_region (n' := 15) (by kernel_rfl) (by kernel_rfl) ?_
      refine aops_n hTT (M := []) (n := 2) [pv (156 : Nat) (V.i (4 : Int)), pv (157 : Nat) (V.b false)] (by kernel_rfl) (by kernel_rfl) True.intro ?_
      refine aops_nil ?_
      refine xt_n ?_
      refine hK _ ?_
      clear hK K
      refine w_false (t := false) (by kernel_rfl) rfl ?_
      refine aw_skip ?_
      refine xt_n ?_
      refine hK _ ?_
      clear hK K
      refine aw_seq_k fun K hK => ?_
      refine w_region (n' := 16) (by kernel_rfl) (by kernel_rfl) ?_
      refine aops_n hTT (M := []) (n := 15) [pv (188 : Nat) (V.i (0 : Int)), pv (189 : Nat) (V.b true), pv (190 : Nat) (V.b true), pc (191 : Nat) ((True ∧ True) ∧ ((true == false) = true → True)) (V.gd (true == false) (V.i (0 : Int))), pc (192 : Nat) ((((true == false) = true → (true == false) = true) ∧ True ∧ True) ∧ ((true == false) = true → True)) (V.gd (true == false) (V.b false)), pc (193 : Nat) (True ∧ (true = false → (true == false) = true)) (V.b true), pv (194 : Nat) (V.b true), pc (195 : Nat) ((True ∧ True) ∧ ((true == true) = true → True)) (V.gd (true == true) (V.i (4 : Int))), pc (196 : Nat) ((((true == true) = true → (true == true) = true) ∧ True ∧ True) ∧ ((true == true) = true → True)) (V.gd (true == true) (V.b false)), pc (197 : Nat) ((((true == true) = true → (true == true) = true) ∧ True) ∧ ((true == true) = true → True)) (V.gd (true == true) (V.b false)), pc (198 : Nat) ((True ∧ True) ∧ ((true == true && false == false) = true → True)) (V.gd (true == true && false == false) (V.i (4 : Int))), pc (199 : Nat) ((((true == true && false == false) = true → (true == true && false == false) = true) ∧ True ∧ True) ∧ ((true == true && false == false) = true → True)) (V.gd (true == true && false == false) (V.b true)), pc (200 : Nat) (((true == true) = true → (true == true) = true) ∧ ((true == true) = true → True) ∧ ((true == true) = true → false = false → (true == true && false == false) = true)) (V.gd (true == true) (V.b true)), pc (201 : Nat) ((true = true → (true == true) = true) ∧ True) (V.b true), pv (202 : Nat) (V.b true)] (by kernel_rfl) (by kernel_rfl) ⟨⟨⟨True.intro, True.intro⟩, (fun _ => True.intro)⟩, ⟨⟨(by (exact fun h => h)), ⟨True.intro, True.intro⟩⟩, (fun _ => True.intro)⟩, ⟨True.intro, (by (intro h; simp at h; done))⟩, ⟨⟨True.intro, True.intro⟩, (fun _ => True.intro)⟩, ⟨⟨(by (exact fun h => h)), ⟨True.intro, True.intro⟩⟩, (fun _ => True.intro)⟩, ⟨⟨(by (exact fun h => h)), True.intro⟩, (fun _ => True.intro)⟩, ⟨⟨True.intro, True.intro⟩, (fun _ => True.intro)⟩, ⟨⟨(by (exact fun h => h)), ⟨True.intro, True.intro⟩⟩, (fun _ => True.intro)⟩, ⟨(by (exact fun h => h)), ⟨(fun _ => True.intro), (by (intro _; simp; done))⟩⟩, ⟨(by (exact fun h => h)), True.intro⟩, True.intro⟩ ?_
      refine e_callG 0 (g := true == true) (first := []) (caps := []) (by kernel_rfl) (fun h => works_ac) (by kernel_rfl) (by kernel_rfl) (by kernel_rfl) (by kernel_rfl) (by kernel_rfl) (by kernel_rfl) ?_
      refine aops_n hTT (M := []) (n := 2) [pc (204 : Nat) ((true = true → (true == true) = true) ∧ True) (V.b true), pv (4 : Nat) (V.b true)] (by kernel_rfl) (by kernel_rfl) ⟨⟨(by (exact fun h => h)), True.intro⟩, True.intro⟩ ?_
      refine aops_nil ?_
      refine xt_n ?_
      refine hK _ ?_
      clear hK K
      refine aw_ret ?_
      refine ret_pure (v' := V.b true) (.inr rfl) (by kernel_rfl) (by kernel_rfl) (by kernel_rfl)
    · have hb := sdR_len (c := c) (u := true) hp
      rw [e2] at WW
      generalize (sdR c true p).2 = r at WW r1 r2 r3 hb
      have S3 := Split_ac r hb
      rw [(sp_yes r1).1, (sp_yes r1).2, r1, r2] at S3
      have N3 := Narrow_ac c r hc hb
      rw [show sdR c false r = (0, p) from r3] at N3
      refine e_call (first := []) (caps := []) (WW) (by kernel_rfl) (by kernel_rfl) (by kernel_rfl) (by kernel_rfl) (by kernel_rfl) ?_
      refine aops_n hTT (M := []) (n := 5) [pv (150 : Nat) (V.tup [V.sl (2 : Nat) (List.length r) fun (k : Nat) => [V.i (Prod.fst (gp r k)), V.i (Prod.snd (gp r k))], V.i (0 : Int)]), pv (154 : Nat) (V.sl (2 : Nat) (List.length r) fun (k : Nat) => [V.i (Prod.fst (gp r k)), V.i (Prod.snd (gp r k))]), pv (155 : Nat) (V.i (0 : Int)), pv (9 : Nat) (V.sl (2 : Nat) (List.length r) fun (k : Nat) => [V.i (Prod.fst (gp r k)), V.i (Prod.snd (gp r k))]), pv (10 : Nat) (V.i (0 : Int))] (by kernel_rfl) (by kernel_rfl) True.intro ?_
      refine aops_nil ?_
      refine xt_n ?_
      refine hK _ ?_
      clear hK K
      refine aw_seq_k fun K hK => ?_
      refine aw_seq_k fun K hK => ?_
      refine w_region (n' := 15) (by kernel_rfl) (by kernel_rfl) ?_
      refine aops_n hTT (M := []) (n := 2) [pv (156 : Nat) (V.i (0 : Int)), pv (157 : Nat) (V.b true)] (by kernel_rfl) (by kernel_rfl) True.intro ?_
      refine aops_nil ?_
      refine xt_n ?_
      refine hK _ ?_
      clear hK K
      refine w_true (t := true) (by kernel_rfl) rfl ?_
      refine aw_seq_k fun K hK => ?_
      refine w_region (n' := 16) (by kernel_rfl) (by kernel_rfl) ?_
      refine aops_n hTT (M := []) (n := 1) [pv (159 : Nat) (V.sl (2 : Nat) (List.length r) fun (k : Nat) => [V.i (Prod.fst (gp r k)), V.i (Prod.snd (gp r k))])] (by kernel_rfl) (by kernel_rfl) True.intro ?_
      refine e_call (first := []) (caps := []) (S3) (by kernel_rfl) (by kernel_rfl) (by kernel_rfl) (by kernel_rfl) (by kernel_rfl) ?_
      refine aops_n hTT (M := []) (n := 7) [pv (158 : Nat) (V.tup [V.sl (1 : Nat) (List.length (spM p)) fun (k : Nat) => [V.i (gi (spM p) k)], V.sl (1 : Nat) (List.length (spD r)) fun (k : Nat) => [V.i (gi (spD r) k)], V.i (0 : Int)]), pv (161 : Nat) (V.sl (1 : Nat) (List.length (spM p)) fun (k : Nat) => [V.i (gi (spM p) k)]), pv (162 : Nat) (V.sl (1 : Nat) (List.length (spD r)) fun (k : Nat) => [V.i (gi (spD r) k)]), pv (163 : Nat) (V.i (0 : Int)), pv (19 : Nat) (V.sl (1 : Nat) (List.length (spM p)) fun (k : Nat) => [V.i (gi (spM p) k)]), pv (20 : Nat) (V.sl (1 : Nat) (List.length (spD r)) fun (k : Nat) => [V.i (gi (spD r) k)]), pv (21 : Nat) (V.i (0 : Int))] (by kernel_rfl) (by kernel_rfl) True.intro ?_
      refine aops_nil ?_
      refine xt_n ?_
      refine hK _ ?_
      clear hK K
      refine aw_seq_k fun K hK => ?_
      refine w_region (n' := 17) (by kernel_rfl) (by kernel_rfl) ?_
      refine aops_n hTT (M := []) (n := 2) [pv (165 : Nat) (V.agg [V.sl (1 : Nat) (List.length (Cv.feed c)) fun (k : Nat) => [V.i (gi (Cv.feed c) k)], V.sl (1 : Nat) (List.length (Cv.back c)) fun (k : Nat) => [V.i (gi (Cv.back c) k)], V.i (Cv.share c)]), pv (166 : Nat) (V.sl (2 : Nat) (List.length r) fun (k : Nat) => [V.i (Prod.fst (gp r k)), V.i (Prod.snd (gp r k))])] (by kernel_rfl) (by kernel_rfl) True.intro ?_
      refine e_call (first := []) (caps := []) (N3) (by kernel_rfl) (by kernel_rfl) (by kernel_rfl) (by kernel_rfl) (by kernel_rfl) ?_
      refine aops_n hTT (M := []) (n := 5) [pv (164 : Nat) (V.tup [V.sl (2 : Nat) (List.length p) fun (k : Nat) => [V.i (Prod.fst (gp p k)), V.i (Prod.snd (gp p k))], V.i (0 : Int)]), pv (168 : Nat) (V.sl (2 : Nat) (List.length p) fun (k : Nat) => [V.i (Prod.fst (gp p k)), V.i (Prod.snd (gp p k))]), pv (169 : Nat) (V.i (0 : Int)), pv (22 : Nat) (V.sl (2 : Nat) (List.length p) fun (k : Nat) => [V.i (Prod.fst (gp p k)), V.i (Prod.snd (gp p k))]), pv (23 : Nat) (V.i (0 : Int))] (by kernel_rfl) (by kernel_rfl) True.intro ?_
      refine aops_nil ?_
      refine xt_n ?_
      refine hK _ ?_
      clear hK K
      refine aw_seq_k fun K hK => ?_
      refine w_region (n' := 18) (by kernel_rfl) (by kernel_rfl) ?_
      refine aops_n hTT (M := []) (n := 9) [pv (170 : Nat) (V.i (0 : Int)), pv (171 : Nat) (V.b false), pv (172 : Nat) (V.b false), pc (173 : Nat) ((True ∧ True) ∧ ((false == false) = true → True)) (V.gd (false == false) (V.i (0 : Int))), pc (174 : Nat) ((((false == false) = true → (false == false) = true) ∧ True ∧ True) ∧ ((false == false) = true → True)) (V.gd (false == false) (V.b false)), pc (175 : Nat) (True ∧ (false = false → (false == false) = true)) (V.b false), pv (176 : Nat) (V.b false), pc (177 : Nat) ((True ∧ True) ∧ ((false == false) = true → True)) (V.gd (false == false) (V.sl (1 : Nat) (List.length (spM p)) fun (k : Nat) => [V.i (gi (spM p) k)])), pc (178 : Nat) ((True ∧ True) ∧ ((false == false) = true → True)) (V.gd (false == false) (V.sl (1 : Nat) (List.length (spM p)) fun (k : Nat) => [V.i (gi (spM p) k)]))] (by kernel_rfl) (by kernel_rfl) ⟨⟨⟨True.intro, True.intro⟩, (fun _ => True.intro)⟩, ⟨⟨(by (exact fun h => h)), ⟨True.intro, True.intro⟩⟩, (fun _ => True.intro)⟩, ⟨True.intro, (by (intro h; rw [h]; rfl))⟩, ⟨⟨True.intro, True.intro⟩, (fun _ => True.intro)⟩, ⟨⟨True.intro, True.intro⟩, (fun _ => True.intro)⟩, True.intro⟩ ?_
      refine e_callG 2 (g := false == false) (first := []) (caps := []) (by kernel_rfl) (fun h => same_ints ms) (by kernel_rfl) (by kernel_rfl) (by kernel_rfl) (by kernel_rfl) (by kernel_rfl) (by kernel_rfl) ?_
      refine aops_n hTT (M := []) (n := 5) [pc (180 : Nat) ((((false == false) = true → (false == false) = true) ∧ True) ∧ ((false == false) = true → True)) (V.gd (false == false) (V.b false)), pc (181 : Nat) (True ∧ (false = false → (false == false) = true)) (V.b false), pv (182 : Nat) (V.b false), pc (183 : Nat) ((True ∧ True) ∧ ((false == false) = true → True)) (V.gd (false == false) (V.sl (2 : Nat) (List.length p) fun (k : Nat) => [V.i (Prod.fst (gp p k)), V.i (Prod.snd (gp p k))])), pc (184 : Nat) ((True ∧ True) ∧ ((false == false) = true → True)) (V.gd (false == false) (V.sl (2 : Nat) (List.length p) fun (k : Nat) => [V.i (Prod.fst (gp p k)), V.i (Prod.snd (gp p k))]))] (by kernel_rfl) (by kernel_rfl) ⟨⟨⟨(by (exact fun h => h)), True.intro⟩, (fun _ => True.intro)⟩, ⟨True.intro, (by (intro h; rw [h]; rfl))⟩, ⟨⟨True.intro, True.intro⟩, (fun _ => True.intro)⟩, ⟨⟨True.intro, True.intro⟩, (fun _ => True.intro)⟩, True.intro⟩ ?_
      refine e_callG 2 (g := false == false) (first := []) (caps := []) (by kernel_rfl) (fun h => same_pts hp) (by kernel_rfl) (by kernel_rfl) (by kernel_rfl) (by kernel_rfl) (by kernel_rfl) (by kernel_rfl) ?_
      refine aops_n hTT (M := []) (n := 2) [pc (186 : Nat) ((((false == false) = true → (false == false) = true) ∧ True) ∧ ((false == false) = true → True)) (V.gd (false == false) (V.b false)), pc (187 : Nat) (True ∧ (false = false → (false == false) = true)) (V.b false)] (by kernel_rfl) (by kernel_rfl) ⟨⟨⟨(by (exact fun h => h)), True.intro⟩, (fun _ => True.intro)⟩, ⟨True.intro, (by (intro h; rw [h]; rfl))⟩, True.intro⟩ ?_
      refine aops_nil ?_
      refine xt_n ?_
      refine hK _ ?_
      clear hK K
      refine w_false (t := false) (by kernel_rfl) rfl ?_
      refine aw_skip ?_
      refine xt_n ?_
      refine hK _ ?_
      clear hK K
      refine aw_seq_k fun K hK => ?_
      refine w_region (n' := 19) (by kernel_rfl) (by kernel_rfl) ?_
      refine aops_n hTT (M := []) (n := 15) [pv (188 : Nat) (V.i (0 : Int)), pv (189 : Nat) (V.b true), pv (190 : Nat) (V.b true), pc (191 : Nat) ((True ∧ True) ∧ ((true == false) = true → True)) (V.gd (true == false) (V.i (0 : Int))), pc (192 : Nat) ((((true == false) = true → (true == false) = true) ∧ True ∧ True) ∧ ((true == false) = true → True)) (V.gd (true == false) (V.b false)), pc (193 : Nat) (True ∧ (true = false → (true == false) = true)) (V.b true), pv (194 : Nat) (V.b true), pc (195 : Nat) ((True ∧ True) ∧ ((true == true) = true → True)) (V.gd (true == true) (V.i (0 : Int))), pc (196 : Nat) ((((true == true) = true → (true == true) = true) ∧ True ∧ True) ∧ ((true == true) = true → True)) (V.gd (true == true) (V.b true)), pc (197 : Nat) ((((true == true) = true → (true == true) = true) ∧ True) ∧ ((true == true) = true → True)) (V.gd (true == true) (V.b true)), pc (198 : Nat) ((True ∧ True) ∧ ((true == true && true == false) = true → True)) (V.gd (true == true && true == false) (V.i (0 : Int))), pc (199 : Nat) ((((true == true && true == false) = true → (true == true && true == false) = true) ∧ True ∧ True) ∧ ((true == true && true == false) = true → True)) (V.gd (true == true && true == false) (V.b false)), pc (200 : Nat) (((true == true) = true → (true == true) = true) ∧ ((true == true) = true → True) ∧ ((true == true) = true → true = false → (true == true && true == false) = true)) (V.gd (true == true) (V.b true)), pc (201 : Nat) ((true = true → (true == true) = true) ∧ True) (V.b true), pv (202 : Nat) (V.b true)] (by kernel_rfl) (by kernel_rfl) ⟨⟨⟨True.intro, True.intro⟩, (fun _ => True.intro)⟩, ⟨⟨(by (exact fun h => h)), ⟨True.intro, True.intro⟩⟩, (fun _ => True.intro)⟩, ⟨True.intro, (by (intro h; simp at h; done))⟩, ⟨⟨True.intro, True.intro⟩, (fun _ => True.intro)⟩, ⟨⟨(by (exact fun h => h)), ⟨True.intro, True.intro⟩⟩, (fun _ => True.intro)⟩, ⟨⟨(by (exact fun h => h)), True.intro⟩, (fun _ => True.intro)⟩, ⟨⟨True.intro, True.intro⟩, (fun _ => True.intro)⟩, ⟨⟨(by (exact fun h => h)), ⟨True.intro, True.intro⟩⟩, (fun _ => True.intro)⟩, ⟨(by (exact fun h => h)), ⟨(fun _ => True.intro), (by (intro _; simp; done))⟩⟩, ⟨(by (exact fun h => h)), True.intro⟩, True.intro⟩ ?_
      refine e_callG 0 (g := true == true) (first := []) (caps := []) (by kernel_rfl) (fun h => works_ac) (by kernel_rfl) (by kernel_rfl) (by kernel_rfl) (by kernel_rfl) (by kernel_rfl) (by kernel_rfl) ?_
      refine aops_n hTT (M := []) (n := 2) [pc (204 : Nat) ((true = true → (true == true) = true) ∧ True) (V.b true), pv (4 : Nat) (V.b true)] (by kernel_rfl) (by kernel_rfl) ⟨⟨(by (exact fun h => h)), True.intro⟩, True.intro⟩ ?_
      refine aops_nil ?_
      refine xt_n ?_
      refine hK _ ?_
      clear hK K
      refine aw_ret ?_
      refine ret_pure (v' := V.b true) (.inr rfl) (by kernel_rfl) (by kernel_rfl) (by kernel_rfl)
def monoSh : List Sh := [(.fld (.sl (.int .i64)) (.fld (.sl (.int .i64)) (.lst (.int .i64)))), (.sl (.fld (.int .i64) (.lst (.int .i64))))]
theorem mono_all (x : TL monoSh) (hx : wfL monoSh x) : AC Try.prog 18 (valL monoSh x) (V.b true) [] := by
  obtain ⟨⟨f, b, s⟩, p, _⟩ := x
  obtain ⟨⟨⟨h1, _⟩, ⟨h2, _⟩, h3⟩, ⟨h4, _⟩, _⟩ := hx
  exact mono_law ⟨f, b, s⟩ p ⟨h1, h2⟩ h4
end Go.Proofs.Ytblipieipldanaa
