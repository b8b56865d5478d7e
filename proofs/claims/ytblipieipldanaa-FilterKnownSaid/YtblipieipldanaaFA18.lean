/-
  Programmes that are narrowed and widened: both copies. Conditions: told in each theorem.
-/
import Derived.Test.YtblipieipldanaaFA17
import Derived.Test.YtblipieipldanaaFA10
namespace Go.Proofs.Ytblipieipldanaa
open Go.Ab Go.RowKit Go.Dw Go.Shelf

set_option maxRecDepth 100000 in
theorem sided_ac (c : Cv) (p : List Pt) (u : Bool) (hc : cvL c) (hp : p.length ≤ bigL) : AC Try.prog 81 [V.cv c, V.pts p, .b u] (.tup [V.pts (sdR c u p).2, .i (sdR c u p).1]) [] := by
  refine ac_intro hTT hMX (fn := Try.f81) (N := _) ⟨Try.func81, rfl, Try.ntmps81, by kernel_rfl⟩ (by simp) fun C hC hF => ?_
  refine aw_seq_k fun K hK => ?_
  refine w_region (n' := 2) (by kernel_rfl) (by kernel_rfl) ?_
  refine aops_n hTT (M := []) (n := 3) [pv (3 : Nat) (V.ptr [V.sl (1 : Nat) (List.length (Cv.feed c)) fun (k : Nat) => [V.i (gi (Cv.feed c) k)], V.sl (1 : Nat) (List.length (Cv.back c)) fun (k : Nat) => [V.i (gi (Cv.back c) k)], V.i (Cv.share c)]), pv (6 : Nat) V.nil, pv (7 : Nat) (V.i (0 : Int))] (by kernel_rfl) (by kernel_rfl) True.intro ?_
  refine aops_nil ?_
  refine xt_n ?_
  refine hK _ ?_
  clear hK K
  refine aw_seq_k fun K hK => ?_
  refine aw_seq_k fun K hK => ?_
  refine w_region (n' := 3) (by kernel_rfl) (by kernel_rfl) ?_
  refine aops_n hTT (M := []) (n := 1) [pv (13 : Nat) (V.agg [V.sl (1 : Nat) (List.length (Cv.feed c)) fun (k : Nat) => [V.i (gi (Cv.feed c) k)], V.sl (1 : Nat) (List.length (Cv.back c)) fun (k : Nat) => [V.i (gi (Cv.back c) k)], V.i (Cv.share c)])] (by kernel_rfl) (by kernel_rfl) True.intro ?_
  refine e_call (first := []) (caps := []) (CheckCurve_ac c hc) (by kernel_rfl) (by kernel_rfl) (by kernel_rfl) (by kernel_rfl) (by kernel_rfl) ?_
  refine aops_n hTT (M := []) (n := 1) [pv (8 : Nat) (V.i (cvE c))] (by kernel_rfl) (by kernel_rfl) True.intro ?_
  refine aops_nil ?_
  refine xt_n ?_
  refine hK _ ?_
  clear hK K
  refine aw_seq_k fun K hK => ?_
  refine w_region (n' := 4) (by kernel_rfl) (by kernel_rfl) ?_
  refine aops_n hTT (M := []) (n := 2) [pv (15 : Nat) (V.i (cvE c)), pv (16 : Nat) (V.b !decide (cvE c = (0 : Int)))] (by kernel_rfl) (by kernel_rfl) True.intro ?_
  refine aops_nil ?_
  refine xt_n ?_
  refine hK _ ?_
  clear hK K
  refine w_cond (t := !decide (cvE c = (0 : Int))) (by kernel_rfl) (fun c1 => ?_) (fun c1 => ?_)
  · simp at c1
    refine aw_seq_k fun K hK => ?_
    refine w_region (n' := 5) (by kernel_rfl) (by kernel_rfl) ?_
    refine aops_n hTT (M := []) (n := 3) [pv (17 : Nat) (V.i (cvE c)), pv (6 : Nat) V.nil, pv (7 : Nat) (V.i (cvE c))] (by kernel_rfl) (by kernel_rfl) True.intro ?_
    refine aops_nil ?_
    refine xt_n ?_
    refine hK _ ?_
    clear hK K
    refine aw_ret ?_
    refine xt_r ?_
    rw [sd_1 c1]
    refine ret_of_le (le_nil 6 (sz := 2) 0 (fun k => [.i (gp [] k).1, .i (gp [] k).2]) (by kernel_rfl) ?_) ?_
    · rfl
    refine ret_pure (v' := V.tup [V.sl (2 : Nat) (0 : Nat) fun (k : Nat) => [V.i (Prod.fst (gp [] k)), V.i (Prod.snd (gp [] k))], V.i (cvE c)]) (.inr rfl) (by kernel_rfl) (by kernel_rfl) (by kernel_rfl)
  simp at c1
  refine aw_skip ?_
  refine xt_n ?_
  refine hK _ ?_
  clear hK K
  refine aw_seq_k fun K hK => ?_
  refine aw_seq_k fun K hK => ?_
  refine w_region (n' := 5) (by kernel_rfl) (by kernel_rfl) ?_
  refine aops_n hTT (M := []) (n := 1) [pv (18 : Nat) (V.sl (2 : Nat) (List.length p) fun (k : Nat) => [V.i (Prod.fst (gp p k)), V.i (Prod.snd (gp p k))])] (by kernel_rfl) (by kernel_rfl) True.intro ?_
  refine e_call (first := []) (caps := []) (checkProgramme_ac p hp) (by kernel_rfl) (by kernel_rfl) (by kernel_rfl) (by kernel_rfl) (by kernel_rfl) ?_
  refine aops_n hTT (M := []) (n := 1) [pv (9 : Nat) (V.i (progE p))] (by kernel_rfl) (by kernel_rfl) True.intro ?_
  refine aops_nil ?_
  refine xt_n ?_
  refine hK _ ?_
  clear hK K
  refine aw_seq_k fun K hK => ?_
  refine w_region (n' := 6) (by kernel_rfl) (by kernel_rfl) ?_
  refine aops_n hTT (M := []) (n := 2) [pv (20 : Nat) (V.i (progE p)), pv (21 : Nat) (V.b !decide (progE p = (0 : Int)))] (by kernel_rfl) (by kernel_rfl) True.intro ?_
  refine aops_nil ?_
  refine xt_n ?_
  refine hK _ ?_
  clear hK K
  refine w_cond (t := !decide (progE p = (0 : Int))) (by kernel_rfl) (fun c2 => ?_) (fun c2 => ?_)
  · simp at c2
    refine aw_seq_k fun K hK => ?_
    refine w_region (n' := 7) (by kernel_rfl) (by kernel_rfl) ?_
    refine aops_n hTT (M := []) (n := 3) [pv (22 : Nat) (V.i (progE p)), pv (6 : Nat) V.nil, pv (7 : Nat) (V.i (progE p))] (by kernel_rfl) (by kernel_rfl) True.intro ?_
    refine aops_nil ?_
    refine xt_n ?_
    refine hK _ ?_
    clear hK K
    refine aw_ret ?_
    refine xt_r ?_
    rw [sd_2 c1 c2]
    refine ret_of_le (le_nil 6 (sz := 2) 0 (fun k => [.i (gp [] k).1, .i (gp [] k).2]) (by kernel_rfl) ?_) ?_
    · rfl
    refine ret_pure (v' := V.tup [V.sl (2 : Nat) (0 : Nat) fun (k : Nat) => [V.i (Prod.fst (gp [] k)), V.i (Prod.snd (gp [] k))], V.i (progE p)]) (.inr rfl) (by kernel_rfl) (by kernel_rfl) (by kernel_rfl)
  simp at c2
  have hl := (progE_ok.1 c2).1
  have hcv : cvOk c := cvE_ok.1 c1
  have hm := spM_le c2
  have hd := spD_le c2
  have hml : (spM p).length ≤ 4096 := by rw [spM_len]; exact hl
  refine aw_skip ?_
  refine xt_n ?_
  refine hK _ ?_
  clear hK K
  refine aw_seq_k fun K hK => ?_
  refine w_region (n' := 7) (by kernel_rfl) (by kernel_rfl) ?_
  refine aops_n hTT (M := []) (n := 1) [pv (24 : Nat) (V.sl (2 : Nat) (List.length p) fun (k : Nat) => [V.i (Prod.fst (gp p k)), V.i (Prod.snd (gp p k))])] (by kernel_rfl) (by kernel_rfl) True.intro ?_
  refine e_call (first := []) (caps := []) (split_ac p c2) (by kernel_rfl) (by kernel_rfl) (by kernel_rfl) (by kernel_rfl) (by kernel_rfl) ?_
  refine aops_n hTT (M := []) (n := 5) [pv (23 : Nat) (V.tup [V.sl (1 : Nat) (List.length (spM p)) fun (k : Nat) => [V.i (gi (spM p) k)], V.sl (1 : Nat) (List.length (spD p)) fun (k : Nat) => [V.i (gi (spD p) k)]]), pv (26 : Nat) (V.sl (1 : Nat) (List.length (spM p)) fun (k : Nat) => [V.i (gi (spM p) k)]), pv (27 : Nat) (V.sl (1 : Nat) (List.length (spD p)) fun (k : Nat) => [V.i (gi (spD p) k)]), pv (10 : Nat) (V.sl (1 : Nat) (List.length (spM p)) fun (k : Nat) => [V.i (gi (spM p) k)]), pv (11 : Nat) (V.sl (1 : Nat) (List.length (spD p)) fun (k : Nat) => [V.i (gi (spD p) k)])] (by kernel_rfl) (by kernel_rfl) True.intro ?_
  refine aops_nil ?_
  refine xt_n ?_
  refine hK _ ?_
  clear hK K
  refine aw_seq_k fun K hK => ?_
  refine w_region (n' := 8) (by kernel_rfl) (by kernel_rfl) ?_
  refine aops_n hTT (M := []) (n := 3) [pv (29 : Nat) (V.sl (1 : Nat) (List.length (spD p)) fun (k : Nat) => [V.i (gi (spD p) k)]), pv (30 : Nat) (V.agg [V.sl (1 : Nat) (List.length (Cv.feed c)) fun (k : Nat) => [V.i (gi (Cv.feed c) k)], V.sl (1 : Nat) (List.length (Cv.back c)) fun (k : Nat) => [V.i (gi (Cv.back c) k)], V.i (Cv.share c)]), pv (31 : Nat) (V.b u)] (by kernel_rfl) (by kernel_rfl) True.intro ?_
  refine aops_callN (first := []) (caps := []) (v' := V.fn (Fn.func (105 : Nat)) [] [V.ptr [V.b u], V.ref (700032 : Nat) (0 : Nat)]) (δ := [(700032, Option.some (Ob.box (108 : Nat) [V.ref (701032 : Nat) (0 : Nat)])), (701032, Option.some (Ob.box (113 : Nat) [V.i (gi [] (((0 : Nat) + (7 : Nat)) % (8 : Nat))), V.i (gi [] (((0 : Nat) + (6 : Nat)) % (8 : Nat))), V.i (gi [] (((0 : Nat) + (5 : Nat)) % (8 : Nat))), V.i (gi [] (((0 : Nat) + (4 : Nat)) % (8 : Nat))), V.i (gi [] (((0 : Nat) + (3 : Nat)) % (8 : Nat))), V.i (gi [] (((0 : Nat) + (2 : Nat)) % (8 : Nat))), V.i (gi [] (((0 : Nat) + (1 : Nat)) % (8 : Nat))), V.i (gi [] ((0 : Nat) % (8 : Nat))), V.i (↑(0 : Nat) : Int), V.i (gi [] (((0 : Nat) + (7 : Nat)) % (8 : Nat))), V.i (gi [] (((0 : Nat) + (6 : Nat)) % (8 : Nat))), V.i (gi [] (((0 : Nat) + (5 : Nat)) % (8 : Nat))), V.i (gi [] (((0 : Nat) + (4 : Nat)) % (8 : Nat))), V.i (gi [] (((0 : Nat) + (3 : Nat)) % (8 : Nat))), V.i (gi [] (((0 : Nat) + (2 : Nat)) % (8 : Nat))), V.i (gi [] (((0 : Nat) + (1 : Nat)) % (8 : Nat))), V.i (gi [] ((0 : Nat) % (8 : Nat))), V.i (↑(0 : Nat) : Int), V.sl (1 : Nat) (List.length (Cv.feed c)) fun (k : Nat) => [V.i (gi (Cv.feed c) k)], V.sl (1 : Nat) (List.length (Cv.back c)) fun (k : Nat) => [V.i (gi (Cv.back c) k)], V.i (Cv.share c)]))]) (fStep_ac c u) (by kernel_rfl) (by kernel_rfl) (by kernel_rfl) (by kernel_rfl) (by kernel_rfl) (by kernel_rfl) (by kernel_rfl) ?_
  skip
  refine e_call (first := []) (caps := []) (within_ac 65534) (by kernel_rfl) (by kernel_rfl) (by kernel_rfl) (by kernel_rfl) (by kernel_rfl) ?_
  skip
  rcases fine_or c u (spD p) 65534 with hfi | ⟨j, hj, hb⟩
  · have hr := runI_some hfi
    have hle : AllLe 65534 (resL c u (spD p)) := any_bey.1 (any_resL.2 hfi)
    have hlen : (spM p).length = (resL c u (spD p)).length := by rw [resL_len, spM_len, spD_len]
    refine aops_callM [700032, 701032] (first := []) (caps := []) (ins' := [Ob.box (108 : Nat) [V.ref (701032 : Nat) (0 : Nat)], Ob.box (113 : Nat) [V.i (gi [] (((0 : Nat) + (7 : Nat)) % (8 : Nat))), V.i (gi [] (((0 : Nat) + (6 : Nat)) % (8 : Nat))), V.i (gi [] (((0 : Nat) + (5 : Nat)) % (8 : Nat))), V.i (gi [] (((0 : Nat) + (4 : Nat)) % (8 : Nat))), V.i (gi [] (((0 : Nat) + (3 : Nat)) % (8 : Nat))), V.i (gi [] (((0 : Nat) + (2 : Nat)) % (8 : Nat))), V.i (gi [] (((0 : Nat) + (1 : Nat)) % (8 : Nat))), V.i (gi [] ((0 : Nat) % (8 : Nat))), V.i (↑(0 : Nat) : Int), V.i (gi [] (((0 : Nat) + (7 : Nat)) % (8 : Nat))), V.i (gi [] (((0 : Nat) + (6 : Nat)) % (8 : Nat))), V.i (gi [] (((0 : Nat) + (5 : Nat)) % (8 : Nat))), V.i (gi [] (((0 : Nat) + (4 : Nat)) % (8 : Nat))), V.i (gi [] (((0 : Nat) + (3 : Nat)) % (8 : Nat))), V.i (gi [] (((0 : Nat) + (2 : Nat)) % (8 : Nat))), V.i (gi [] (((0 : Nat) + (1 : Nat)) % (8 : Nat))), V.i (gi [] ((0 : Nat) % (8 : Nat))), V.i (↑(0 : Nat) : Int), V.sl (1 : Nat) (List.length (Cv.feed c)) fun (k : Nat) => [V.i (gi (Cv.feed c) k)], V.sl (1 : Nat) (List.length (Cv.back c)) fun (k : Nat) => [V.i (gi (Cv.back c) k)], V.i (Cv.share c)]]) (v' := V.tup [V.own (700034 : Nat), V.i (0 : Int)]) (δ := [(700032, Option.none), (701032, Option.none), (700034, Option.some (Ob.row (2 : Nat) (1 : Nat) (List.length (spD p)) fun (i : Nat) => V.renL (nameG (7 : Nat) (some 34) [(700032 : Nat), (701032 : Nat)]) [V.i (gi (resL c u (spD p)) i)]))]) (kp := [700032, 701032]) (each_ok c u (spD p) 65534 hcv (by rw [spD_len]; omega) (by decide) hd hfi) (by kernel_rfl) (by kernel_rfl) (by kernel_rfl) (by kernel_rfl) (by kernel_rfl) (by kernel_rfl) rfl rfl (by kernel_rfl) (.box (by kernel_rfl) (by kernel_rfl) (.box (by kernel_rfl) (by kernel_rfl) .nil)) (by kernel_rfl) (by kernel_rfl) (by kernel_rfl) ?_
    refine aops_n hTT (M := []) (n := 5) [pv (28 : Nat) (V.tup [V.own (700034 : Nat), V.i (0 : Int)]), pv (35 : Nat) (V.own (700034 : Nat)), pv (36 : Nat) (V.i (0 : Int)), pv (11 : Nat) (V.own (700034 : Nat)), pv (12 : Nat) (V.i (0 : Int))] (by kernel_rfl) (by kernel_rfl) True.intro ?_
    refine aops_nil ?_
    refine xt_n ?_
    refine hK _ ?_
    clear hK K
    refine aw_seq_k fun K hK => ?_
    refine aw_seq_k fun K hK => ?_
    refine w_le (le_shut 11 700034 (e := (2 : Nat)) (sz := (1 : Nat)) (n := List.length (spD p)) (n' := (resL c u (spD p)).length) (row := fun (i : Nat) => V.renL (nameG (7 : Nat) (some (34 : Tmp)) [(700032 : Nat), (701032 : Nat)]) [V.i (gi (resL c u (spD p)) i)]) (row' := (fun j => [.i (gi (resL c u (spD p)) j)])) (by kernel_rfl) (by kernel_rfl) (fun _ _ => rfl) ?_ ?_) ?_
    · rw [resL_len]
    · intro i hi
      rfl
    refine w_region (n' := 9) (by kernel_rfl) (by kernel_rfl) ?_
    refine aops_n hTT (M := []) (n := 2) [pv (37 : Nat) (V.i (0 : Int)), pv (38 : Nat) (V.b false)] (by kernel_rfl) (by kernel_rfl) True.intro ?_
    refine aops_nil ?_
    refine xt_n ?_
    refine hK _ ?_
    clear hK K
    refine w_false (t := false) (by kernel_rfl) rfl ?_
    refine aw_skip ?_
    refine xt_n ?_
    refine hK _ ?_
    clear hK K
    refine aw_seq_k fun K hK => ?_
    refine w_region (n' := 10) (by kernel_rfl) (by kernel_rfl) ?_
    refine aops_n hTT (M := []) (n := 2) [pv (40 : Nat) (V.sl (1 : Nat) (List.length (spM p)) fun (k : Nat) => [V.i (gi (spM p) k)]), pv (41 : Nat) (V.sl (1 : Nat) (List.length (resL c u (spD p))) fun (j : Nat) => [V.i (gi (resL c u (spD p)) j)])] (by kernel_rfl) (by kernel_rfl) True.intro ?_
    refine e_call (first := []) (caps := []) (join_ac (spM p) (resL c u (spD p)) hml hlen hm hle) (by kernel_rfl) (by kernel_rfl) (by kernel_rfl) (by kernel_rfl) (by kernel_rfl) ?_
    refine aops_n hTT (M := []) (n := 4) [pv (43 : Nat) (V.sl (2 : Nat) (List.length (jnR (spM p) (resL c u (spD p)))) fun (k : Nat) => [V.i (Prod.fst (gp (jnR (spM p) (resL c u (spD p))) k)), V.i (Prod.snd (gp (jnR (spM p) (resL c u (spD p))) k))]), pv (44 : Nat) (V.i (jnE (spM p) (resL c u (spD p)))), pv (6 : Nat) (V.sl (2 : Nat) (List.length (jnR (spM p) (resL c u (spD p)))) fun (k : Nat) => [V.i (Prod.fst (gp (jnR (spM p) (resL c u (spD p))) k)), V.i (Prod.snd (gp (jnR (spM p) (resL c u (spD p))) k))]), pv (7 : Nat) (V.i (jnE (spM p) (resL c u (spD p))))] (by kernel_rfl) (by kernel_rfl) True.intro ?_
    refine aops_nil ?_
    refine xt_n ?_
    refine hK _ ?_
    clear hK K
    refine aw_ret ?_
    rw [sd_4 c1 c2 hr]
    refine ret_pure (v' := V.tup [V.sl (2 : Nat) (List.length (jnR (spM p) (resL c u (spD p)))) fun (k : Nat) => [V.i (Prod.fst (gp (jnR (spM p) (resL c u (spD p))) k)), V.i (Prod.snd (gp (jnR (spM p) (resL c u (spD p))) k))], V.i (jnE (spM p) (resL c u (spD p)))]) (.inr rfl) (by kernel_rfl) (by kernel_rfl) (by kernel_rfl)
  · have hr := runI_none hj hb
    refine aops_callM [700032, 701032] (first := []) (caps := []) (ins' := [Ob.box (108 : Nat) [V.ref (701032 : Nat) (0 : Nat)], Ob.box (113 : Nat) [V.i (gi [] (((0 : Nat) + (7 : Nat)) % (8 : Nat))), V.i (gi [] (((0 : Nat) + (6 : Nat)) % (8 : Nat))), V.i (gi [] (((0 : Nat) + (5 : Nat)) % (8 : Nat))), V.i (gi [] (((0 : Nat) + (4 : Nat)) % (8 : Nat))), V.i (gi [] (((0 : Nat) + (3 : Nat)) % (8 : Nat))), V.i (gi [] (((0 : Nat) + (2 : Nat)) % (8 : Nat))), V.i (gi [] (((0 : Nat) + (1 : Nat)) % (8 : Nat))), V.i (gi [] ((0 : Nat) % (8 : Nat))), V.i (↑(0 : Nat) : Int), V.i (gi [] (((0 : Nat) + (7 : Nat)) % (8 : Nat))), V.i (gi [] (((0 : Nat) + (6 : Nat)) % (8 : Nat))), V.i (gi [] (((0 : Nat) + (5 : Nat)) % (8 : Nat))), V.i (gi [] (((0 : Nat) + (4 : Nat)) % (8 : Nat))), V.i (gi [] (((0 : Nat) + (3 : Nat)) % (8 : Nat))), V.i (gi [] (((0 : Nat) + (2 : Nat)) % (8 : Nat))), V.i (gi [] (((0 : Nat) + (1 : Nat)) % (8 : Nat))), V.i (gi [] ((0 : Nat) % (8 : Nat))), V.i (↑(0 : Nat) : Int), V.sl (1 : Nat) (List.length (Cv.feed c)) fun (k : Nat) => [V.i (gi (Cv.feed c) k)], V.sl (1 : Nat) (List.length (Cv.back c)) fun (k : Nat) => [V.i (gi (Cv.back c) k)], V.i (Cv.share c)]]) (v' := V.tup [V.nil, V.i (4 : Int)]) (δ := [(700032, Option.none), (701032, Option.none)]) (kp := [700032, 701032]) (each_no c u (spD p) 65534 hcv (by rw [spD_len]; omega) (by decide) hd hj hb) (by kernel_rfl) (by kernel_rfl) (by kernel_rfl) (by kernel_rfl) (by kernel_rfl) (by kernel_rfl) rfl rfl (by kernel_rfl) (.box (by kernel_rfl) (by kernel_rfl) (.box (by kernel_rfl) (by kernel_rfl) .nil)) (by kernel_rfl) (by kernel_rfl) (by kernel_rfl) ?_
    refine aops_n hTT (M := []) (n := 5) [pv (28 : Nat) (V.tup [V.nil, V.i (4 : Int)]), pv (35 : Nat) V.nil, pv (36 : Nat) (V.i (4 : Int)), pv (11 : Nat) V.nil, pv (12 : Nat) (V.i (4 : Int))] (by kernel_rfl) (by kernel_rfl) True.intro ?_
    refine aops_nil ?_
    refine xt_n ?_
    refine hK _ ?_
    clear hK K
    refine aw_seq_k fun K hK => ?_
    refine aw_seq_k fun K hK => ?_
    refine w_region (n' := 9) (by kernel_rfl) (by kernel_rfl) ?_
    refine aops_n hTT (M := []) (n := 2) [pv (37 : Nat) (V.i (4 : Int)), pv (38 : Nat) (V.b true)] (by kernel_rfl) (by kernel_rfl) True.intro ?_
    refine aops_nil ?_
    refine xt_n ?_
    refine hK _ ?_
    clear hK K
    refine w_true (t := true) (by kernel_rfl) rfl ?_
    refine aw_seq_k fun K hK => ?_
    refine w_region (n' := 10) (by kernel_rfl) (by kernel_rfl) ?_
    refine aops_n hTT (M := []) (n := 3) [pv (39 : Nat) (V.i (4 : Int)), pv (6 : Nat) V.nil, pv (7 : Nat) (V.i (4 : Int))] (by kernel_rfl) (by kernel_rfl) True.intro ?_
    refine aops_nil ?_
    refine xt_n ?_
    refine hK _ ?_
    clear hK K
    refine aw_ret ?_
    refine xt_r ?_
    rw [sd_3 c1 c2 hr]
    refine ret_of_le (le_nil 6 (sz := 2) 0 (fun k => [.i (gp [] k).1, .i (gp [] k).2]) (by kernel_rfl) ?_) ?_
    · rfl
    refine ret_pure (v' := V.tup [V.sl (2 : Nat) (0 : Nat) fun (k : Nat) => [V.i (Prod.fst (gp [] k)), V.i (Prod.snd (gp [] k))], V.i (4 : Int)]) (.inr rfl) (by kernel_rfl) (by kernel_rfl) (by kernel_rfl)
set_option maxRecDepth 100000 in
theorem Narrow_ac (c : Cv) (p : List Pt) (hc : cvL c) (hp : p.length ≤ bigL) : AC Try.prog 53 [V.cv c, V.pts p] (.tup [V.pts (sdR c false p).2, .i (sdR c false p).1]) [] := by
  refine ac_intro hTT hMX (fn := Try.f53) (N := _) ⟨Try.func53, rfl, Try.ntmps53, by kernel_rfl⟩ (by simp) fun C hC hF => ?_
  refine aw_seq_k fun K hK => ?_
  refine w_region (n' := 2) (by kernel_rfl) (by kernel_rfl) ?_
  refine aops_n hTT (M := []) (n := 3) [pv (2 : Nat) (V.ptr [V.sl (1 : Nat) (List.length (Cv.feed c)) fun (k : Nat) => [V.i (gi (Cv.feed c) k)], V.sl (1 : Nat) (List.length (Cv.back c)) fun (k : Nat) => [V.i (gi (Cv.back c) k)], V.i (Cv.share c)]), pv (4 : Nat) V.nil, pv (5 : Nat) (V.i (0 : Int))] (by kernel_rfl) (by kernel_rfl) True.intro ?_
  refine aops_nil ?_
  refine xt_n ?_
  refine hK _ ?_
  clear hK K
  refine aw_seq_k fun K hK => ?_
  refine w_region (n' := 3) (by kernel_rfl) (by kernel_rfl) ?_
  refine aops_n hTT (M := []) (n := 2) [pv (6 : Nat) (V.agg [V.sl (1 : Nat) (List.length (Cv.feed c)) fun (k : Nat) => [V.i (gi (Cv.feed c) k)], V.sl (1 : Nat) (List.length (Cv.back c)) fun (k : Nat) => [V.i (gi (Cv.back c) k)], V.i (Cv.share c)]), pv (7 : Nat) (V.sl (2 : Nat) (List.length p) fun (k : Nat) => [V.i (Prod.fst (gp p k)), V.i (Prod.snd (gp p k))])] (by kernel_rfl) (by kernel_rfl) True.intro ?_
  refine e_call (first := []) (caps := []) (sided_ac c p false hc hp) (by kernel_rfl) (by kernel_rfl) (by kernel_rfl) (by kernel_rfl) (by kernel_rfl) ?_
  refine aops_n hTT (M := []) (n := 4) [pv (9 : Nat) (V.sl (2 : Nat) (List.length (Prod.snd (sdR c false p))) fun (k : Nat) => [V.i (Prod.fst (gp (Prod.snd (sdR c false p)) k)), V.i (Prod.snd (gp (Prod.snd (sdR c false p)) k))]), pv (10 : Nat) (V.i (Prod.fst (sdR c false p))), pv (4 : Nat) (V.sl (2 : Nat) (List.length (Prod.snd (sdR c false p))) fun (k : Nat) => [V.i (Prod.fst (gp (Prod.snd (sdR c false p)) k)), V.i (Prod.snd (gp (Prod.snd (sdR c false p)) k))]), pv (5 : Nat) (V.i (Prod.fst (sdR c false p)))] (by kernel_rfl) (by kernel_rfl) True.intro ?_
  refine aops_nil ?_
  refine xt_n ?_
  refine hK _ ?_
  clear hK K
  refine aw_ret ?_
  refine ret_pure (v' := V.tup [V.sl (2 : Nat) (List.length (Prod.snd (sdR c false p))) fun (k : Nat) => [V.i (Prod.fst (gp (Prod.snd (sdR c false p)) k)), V.i (Prod.snd (gp (Prod.snd (sdR c false p)) k))], V.i (Prod.fst (sdR c false p))]) (.inr rfl) (by kernel_rfl) (by kernel_rfl) (by kernel_rfl)
end Go.Proofs.Ytblipieipldanaa
