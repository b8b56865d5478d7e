/-
  GrooveLouder: the walk of the law. No condition.
-/
import Derived.Test.YtjjlgegccfolpaaWLoudest
namespace Go.Proofs.Ytjjlgegccfolpaa
open Go.Ab Go.RowKit Go.Dw Go.Shelf

theorem lErr_ok {c : Cut} {s : List Pt} {r per : Int} (h : lErr c s r per = 0) : cutE c = 0 ∧ sChk s = 0 ∧ plcE r per = 0 := by
  by_cases h1 : cutE c = 0
  · by_cases h2 : sChk s = 0
    · rw [lErr_3 h1 h2] at h; exact ⟨h1, h2, h⟩
    · rw [lErr_2 h1 h2] at h; exact absurd h h2
  · rw [lErr_1 h1] at h; exact absurd h h1
theorem lErr_14 (c : Cut) (s : List Pt) (r per : Int) : lErr c s r per ≠ 14 := by
  have h1 := cutE_cases c
  have h3 := plcE_or r per
  have h2 : sChk s = 0 ∨ sChk s = 2 ∨ sChk s = 6 := by
    unfold sChk
    split
    · exact .inr (.inr rfl)
    · split
      · exact .inl rfl
      · exact .inr (.inl rfl)
  by_cases h : cutE c = 0
  · by_cases h' : sChk s = 0
    · rw [lErr_3 h h']; omega
    · rw [lErr_2 h h']; omega
  · rw [lErr_1 h]; omega
theorem loud_in {s : List Pt} (hs : sChk s = 0) {k : Nat} (hk : k ≤ 41) : ∀ i, i < (loudL k s).length → inR2 (gp (loudL k s) i) := fun i hi => by
  obtain ⟨l1, l2⟩ := sChk_ok.1 hs
  rw [loudL_len] at hi
  rw [loudL, gp_map hi]
  have sb := sE_iff.1 (l2 i hi)
  have q1 := lou_bd (k := k) sb.1 hk
  have q2 := lou_bd (k := k) sb.2 hk
  have t1 := gTd (M := 67173) (m := 1000) (x := (gp s i).1 * 50 * k) (by decide) (by omega)
  have t2 := gTd (M := 67173) (m := 1000) (x := (gp s i).2 * 50 * k) (by decide) (by omega)
  exact ⟨by simp only [inR, loudP]; omega, by simp only [inR, loudP]; omega⟩
theorem fitsK_yes {c : Cut} {s : List Pt} {r per : Int} {k : Nat} (h : fitsK c s r per k = true) (hc : cutE c = 0) (hp : Plc r per) : sChk (loudL k s) = 0 ∧ FaultV c ((loudL k s).map (wallP c)) r per = (0, 0, 5) := by
  unfold fitsK at h
  rw [Bool.and_eq_true, decide_eq_true_eq, decide_eq_true_eq] at h
  exact ⟨h.1, FaultV_3 (by rw [gErr_2 hc]; exact map_gChk hc h.1) (plcE_ok.2 hp) h.2⟩
theorem fitsK_no {c : Cut} {s : List Pt} {r per : Int} {k : Nat} (h : fitsK c s r per k = false) (hc : cutE c = 0) (hp : Plc r per) (h2 : sChk (loudL k s) = 0) : (FaultV c ((loudL k s).map (wallP c)) r per).2.2 = 0 := by
  unfold fitsK at h
  rw [decide_eq_true h2, Bool.true_and, decide_eq_false_iff_not] at h
  rw [FaultV_4 (by rw [gErr_2 hc]; exact map_gChk hc h2) (plcE_ok.2 hp) h]
set_option maxHeartbeats 4000000 in
set_option maxRecDepth 100000 in
theorem louder_law (c : Cut) (s : List Pt) (r per b : Int) (hl : s.length ≤ 4611686018427387904) (hr : ∀ k, k < s.length → inR2 (gp s k)) (hb : 0 ≤ b ∧ b ≤ 255) : AC Try.prog 13 [c.v, V.pts s, .i r, .i per, .c (.int .u8 b)] (.b true) [] := by
  refine ac_intro hTT hMX (fn := Try.f13) (N := _) ⟨Try.func13, rfl, Try.ntmps13, by kernel_rfl⟩ (by simp) fun C hC hF => ?_
  refine aw_seq_k fun K hK => ?_
  refine w_region (n' := 2) (by kernel_rfl) (by kernel_rfl) ?_
  refine aops_n hTT (M := []) (n := 2) [pv (5 : Nat) (V.ptr [V.i (Cut.half c), V.i (Cut.gain c), V.i (Cut.thin c), V.i (Cut.wide c), V.i (Cut.slope c), V.i (Cut.jerk c), V.i (Cut.sty c)]), pv (10 : Nat) (V.b false)] (by kernel_rfl) (by kernel_rfl) True.intro ?_
  refine aops_nil ?_
  refine xt_n ?_
  refine hK _ ?_
  clear hK K
  refine aw_seq_k fun K hK => ?_
  refine aw_seq_k fun K hK => ?_
  refine w_region (n' := 3) (by kernel_rfl) (by kernel_rfl) ?_
  refine aops_n hTT (M := []) (n := 3) [pv (21 : Nat) (V.sl (2 : Nat) (List.length s) fun (k : Nat) => [V.i (Prod.fst (gp s k)), V.i (Prod.snd (gp s k))]), pv (22 : Nat) (V.i (↑(List.length s) : Int)), pv (23 : Nat) (V.b (decide ((60 : Int) < (↑(List.length s) : Int))))] (by kernel_rfl) (by kernel_rfl) True.intro ?_
  refine aops_nil ?_
  refine xt_n ?_
  refine hK _ ?_
  clear hK K
  refine w_cond (t := decide ((60 : Int) < (↑(List.length s) : Int))) (by kernel_rfl) (fun c1 => ?_) (fun c1 => ?_)
  · refine aw_seq_k fun K hK => ?_
    refine w_region (n' := 4) (by kernel_rfl) (by kernel_rfl) ?_
    refine e_call (first := []) (caps := []) (gWorks_ac) (by kernel_rfl) (by kernel_rfl) (by kernel_rfl) (by kernel_rfl) (by kernel_rfl) ?_
    refine aops_n hTT (M := []) (n := 1) [pv (10 : Nat) (V.b true)] (by kernel_rfl) (by kernel_rfl) True.intro ?_
    refine aops_nil ?_
    refine xt_n ?_
    refine hK _ ?_
    clear hK K
    refine aw_ret ?_
    refine xt_r ?_
    refine ret_pure (v' := V.b true) (.inr rfl) (by kernel_rfl) (by kernel_rfl) (by kernel_rfl)
  have s60 : s.length ≤ 60 := by simp at c1; omega
  refine aw_skip ?_
  refine xt_n ?_
  refine hK _ ?_
  clear hK K
  refine aw_seq_k fun K hK => ?_
  refine w_region (n' := 4) (by kernel_rfl) (by kernel_rfl) ?_
  refine aops_n hTT (M := []) (n := 4) [pv (26 : Nat) (V.agg [V.i (Cut.half c), V.i (Cut.gain c), V.i (Cut.thin c), V.i (Cut.wide c), V.i (Cut.slope c), V.i (Cut.jerk c), V.i (Cut.sty c)]), pv (27 : Nat) (V.sl (2 : Nat) (List.length s) fun (k : Nat) => [V.i (Prod.fst (gp s k)), V.i (Prod.snd (gp s k))]), pv (28 : Nat) (V.i r), pv (29 : Nat) (V.i per)] (by kernel_rfl) (by kernel_rfl) True.intro ?_
  refine e_call (first := []) (caps := []) (Loudest_ac c s r per hl) (by kernel_rfl) (by kernel_rfl) (by kernel_rfl) (by kernel_rfl) (by kernel_rfl) ?_
  refine aops_n hTT (M := []) (n := 5) [pv (25 : Nat) (V.tup [V.i (Prod.fst (loudR c s r per)), V.i (Prod.snd (loudR c s r per))]), pv (31 : Nat) (V.i (Prod.fst (loudR c s r per))), pv (32 : Nat) (V.i (Prod.snd (loudR c s r per))), pv (11 : Nat) (V.i (Prod.fst (loudR c s r per))), pv (12 : Nat) (V.i (Prod.snd (loudR c s r per)))] (by kernel_rfl) (by kernel_rfl) True.intro ?_
  refine aops_nil ?_
  refine xt_n ?_
  refine hK _ ?_
  clear hK K
  refine aw_seq_k fun K hK => ?_
  refine aw_seq_k fun K hK => ?_
  refine w_region (n' := 5) (by kernel_rfl) (by kernel_rfl) ?_
  refine aops_n hTT (M := []) (n := 6) [pv (33 : Nat) (V.i (Prod.snd (loudR c s r per))), pv (34 : Nat) (V.b !decide (Prod.snd (loudR c s r per) = (0 : Int))), pv (35 : Nat) (V.b !decide (Prod.snd (loudR c s r per) = (0 : Int))), pc (36 : Nat) ((True ∧ True) ∧ (((!decide (Prod.snd (loudR c s r per) = (0 : Int))) == true) = true → True)) (V.gd ((!decide (Prod.snd (loudR c s r per) = (0 : Int))) == true) (V.i (Prod.snd (loudR c s r per)))), pc (37 : Nat) (((((!decide (Prod.snd (loudR c s r per) = (0 : Int))) == true) = true → ((!decide (Prod.snd (loudR c s r per) = (0 : Int))) == true) = true) ∧ True ∧ True) ∧ (((!decide (Prod.snd (loudR c s r per) = (0 : Int))) == true) = true → True)) (V.gd ((!decide (Prod.snd (loudR c s r per) = (0 : Int))) == true) (V.b !decide (Prod.snd (loudR c s r per) = (14 : Int)))), pc (38 : Nat) (((!decide (Prod.snd (loudR c s r per) = (0 : Int))) = true → ((!decide (Prod.snd (loudR c s r per) = (0 : Int))) == true) = true) ∧ True) (V.b (!decide (Prod.snd (loudR c s r per) = (0 : Int)) && !decide (Prod.snd (loudR c s r per) = (14 : Int))))] (by kernel_rfl) (by kernel_rfl) ⟨⟨⟨True.intro, True.intro⟩, (fun _ => True.intro)⟩, ⟨⟨(by (exact fun h => h)), ⟨True.intro, True.intro⟩⟩, (fun _ => True.intro)⟩, ⟨(by (intro h; rw [h]; rfl)), True.intro⟩, True.intro⟩ ?_
  refine aops_nil ?_
  refine xt_n ?_
  refine hK _ ?_
  clear hK K
  by_cases he : lErr c s r per = 0
  case neg =>
    have h14 := lErr_14 c s r per
    rw [loudR_1 he]
    skip
    refine w_cond (t := !decide (lErr c s r per = (0 : Int)) && !decide (lErr c s r per = (14 : Int))) (by kernel_rfl) (fun c2 => ?_) (fun c2 => ?_)
    · refine aw_seq_k fun K hK => ?_
      refine w_region (n' := 6) (by kernel_rfl) (by kernel_rfl) ?_
      refine aops_n hTT (M := []) (n := 3) [pv (39 : Nat) (V.i (0 : Int)), pv (40 : Nat) (V.b true), pv (41 : Nat) (V.b true)] (by kernel_rfl) (by kernel_rfl) True.intro ?_
      refine e_callG 0 (g := true == true) (first := []) (caps := []) (by kernel_rfl) (fun h => gWorks_ac) (by kernel_rfl) (by kernel_rfl) (by kernel_rfl) (by kernel_rfl) (by kernel_rfl) (by kernel_rfl) ?_
      refine aops_n hTT (M := []) (n := 2) [pc (43 : Nat) ((true = true → (true == true) = true) ∧ True) (V.b true), pv (10 : Nat) (V.b true)] (by kernel_rfl) (by kernel_rfl) ⟨⟨(by (exact fun h => h)), True.intro⟩, True.intro⟩ ?_
      refine aops_nil ?_
      refine xt_n ?_
      refine hK _ ?_
      clear hK K
      refine aw_ret ?_
      refine xt_r ?_
      refine ret_pure (v' := V.b true) (.inr rfl) (by kernel_rfl) (by kernel_rfl) (by kernel_rfl)
    · exfalso
      simp at c2
      exact h14 (c2 he)
  obtain ⟨hc, hs, hp0⟩ := lErr_ok he
  have hp := plcE_ok.1 hp0
  obtain ⟨l1, l2⟩ := sChk_ok.1 hs
  obtain ⟨N, hN, N41, hj, hno⟩ := loudN_or c s r per
  have Ch := refCheck_ac c
  have Sm := rCheckSamples_ac s hl hr
  rw [hc] at Ch
  rw [hs] at Sm
  obtain ⟨kv, ev, hR, k0, k1⟩ : ∃ kv ev : Int, loudR c s r per = (kv, ev) ∧ (N = 0 → kv = 0 ∧ ev = 14) ∧ (N ≠ 0 → kv = (N : Int) - 1 ∧ ev = 0) := by
    by_cases h0 : N = 0
    · exact ⟨0, 14, loudR_2 he (hN.trans h0), fun _ => ⟨rfl, rfl⟩, fun h => absurd h0 h⟩
    · exact ⟨(N : Int) - 1, 0, loudR_3 he hN h0, fun h => absurd h h0, fun _ => ⟨rfl, rfl⟩⟩
  have kb : 0 ≤ kv ∧ kv ≤ 40 := by
    by_cases h0 : N = 0
    · have := k0 h0; omega
    · have := k1 h0; omega
  rw [hR]
  skip
  refine w_cond (t := !decide (ev = (0 : Int)) && !decide (ev = (14 : Int))) (by kernel_rfl) (fun c2 => ?_) (fun c2 => ?_)
  · exfalso
    simp at c2
    by_cases h0 : N = 0
    · have := k0 h0; omega
    · have := k1 h0; omega
  refine aw_skip ?_
  refine xt_n ?_
  refine hK _ ?_
  clear hK K
  refine aw_seq_k fun K hK => ?_
  refine aw_seq_k fun K hK => ?_
  refine w_region (n' := 6) (by kernel_rfl) (by kernel_rfl) ?_
  refine aops_n hTT (M := []) (n := 1) [pv (44 : Nat) (V.agg [V.i (Cut.half c), V.i (Cut.gain c), V.i (Cut.thin c), V.i (Cut.wide c), V.i (Cut.slope c), V.i (Cut.jerk c), V.i (Cut.sty c)])] (by kernel_rfl) (by kernel_rfl) True.intro ?_
  refine e_call (first := []) (caps := []) (Ch) (by kernel_rfl) (by kernel_rfl) (by kernel_rfl) (by kernel_rfl) (by kernel_rfl) ?_
  refine aops_n hTT (M := []) (n := 3) [pv (46 : Nat) (V.b false), pv (47 : Nat) (V.b false), pc (48 : Nat) ((True ∧ True) ∧ ((false == false) = true → True)) (V.gd (false == false) (V.sl (2 : Nat) (List.length s) fun (k : Nat) => [V.i (Prod.fst (gp s k)), V.i (Prod.snd (gp s k))]))] (by kernel_rfl) (by kernel_rfl) ⟨⟨⟨True.intro, True.intro⟩, (fun _ => True.intro)⟩, True.intro⟩ ?_
  refine e_callG 1 (g := false == false) (first := []) (caps := []) (by kernel_rfl) (fun h => Sm) (by kernel_rfl) (by kernel_rfl) (by kernel_rfl) (by kernel_rfl) (by kernel_rfl) (by kernel_rfl) ?_
  refine aops_n hTT (M := []) (n := 10) [pc (50 : Nat) ((((false == false) = true → (false == false) = true) ∧ True ∧ True) ∧ ((false == false) = true → True)) (V.gd (false == false) (V.b false)), pc (51 : Nat) (True ∧ (false = false → (false == false) = true)) (V.b false), pv (52 : Nat) (V.b false), pc (53 : Nat) ((True ∧ True) ∧ ((false == false) = true → True)) (V.gd (false == false) (V.i kv)), pc (54 : Nat) ((((false == false) = true → (false == false) = true) ∧ True ∧ True) ∧ ((false == false) = true → True)) (V.gd (false == false) (V.b (decide (kv < (0 : Int))))), pc (55 : Nat) (True ∧ (false = false → (false == false) = true)) (V.b (decide (kv < (0 : Int)))), pv (56 : Nat) (V.b (decide (kv < (0 : Int)))), pc (57 : Nat) ((True ∧ True) ∧ ((decide (kv < (0 : Int)) == false) = true → True)) (V.gd (decide (kv < (0 : Int)) == false) (V.i kv)), pc (58 : Nat) ((((decide (kv < (0 : Int)) == false) = true → (decide (kv < (0 : Int)) == false) = true) ∧ True ∧ True) ∧ ((decide (kv < (0 : Int)) == false) = true → True)) (V.gd (decide (kv < (0 : Int)) == false) (V.b (decide ((40 : Int) < kv)))), pc (59 : Nat) (True ∧ (decide (kv < (0 : Int)) = false → (decide (kv < (0 : Int)) == false) = true)) (V.b (decide (kv < (0 : Int)) || decide ((40 : Int) < kv)))] (by kernel_rfl) (by kernel_rfl) ⟨⟨⟨(by (exact fun h => h)), ⟨True.intro, True.intro⟩⟩, (fun _ => True.intro)⟩, ⟨True.intro, (by (intro h; rw [h]; rfl))⟩, ⟨⟨True.intro, True.intro⟩, (fun _ => True.intro)⟩, ⟨⟨(by (exact fun h => h)), ⟨True.intro, True.intro⟩⟩, (fun _ => True.intro)⟩, ⟨True.intro, (by (intro h; rw [h]; rfl))⟩, ⟨⟨True.intro, True.intro⟩, (fun _ => True.intro)⟩, ⟨⟨(by (exact fun h => h)), ⟨True.intro, True.intro⟩⟩, (fun _ => True.intro)⟩, ⟨True.intro, (by (intro h; rw [h]; rfl))⟩, True.intro⟩ ?_
  refine aops_nil ?_
  refine xt_n ?_
  refine hK _ ?_
  clear hK K
  refine w_cond (t := decide (kv < (0 : Int)) || decide ((40 : Int) < kv)) (by kernel_rfl) (fun c3 => ?_) (fun c3 => ?_)
  · exfalso
    simp at c3
    omega
  refine aw_skip ?_
  refine xt_n ?_
  refine hK _ ?_
  clear hK K
  refine aw_seq_k fun K hK => ?_
  refine aw_seq_k fun K hK => ?_
  refine w_region (n' := 7) (by kernel_rfl) (by kernel_rfl) ?_
  refine aops_n hTT (M := []) (n := 2) [pv (60 : Nat) (V.i ev), pv (61 : Nat) (V.b (decide (ev = (14 : Int))))] (by kernel_rfl) (by kernel_rfl) True.intro ?_
  refine aops_nil ?_
  refine xt_n ?_
  refine hK _ ?_
  clear hK K
  refine w_join (ι := Unit) (fun _ => [(1, V.pts s), (2, .i r), (3, .i per), (4, .c (.int .u8 b)), (5, .ptr (cutC c)), (11, .i ((N : Int) - 1))]) (fun _ => []) (fun _ => True) hK ?_ ?_
  · clear hK
    refine w_cond (t := decide (ev = (14 : Int))) (by kernel_rfl) (fun c4 => ?_) (fun c4 => ?_)
    · have h0 : N = 0 := by
        by_cases h0 : N = 0
        · exact h0
        · have := k1 h0; simp at c4; omega
      refine w_region (n' := 8) (by kernel_rfl) (by kernel_rfl) ?_
      refine aops_n hTT (M := []) (n := 1) [pv (11 : Nat) (V.i (-1 : Int))] (by kernel_rfl) (by kernel_rfl) True.intro ?_
      refine aops_nil ?_
      refine xt_n ?_
      refine ⟨(), trivial, ?_⟩
      refine le_ren (tl := [(1, V.sl (2 : Nat) (List.length s) fun (k : Nat) => [V.i (Prod.fst (gp s k)), V.i (Prod.snd (gp s k))]), (2, V.i r), (3, V.i per), (4, V.c (Value.int IntKind.u8 b)), (5, V.ptr [V.i (Cut.half c), V.i (Cut.gain c), V.i (Cut.thin c), V.i (Cut.wide c), V.i (Cut.slope c), V.i (Cut.jerk c), V.i (Cut.sty c)]), (11, V.i ((↑N : Int) - (1 : Int)))]) [] (.cons (by kernel_rfl) (.cons (by kernel_rfl) (.cons (by kernel_rfl) (.cons (by kernel_rfl) (.cons (by kernel_rfl) (.cons ?_ .nil)))))) .nil (by kernel_rfl) (by kernel_rfl)
      exact vi (by omega)
    · have h0 : N ≠ 0 := fun h0 => by have := k0 h0; simp at c4; omega
      have := k1 h0
      refine aw_skip ?_
      refine xt_n ?_
      refine ⟨(), trivial, ?_⟩
      refine le_ren (tl := [(1, V.sl (2 : Nat) (List.length s) fun (k : Nat) => [V.i (Prod.fst (gp s k)), V.i (Prod.snd (gp s k))]), (2, V.i r), (3, V.i per), (4, V.c (Value.int IntKind.u8 b)), (5, V.ptr [V.i (Cut.half c), V.i (Cut.gain c), V.i (Cut.thin c), V.i (Cut.wide c), V.i (Cut.slope c), V.i (Cut.jerk c), V.i (Cut.sty c)]), (11, V.i ((↑N : Int) - (1 : Int)))]) [] (.cons (by kernel_rfl) (.cons (by kernel_rfl) (.cons (by kernel_rfl) (.cons (by kernel_rfl) (.cons (by kernel_rfl) (.cons ?_ .nil)))))) .nil (by kernel_rfl) (by kernel_rfl)
      exact vi (by omega)
  rintro _ _
  clear hK
  have tJ : ∃ J : Nat, b.tmod ((N : Int) - 1 + 2) = (J : Int) ∧ J ≤ N := by
    have h1 := Int.emod_nonneg b (show (N : Int) - 1 + 2 ≠ 0 by omega)
    have h2 := Int.emod_lt_of_pos b (show 0 < (N : Int) - 1 + 2 by omega)
    exact ⟨(b % ((N : Int) - 1 + 2)).toNat, by rw [Int.tmod_eq_emod_of_nonneg hb.1]; omega, by omega⟩
  obtain ⟨J, hJ, hJN⟩ := tJ
  refine aw_seq_k fun K hK => ?_
  refine aw_seq_k fun K hK => ?_
  refine w_region (n' := 2) (by kernel_rfl) (by kernel_rfl) ?_
  refine aops_n hTT (M := []) (n := 1) [pv (13 : Nat) (V.i (0 : Int))] (by kernel_rfl) (by kernel_rfl) True.intro ?_
  refine aops_nil ?_
  refine xt_n ?_
  refine hK _ ?_
  clear hK K
  refine aw_block ?_
  refine w_loop (ι := Nat) (fun n => [(1, V.pts s), (2, .i r), (3, .i per), (4, .c (.int .u8 b)), (5, .ptr (cutC c)), (11, .i ((N : Int) - 1)), (13, .i n)]) (fun _ => []) (fun n => n ≤ 3) (fun n => 3 - n) 0 (by decide) ?_ ?_
  · refine le_ren [] (.cons (by kernel_rfl) (.cons (by kernel_rfl) (.cons (by kernel_rfl) (.cons (by kernel_rfl) (.cons (by kernel_rfl) (.cons (by kernel_rfl) (.cons (by kernel_rfl) .nil))))))) .nil (by kernel_rfl) (by kernel_rfl)
  intro n hn
  rcases (by omega : n = 0 ∨ n = 1 ∨ n = 2 ∨ n = 3) with rfl | rfl | rfl | rfl
  · refine aw_seq_k fun K hK => ?_
    refine aw_seq_k fun K hK => ?_
    refine w_region (n' := 2) (by kernel_rfl) (by kernel_rfl) ?_
    refine aops_n hTT (M := []) (n := 2) [pv (62 : Nat) (V.i (↑(0 : Nat) : Int)), pv (63 : Nat) (V.b true)] (by kernel_rfl) (by kernel_rfl) True.intro ?_
    refine aops_nil ?_
    refine xt_n ?_
    refine hK _ ?_
    clear hK K
    refine w_true (t := true) (by kernel_rfl) rfl ?_
    refine aw_skip ?_
    refine xt_n ?_
    refine hK _ ?_
    clear hK K
    refine aw_seq_k fun K hK => ?_
    refine aw_block ?_
    refine aw_seq_k fun K hK => ?_
    refine w_region (n' := 3) (by kernel_rfl) (by kernel_rfl) ?_
    refine aops_n hTT (M := []) (n := 13) [pv (66 : Nat) (V.i ((↑N : Int) - (1 : Int))), pv (67 : Nat) (V.c (Value.int IntKind.u8 b)), pc (68 : Nat) ((-9223372036854775808 : Int) ≤ b ∧ b ≤ (9223372036854775807 : Int)) (V.i b), pv (69 : Nat) (V.i ((↑N : Int) - (1 : Int))), pc (70 : Nat) ((-9223372036854775808 : Int) ≤ (↑N : Int) - (1 : Int) + (2 : Int) ∧ (↑N : Int) - (1 : Int) + (2 : Int) ≤ (9223372036854775807 : Int)) (V.i ((↑N : Int) - (1 : Int) + (2 : Int))), pc (71 : Nat) ((↑N : Int) - (1 : Int) + (2 : Int) ≠ (0 : Int)) (V.i (Int.tmod b ((↑N : Int) - (1 : Int) + (2 : Int)))), pv (72 : Nat) (V.i ((↑N : Int) - (1 : Int))), pc (73 : Nat) ((-9223372036854775808 : Int) ≤ (↑N : Int) - (1 : Int) + (1 : Int) ∧ (↑N : Int) - (1 : Int) + (1 : Int) ≤ (9223372036854775807 : Int)) (V.i ((↑N : Int) - (1 : Int) + (1 : Int))), pv (74 : Nat) (V.sl (1 : Nat) (3 : Nat) fun (i : Nat) => List.take (1 : Nat) (List.drop (i * (1 : Nat)) [V.i ((↑N : Int) - (1 : Int)), V.i (Int.tmod b ((↑N : Int) - (1 : Int) + (2 : Int))), V.i ((↑N : Int) - (1 : Int) + (1 : Int))])), pv (75 : Nat) (V.i (↑(0 : Nat) : Int)), pc (76 : Nat) ((0 : Int) ≤ (↑(0 : Nat) : Int) ∧ (↑(0 : Nat) : Int) < (↑(3 : Nat) : Int)) (V.ptr [V.i ((↑N : Int) - (1 : Int))]), pv (77 : Nat) (V.i ((↑N : Int) - (1 : Int))), pv (14 : Nat) (V.i ((↑N : Int) - (1 : Int)))] (by kernel_rfl) (by kernel_rfl) ⟨(by omega), (by omega), (by omega), (by omega), (by omega), True.intro⟩ ?_
    refine aops_nil ?_
    refine xt_n ?_
    refine hK _ ?_
    clear hK K
    refine aw_seq_k fun K hK => ?_
    refine aw_seq_k fun K hK => ?_
    by_cases h0 : N = 0
    · subst h0
      refine w_region (n' := 4) (by kernel_rfl) (by kernel_rfl) ?_
      refine aops_n hTT (M := []) (n := 15) [pv (78 : Nat) (V.i ((↑(0 : Nat) : Int) - (1 : Int))), pv (79 : Nat) (V.b false), pv (80 : Nat) (V.b false), pc (81 : Nat) ((True ∧ True) ∧ ((false == false) = true → True)) (V.gd (false == false) (V.i (↑(0 : Nat) : Int))), pc (82 : Nat) ((((false == false) = true → (false == false) = true) ∧ True ∧ True) ∧ ((false == false) = true → True)) (V.gd (false == false) (V.b false)), pc (83 : Nat) ((((false == false) = true → (false == false) = true) ∧ True) ∧ ((false == false) = true → True)) (V.gd (false == false) (V.b false)), pc (84 : Nat) ((True ∧ True) ∧ ((false == false && false == true) = true → True)) (V.gd (false == false && false == true) (V.i ((↑(0 : Nat) : Int) - (1 : Int)))), pc (85 : Nat) ((True ∧ True) ∧ ((false == false && false == true) = true → True)) (V.gd (false == false && false == true) (V.i ((↑(0 : Nat) : Int) - (1 : Int)))), pc (86 : Nat) ((((false == false && false == true) = true → (false == false && false == true) = true) ∧ ((false == false && false == true) = true → (false == false && false == true) = true) ∧ True) ∧ ((false == false && false == true) = true → True)) (V.gd (false == false && false == true) (V.b false)), pc (87 : Nat) (((false == false) = true → (false == false) = true) ∧ ((false == false) = true → false = true → (false == false && false == true) = true) ∧ ((false == false) = true → True)) (V.gd (false == false) (V.b false)), pc (88 : Nat) (True ∧ (false = false → (false == false) = true)) (V.b false), pv (89 : Nat) (V.b false), pc (90 : Nat) ((True ∧ True) ∧ ((false == false) = true → True)) (V.gd (false == false) (V.i ((↑(0 : Nat) : Int) - (1 : Int)))), pc (91 : Nat) ((((false == false) = true → (false == false) = true) ∧ True ∧ True) ∧ ((false == false) = true → True)) (V.gd (false == false) (V.b true)), pc (92 : Nat) (True ∧ (false = false → (false == false) = true)) (V.b true)] (by kernel_rfl) (by kernel_rfl) ⟨⟨⟨True.intro, True.intro⟩, (fun _ => True.intro)⟩, ⟨⟨(by (exact fun h => h)), ⟨True.intro, True.intro⟩⟩, (fun _ => True.intro)⟩, ⟨⟨(by (exact fun h => h)), True.intro⟩, (fun _ => True.intro)⟩, ⟨⟨True.intro, True.intro⟩, (fun _ => True.intro)⟩, ⟨⟨True.intro, True.intro⟩, (fun _ => True.intro)⟩, ⟨⟨(by (exact fun h => h)), ⟨(by (exact fun h => h)), True.intro⟩⟩, (fun _ => True.intro)⟩, ⟨(by (exact fun h => h)), ⟨(by (intro _; simp; done)), (fun _ => True.intro)⟩⟩, ⟨True.intro, (by (intro h; rw [h]; rfl))⟩, ⟨⟨True.intro, True.intro⟩, (fun _ => True.intro)⟩, ⟨⟨(by (exact fun h => h)), ⟨True.intro, True.intro⟩⟩, (fun _ => True.intro)⟩, ⟨True.intro, (by (intro h; rw [h]; rfl))⟩, True.intro⟩ ?_
      refine aops_nil ?_
      refine xt_n ?_
      refine hK _ ?_
      clear hK K
      refine w_true (t := true) (by kernel_rfl) rfl ?_
      refine aw_exit ?_
      refine xt_x ?_
      refine xb_same ?_
      refine xt_n ?_
      clear hK K
      refine hK _ ?_
      clear hK K
      refine w_region (n' := 5) (by kernel_rfl) (by kernel_rfl) ?_
      refine aops_n hTT (M := []) (n := 3) [pv (64 : Nat) (V.i (↑(0 : Nat) : Int)), pc (65 : Nat) ((-9223372036854775808 : Int) ≤ (↑(0 : Nat) : Int) + (1 : Int) ∧ (↑(0 : Nat) : Int) + (1 : Int) ≤ (9223372036854775807 : Int)) (V.i ((↑(0 : Nat) : Int) + (1 : Int))), pv (13 : Nat) (V.i ((↑(0 : Nat) : Int) + (1 : Int)))] (by kernel_rfl) (by kernel_rfl) ⟨(by omega), True.intro⟩ ?_
      refine aops_nil ?_
      refine xt_n ?_
      refine ⟨1, by decide, ?_, by decide⟩
      refine le_ren [] (.cons (by kernel_rfl) (.cons (by kernel_rfl) (.cons (by kernel_rfl) (.cons (by kernel_rfl) (.cons (by kernel_rfl) (.cons (by kernel_rfl) (.cons (by kernel_rfl) .nil))))))) .nil (by kernel_rfl) (by kernel_rfl)
    · obtain ⟨m, rfl⟩ : ∃ m, N = m + 1 := ⟨N - 1, by omega⟩
      have fk := hj m (by omega)
      have em : ((m + 1 : Nat) : Int) - 1 = (m : Int) := by omega
      rw [em]
      refine w_region (n' := 4) (by kernel_rfl) (by kernel_rfl) ?_
      refine aops_n hTT (M := []) (n := 15) [pv (78 : Nat) (V.i (↑m : Int)), pv (79 : Nat) (V.b (decide ((40 : Int) < (↑m : Int)))), pv (80 : Nat) (V.b (decide ((40 : Int) < (↑m : Int)))), pc (81 : Nat) ((True ∧ True) ∧ ((decide ((40 : Int) < (↑m : Int)) == false) = true → True)) (V.gd (decide ((40 : Int) < (↑m : Int)) == false) (V.i (↑(0 : Nat) : Int))), pc (82 : Nat) ((((decide ((40 : Int) < (↑m : Int)) == false) = true → (decide ((40 : Int) < (↑m : Int)) == false) = true) ∧ True ∧ True) ∧ ((decide ((40 : Int) < (↑m : Int)) == false) = true → True)) (V.gd (decide ((40 : Int) < (↑m : Int)) == false) (V.b false)), pc (83 : Nat) ((((decide ((40 : Int) < (↑m : Int)) == false) = true → (decide ((40 : Int) < (↑m : Int)) == false) = true) ∧ True) ∧ ((decide ((40 : Int) < (↑m : Int)) == false) = true → True)) (V.gd (decide ((40 : Int) < (↑m : Int)) == false) (V.b false)), pc (84 : Nat) ((True ∧ True) ∧ ((decide ((40 : Int) < (↑m : Int)) == false && false == true) = true → True)) (V.gd (decide ((40 : Int) < (↑m : Int)) == false && false == true) (V.i (↑m : Int))), pc (85 : Nat) ((True ∧ True) ∧ ((decide ((40 : Int) < (↑m : Int)) == false && false == true) = true → True)) (V.gd (decide ((40 : Int) < (↑m : Int)) == false && false == true) (V.i (↑m : Int))), pc (86 : Nat) ((((decide ((40 : Int) < (↑m : Int)) == false && false == true) = true → (decide ((40 : Int) < (↑m : Int)) == false && false == true) = true) ∧ ((decide ((40 : Int) < (↑m : Int)) == false && false == true) = true → (decide ((40 : Int) < (↑m : Int)) == false && false == true) = true) ∧ True) ∧ ((decide ((40 : Int) < (↑m : Int)) == false && false == true) = true → True)) (V.gd (decide ((40 : Int) < (↑m : Int)) == false && false == true) (V.b (decide ((↑m : Int) < (↑m : Int))))), pc (87 : Nat) (((decide ((40 : Int) < (↑m : Int)) == false) = true → (decide ((40 : Int) < (↑m : Int)) == false) = true) ∧ ((decide ((40 : Int) < (↑m : Int)) == false) = true → false = true → (decide ((40 : Int) < (↑m : Int)) == false && false == true) = true) ∧ ((decide ((40 : Int) < (↑m : Int)) == false) = true → True)) (V.gd (decide ((40 : Int) < (↑m : Int)) == false) (V.b false)), pc (88 : Nat) (True ∧ (decide ((40 : Int) < (↑m : Int)) = false → (decide ((40 : Int) < (↑m : Int)) == false) = true)) (V.b (decide ((40 : Int) < (↑m : Int)) && true)), pv (89 : Nat) (V.b (decide ((40 : Int) < (↑m : Int)) && true)), pc (90 : Nat) ((True ∧ True) ∧ (((decide ((40 : Int) < (↑m : Int)) && true) == false) = true → True)) (V.gd ((decide ((40 : Int) < (↑m : Int)) && true) == false) (V.i (↑m : Int))), pc (91 : Nat) (((((decide ((40 : Int) < (↑m : Int)) && true) == false) = true → ((decide ((40 : Int) < (↑m : Int)) && true) == false) = true) ∧ True ∧ True) ∧ (((decide ((40 : Int) < (↑m : Int)) && true) == false) = true → True)) (V.gd ((decide ((40 : Int) < (↑m : Int)) && true) == false) (V.b (decide ((↑m : Int) < (0 : Int))))), pc (92 : Nat) (True ∧ ((decide ((40 : Int) < (↑m : Int)) && true) = false → ((decide ((40 : Int) < (↑m : Int)) && true) == false) = true)) (V.b (decide ((40 : Int) < (↑m : Int)) && true || decide ((↑m : Int) < (0 : Int))))] (by kernel_rfl) (by kernel_rfl) ⟨⟨⟨True.intro, True.intro⟩, (fun _ => True.intro)⟩, ⟨⟨(by (exact fun h => h)), ⟨True.intro, True.intro⟩⟩, (fun _ => True.intro)⟩, ⟨⟨(by (exact fun h => h)), True.intro⟩, (fun _ => True.intro)⟩, ⟨⟨True.intro, True.intro⟩, (fun _ => True.intro)⟩, ⟨⟨True.intro, True.intro⟩, (fun _ => True.intro)⟩, ⟨⟨(by (exact fun h => h)), ⟨(by (exact fun h => h)), True.intro⟩⟩, (fun _ => True.intro)⟩, ⟨(by (exact fun h => h)), ⟨(by (intro _; simp; done)), (fun _ => True.intro)⟩⟩, ⟨True.intro, (by (intro h; rw [h]; rfl))⟩, ⟨⟨True.intro, True.intro⟩, (fun _ => True.intro)⟩, ⟨⟨(by (exact fun h => h)), ⟨True.intro, True.intro⟩⟩, (fun _ => True.intro)⟩, ⟨True.intro, (by (intro h; rw [h]; rfl))⟩, True.intro⟩ ?_
      refine aops_nil ?_
      refine xt_n ?_
      refine hK _ ?_
      clear hK K
      refine w_cond (t := decide ((40 : Int) < (↑m : Int)) && true || decide ((↑m : Int) < (0 : Int))) (by kernel_rfl) (fun e0 => ?_) (fun e0 => ?_)
      · exfalso
        simp at e0
        omega
      have R1 := rCheckSamples_ac (loudL m s) (by rw [loudL_len]; omega) (loud_in hs (by omega))
      have R2 := Cut_ac c (loudL m s) (by rw [loudL_len]; omega)
      have R3 := Fault_ac c ((loudL m s).map (wallP c)) r per (by rw [List.length_map, loudL_len]; omega)
      have R0 := Louder_ac s m (by omega) hs
      obtain ⟨f1, f2⟩ := fitsK_yes fk hc hp
      rw [f1] at R1
      rw [cutR_3 hc f1] at R2
      rw [FaultT, f2] at R3
      refine aw_skip ?_
      refine xt_n ?_
      refine hK _ ?_
      clear hK K
      refine aw_seq_k fun K hK => ?_
      refine w_region (n' := 5) (by kernel_rfl) (by kernel_rfl) ?_
      refine aops_n hTT (M := []) (n := 2) [pv (93 : Nat) (V.sl (2 : Nat) (List.length s) fun (k : Nat) => [V.i (Prod.fst (gp s k)), V.i (Prod.snd (gp s k))]), pv (94 : Nat) (V.i (↑m : Int))] (by kernel_rfl) (by kernel_rfl) True.intro ?_
      refine e_call (first := []) (caps := []) (R0) (by kernel_rfl) (by kernel_rfl) (by kernel_rfl) (by kernel_rfl) (by kernel_rfl) ?_
      refine aops_n hTT (M := []) (n := 1) [pv (15 : Nat) (V.sl (2 : Nat) (List.length (loudL m s)) fun (k : Nat) => [V.i (Prod.fst (gp (loudL m s) k)), V.i (Prod.snd (gp (loudL m s) k))])] (by kernel_rfl) (by kernel_rfl) True.intro ?_
      refine aops_nil ?_
      refine xt_n ?_
      refine hK _ ?_
      clear hK K
      refine aw_seq_k fun K hK => ?_
      refine aw_seq_k fun K hK => ?_
      refine w_region (n' := 6) (by kernel_rfl) (by kernel_rfl) ?_
      refine aops_n hTT (M := []) (n := 1) [pv (96 : Nat) (V.sl (2 : Nat) (List.length (loudL m s)) fun (k : Nat) => [V.i (Prod.fst (gp (loudL m s) k)), V.i (Prod.snd (gp (loudL m s) k))])] (by kernel_rfl) (by kernel_rfl) True.intro ?_
      refine e_call (first := []) (caps := []) (R1) (by kernel_rfl) (by kernel_rfl) (by kernel_rfl) (by kernel_rfl) (by kernel_rfl) ?_
      refine aops_n hTT (M := []) (n := 1) [pv (98 : Nat) (V.b false)] (by kernel_rfl) (by kernel_rfl) True.intro ?_
      refine aops_nil ?_
      refine xt_n ?_
      refine hK _ ?_
      clear hK K
      refine w_false (t := false) (by kernel_rfl) rfl ?_
      refine aw_skip ?_
      refine xt_n ?_
      refine hK _ ?_
      clear hK K
      refine aw_seq_k fun K hK => ?_
      refine w_region (n' := 7) (by kernel_rfl) (by kernel_rfl) ?_
      refine aops_n hTT (M := []) (n := 2) [pv (102 : Nat) (V.agg [V.i (Cut.half c), V.i (Cut.gain c), V.i (Cut.thin c), V.i (Cut.wide c), V.i (Cut.slope c), V.i (Cut.jerk c), V.i (Cut.sty c)]), pv (103 : Nat) (V.sl (2 : Nat) (List.length (loudL m s)) fun (k : Nat) => [V.i (Prod.fst (gp (loudL m s) k)), V.i (Prod.snd (gp (loudL m s) k))])] (by kernel_rfl) (by kernel_rfl) True.intro ?_
      refine e_call (first := []) (caps := []) (R2) (by kernel_rfl) (by kernel_rfl) (by kernel_rfl) (by kernel_rfl) (by kernel_rfl) ?_
      refine aops_n hTT (M := []) (n := 5) [pv (101 : Nat) (V.tup [V.sl (2 : Nat) (List.length (List.map (wallP c) (loudL m s))) fun (k : Nat) => [V.i (Prod.fst (gp (List.map (wallP c) (loudL m s)) k)), V.i (Prod.snd (gp (List.map (wallP c) (loudL m s)) k))], V.i (0 : Int)]), pv (105 : Nat) (V.sl (2 : Nat) (List.length (List.map (wallP c) (loudL m s))) fun (k : Nat) => [V.i (Prod.fst (gp (List.map (wallP c) (loudL m s)) k)), V.i (Prod.snd (gp (List.map (wallP c) (loudL m s)) k))]), pv (106 : Nat) (V.i (0 : Int)), pv (16 : Nat) (V.sl (2 : Nat) (List.length (List.map (wallP c) (loudL m s))) fun (k : Nat) => [V.i (Prod.fst (gp (List.map (wallP c) (loudL m s)) k)), V.i (Prod.snd (gp (List.map (wallP c) (loudL m s)) k))]), pv (17 : Nat) (V.i (0 : Int))] (by kernel_rfl) (by kernel_rfl) True.intro ?_
      refine aops_nil ?_
      refine xt_n ?_
      refine hK _ ?_
      clear hK K
      refine aw_seq_k fun K hK => ?_
      refine w_region (n' := 8) (by kernel_rfl) (by kernel_rfl) ?_
      refine aops_n hTT (M := []) (n := 4) [pv (108 : Nat) (V.agg [V.i (Cut.half c), V.i (Cut.gain c), V.i (Cut.thin c), V.i (Cut.wide c), V.i (Cut.slope c), V.i (Cut.jerk c), V.i (Cut.sty c)]), pv (109 : Nat) (V.sl (2 : Nat) (List.length (List.map (wallP c) (loudL m s))) fun (k : Nat) => [V.i (Prod.fst (gp (List.map (wallP c) (loudL m s)) k)), V.i (Prod.snd (gp (List.map (wallP c) (loudL m s)) k))]), pv (110 : Nat) (V.i r), pv (111 : Nat) (V.i per)] (by kernel_rfl) (by kernel_rfl) True.intro ?_
      refine e_call (first := []) (caps := []) (R3) (by kernel_rfl) (by kernel_rfl) (by kernel_rfl) (by kernel_rfl) (by kernel_rfl) ?_
      refine aops_n hTT (M := []) (n := 7) [pv (107 : Nat) (V.tup [V.i (0 : Int), V.i (Prod.fst ((0 : Int), (5 : Int))), V.i (Prod.snd ((0 : Int), (5 : Int)))]), pv (113 : Nat) (V.i (0 : Int)), pv (114 : Nat) (V.i (0 : Int)), pv (115 : Nat) (V.i (5 : Int)), pv (18 : Nat) (V.i (0 : Int)), pv (19 : Nat) (V.i (0 : Int)), pv (20 : Nat) (V.i (5 : Int))] (by kernel_rfl) (by kernel_rfl) True.intro ?_
      refine aops_nil ?_
      refine xt_n ?_
      refine hK _ ?_
      clear hK K
      refine aw_seq_k fun K hK => ?_
      refine w_region (n' := 9) (by kernel_rfl) (by kernel_rfl) ?_
      refine aops_n hTT (M := []) (n := 9) [pv (116 : Nat) (V.i (0 : Int)), pv (117 : Nat) (V.b false), pv (118 : Nat) (V.b false), pc (119 : Nat) ((True ∧ True) ∧ ((false == false) = true → True)) (V.gd (false == false) (V.i (5 : Int))), pc (120 : Nat) ((((false == false) = true → (false == false) = true) ∧ True ∧ True) ∧ ((false == false) = true → True)) (V.gd (false == false) (V.b true)), pc (121 : Nat) ((True ∧ True) ∧ ((false == false) = true → True)) (V.gd (false == false) (V.i (↑(0 : Nat) : Int))), pc (122 : Nat) ((((false == false) = true → (false == false) = true) ∧ True ∧ True) ∧ ((false == false) = true → True)) (V.gd (false == false) (V.b true)), pc (123 : Nat) ((((false == false) = true → (false == false) = true) ∧ ((false == false) = true → (false == false) = true) ∧ True) ∧ ((false == false) = true → True)) (V.gd (false == false) (V.b !true == true)), pc (124 : Nat) (True ∧ (false = false → (false == false) = true)) (V.b !true == true)] (by kernel_rfl) (by kernel_rfl) ⟨⟨⟨True.intro, True.intro⟩, (fun _ => True.intro)⟩, ⟨⟨(by (exact fun h => h)), ⟨True.intro, True.intro⟩⟩, (fun _ => True.intro)⟩, ⟨⟨True.intro, True.intro⟩, (fun _ => True.intro)⟩, ⟨⟨(by (exact fun h => h)), ⟨True.intro, True.intro⟩⟩, (fun _ => True.intro)⟩, ⟨⟨(by (exact fun h => h)), ⟨(by (exact fun h => h)), True.intro⟩⟩, (fun _ => True.intro)⟩, ⟨True.intro, (by (intro h; rw [h]; rfl))⟩, True.intro⟩ ?_
      refine aops_nil ?_
      refine xt_n ?_
      refine hK _ ?_
      clear hK K
      refine w_cond (t := !true == true) (by kernel_rfl) (fun e2 => ?_) (fun e2 => ?_)
      · exfalso
        simp at e2
      refine aw_skip ?_
      refine xb_n ?_
      refine xt_n ?_
      refine hK _ ?_
      clear hK K
      refine w_region (n' := 10) (by kernel_rfl) (by kernel_rfl) ?_
      refine aops_n hTT (M := []) (n := 3) [pv (64 : Nat) (V.i (↑(0 : Nat) : Int)), pc (65 : Nat) ((-9223372036854775808 : Int) ≤ (↑(0 : Nat) : Int) + (1 : Int) ∧ (↑(0 : Nat) : Int) + (1 : Int) ≤ (9223372036854775807 : Int)) (V.i ((↑(0 : Nat) : Int) + (1 : Int))), pv (13 : Nat) (V.i ((↑(0 : Nat) : Int) + (1 : Int)))] (by kernel_rfl) (by kernel_rfl) ⟨(by omega), True.intro⟩ ?_
      refine aops_nil ?_
      refine xt_n ?_
      refine ⟨1, by decide, ?_, by decide⟩
      refine le_ren (tl := [(1, V.sl (2 : Nat) (List.length s) fun (k : Nat) => [V.i (Prod.fst (gp s k)), V.i (Prod.snd (gp s k))]), (2, V.i r), (3, V.i per), (4, V.c (Value.int IntKind.u8 b)), (5, V.ptr [V.i (Cut.half c), V.i (Cut.gain c), V.i (Cut.thin c), V.i (Cut.wide c), V.i (Cut.slope c), V.i (Cut.jerk c), V.i (Cut.sty c)]), (11, V.i ((↑(m + (1 : Nat)) : Int) - (1 : Int))), (13, V.i (↑(1 : Nat) : Int))]) [] (.cons (by kernel_rfl) (.cons (by kernel_rfl) (.cons (by kernel_rfl) (.cons (by kernel_rfl) (.cons (by kernel_rfl) (.cons ?_ (.cons (by kernel_rfl) .nil))))))) .nil (by kernel_rfl) (by kernel_rfl)
      exact vi (by omega)
  · refine aw_seq_k fun K hK => ?_
    refine aw_seq_k fun K hK => ?_
    refine w_region (n' := 2) (by kernel_rfl) (by kernel_rfl) ?_
    refine aops_n hTT (M := []) (n := 2) [pv (62 : Nat) (V.i (↑(1 : Nat) : Int)), pv (63 : Nat) (V.b true)] (by kernel_rfl) (by kernel_rfl) True.intro ?_
    refine aops_nil ?_
    refine xt_n ?_
    refine hK _ ?_
    clear hK K
    refine w_true (t := true) (by kernel_rfl) rfl ?_
    refine aw_skip ?_
    refine xt_n ?_
    refine hK _ ?_
    clear hK K
    refine aw_seq_k fun K hK => ?_
    refine aw_block ?_
    refine aw_seq_k fun K hK => ?_
    refine w_region (n' := 3) (by kernel_rfl) (by kernel_rfl) ?_
    refine aops_n hTT (M := []) (n := 13) [pv (66 : Nat) (V.i ((↑N : Int) - (1 : Int))), pv (67 : Nat) (V.c (Value.int IntKind.u8 b)), pc (68 : Nat) ((-9223372036854775808 : Int) ≤ b ∧ b ≤ (9223372036854775807 : Int)) (V.i b), pv (69 : Nat) (V.i ((↑N : Int) - (1 : Int))), pc (70 : Nat) ((-9223372036854775808 : Int) ≤ (↑N : Int) - (1 : Int) + (2 : Int) ∧ (↑N : Int) - (1 : Int) + (2 : Int) ≤ (9223372036854775807 : Int)) (V.i ((↑N : Int) - (1 : Int) + (2 : Int))), pc (71 : Nat) ((↑N : Int) - (1 : Int) + (2 : Int) ≠ (0 : Int)) (V.i (Int.tmod b ((↑N : Int) - (1 : Int) + (2 : Int)))), pv (72 : Nat) (V.i ((↑N : Int) - (1 : Int))), pc (73 : Nat) ((-9223372036854775808 : Int) ≤ (↑N : Int) - (1 : Int) + (1 : Int) ∧ (↑N : Int) - (1 : Int) + (1 : Int) ≤ (9223372036854775807 : Int)) (V.i ((↑N : Int) - (1 : Int) + (1 : Int))), pv (74 : Nat) (V.sl (1 : Nat) (3 : Nat) fun (i : Nat) => List.take (1 : Nat) (List.drop (i * (1 : Nat)) [V.i ((↑N : Int) - (1 : Int)), V.i (Int.tmod b ((↑N : Int) - (1 : Int) + (2 : Int))), V.i ((↑N : Int) - (1 : Int) + (1 : Int))])), pv (75 : Nat) (V.i (↑(1 : Nat) : Int)), pc (76 : Nat) ((0 : Int) ≤ (↑(1 : Nat) : Int) ∧ (↑(1 : Nat) : Int) < (↑(3 : Nat) : Int)) (V.ptr [V.i (Int.tmod b ((↑N : Int) - (1 : Int) + (2 : Int)))]), pv (77 : Nat) (V.i (Int.tmod b ((↑N : Int) - (1 : Int) + (2 : Int)))), pv (14 : Nat) (V.i (Int.tmod b ((↑N : Int) - (1 : Int) + (2 : Int))))] (by kernel_rfl) (by kernel_rfl) ⟨(by omega), (by omega), (by omega), (by omega), (by omega), True.intro⟩ ?_
    refine aops_nil ?_
    refine xt_n ?_
    refine hK _ ?_
    clear hK K
    refine aw_seq_k fun K hK => ?_
    refine aw_seq_k fun K hK => ?_
    rw [hJ]
    by_cases h0 : J = N
    · subst h0
      refine w_region (n' := 4) (by kernel_rfl) (by kernel_rfl) ?_
      refine aops_n hTT (M := []) (n := 15) [pv (78 : Nat) (V.i (↑J : Int)), pv (79 : Nat) (V.b (decide ((40 : Int) < (↑J : Int)))), pv (80 : Nat) (V.b (decide ((40 : Int) < (↑J : Int)))), pc (81 : Nat) ((True ∧ True) ∧ ((decide ((40 : Int) < (↑J : Int)) == false) = true → True)) (V.gd (decide ((40 : Int) < (↑J : Int)) == false) (V.i (↑(1 : Nat) : Int))), pc (82 : Nat) ((((decide ((40 : Int) < (↑J : Int)) == false) = true → (decide ((40 : Int) < (↑J : Int)) == false) = true) ∧ True ∧ True) ∧ ((decide ((40 : Int) < (↑J : Int)) == false) = true → True)) (V.gd (decide ((40 : Int) < (↑J : Int)) == false) (V.b true)), pc (83 : Nat) ((((decide ((40 : Int) < (↑J : Int)) == false) = true → (decide ((40 : Int) < (↑J : Int)) == false) = true) ∧ True) ∧ ((decide ((40 : Int) < (↑J : Int)) == false) = true → True)) (V.gd (decide ((40 : Int) < (↑J : Int)) == false) (V.b true)), pc (84 : Nat) ((True ∧ True) ∧ ((decide ((40 : Int) < (↑J : Int)) == false && true == true) = true → True)) (V.gd (decide ((40 : Int) < (↑J : Int)) == false && true == true) (V.i (↑J : Int))), pc (85 : Nat) ((True ∧ True) ∧ ((decide ((40 : Int) < (↑J : Int)) == false && true == true) = true → True)) (V.gd (decide ((40 : Int) < (↑J : Int)) == false && true == true) (V.i ((↑J : Int) - (1 : Int)))), pc (86 : Nat) ((((decide ((40 : Int) < (↑J : Int)) == false && true == true) = true → (decide ((40 : Int) < (↑J : Int)) == false && true == true) = true) ∧ ((decide ((40 : Int) < (↑J : Int)) == false && true == true) = true → (decide ((40 : Int) < (↑J : Int)) == false && true == true) = true) ∧ True) ∧ ((decide ((40 : Int) < (↑J : Int)) == false && true == true) = true → True)) (V.gd (decide ((40 : Int) < (↑J : Int)) == false && true == true) (V.b (decide ((↑J : Int) - (1 : Int) < (↑J : Int))))), pc (87 : Nat) (((decide ((40 : Int) < (↑J : Int)) == false) = true → (decide ((40 : Int) < (↑J : Int)) == false) = true) ∧ ((decide ((40 : Int) < (↑J : Int)) == false) = true → true = true → (decide ((40 : Int) < (↑J : Int)) == false && true == true) = true) ∧ ((decide ((40 : Int) < (↑J : Int)) == false) = true → True)) (V.gd (decide ((40 : Int) < (↑J : Int)) == false) (V.b (decide ((↑J : Int) - (1 : Int) < (↑J : Int))))), pc (88 : Nat) (True ∧ (decide ((40 : Int) < (↑J : Int)) = false → (decide ((40 : Int) < (↑J : Int)) == false) = true)) (V.b (decide ((40 : Int) < (↑J : Int)) || decide ((↑J : Int) - (1 : Int) < (↑J : Int)))), pv (89 : Nat) (V.b (decide ((40 : Int) < (↑J : Int)) || decide ((↑J : Int) - (1 : Int) < (↑J : Int)))), pc (90 : Nat) ((True ∧ True) ∧ (((decide ((40 : Int) < (↑J : Int)) || decide ((↑J : Int) - (1 : Int) < (↑J : Int))) == false) = true → True)) (V.gd ((decide ((40 : Int) < (↑J : Int)) || decide ((↑J : Int) - (1 : Int) < (↑J : Int))) == false) (V.i (↑J : Int))), pc (91 : Nat) (((((decide ((40 : Int) < (↑J : Int)) || decide ((↑J : Int) - (1 : Int) < (↑J : Int))) == false) = true → ((decide ((40 : Int) < (↑J : Int)) || decide ((↑J : Int) - (1 : Int) < (↑J : Int))) == false) = true) ∧ True ∧ True) ∧ (((decide ((40 : Int) < (↑J : Int)) || decide ((↑J : Int) - (1 : Int) < (↑J : Int))) == false) = true → True)) (V.gd ((decide ((40 : Int) < (↑J : Int)) || decide ((↑J : Int) - (1 : Int) < (↑J : Int))) == false) (V.b (decide ((↑J : Int) < (0 : Int))))), pc (92 : Nat) (True ∧ ((decide ((40 : Int) < (↑J : Int)) || decide ((↑J : Int) - (1 : Int) < (↑J : Int))) = false → ((decide ((40 : Int) < (↑J : Int)) || decide ((↑J : Int) - (1 : Int) < (↑J : Int))) == false) = true)) (V.b (decide ((40 : Int) < (↑J : Int)) || decide ((↑J : Int) - (1 : Int) < (↑J : Int)) || decide ((↑J : Int) < (0 : Int))))] (by kernel_rfl) (by kernel_rfl) ⟨⟨⟨True.intro, True.intro⟩, (fun _ => True.intro)⟩, ⟨⟨(by (exact fun h => h)), ⟨True.intro, True.intro⟩⟩, (fun _ => True.intro)⟩, ⟨⟨(by (exact fun h => h)), True.intro⟩, (fun _ => True.intro)⟩, ⟨⟨True.intro, True.intro⟩, (fun _ => True.intro)⟩, ⟨⟨True.intro, True.intro⟩, (fun _ => True.intro)⟩, ⟨⟨(by (exact fun h => h)), ⟨(by (exact fun h => h)), True.intro⟩⟩, (fun _ => True.intro)⟩, ⟨(by (exact fun h => h)), ⟨(by (intro h; simpa using h)), (fun _ => True.intro)⟩⟩, ⟨True.intro, (by (intro h; rw [h]; rfl))⟩, ⟨⟨True.intro, True.intro⟩, (fun _ => True.intro)⟩, ⟨⟨(by (exact fun h => h)), ⟨True.intro, True.intro⟩⟩, (fun _ => True.intro)⟩, ⟨True.intro, (by (intro h; rw [h]; rfl))⟩, True.intro⟩ ?_
      refine aops_nil ?_
      refine xt_n ?_
      refine hK _ ?_
      clear hK K
      refine w_cond (t := decide ((40 : Int) < (↑J : Int)) || decide ((↑J : Int) - (1 : Int) < (↑J : Int)) || decide ((↑J : Int) < (0 : Int))) (by kernel_rfl) (fun e0 => ?_) (fun e0 => ?_)
      · refine aw_exit ?_
        refine xt_x ?_
        refine xb_same ?_
        refine xt_n ?_
        clear hK K
        refine hK _ ?_
        clear hK K
        refine w_region (n' := 5) (by kernel_rfl) (by kernel_rfl) ?_
        refine aops_n hTT (M := []) (n := 3) [pv (64 : Nat) (V.i (↑(1 : Nat) : Int)), pc (65 : Nat) ((-9223372036854775808 : Int) ≤ (↑(1 : Nat) : Int) + (1 : Int) ∧ (↑(1 : Nat) : Int) + (1 : Int) ≤ (9223372036854775807 : Int)) (V.i ((↑(1 : Nat) : Int) + (1 : Int))), pv (13 : Nat) (V.i ((↑(1 : Nat) : Int) + (1 : Int)))] (by kernel_rfl) (by kernel_rfl) ⟨(by omega), True.intro⟩ ?_
        refine aops_nil ?_
        refine xt_n ?_
        refine ⟨2, by decide, ?_, by decide⟩
        refine le_ren [] (.cons (by kernel_rfl) (.cons (by kernel_rfl) (.cons (by kernel_rfl) (.cons (by kernel_rfl) (.cons (by kernel_rfl) (.cons (by kernel_rfl) (.cons (by kernel_rfl) .nil))))))) .nil (by kernel_rfl) (by kernel_rfl)
      · exfalso
        simp at e0
        omega
    · have fk := hj J (by omega)
      refine w_region (n' := 4) (by kernel_rfl) (by kernel_rfl) ?_
      refine aops_n hTT (M := []) (n := 15) [pv (78 : Nat) (V.i (↑J : Int)), pv (79 : Nat) (V.b (decide ((40 : Int) < (↑J : Int)))), pv (80 : Nat) (V.b (decide ((40 : Int) < (↑J : Int)))), pc (81 : Nat) ((True ∧ True) ∧ ((decide ((40 : Int) < (↑J : Int)) == false) = true → True)) (V.gd (decide ((40 : Int) < (↑J : Int)) == false) (V.i (↑(1 : Nat) : Int))), pc (82 : Nat) ((((decide ((40 : Int) < (↑J : Int)) == false) = true → (decide ((40 : Int) < (↑J : Int)) == false) = true) ∧ True ∧ True) ∧ ((decide ((40 : Int) < (↑J : Int)) == false) = true → True)) (V.gd (decide ((40 : Int) < (↑J : Int)) == false) (V.b true)), pc (83 : Nat) ((((decide ((40 : Int) < (↑J : Int)) == false) = true → (decide ((40 : Int) < (↑J : Int)) == false) = true) ∧ True) ∧ ((decide ((40 : Int) < (↑J : Int)) == false) = true → True)) (V.gd (decide ((40 : Int) < (↑J : Int)) == false) (V.b true)), pc (84 : Nat) ((True ∧ True) ∧ ((decide ((40 : Int) < (↑J : Int)) == false && true == true) = true → True)) (V.gd (decide ((40 : Int) < (↑J : Int)) == false && true == true) (V.i (↑J : Int))), pc (85 : Nat) ((True ∧ True) ∧ ((decide ((40 : Int) < (↑J : Int)) == false && true == true) = true → True)) (V.gd (decide ((40 : Int) < (↑J : Int)) == false && true == true) (V.i ((↑N : Int) - (1 : Int)))), pc (86 : Nat) ((((decide ((40 : Int) < (↑J : Int)) == false && true == true) = true → (decide ((40 : Int) < (↑J : Int)) == false && true == true) = true) ∧ ((decide ((40 : Int) < (↑J : Int)) == false && true == true) = true → (decide ((40 : Int) < (↑J : Int)) == false && true == true) = true) ∧ True) ∧ ((decide ((40 : Int) < (↑J : Int)) == false && true == true) = true → True)) (V.gd (decide ((40 : Int) < (↑J : Int)) == false && true == true) (V.b (decide ((↑N : Int) - (1 : Int) < (↑J : Int))))), pc (87 : Nat) (((decide ((40 : Int) < (↑J : Int)) == false) = true → (decide ((40 : Int) < (↑J : Int)) == false) = true) ∧ ((decide ((40 : Int) < (↑J : Int)) == false) = true → true = true → (decide ((40 : Int) < (↑J : Int)) == false && true == true) = true) ∧ ((decide ((40 : Int) < (↑J : Int)) == false) = true → True)) (V.gd (decide ((40 : Int) < (↑J : Int)) == false) (V.b (decide ((↑N : Int) - (1 : Int) < (↑J : Int))))), pc (88 : Nat) (True ∧ (decide ((40 : Int) < (↑J : Int)) = false → (decide ((40 : Int) < (↑J : Int)) == false) = true)) (V.b (decide ((40 : Int) < (↑J : Int)) || decide ((↑N : Int) - (1 : Int) < (↑J : Int)))), pv (89 : Nat) (V.b (decide ((40 : Int) < (↑J : Int)) || decide ((↑N : Int) - (1 : Int) < (↑J : Int)))), pc (90 : Nat) ((True ∧ True) ∧ (((decide ((40 : Int) < (↑J : Int)) || decide ((↑N : Int) - (1 : Int) < (↑J : Int))) == false) = true → True)) (V.gd ((decide ((40 : Int) < (↑J : Int)) || decide ((↑N : Int) - (1 : Int) < (↑J : Int))) == false) (V.i (↑J : Int))), pc (91 : Nat) (((((decide ((40 : Int) < (↑J : Int)) || decide ((↑N : Int) - (1 : Int) < (↑J : Int))) == false) = true → ((decide ((40 : Int) < (↑J : Int)) || decide ((↑N : Int) - (1 : Int) < (↑J : Int))) == false) = true) ∧ True ∧ True) ∧ (((decide ((40 : Int) < (↑J : Int)) || decide ((↑N : Int) - (1 : Int) < (↑J : Int))) == false) = true → True)) (V.gd ((decide ((40 : Int) < (↑J : Int)) || decide ((↑N : Int) - (1 : Int) < (↑J : Int))) == false) (V.b (decide ((↑J : Int) < (0 : Int))))), pc (92 : Nat) (True ∧ ((decide ((40 : Int) < (↑J : Int)) || decide ((↑N : Int) - (1 : Int) < (↑J : Int))) = false → ((decide ((40 : Int) < (↑J : Int)) || decide ((↑N : Int) - (1 : Int) < (↑J : Int))) == false) = true)) (V.b (decide ((40 : Int) < (↑J : Int)) || decide ((↑N : Int) - (1 : Int) < (↑J : Int)) || decide ((↑J : Int) < (0 : Int))))] (by kernel_rfl) (by kernel_rfl) ⟨⟨⟨True.intro, True.intro⟩, (fun _ => True.intro)⟩, ⟨⟨(by (exact fun h => h)), ⟨True.intro, True.intro⟩⟩, (fun _ => True.intro)⟩, ⟨⟨(by (exact fun h => h)), True.intro⟩, (fun _ => True.intro)⟩, ⟨⟨True.intro, True.intro⟩, (fun _ => True.intro)⟩, ⟨⟨True.intro, True.intro⟩, (fun _ => True.intro)⟩, ⟨⟨(by (exact fun h => h)), ⟨(by (exact fun h => h)), True.intro⟩⟩, (fun _ => True.intro)⟩, ⟨(by (exact fun h => h)), ⟨(by (intro h; simpa using h)), (fun _ => True.intro)⟩⟩, ⟨True.intro, (by (intro h; rw [h]; rfl))⟩, ⟨⟨True.intro, True.intro⟩, (fun _ => True.intro)⟩, ⟨⟨(by (exact fun h => h)), ⟨True.intro, True.intro⟩⟩, (fun _ => True.intro)⟩, ⟨True.intro, (by (intro h; rw [h]; rfl))⟩, True.intro⟩ ?_
      refine aops_nil ?_
      refine xt_n ?_
      refine hK _ ?_
      clear hK K
      refine w_cond (t := decide ((40 : Int) < (↑J : Int)) || decide ((↑N : Int) - (1 : Int) < (↑J : Int)) || decide ((↑J : Int) < (0 : Int))) (by kernel_rfl) (fun e0 => ?_) (fun e0 => ?_)
      · exfalso
        simp at e0
        omega
      have R1 := rCheckSamples_ac (loudL J s) (by rw [loudL_len]; omega) (loud_in hs (by omega))
      have R2 := Cut_ac c (loudL J s) (by rw [loudL_len]; omega)
      have R3 := Fault_ac c ((loudL J s).map (wallP c)) r per (by rw [List.length_map, loudL_len]; omega)
      have R0 := Louder_ac s J (by omega) hs
      obtain ⟨f1, f2⟩ := fitsK_yes fk hc hp
      rw [f1] at R1
      rw [cutR_3 hc f1] at R2
      rw [FaultT, f2] at R3
      refine aw_skip ?_
      refine xt_n ?_
      refine hK _ ?_
      clear hK K
      refine aw_seq_k fun K hK => ?_
      refine w_region (n' := 5) (by kernel_rfl) (by kernel_rfl) ?_
      refine aops_n hTT (M := []) (n := 2) [pv (93 : Nat) (V.sl (2 : Nat) (List.length s) fun (k : Nat) => [V.i (Prod.fst (gp s k)), V.i (Prod.snd (gp s k))]), pv (94 : Nat) (V.i (↑J : Int))] (by kernel_rfl) (by kernel_rfl) True.intro ?_
      refine e_call (first := []) (caps := []) (R0) (by kernel_rfl) (by kernel_rfl) (by kernel_rfl) (by kernel_rfl) (by kernel_rfl) ?_
      refine aops_n hTT (M := []) (n := 1) [pv (15 : Nat) (V.sl (2 : Nat) (List.length (loudL J s)) fun (k : Nat) => [V.i (Prod.fst (gp (loudL J s) k)), V.i (Prod.snd (gp (loudL J s) k))])] (by kernel_rfl) (by kernel_rfl) True.intro ?_
      refine aops_nil ?_
      refine xt_n ?_
      refine hK _ ?_
      clear hK K
      refine aw_seq_k fun K hK => ?_
      refine aw_seq_k fun K hK => ?_
      refine w_region (n' := 6) (by kernel_rfl) (by kernel_rfl) ?_
      refine aops_n hTT (M := []) (n := 1) [pv (96 : Nat) (V.sl (2 : Nat) (List.length (loudL J s)) fun (k : Nat) => [V.i (Prod.fst (gp (loudL J s) k)), V.i (Prod.snd (gp (loudL J s) k))])] (by kernel_rfl) (by kernel_rfl) True.intro ?_
      refine e_call (first := []) (caps := []) (R1) (by kernel_rfl) (by kernel_rfl) (by kernel_rfl) (by kernel_rfl) (by kernel_rfl) ?_
      refine aops_n hTT (M := []) (n := 1) [pv (98 : Nat) (V.b false)] (by kernel_rfl) (by kernel_rfl) True.intro ?_
      refine aops_nil ?_
      refine xt_n ?_
      refine hK _ ?_
      clear hK K
      refine w_false (t := false) (by kernel_rfl) rfl ?_
      refine aw_skip ?_
      refine xt_n ?_
      refine hK _ ?_
      clear hK K
      refine aw_seq_k fun K hK => ?_
      refine w_region (n' := 7) (by kernel_rfl) (by kernel_rfl) ?_
      refine aops_n hTT (M := []) (n := 2) [pv (102 : Nat) (V.agg [V.i (Cut.half c), V.i (Cut.gain c), V.i (Cut.thin c), V.i (Cut.wide c), V.i (Cut.slope c), V.i (Cut.jerk c), V.i (Cut.sty c)]), pv (103 : Nat) (V.sl (2 : Nat) (List.length (loudL J s)) fun (k : Nat) => [V.i (Prod.fst (gp (loudL J s) k)), V.i (Prod.snd (gp (loudL J s) k))])] (by kernel_rfl) (by kernel_rfl) True.intro ?_
      refine e_call (first := []) (caps := []) (R2) (by kernel_rfl) (by kernel_rfl) (by kernel_rfl) (by kernel_rfl) (by kernel_rfl) ?_
      refine aops_n hTT (M := []) (n := 5) [pv (101 : Nat) (V.tup [V.sl (2 : Nat) (List.length (List.map (wallP c) (loudL J s))) fun (k : Nat) => [V.i (Prod.fst (gp (List.map (wallP c) (loudL J s)) k)), V.i (Prod.snd (gp (List.map (wallP c) (loudL J s)) k))], V.i (0 : Int)]), pv (105 : Nat) (V.sl (2 : Nat) (List.length (List.map (wallP c) (loudL J s))) fun (k : Nat) => [V.i (Prod.fst (gp (List.map (wallP c) (loudL J s)) k)), V.i (Prod.snd (gp (List.map (wallP c) (loudL J s)) k))]), pv (106 : Nat) (V.i (0 : Int)), pv (16 : Nat) (V.sl (2 : Nat) (List.length (List.map (wallP c) (loudL J s))) fun (k : Nat) => [V.i (Prod.fst (gp (List.map (wallP c) (loudL J s)) k)), V.i (Prod.snd (gp (List.map (wallP c) (loudL J s)) k))]), pv (17 : Nat) (V.i (0 : Int))] (by kernel_rfl) (by kernel_rfl) True.intro ?_
      refine aops_nil ?_
      refine xt_n ?_
      refine hK _ ?_
      clear hK K
      refine aw_seq_k fun K hK => ?_
      refine w_region (n' := 8) (by kernel_rfl) (by kernel_rfl) ?_
      refine aops_n hTT (M := []) (n := 4) [pv (108 : Nat) (V.agg [V.i (Cut.half c), V.i (Cut.gain c), V.i (Cut.thin c), V.i (Cut.wide c), V.i (Cut.slope c), V.i (Cut.jerk c), V.i (Cut.sty c)]), pv (109 : Nat) (V.sl (2 : Nat) (List.length (List.map (wallP c) (loudL J s))) fun (k : Nat) => [V.i (Prod.fst (gp (List.map (wallP c) (loudL J s)) k)), V.i (Prod.snd (gp (List.map (wallP c) (loudL J s)) k))]), pv (110 : Nat) (V.i r), pv (111 : Nat) (V.i per)] (by kernel_rfl) (by kernel_rfl) True.intro ?_
      refine e_call (first := []) (caps := []) (R3) (by kernel_rfl) (by kernel_rfl) (by kernel_rfl) (by kernel_rfl) (by kernel_rfl) ?_
      refine aops_n hTT (M := []) (n := 7) [pv (107 : Nat) (V.tup [V.i (0 : Int), V.i (Prod.fst ((0 : Int), (5 : Int))), V.i (Prod.snd ((0 : Int), (5 : Int)))]), pv (113 : Nat) (V.i (0 : Int)), pv (114 : Nat) (V.i (0 : Int)), pv (115 : Nat) (V.i (5 : Int)), pv (18 : Nat) (V.i (0 : Int)), pv (19 : Nat) (V.i (0 : Int)), pv (20 : Nat) (V.i (5 : Int))] (by kernel_rfl) (by kernel_rfl) True.intro ?_
      refine aops_nil ?_
      refine xt_n ?_
      refine hK _ ?_
      clear hK K
      refine aw_seq_k fun K hK => ?_
      refine w_region (n' := 9) (by kernel_rfl) (by kernel_rfl) ?_
      refine aops_n hTT (M := []) (n := 9) [pv (116 : Nat) (V.i (0 : Int)), pv (117 : Nat) (V.b false), pv (118 : Nat) (V.b false), pc (119 : Nat) ((True ∧ True) ∧ ((false == false) = true → True)) (V.gd (false == false) (V.i (5 : Int))), pc (120 : Nat) ((((false == false) = true → (false == false) = true) ∧ True ∧ True) ∧ ((false == false) = true → True)) (V.gd (false == false) (V.b true)), pc (121 : Nat) ((True ∧ True) ∧ ((false == false) = true → True)) (V.gd (false == false) (V.i (↑(1 : Nat) : Int))), pc (122 : Nat) ((((false == false) = true → (false == false) = true) ∧ True ∧ True) ∧ ((false == false) = true → True)) (V.gd (false == false) (V.b true)), pc (123 : Nat) ((((false == false) = true → (false == false) = true) ∧ ((false == false) = true → (false == false) = true) ∧ True) ∧ ((false == false) = true → True)) (V.gd (false == false) (V.b !true == true)), pc (124 : Nat) (True ∧ (false = false → (false == false) = true)) (V.b !true == true)] (by kernel_rfl) (by kernel_rfl) ⟨⟨⟨True.intro, True.intro⟩, (fun _ => True.intro)⟩, ⟨⟨(by (exact fun h => h)), ⟨True.intro, True.intro⟩⟩, (fun _ => True.intro)⟩, ⟨⟨True.intro, True.intro⟩, (fun _ => True.intro)⟩, ⟨⟨(by (exact fun h => h)), ⟨True.intro, True.intro⟩⟩, (fun _ => True.intro)⟩, ⟨⟨(by (exact fun h => h)), ⟨(by (exact fun h => h)), True.intro⟩⟩, (fun _ => True.intro)⟩, ⟨True.intro, (by (intro h; rw [h]; rfl))⟩, True.intro⟩ ?_
      refine aops_nil ?_
      refine xt_n ?_
      refine hK _ ?_
      clear hK K
      refine w_cond (t := !true == true) (by kernel_rfl) (fun e2 => ?_) (fun e2 => ?_)
      · exfalso
        simp at e2
      refine aw_skip ?_
      refine xb_n ?_
      refine xt_n ?_
      refine hK _ ?_
      clear hK K
      refine w_region (n' := 10) (by kernel_rfl) (by kernel_rfl) ?_
      refine aops_n hTT (M := []) (n := 3) [pv (64 : Nat) (V.i (↑(1 : Nat) : Int)), pc (65 : Nat) ((-9223372036854775808 : Int) ≤ (↑(1 : Nat) : Int) + (1 : Int) ∧ (↑(1 : Nat) : Int) + (1 : Int) ≤ (9223372036854775807 : Int)) (V.i ((↑(1 : Nat) : Int) + (1 : Int))), pv (13 : Nat) (V.i ((↑(1 : Nat) : Int) + (1 : Int)))] (by kernel_rfl) (by kernel_rfl) ⟨(by omega), True.intro⟩ ?_
      refine aops_nil ?_
      refine xt_n ?_
      refine ⟨2, by decide, ?_, by decide⟩
      refine le_ren [] (.cons (by kernel_rfl) (.cons (by kernel_rfl) (.cons (by kernel_rfl) (.cons (by kernel_rfl) (.cons (by kernel_rfl) (.cons (by kernel_rfl) (.cons (by kernel_rfl) .nil))))))) .nil (by kernel_rfl) (by kernel_rfl)
  · refine aw_seq_k fun K hK => ?_
    refine aw_seq_k fun K hK => ?_
    refine w_region (n' := 2) (by kernel_rfl) (by kernel_rfl) ?_
    refine aops_n hTT (M := []) (n := 2) [pv (62 : Nat) (V.i (↑(2 : Nat) : Int)), pv (63 : Nat) (V.b true)] (by kernel_rfl) (by kernel_rfl) True.intro ?_
    refine aops_nil ?_
    refine xt_n ?_
    refine hK _ ?_
    clear hK K
    refine w_true (t := true) (by kernel_rfl) rfl ?_
    refine aw_skip ?_
    refine xt_n ?_
    refine hK _ ?_
    clear hK K
    refine aw_seq_k fun K hK => ?_
    refine aw_block ?_
    refine aw_seq_k fun K hK => ?_
    refine w_region (n' := 3) (by kernel_rfl) (by kernel_rfl) ?_
    refine aops_n hTT (M := []) (n := 13) [pv (66 : Nat) (V.i ((↑N : Int) - (1 : Int))), pv (67 : Nat) (V.c (Value.int IntKind.u8 b)), pc (68 : Nat) ((-9223372036854775808 : Int) ≤ b ∧ b ≤ (9223372036854775807 : Int)) (V.i b), pv (69 : Nat) (V.i ((↑N : Int) - (1 : Int))), pc (70 : Nat) ((-9223372036854775808 : Int) ≤ (↑N : Int) - (1 : Int) + (2 : Int) ∧ (↑N : Int) - (1 : Int) + (2 : Int) ≤ (9223372036854775807 : Int)) (V.i ((↑N : Int) - (1 : Int) + (2 : Int))), pc (71 : Nat) ((↑N : Int) - (1 : Int) + (2 : Int) ≠ (0 : Int)) (V.i (Int.tmod b ((↑N : Int) - (1 : Int) + (2 : Int)))), pv (72 : Nat) (V.i ((↑N : Int) - (1 : Int))), pc (73 : Nat) ((-9223372036854775808 : Int) ≤ (↑N : Int) - (1 : Int) + (1 : Int) ∧ (↑N : Int) - (1 : Int) + (1 : Int) ≤ (9223372036854775807 : Int)) (V.i ((↑N : Int) - (1 : Int) + (1 : Int))), pv (74 : Nat) (V.sl (1 : Nat) (3 : Nat) fun (i : Nat) => List.take (1 : Nat) (List.drop (i * (1 : Nat)) [V.i ((↑N : Int) - (1 : Int)), V.i (Int.tmod b ((↑N : Int) - (1 : Int) + (2 : Int))), V.i ((↑N : Int) - (1 : Int) + (1 : Int))])), pv (75 : Nat) (V.i (↑(2 : Nat) : Int)), pc (76 : Nat) ((0 : Int) ≤ (↑(2 : Nat) : Int) ∧ (↑(2 : Nat) : Int) < (↑(3 : Nat) : Int)) (V.ptr [V.i ((↑N : Int) - (1 : Int) + (1 : Int))]), pv (77 : Nat) (V.i ((↑N : Int) - (1 : Int) + (1 : Int))), pv (14 : Nat) (V.i ((↑N : Int) - (1 : Int) + (1 : Int)))] (by kernel_rfl) (by kernel_rfl) ⟨(by omega), (by omega), (by omega), (by omega), (by omega), True.intro⟩ ?_
    refine aops_nil ?_
    refine xt_n ?_
    refine hK _ ?_
    clear hK K
    refine aw_seq_k fun K hK => ?_
    refine aw_seq_k fun K hK => ?_
    rw [show (N : Int) - 1 + 1 = (N : Int) by omega]
    by_cases h0 : N = 41
    · subst h0
      refine w_region (n' := 4) (by kernel_rfl) (by kernel_rfl) ?_
      refine aops_n hTT (M := []) (n := 15) [pv (78 : Nat) (V.i (↑(41 : Nat) : Int)), pv (79 : Nat) (V.b true), pv (80 : Nat) (V.b true), pc (81 : Nat) ((True ∧ True) ∧ ((true == false) = true → True)) (V.gd (true == false) (V.i (↑(2 : Nat) : Int))), pc (82 : Nat) ((((true == false) = true → (true == false) = true) ∧ True ∧ True) ∧ ((true == false) = true → True)) (V.gd (true == false) (V.b false)), pc (83 : Nat) ((((true == false) = true → (true == false) = true) ∧ True) ∧ ((true == false) = true → True)) (V.gd (true == false) (V.b false)), pc (84 : Nat) ((True ∧ True) ∧ ((true == false && false == true) = true → True)) (V.gd (true == false && false == true) (V.i (↑(41 : Nat) : Int))), pc (85 : Nat) ((True ∧ True) ∧ ((true == false && false == true) = true → True)) (V.gd (true == false && false == true) (V.i ((↑(41 : Nat) : Int) - (1 : Int)))), pc (86 : Nat) ((((true == false && false == true) = true → (true == false && false == true) = true) ∧ ((true == false && false == true) = true → (true == false && false == true) = true) ∧ True) ∧ ((true == false && false == true) = true → True)) (V.gd (true == false && false == true) (V.b true)), pc (87 : Nat) (((true == false) = true → (true == false) = true) ∧ ((true == false) = true → false = true → (true == false && false == true) = true) ∧ ((true == false) = true → True)) (V.gd (true == false) (V.b false)), pc (88 : Nat) (True ∧ (true = false → (true == false) = true)) (V.b true), pv (89 : Nat) (V.b true), pc (90 : Nat) ((True ∧ True) ∧ ((true == false) = true → True)) (V.gd (true == false) (V.i (↑(41 : Nat) : Int))), pc (91 : Nat) ((((true == false) = true → (true == false) = true) ∧ True ∧ True) ∧ ((true == false) = true → True)) (V.gd (true == false) (V.b false)), pc (92 : Nat) (True ∧ (true = false → (true == false) = true)) (V.b true)] (by kernel_rfl) (by kernel_rfl) ⟨⟨⟨True.intro, True.intro⟩, (fun _ => True.intro)⟩, ⟨⟨(by (exact fun h => h)), ⟨True.intro, True.intro⟩⟩, (fun _ => True.intro)⟩, ⟨⟨(by (exact fun h => h)), True.intro⟩, (fun _ => True.intro)⟩, ⟨⟨True.intro, True.intro⟩, (fun _ => True.intro)⟩, ⟨⟨True.intro, True.intro⟩, (fun _ => True.intro)⟩, ⟨⟨(by (exact fun h => h)), ⟨(by (exact fun h => h)), True.intro⟩⟩, (fun _ => True.intro)⟩, ⟨(by (exact fun h => h)), ⟨(by (intro _; simp; done)), (fun _ => True.intro)⟩⟩, ⟨True.intro, (by (intro h; simp at h; done))⟩, ⟨⟨True.intro, True.intro⟩, (fun _ => True.intro)⟩, ⟨⟨(by (exact fun h => h)), ⟨True.intro, True.intro⟩⟩, (fun _ => True.intro)⟩, ⟨True.intro, (by (intro h; simp at h; done))⟩, True.intro⟩ ?_
      refine aops_nil ?_
      refine xt_n ?_
      refine hK _ ?_
      clear hK K
      refine w_true (t := true) (by kernel_rfl) rfl ?_
      refine aw_exit ?_
      refine xt_x ?_
      refine xb_same ?_
      refine xt_n ?_
      clear hK K
      refine hK _ ?_
      clear hK K
      refine w_region (n' := 5) (by kernel_rfl) (by kernel_rfl) ?_
      refine aops_n hTT (M := []) (n := 3) [pv (64 : Nat) (V.i (↑(2 : Nat) : Int)), pc (65 : Nat) ((-9223372036854775808 : Int) ≤ (↑(2 : Nat) : Int) + (1 : Int) ∧ (↑(2 : Nat) : Int) + (1 : Int) ≤ (9223372036854775807 : Int)) (V.i ((↑(2 : Nat) : Int) + (1 : Int))), pv (13 : Nat) (V.i ((↑(2 : Nat) : Int) + (1 : Int)))] (by kernel_rfl) (by kernel_rfl) ⟨(by omega), True.intro⟩ ?_
      refine aops_nil ?_
      refine xt_n ?_
      refine ⟨3, by decide, ?_, by decide⟩
      refine le_ren [] (.cons (by kernel_rfl) (.cons (by kernel_rfl) (.cons (by kernel_rfl) (.cons (by kernel_rfl) (.cons (by kernel_rfl) (.cons (by kernel_rfl) (.cons (by kernel_rfl) .nil))))))) .nil (by kernel_rfl) (by kernel_rfl)
    · have fk := hno (by omega)
      refine w_region (n' := 4) (by kernel_rfl) (by kernel_rfl) ?_
      refine aops_n hTT (M := []) (n := 15) [pv (78 : Nat) (V.i (↑N : Int)), pv (79 : Nat) (V.b (decide ((40 : Int) < (↑N : Int)))), pv (80 : Nat) (V.b (decide ((40 : Int) < (↑N : Int)))), pc (81 : Nat) ((True ∧ True) ∧ ((decide ((40 : Int) < (↑N : Int)) == false) = true → True)) (V.gd (decide ((40 : Int) < (↑N : Int)) == false) (V.i (↑(2 : Nat) : Int))), pc (82 : Nat) ((((decide ((40 : Int) < (↑N : Int)) == false) = true → (decide ((40 : Int) < (↑N : Int)) == false) = true) ∧ True ∧ True) ∧ ((decide ((40 : Int) < (↑N : Int)) == false) = true → True)) (V.gd (decide ((40 : Int) < (↑N : Int)) == false) (V.b false)), pc (83 : Nat) ((((decide ((40 : Int) < (↑N : Int)) == false) = true → (decide ((40 : Int) < (↑N : Int)) == false) = true) ∧ True) ∧ ((decide ((40 : Int) < (↑N : Int)) == false) = true → True)) (V.gd (decide ((40 : Int) < (↑N : Int)) == false) (V.b false)), pc (84 : Nat) ((True ∧ True) ∧ ((decide ((40 : Int) < (↑N : Int)) == false && false == true) = true → True)) (V.gd (decide ((40 : Int) < (↑N : Int)) == false && false == true) (V.i (↑N : Int))), pc (85 : Nat) ((True ∧ True) ∧ ((decide ((40 : Int) < (↑N : Int)) == false && false == true) = true → True)) (V.gd (decide ((40 : Int) < (↑N : Int)) == false && false == true) (V.i ((↑N : Int) - (1 : Int)))), pc (86 : Nat) ((((decide ((40 : Int) < (↑N : Int)) == false && false == true) = true → (decide ((40 : Int) < (↑N : Int)) == false && false == true) = true) ∧ ((decide ((40 : Int) < (↑N : Int)) == false && false == true) = true → (decide ((40 : Int) < (↑N : Int)) == false && false == true) = true) ∧ True) ∧ ((decide ((40 : Int) < (↑N : Int)) == false && false == true) = true → True)) (V.gd (decide ((40 : Int) < (↑N : Int)) == false && false == true) (V.b (decide ((↑N : Int) - (1 : Int) < (↑N : Int))))), pc (87 : Nat) (((decide ((40 : Int) < (↑N : Int)) == false) = true → (decide ((40 : Int) < (↑N : Int)) == false) = true) ∧ ((decide ((40 : Int) < (↑N : Int)) == false) = true → false = true → (decide ((40 : Int) < (↑N : Int)) == false && false == true) = true) ∧ ((decide ((40 : Int) < (↑N : Int)) == false) = true → True)) (V.gd (decide ((40 : Int) < (↑N : Int)) == false) (V.b false)), pc (88 : Nat) (True ∧ (decide ((40 : Int) < (↑N : Int)) = false → (decide ((40 : Int) < (↑N : Int)) == false) = true)) (V.b (decide ((40 : Int) < (↑N : Int)) && true)), pv (89 : Nat) (V.b (decide ((40 : Int) < (↑N : Int)) && true)), pc (90 : Nat) ((True ∧ True) ∧ (((decide ((40 : Int) < (↑N : Int)) && true) == false) = true → True)) (V.gd ((decide ((40 : Int) < (↑N : Int)) && true) == false) (V.i (↑N : Int))), pc (91 : Nat) (((((decide ((40 : Int) < (↑N : Int)) && true) == false) = true → ((decide ((40 : Int) < (↑N : Int)) && true) == false) = true) ∧ True ∧ True) ∧ (((decide ((40 : Int) < (↑N : Int)) && true) == false) = true → True)) (V.gd ((decide ((40 : Int) < (↑N : Int)) && true) == false) (V.b (decide ((↑N : Int) < (0 : Int))))), pc (92 : Nat) (True ∧ ((decide ((40 : Int) < (↑N : Int)) && true) = false → ((decide ((40 : Int) < (↑N : Int)) && true) == false) = true)) (V.b (decide ((40 : Int) < (↑N : Int)) && true || decide ((↑N : Int) < (0 : Int))))] (by kernel_rfl) (by kernel_rfl) ⟨⟨⟨True.intro, True.intro⟩, (fun _ => True.intro)⟩, ⟨⟨(by (exact fun h => h)), ⟨True.intro, True.intro⟩⟩, (fun _ => True.intro)⟩, ⟨⟨(by (exact fun h => h)), True.intro⟩, (fun _ => True.intro)⟩, ⟨⟨True.intro, True.intro⟩, (fun _ => True.intro)⟩, ⟨⟨True.intro, True.intro⟩, (fun _ => True.intro)⟩, ⟨⟨(by (exact fun h => h)), ⟨(by (exact fun h => h)), True.intro⟩⟩, (fun _ => True.intro)⟩, ⟨(by (exact fun h => h)), ⟨(by (intro _; simp; done)), (fun _ => True.intro)⟩⟩, ⟨True.intro, (by (intro h; rw [h]; rfl))⟩, ⟨⟨True.intro, True.intro⟩, (fun _ => True.intro)⟩, ⟨⟨(by (exact fun h => h)), ⟨True.intro, True.intro⟩⟩, (fun _ => True.intro)⟩, ⟨True.intro, (by (intro h; rw [h]; rfl))⟩, True.intro⟩ ?_
      refine aops_nil ?_
      refine xt_n ?_
      refine hK _ ?_
      clear hK K
      refine w_cond (t := decide ((40 : Int) < (↑N : Int)) && true || decide ((↑N : Int) < (0 : Int))) (by kernel_rfl) (fun e0 => ?_) (fun e0 => ?_)
      · exfalso
        simp at e0
        omega
      have R1 := rCheckSamples_ac (loudL N s) (by rw [loudL_len]; omega) (loud_in hs (by omega))
      have R2 := Cut_ac c (loudL N s) (by rw [loudL_len]; omega)
      have R3 := Fault_ac c ((loudL N s).map (wallP c)) r per (by rw [List.length_map, loudL_len]; omega)
      have R0 := Louder_ac s N (by omega) hs
      refine aw_skip ?_
      refine xt_n ?_
      refine hK _ ?_
      clear hK K
      refine aw_seq_k fun K hK => ?_
      refine w_region (n' := 5) (by kernel_rfl) (by kernel_rfl) ?_
      refine aops_n hTT (M := []) (n := 2) [pv (93 : Nat) (V.sl (2 : Nat) (List.length s) fun (k : Nat) => [V.i (Prod.fst (gp s k)), V.i (Prod.snd (gp s k))]), pv (94 : Nat) (V.i (↑N : Int))] (by kernel_rfl) (by kernel_rfl) True.intro ?_
      refine e_call (first := []) (caps := []) (R0) (by kernel_rfl) (by kernel_rfl) (by kernel_rfl) (by kernel_rfl) (by kernel_rfl) ?_
      refine aops_n hTT (M := []) (n := 1) [pv (15 : Nat) (V.sl (2 : Nat) (List.length (loudL N s)) fun (k : Nat) => [V.i (Prod.fst (gp (loudL N s) k)), V.i (Prod.snd (gp (loudL N s) k))])] (by kernel_rfl) (by kernel_rfl) True.intro ?_
      refine aops_nil ?_
      refine xt_n ?_
      refine hK _ ?_
      clear hK K
      refine aw_seq_k fun K hK => ?_
      refine aw_seq_k fun K hK => ?_
      refine w_region (n' := 6) (by kernel_rfl) (by kernel_rfl) ?_
      refine aops_n hTT (M := []) (n := 1) [pv (96 : Nat) (V.sl (2 : Nat) (List.length (loudL N s)) fun (k : Nat) => [V.i (Prod.fst (gp (loudL N s) k)), V.i (Prod.snd (gp (loudL N s) k))])] (by kernel_rfl) (by kernel_rfl) True.intro ?_
      refine e_call (first := []) (caps := []) (R1) (by kernel_rfl) (by kernel_rfl) (by kernel_rfl) (by kernel_rfl) (by kernel_rfl) ?_
      refine aops_n hTT (M := []) (n := 1) [pv (98 : Nat) (V.b !decide (sChk (loudL N s) = (0 : Int)))] (by kernel_rfl) (by kernel_rfl) True.intro ?_
      refine aops_nil ?_
      refine xt_n ?_
      refine hK _ ?_
      clear hK K
      refine w_cond (t := !decide (sChk (loudL N s) = (0 : Int))) (by kernel_rfl) (fun e1 => ?_) (fun e1 => ?_)
      · refine aw_seq_k fun K hK => ?_
        refine aw_seq_k fun K hK => ?_
        refine w_region (n' := 7) (by kernel_rfl) (by kernel_rfl) ?_
        refine aops_n hTT (M := []) (n := 2) [pv (99 : Nat) (V.i (↑(2 : Nat) : Int)), pv (100 : Nat) (V.b false)] (by kernel_rfl) (by kernel_rfl) True.intro ?_
        refine aops_nil ?_
        refine xt_n ?_
        refine hK _ ?_
        clear hK K
        refine w_false (t := false) (by kernel_rfl) rfl ?_
        refine aw_skip ?_
        refine xt_n ?_
        refine hK _ ?_
        clear hK K
        refine aw_exit ?_
        refine xt_x ?_
        refine xb_same ?_
        refine xt_n ?_
        clear hK K
        refine hK _ ?_
        clear hK K
        refine w_region (n' := 8) (by kernel_rfl) (by kernel_rfl) ?_
        refine aops_n hTT (M := []) (n := 3) [pv (64 : Nat) (V.i (↑(2 : Nat) : Int)), pc (65 : Nat) ((-9223372036854775808 : Int) ≤ (↑(2 : Nat) : Int) + (1 : Int) ∧ (↑(2 : Nat) : Int) + (1 : Int) ≤ (9223372036854775807 : Int)) (V.i ((↑(2 : Nat) : Int) + (1 : Int))), pv (13 : Nat) (V.i ((↑(2 : Nat) : Int) + (1 : Int)))] (by kernel_rfl) (by kernel_rfl) ⟨(by omega), True.intro⟩ ?_
        refine aops_nil ?_
        refine xt_n ?_
        refine ⟨3, by decide, ?_, by decide⟩
        refine le_ren [] (.cons (by kernel_rfl) (.cons (by kernel_rfl) (.cons (by kernel_rfl) (.cons (by kernel_rfl) (.cons (by kernel_rfl) (.cons (by kernel_rfl) (.cons (by kernel_rfl) .nil))))))) .nil (by kernel_rfl) (by kernel_rfl)
      · have f1 : sChk (loudL N s) = 0 := by simpa using e1
        have f2 := fitsK_no fk hc hp f1
        rw [cutR_3 hc f1] at R2
        rw [FaultT, f2] at R3
        refine aw_skip ?_
        refine xt_n ?_
        refine hK _ ?_
        clear hK K
        refine aw_seq_k fun K hK => ?_
        refine w_region (n' := 7) (by kernel_rfl) (by kernel_rfl) ?_
        refine aops_n hTT (M := []) (n := 2) [pv (102 : Nat) (V.agg [V.i (Cut.half c), V.i (Cut.gain c), V.i (Cut.thin c), V.i (Cut.wide c), V.i (Cut.slope c), V.i (Cut.jerk c), V.i (Cut.sty c)]), pv (103 : Nat) (V.sl (2 : Nat) (List.length (loudL N s)) fun (k : Nat) => [V.i (Prod.fst (gp (loudL N s) k)), V.i (Prod.snd (gp (loudL N s) k))])] (by kernel_rfl) (by kernel_rfl) True.intro ?_
        refine e_call (first := []) (caps := []) (R2) (by kernel_rfl) (by kernel_rfl) (by kernel_rfl) (by kernel_rfl) (by kernel_rfl) ?_
        refine aops_n hTT (M := []) (n := 5) [pv (101 : Nat) (V.tup [V.sl (2 : Nat) (List.length (List.map (wallP c) (loudL N s))) fun (k : Nat) => [V.i (Prod.fst (gp (List.map (wallP c) (loudL N s)) k)), V.i (Prod.snd (gp (List.map (wallP c) (loudL N s)) k))], V.i (0 : Int)]), pv (105 : Nat) (V.sl (2 : Nat) (List.length (List.map (wallP c) (loudL N s))) fun (k : Nat) => [V.i (Prod.fst (gp (List.map (wallP c) (loudL N s)) k)), V.i (Prod.snd (gp (List.map (wallP c) (loudL N s)) k))]), pv (106 : Nat) (V.i (0 : Int)), pv (16 : Nat) (V.sl (2 : Nat) (List.length (List.map (wallP c) (loudL N s))) fun (k : Nat) => [V.i (Prod.fst (gp (List.map (wallP c) (loudL N s)) k)), V.i (Prod.snd (gp (List.map (wallP c) (loudL N s)) k))]), pv (17 : Nat) (V.i (0 : Int))] (by kernel_rfl) (by kernel_rfl) True.intro ?_
        refine aops_nil ?_
        refine xt_n ?_
        refine hK _ ?_
        clear hK K
        refine aw_seq_k fun K hK => ?_
        refine w_region (n' := 8) (by kernel_rfl) (by kernel_rfl) ?_
        refine aops_n hTT (M := []) (n := 4) [pv (108 : Nat) (V.agg [V.i (Cut.half c), V.i (Cut.gain c), V.i (Cut.thin c), V.i (Cut.wide c), V.i (Cut.slope c), V.i (Cut.jerk c), V.i (Cut.sty c)]), pv (109 : Nat) (V.sl (2 : Nat) (List.length (List.map (wallP c) (loudL N s))) fun (k : Nat) => [V.i (Prod.fst (gp (List.map (wallP c) (loudL N s)) k)), V.i (Prod.snd (gp (List.map (wallP c) (loudL N s)) k))]), pv (110 : Nat) (V.i r), pv (111 : Nat) (V.i per)] (by kernel_rfl) (by kernel_rfl) True.intro ?_
        refine e_call (first := []) (caps := []) (R3) (by kernel_rfl) (by kernel_rfl) (by kernel_rfl) (by kernel_rfl) (by kernel_rfl) ?_
        refine aops_n hTT (M := []) (n := 7) [pv (107 : Nat) (V.tup [V.i (Prod.fst (FaultV c (List.map (wallP c) (loudL N s)) r per)), V.i (Prod.fst (Prod.snd (FaultV c (List.map (wallP c) (loudL N s)) r per))), V.i (0 : Int)]), pv (113 : Nat) (V.i (Prod.fst (FaultV c (List.map (wallP c) (loudL N s)) r per))), pv (114 : Nat) (V.i (Prod.fst (Prod.snd (FaultV c (List.map (wallP c) (loudL N s)) r per)))), pv (115 : Nat) (V.i (0 : Int)), pv (18 : Nat) (V.i (Prod.fst (FaultV c (List.map (wallP c) (loudL N s)) r per))), pv (19 : Nat) (V.i (Prod.fst (Prod.snd (FaultV c (List.map (wallP c) (loudL N s)) r per)))), pv (20 : Nat) (V.i (0 : Int))] (by kernel_rfl) (by kernel_rfl) True.intro ?_
        refine aops_nil ?_
        refine xt_n ?_
        refine hK _ ?_
        clear hK K
        refine aw_seq_k fun K hK => ?_
        refine w_region (n' := 9) (by kernel_rfl) (by kernel_rfl) ?_
        refine aops_n hTT (M := []) (n := 9) [pv (116 : Nat) (V.i (0 : Int)), pv (117 : Nat) (V.b false), pv (118 : Nat) (V.b false), pc (119 : Nat) ((True ∧ True) ∧ ((false == false) = true → True)) (V.gd (false == false) (V.i (0 : Int))), pc (120 : Nat) ((((false == false) = true → (false == false) = true) ∧ True ∧ True) ∧ ((false == false) = true → True)) (V.gd (false == false) (V.b false)), pc (121 : Nat) ((True ∧ True) ∧ ((false == false) = true → True)) (V.gd (false == false) (V.i (↑(2 : Nat) : Int))), pc (122 : Nat) ((((false == false) = true → (false == false) = true) ∧ True ∧ True) ∧ ((false == false) = true → True)) (V.gd (false == false) (V.b false)), pc (123 : Nat) ((((false == false) = true → (false == false) = true) ∧ ((false == false) = true → (false == false) = true) ∧ True) ∧ ((false == false) = true → True)) (V.gd (false == false) (V.b !false == false)), pc (124 : Nat) (True ∧ (false = false → (false == false) = true)) (V.b !false == false)] (by kernel_rfl) (by kernel_rfl) ⟨⟨⟨True.intro, True.intro⟩, (fun _ => True.intro)⟩, ⟨⟨(by (exact fun h => h)), ⟨True.intro, True.intro⟩⟩, (fun _ => True.intro)⟩, ⟨⟨True.intro, True.intro⟩, (fun _ => True.intro)⟩, ⟨⟨(by (exact fun h => h)), ⟨True.intro, True.intro⟩⟩, (fun _ => True.intro)⟩, ⟨⟨(by (exact fun h => h)), ⟨(by (exact fun h => h)), True.intro⟩⟩, (fun _ => True.intro)⟩, ⟨True.intro, (by (intro h; rw [h]; rfl))⟩, True.intro⟩ ?_
        refine aops_nil ?_
        refine xt_n ?_
        refine hK _ ?_
        clear hK K
        refine w_cond (t := !false == false) (by kernel_rfl) (fun e2 => ?_) (fun e2 => ?_)
        · exfalso
          simp at e2
        refine aw_skip ?_
        refine xb_n ?_
        refine xt_n ?_
        refine hK _ ?_
        clear hK K
        refine w_region (n' := 10) (by kernel_rfl) (by kernel_rfl) ?_
        refine aops_n hTT (M := []) (n := 3) [pv (64 : Nat) (V.i (↑(2 : Nat) : Int)), pc (65 : Nat) ((-9223372036854775808 : Int) ≤ (↑(2 : Nat) : Int) + (1 : Int) ∧ (↑(2 : Nat) : Int) + (1 : Int) ≤ (9223372036854775807 : Int)) (V.i ((↑(2 : Nat) : Int) + (1 : Int))), pv (13 : Nat) (V.i ((↑(2 : Nat) : Int) + (1 : Int)))] (by kernel_rfl) (by kernel_rfl) ⟨(by omega), True.intro⟩ ?_
        refine aops_nil ?_
        refine xt_n ?_
        refine ⟨3, by decide, ?_, by decide⟩
        refine le_ren [] (.cons (by kernel_rfl) (.cons (by kernel_rfl) (.cons (by kernel_rfl) (.cons (by kernel_rfl) (.cons (by kernel_rfl) (.cons (by kernel_rfl) (.cons (by kernel_rfl) .nil))))))) .nil (by kernel_rfl) (by kernel_rfl)
  · refine aw_seq_k fun K hK => ?_
    refine aw_seq_k fun K hK => ?_
    refine w_region (n' := 2) (by kernel_rfl) (by kernel_rfl) ?_
    refine aops_n hTT (M := []) (n := 2) [pv (62 : Nat) (V.i (↑(3 : Nat) : Int)), pv (63 : Nat) (V.b false)] (by kernel_rfl) (by kernel_rfl) True.intro ?_
    refine aops_nil ?_
    refine xt_n ?_
    refine hK _ ?_
    clear hK K
    refine w_false (t := false) (by kernel_rfl) rfl ?_
    refine aw_exit ?_
    refine xt_x ?_
    refine xt_x ?_
    refine xb_same ?_
    refine xt_n ?_
    clear hK K
    refine hK _ ?_
    clear hK K
    refine aw_seq_k fun K hK => ?_
    refine w_region (n' := 3) (by kernel_rfl) (by kernel_rfl) ?_
    refine e_call (first := []) (caps := []) (gWorks_ac) (by kernel_rfl) (by kernel_rfl) (by kernel_rfl) (by kernel_rfl) (by kernel_rfl) ?_
    refine aops_n hTT (M := []) (n := 1) [pv (10 : Nat) (V.b true)] (by kernel_rfl) (by kernel_rfl) True.intro ?_
    refine aops_nil ?_
    refine xt_n ?_
    refine hK _ ?_
    clear hK K
    refine aw_ret ?_
    refine ret_pure (v' := V.b true) (.inr rfl) (by kernel_rfl) (by kernel_rfl) (by kernel_rfl)
def louderSh : List Sh := [(.fld (.int .i64) (.fld (.int .i64) (.fld (.int .i64) (.fld (.int .i64) (.fld (.int .i64) (.fld (.int .i64) (.lst (.int .i64)))))))), (.sl (.fld (.int .i64) (.lst (.int .i64)))), (.int .i64), (.int .i64), (.int .u8)]
theorem louder_all (x : TL louderSh) (hx : wfL louderSh x) : AC Try.prog 13 (valL louderSh x) (V.b true) [] := by
  obtain ⟨⟨h, g, th, wi, sl, je, st⟩, s, r, per, b, _⟩ := x
  obtain ⟨_, ⟨h4, h5⟩, _, _, h6, _⟩ := hx
  exact louder_law ⟨h, g, th, wi, sl, je, st⟩ s r per b h4 (wf_ptsL h5) (wf_u8 h6)
end Go.Proofs.Ytjjlgegccfolpaa
