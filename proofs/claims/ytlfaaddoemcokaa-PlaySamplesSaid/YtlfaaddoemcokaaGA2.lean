/-
  The points of samples: the walks of both copies. Conditions: told in each theorem.
-/
import Derived.Test.YtlfaaddoemcokaaGPl1
namespace Go.Proofs.Ytlfaaddoemcokaa
open Go.Ab Go.RowKit Go.Dw Go.Shelf

def inR2 (p : Pt) : Prop := inR .i64 p.1 ∧ inR .i64 p.2
set_option maxRecDepth 100000 in
theorem point_ac (c : Cut) (s : Pt) (hc : cutE c = 0) (hs : (-32768 ≤ s.1 ∧ s.1 ≤ 32768) ∧ -32768 ≤ s.2 ∧ s.2 ≤ 32768) : AC Try.prog 90 [c.v, .agg [.i s.1, .i s.2]] (.agg [.i (wallP c s).1, .i (wallP c s).2]) [] := by
  obtain ⟨⟨a1, a2⟩, ⟨b1, b2⟩, _⟩ := cutE_ok.1 hc
  obtain ⟨h1, h2⟩ := hs
  have e1 := chE_bd (n := s.1) ⟨b1, b2⟩ (by omega)
  have e2 := chE_bd (n := s.2) ⟨b1, b2⟩ (by omega)
  have m1 := gMul (m := 32768) (n := 100000) (a := s.1) (b := c.gain) (by omega) ⟨by omega, b2⟩
  have m2 := gMul (m := 32768) (n := 100000) (a := s.2) (b := c.gain) (by omega) ⟨by omega, b2⟩
  unfold chE at e1 e2
  refine ac_intro hTT hMX (fn := Try.f90) (N := _) ⟨Try.func90, rfl, Try.ntmps90, by kernel_rfl⟩ (by simp) fun C hC hF => ?_
  refine aw_seq_k fun K hK => ?_
  refine w_region (n' := 2) (by kernel_rfl) (by kernel_rfl) ?_
  refine aops_n hTT (M := []) (n := 3) [pv (2 : Nat) (V.ptr [V.i (Cut.half c), V.i (Cut.gain c), V.i (Cut.thin c), V.i (Cut.wide c), V.i (Cut.slope c), V.i (Cut.jerk c), V.i (Cut.sty c)]), pv (3 : Nat) (V.ptr [V.i (Prod.fst s), V.i (Prod.snd s)]), pn (4 : Nat) (V.ref (100004 : Nat) (0 : Nat)) (100004 : Nat) (Ob.box (29 : Nat) [V.i (0 : Int), V.i (0 : Int)])] (by kernel_rfl) (by kernel_rfl) True.intro ?_
  refine aops_nil ?_
  refine xt_n ?_
  refine hK _ ?_
  clear hK K
  refine aw_seq_k fun K hK => ?_
  refine w_region (n' := 3) (by kernel_rfl) (by kernel_rfl) ?_
  refine aops_n hTT (M := []) (n := 20) [pv (5 : Nat) (V.ptr [V.i (Prod.snd s)]), pv (6 : Nat) (V.i (Prod.snd s)), pv (7 : Nat) (V.ptr [V.i (Cut.gain c), V.i (Cut.thin c), V.i (Cut.wide c), V.i (Cut.slope c), V.i (Cut.jerk c), V.i (Cut.sty c)]), pv (8 : Nat) (V.i (Cut.gain c)), pc (9 : Nat) ((-9223372036854775808 : Int) ≤ Prod.snd s * Cut.gain c ∧ Prod.snd s * Cut.gain c ≤ (9223372036854775807 : Int)) (V.i (Prod.snd s * Cut.gain c)), pc (10 : Nat) ((0 : Int) < (1000 : Int) ∧ (-9223372036854775808 : Int) ≤ Prod.snd s * Cut.gain c ∧ Prod.snd s * Cut.gain c ≤ (9223372036854775807 : Int)) (V.i (Int.tdiv (Prod.snd s * Cut.gain c) (1000 : Int))), pv (11 : Nat) (V.ptr [V.i (Cut.half c), V.i (Cut.gain c), V.i (Cut.thin c), V.i (Cut.wide c), V.i (Cut.slope c), V.i (Cut.jerk c), V.i (Cut.sty c)]), pv (12 : Nat) (V.i (Cut.half c)), pc (13 : Nat) ((-9223372036854775808 : Int) ≤ Int.tdiv (Prod.snd s * Cut.gain c) (1000 : Int) - Cut.half c ∧ Int.tdiv (Prod.snd s * Cut.gain c) (1000 : Int) - Cut.half c ≤ (9223372036854775807 : Int)) (V.i (Int.tdiv (Prod.snd s * Cut.gain c) (1000 : Int) - Cut.half c)), pv (14 : Nat) (V.ptr [V.i (Prod.fst s), V.i (Prod.snd s)]), pv (15 : Nat) (V.i (Prod.fst s)), pv (16 : Nat) (V.ptr [V.i (Cut.gain c), V.i (Cut.thin c), V.i (Cut.wide c), V.i (Cut.slope c), V.i (Cut.jerk c), V.i (Cut.sty c)]), pv (17 : Nat) (V.i (Cut.gain c)), pc (18 : Nat) ((-9223372036854775808 : Int) ≤ Prod.fst s * Cut.gain c ∧ Prod.fst s * Cut.gain c ≤ (9223372036854775807 : Int)) (V.i (Prod.fst s * Cut.gain c)), pc (19 : Nat) ((0 : Int) < (1000 : Int) ∧ (-9223372036854775808 : Int) ≤ Prod.fst s * Cut.gain c ∧ Prod.fst s * Cut.gain c ≤ (9223372036854775807 : Int)) (V.i (Int.tdiv (Prod.fst s * Cut.gain c) (1000 : Int))), pv (20 : Nat) (V.ptr [V.i (Cut.half c), V.i (Cut.gain c), V.i (Cut.thin c), V.i (Cut.wide c), V.i (Cut.slope c), V.i (Cut.jerk c), V.i (Cut.sty c)]), pv (21 : Nat) (V.i (Cut.half c)), pc (22 : Nat) ((-9223372036854775808 : Int) ≤ Int.tdiv (Prod.fst s * Cut.gain c) (1000 : Int) + Cut.half c ∧ Int.tdiv (Prod.fst s * Cut.gain c) (1000 : Int) + Cut.half c ≤ (9223372036854775807 : Int)) (V.i (Int.tdiv (Prod.fst s * Cut.gain c) (1000 : Int) + Cut.half c)), pv (23 : Nat) (V.agg [V.i (Int.tdiv (Prod.snd s * Cut.gain c) (1000 : Int) - Cut.half c), V.i (Int.tdiv (Prod.fst s * Cut.gain c) (1000 : Int) + Cut.half c)]), pw ((0 : Nat) + (2 : Nat) ≤ (2 : Nat)) (100004 : Nat) (Ob.box (29 : Nat) [V.i (Int.tdiv (Prod.snd s * Cut.gain c) (1000 : Int) - Cut.half c), V.i (Int.tdiv (Prod.fst s * Cut.gain c) (1000 : Int) + Cut.half c)])] (by kernel_rfl) (by kernel_rfl) ⟨(by omega), ⟨(by omega), (by omega)⟩, (by omega), (by omega), ⟨(by omega), (by omega)⟩, (by omega), (by omega), True.intro⟩ ?_
  refine aops_nil ?_
  refine xt_n ?_
  refine hK _ ?_
  clear hK K
  refine aw_ret ?_
  refine ret_of_le (le_freezeBox (t := (29 : Nat)) (cs := [V.i (Int.tdiv (Prod.snd s * Cut.gain c) (1000 : Int) - Cut.half c), V.i (Int.tdiv (Prod.fst s * Cut.gain c) (1000 : Int) + Cut.half c)]) 100004 (by kernel_rfl) (by kernel_rfl)) ?_
  refine ret_pure (v' := V.agg [V.i (Int.tdiv (Prod.snd s * Cut.gain c) (1000 : Int) - Cut.half c), V.i (Int.tdiv (Prod.fst s * Cut.gain c) (1000 : Int) + Cut.half c)]) (.inr rfl) (by kernel_rfl) (by kernel_rfl) (by kernel_rfl)
def cutA (c : Cut) (s : List Pt) (k j : Nat) : Int := if j < k then (wallP c (gp s j)).1 else 0
def cutB (c : Cut) (s : List Pt) (k j : Nat) : Int := if j < k then (wallP c (gp s j)).2 else 0
theorem cutAB_set {c : Cut} {s : List Pt} {k : Nat} (i : Nat) : (if i = k then [V.i (wallP c (gp s k)).1, V.i (wallP c (gp s k)).2] else [V.i (cutA c s k i), V.i (cutB c s k i)]) = [V.i (cutA c s (k + 1) i), V.i (cutB c s (k + 1) i)] := by
  unfold cutA cutB
  by_cases h : i = k
  · subst h; rw [if_pos rfl, if_pos (by omega), if_pos (by omega)]
  · rw [if_neg h]
    by_cases h2 : i < k
    · rw [if_pos h2, if_pos h2, if_pos (by omega), if_pos (by omega)]
    · rw [if_neg h2, if_neg h2, if_neg (by omega), if_neg (by omega)]
set_option maxRecDepth 100000 in
theorem Cut_ac (c : Cut) (s : List Pt) (hs : s.length ≤ 4611686018427387904) : AC Try.prog 83 [c.v, V.pts s] (.tup [V.pts (cutR c s).1, .i (cutR c s).2]) [] := by
  refine ac_intro hTT hMX (fn := Try.f83) (N := _) ⟨Try.func83, rfl, Try.ntmps83, by kernel_rfl⟩ (by simp) fun C hC hF => ?_
  refine aw_seq_k fun K hK => ?_
  refine w_region (n' := 2) (by kernel_rfl) (by kernel_rfl) ?_
  refine aops_n hTT (M := []) (n := 3) [pv (2 : Nat) (V.ptr [V.i (Cut.half c), V.i (Cut.gain c), V.i (Cut.thin c), V.i (Cut.wide c), V.i (Cut.slope c), V.i (Cut.jerk c), V.i (Cut.sty c)]), pv (4 : Nat) V.nil, pv (5 : Nat) (V.i (0 : Int))] (by kernel_rfl) (by kernel_rfl) True.intro ?_
  refine aops_nil ?_
  refine xt_n ?_
  refine hK _ ?_
  clear hK K
  refine aw_seq_k fun K hK => ?_
  refine aw_seq_k fun K hK => ?_
  refine w_region (n' := 3) (by kernel_rfl) (by kernel_rfl) ?_
  refine aops_n hTT (M := []) (n := 1) [pv (11 : Nat) (V.agg [V.i (Cut.half c), V.i (Cut.gain c), V.i (Cut.thin c), V.i (Cut.wide c), V.i (Cut.slope c), V.i (Cut.jerk c), V.i (Cut.sty c)])] (by kernel_rfl) (by kernel_rfl) True.intro ?_
  refine e_call (first := []) (caps := []) (cutCheck_ac c) (by kernel_rfl) (by kernel_rfl) (by kernel_rfl) (by kernel_rfl) (by kernel_rfl) ?_
  refine aops_n hTT (M := []) (n := 1) [pv (6 : Nat) (V.i (cutE c))] (by kernel_rfl) (by kernel_rfl) True.intro ?_
  refine aops_nil ?_
  refine xt_n ?_
  refine hK _ ?_
  clear hK K
  refine aw_seq_k fun K hK => ?_
  refine w_region (n' := 4) (by kernel_rfl) (by kernel_rfl) ?_
  refine aops_n hTT (M := []) (n := 2) [pv (13 : Nat) (V.i (cutE c)), pv (14 : Nat) (V.b !decide (cutE c = (0 : Int)))] (by kernel_rfl) (by kernel_rfl) True.intro ?_
  refine aops_nil ?_
  refine xt_n ?_
  refine hK _ ?_
  clear hK K
  refine w_cond (t := !decide (cutE c = (0 : Int))) (by kernel_rfl) (fun c1 => ?_) (fun c1 => ?_)
  · simp at c1
    refine aw_seq_k fun K hK => ?_
    refine w_region (n' := 5) (by kernel_rfl) (by kernel_rfl) ?_
    refine aops_n hTT (M := []) (n := 3) [pv (15 : Nat) (V.i (cutE c)), pv (4 : Nat) V.nil, pv (5 : Nat) (V.i (cutE c))] (by kernel_rfl) (by kernel_rfl) True.intro ?_
    refine aops_nil ?_
    refine xt_n ?_
    refine hK _ ?_
    clear hK K
    refine aw_ret ?_
    refine xt_r ?_
    rw [cutR_1 c1]
    refine ret_of_le (le_nil 4 (sz := 2) 0 (fun k => [.i (gp [] k).1, .i (gp [] k).2]) (by kernel_rfl) ?_) ?_
    · rfl
    refine ret_pure (v' := V.tup [V.sl (2 : Nat) (0 : Nat) fun (k : Nat) => [V.i (Prod.fst (gp [] k)), V.i (Prod.snd (gp [] k))], V.i (cutE c)]) (.inr rfl) (by kernel_rfl) (by kernel_rfl) (by kernel_rfl)
  simp at c1
  refine aw_skip ?_
  refine xt_n ?_
  refine hK _ ?_
  clear hK K
  refine aw_seq_k fun K hK => ?_
  refine aw_seq_k fun K hK => ?_
  refine w_region (n' := 5) (by kernel_rfl) (by kernel_rfl) ?_
  refine aops_n hTT (M := []) (n := 1) [pv (16 : Nat) (V.sl (2 : Nat) (List.length s) fun (k : Nat) => [V.i (Prod.fst (gp s k)), V.i (Prod.snd (gp s k))])] (by kernel_rfl) (by kernel_rfl) True.intro ?_
  refine e_call (first := []) (caps := []) (tCheckSamples_ac s hs) (by kernel_rfl) (by kernel_rfl) (by kernel_rfl) (by kernel_rfl) (by kernel_rfl) ?_
  refine aops_n hTT (M := []) (n := 1) [pv (7 : Nat) (V.i (sChk s))] (by kernel_rfl) (by kernel_rfl) True.intro ?_
  refine aops_nil ?_
  refine xt_n ?_
  refine hK _ ?_
  clear hK K
  refine aw_seq_k fun K hK => ?_
  refine w_region (n' := 6) (by kernel_rfl) (by kernel_rfl) ?_
  refine aops_n hTT (M := []) (n := 2) [pv (18 : Nat) (V.i (sChk s)), pv (19 : Nat) (V.b !decide (sChk s = (0 : Int)))] (by kernel_rfl) (by kernel_rfl) True.intro ?_
  refine aops_nil ?_
  refine xt_n ?_
  refine hK _ ?_
  clear hK K
  refine w_cond (t := !decide (sChk s = (0 : Int))) (by kernel_rfl) (fun c2 => ?_) (fun c2 => ?_)
  · simp at c2
    refine aw_seq_k fun K hK => ?_
    refine w_region (n' := 7) (by kernel_rfl) (by kernel_rfl) ?_
    refine aops_n hTT (M := []) (n := 3) [pv (20 : Nat) (V.i (sChk s)), pv (4 : Nat) V.nil, pv (5 : Nat) (V.i (sChk s))] (by kernel_rfl) (by kernel_rfl) True.intro ?_
    refine aops_nil ?_
    refine xt_n ?_
    refine hK _ ?_
    clear hK K
    refine aw_ret ?_
    refine xt_r ?_
    rw [cutR_2 c1 c2]
    refine ret_of_le (le_nil 4 (sz := 2) 0 (fun k => [.i (gp [] k).1, .i (gp [] k).2]) (by kernel_rfl) ?_) ?_
    · rfl
    refine ret_pure (v' := V.tup [V.sl (2 : Nat) (0 : Nat) fun (k : Nat) => [V.i (Prod.fst (gp [] k)), V.i (Prod.snd (gp [] k))], V.i (sChk s)]) (.inr rfl) (by kernel_rfl) (by kernel_rfl) (by kernel_rfl)
  simp at c2
  obtain ⟨l1, l2⟩ := sChk_ok.1 c2
  refine aw_skip ?_
  refine xt_n ?_
  refine hK _ ?_
  clear hK K
  refine aw_seq_k fun K hK => ?_
  refine w_region (n' := 7) (by kernel_rfl) (by kernel_rfl) ?_
  refine aops_n hTT (M := []) (n := 4) [pv (21 : Nat) (V.sl (2 : Nat) (List.length s) fun (k : Nat) => [V.i (Prod.fst (gp s k)), V.i (Prod.snd (gp s k))]), pv (22 : Nat) (V.i (↑(List.length s) : Int)), PR.mk (some (23 : Nat)) (some ((0 : Int) ≤ (↑(List.length s) : Int) ∧ (↑(List.length s) : Int) ≤ (↑(List.length s) : Int) ∧ (↑(List.length s) : Int) ≤ (1099511627776 : Int))) (V.own (600023 : Nat)) [((600023 : Nat), some (Ob.row (29 : Nat) (2 : Nat) (List.length s) fun (x : Nat) => [V.c (Value.int IntKind.i64 (0 : Int)), V.c (Value.int IntKind.i64 (0 : Int))]))] false, pv (8 : Nat) (V.own (600023 : Nat))] (by kernel_rfl) (by kernel_rfl) ⟨⟨(by omega), (by omega)⟩, True.intro⟩ ?_
  refine aops_nil ?_
  refine xt_n ?_
  refine hK _ ?_
  clear hK K
  refine aw_seq_k fun K hK => ?_
  refine aw_seq_k fun K hK => ?_
  refine w_region (n' := 8) (by kernel_rfl) (by kernel_rfl) ?_
  refine aops_n hTT (M := []) (n := 3) [pv (24 : Nat) (V.sl (2 : Nat) (List.length s) fun (k : Nat) => [V.i (Prod.fst (gp s k)), V.i (Prod.snd (gp s k))]), pv (25 : Nat) (V.i (↑(List.length s) : Int)), pv (26 : Nat) (V.i (0 : Int))] (by kernel_rfl) (by kernel_rfl) True.intro ?_
  refine aops_nil ?_
  refine xt_n ?_
  refine hK _ ?_
  clear hK K
  refine aw_block ?_
  refine w_loop (ι := Nat) (fun k => [(2, .ptr [.i c.half, .i c.gain, .i c.thin, .i c.wide, .i c.slope, .i c.jerk, .i c.sty]), (8, .own 8), (24, V.pts s), (25, .i s.length), (26, .i k)]) (fun k => [(8, .row 29 2 s.length fun j => [.i (cutA c s k j), .i (cutB c s k j)])]) (fun k => k ≤ s.length) (fun k => s.length - k) 0 (Nat.zero_le _) ?_ ?_
  · refine le_ren (sl := [(8, Ob.row (29 : Nat) (2 : Nat) (List.length s) fun (j : Nat) => [V.i (cutA c s (0 : Nat) j), V.i (cutB c s (0 : Nat) j)])]) [(8, 600023)] (.cons (by kernel_rfl) (.cons (by kernel_rfl) (.cons (by kernel_rfl) (.cons (by kernel_rfl) (.cons (by kernel_rfl) .nil))))) (.cons ⟨Ob.row (29 : Nat) (2 : Nat) (List.length s) fun (x : Nat) => [V.c (Value.int IntKind.i64 (0 : Int)), V.c (Value.int IntKind.i64 (0 : Int))], (by kernel_rfl), .row (by kernel_rfl) (fun _ _ => rfl)⟩ .nil) (by kernel_rfl) (by kernel_rfl)
  intro k hk
  refine aw_seq_k fun K hK => ?_
  refine w_region (n' := 2) (by kernel_rfl) (by kernel_rfl) ?_
  refine aops_n hTT (M := []) (n := 1) [pv (27 : Nat) (V.b (decide ((↑k : Int) < (↑(List.length s) : Int))))] (by kernel_rfl) (by kernel_rfl) True.intro ?_
  refine aops_nil ?_
  refine xt_n ?_
  refine hK _ ?_
  clear hK K
  refine aw_seq_k fun K hK => ?_
  refine w_cond (t := decide ((↑k : Int) < (↑(List.length s) : Int))) (by kernel_rfl) (fun c3 => ?_) (fun c3 => ?_)
  · simp at c3
    have hsk := sE_iff.1 (l2 k c3)
    refine aw_skip ?_
    refine xt_n ?_
    refine hK _ ?_
    clear hK K
    refine aw_seq_k fun K hK => ?_
    refine aw_block ?_
    refine aw_seq_k fun K hK => ?_
    refine w_region (n' := 3) (by kernel_rfl) (by kernel_rfl) ?_
    refine aops_n hTT (M := []) (n := 6) [pv (28 : Nat) (V.i (↑k : Int)), pc (29 : Nat) ((0 : Int) ≤ (↑k : Int) ∧ (↑k : Int) < (↑(List.length s) : Int)) (V.ptr [V.i (Prod.fst (gp s k)), V.i (Prod.snd (gp s k))]), pv (30 : Nat) (V.agg [V.i (Prod.fst (gp s k)), V.i (Prod.snd (gp s k))]), pn (10 : Nat) (V.ref (200010 : Nat) (0 : Nat)) (200010 : Nat) (Ob.box (87 : Nat) [V.i (0 : Int), V.i (0 : Int)]), pv (9 : Nat) (V.i (↑k : Int)), pw ((0 : Nat) + (2 : Nat) ≤ (2 : Nat)) (200010 : Nat) (Ob.box (87 : Nat) [V.i (Prod.fst (gp s k)), V.i (Prod.snd (gp s k))])] (by kernel_rfl) (by kernel_rfl) ⟨(by omega), (by omega), True.intro⟩ ?_
    refine aops_nil ?_
    refine xt_n ?_
    refine hK _ ?_
    clear hK K
    refine w_region (n' := 4) (by kernel_rfl) (by kernel_rfl) ?_
    refine aops_n hTT (M := []) (n := 4) [pv (31 : Nat) (V.own (8 : Nat)), pv (32 : Nat) (V.i (↑k : Int)), pv (33 : Nat) (V.agg [V.i (Cut.half c), V.i (Cut.gain c), V.i (Cut.thin c), V.i (Cut.wide c), V.i (Cut.slope c), V.i (Cut.jerk c), V.i (Cut.sty c)]), pc (34 : Nat) ((0 : Nat) ≤ (2 : Nat)) (V.agg [V.i (Prod.fst (gp s k)), V.i (Prod.snd (gp s k))])] (by kernel_rfl) (by kernel_rfl) ⟨(by omega), True.intro⟩ ?_
    refine e_call (first := []) (caps := []) (point_ac c (gp s k) c1 (by omega)) (by kernel_rfl) (by kernel_rfl) (by kernel_rfl) (by kernel_rfl) (by kernel_rfl) ?_
    refine aops_n hTT (M := []) (n := 2) [pc (36 : Nat) ((0 : Int) ≤ (↑k : Int) ∧ (↑k : Int) < (↑(List.length s) : Int)) (V.oel (8 : Nat) (2 : Nat) k (0 : Nat)), pw (k < List.length s ∧ (0 : Nat) + (2 : Nat) ≤ (2 : Nat)) (8 : Nat) (Ob.row (29 : Nat) (2 : Nat) (List.length s) fun (j : Nat) => if j = k then [V.i (Prod.fst (wallP c (gp s k))), V.i (Prod.snd (wallP c (gp s k)))] else [V.i (cutA c s k j), V.i (cutB c s k j)])] (by kernel_rfl) (by kernel_rfl) ⟨(by omega), (by omega), True.intro⟩ ?_
    refine aops_nil ?_
    refine xb_n ?_
    refine xt_n ?_
    refine hK _ ?_
    clear hK K
    refine w_region (n' := 5) (by kernel_rfl) (by kernel_rfl) ?_
    refine aops_n hTT (M := []) (n := 2) [pc (37 : Nat) ((-9223372036854775808 : Int) ≤ (↑k : Int) + (1 : Int) ∧ (↑k : Int) + (1 : Int) ≤ (9223372036854775807 : Int)) (V.i ((↑k : Int) + (1 : Int))), pv (26 : Nat) (V.i ((↑k : Int) + (1 : Int)))] (by kernel_rfl) (by kernel_rfl) ⟨(by omega), True.intro⟩ ?_
    refine aops_nil ?_
    refine xt_n ?_
    refine ⟨k + 1, by omega, ?_, by omega⟩
    refine le_ren (tl := [(2, V.ptr [V.i (Cut.half c), V.i (Cut.gain c), V.i (Cut.thin c), V.i (Cut.wide c), V.i (Cut.slope c), V.i (Cut.jerk c), V.i (Cut.sty c)]), (8, V.own (8 : Nat)), (24, V.sl (2 : Nat) (List.length s) fun (k : Nat) => [V.i (Prod.fst (gp s k)), V.i (Prod.snd (gp s k))]), (25, V.i (↑(List.length s) : Int)), (26, V.i (↑(k + (1 : Nat)) : Int))]) (sl := [(8, Ob.row (29 : Nat) (2 : Nat) (List.length s) fun (j : Nat) => [V.i (cutA c s (k + (1 : Nat)) j), V.i (cutB c s (k + (1 : Nat)) j)])]) [(8, 8)] (.cons (by kernel_rfl) (.cons (by kernel_rfl) (.cons (by kernel_rfl) (.cons (by kernel_rfl) (.cons (by kernel_rfl) .nil))))) (.cons ⟨Ob.row (29 : Nat) (2 : Nat) (List.length s) fun (j : Nat) => if j = k then [V.i (Prod.fst (wallP c (gp s k))), V.i (Prod.snd (wallP c (gp s k)))] else [V.i (cutA c s k j), V.i (cutB c s k j)], (by kernel_rfl), .row (by kernel_rfl) ?_⟩ .nil) (by kernel_rfl) (by kernel_rfl)
    intro i hi
    exact cutAB_set i
  · simp at c3
    obtain rfl : k = s.length := by omega
    refine aw_exit ?_
    refine xt_x ?_
    refine xt_x ?_
    refine xb_same ?_
    refine xt_n ?_
    clear hK K
    refine hK _ ?_
    clear hK K
    refine aw_seq_k fun K hK => ?_
    refine w_region (n' := 3) (by kernel_rfl) (by kernel_rfl) ?_
    refine aops_n hTT (M := []) (n := 3) [pv (38 : Nat) (V.own (8 : Nat)), pv (4 : Nat) (V.own (8 : Nat)), pv (5 : Nat) (V.i (0 : Int))] (by kernel_rfl) (by kernel_rfl) True.intro ?_
    refine aops_nil ?_
    refine xt_n ?_
    refine hK _ ?_
    clear hK K
    refine aw_ret ?_
    rw [cutR_3 c1 c2]
    refine ret_of_le (le_shut 4 8 (e := (29 : Nat)) (sz := (2 : Nat)) (n := List.length s) (n' := (s.map (wallP c)).length) (row := fun (j : Nat) => [V.i (cutA c s (List.length s) j), V.i (cutB c s (List.length s) j)]) (row' := (fun j => [.i (gp (s.map (wallP c)) j).1, .i (gp (s.map (wallP c)) j).2])) (by kernel_rfl) (by kernel_rfl) (fun _ _ => rfl) ?_ ?_) ?_
    · simp
    · intro i hi
      rw [gp_map hi, cutA, cutB, if_pos hi, if_pos hi]
    refine ret_pure (v' := V.tup [V.sl (2 : Nat) (List.length (List.map (wallP c) s)) fun (j : Nat) => [V.i (Prod.fst (gp (List.map (wallP c) s) j)), V.i (Prod.snd (gp (List.map (wallP c) s) j))], V.i (0 : Int)]) (.inr rfl) (by kernel_rfl) (by kernel_rfl) (by kernel_rfl)
/-- the point of a sample, or the error -/
def wallR (c : Cut) (s : Pt) : Pt × Int := if cutE c = 0 then (if sE s = true then (wallP c s, 0) else ((0, 0), 2)) else ((0, 0), 2)
theorem wallR_1 {c : Cut} {s : Pt} (h : ¬ cutE c = 0) : wallR c s = ((0, 0), 2) := by rw [wallR, if_neg h]
theorem wallR_2 {c : Cut} {s : Pt} (h2 : ¬ sE s = true) : wallR c s = ((0, 0), 2) := by rw [wallR, if_neg h2]; split <;> rfl
theorem wallR_3 {c : Cut} {s : Pt} (h : cutE c = 0) (h2 : sE s = true) : wallR c s = (wallP c s, 0) := by rw [wallR, if_pos h, if_pos h2]
theorem cut_one (c : Cut) (s : Pt) : (cutR c [s]).2 = (wallR c s).2 ∧ ((wallR c s).2 = 0 → (cutR c [s]).1 = [(wallR c s).1]) ∧ ((wallR c s).2 ≠ 0 → (wallR c s).1 = (0, 0)) := by
  have e : sChk [s] = if sE s = true then 0 else 2 := by simp [sChk]
  by_cases h : cutE c = 0
  · by_cases h2 : sE s = true
    · rw [wallR_3 h h2, cutR_3 h (by rw [e, if_pos h2])]
      exact ⟨rfl, fun _ => rfl, fun h => absurd rfl h⟩
    · rw [wallR_2 h2, cutR_2 h (by rw [e, if_neg h2]; decide), e, if_neg h2]
      exact ⟨rfl, fun h => (by cases h), fun _ => rfl⟩
  · rw [wallR_1 h, cutR_1 h, (cutE_cases c).resolve_left h]
    exact ⟨rfl, fun h => (by cases h), fun _ => rfl⟩
set_option maxRecDepth 100000 in
theorem Wall_ac (c : Cut) (s : Pt) : AC Try.prog 55 [c.v, .agg [.i s.1, .i s.2]] (.tup [.agg [.i (wallR c s).1.1, .i (wallR c s).1.2], .i (wallR c s).2]) [] := by
  obtain ⟨o1, o2, o3⟩ := cut_one c s
  have A := Cut_ac c [s] (by simp)
  refine ac_intro hTT hMX (fn := Try.f55) (N := _) ⟨Try.func55, rfl, Try.ntmps55, by kernel_rfl⟩ (by simp) fun C hC hF => ?_
  refine aw_seq_k fun K hK => ?_
  refine w_region (n' := 2) (by kernel_rfl) (by kernel_rfl) ?_
  refine aops_n hTT (M := []) (n := 4) [pv (2 : Nat) (V.ptr [V.i (Cut.half c), V.i (Cut.gain c), V.i (Cut.thin c), V.i (Cut.wide c), V.i (Cut.slope c), V.i (Cut.jerk c), V.i (Cut.sty c)]), pv (3 : Nat) (V.ptr [V.i (Prod.fst s), V.i (Prod.snd s)]), pn (4 : Nat) (V.ref (100004 : Nat) (0 : Nat)) (100004 : Nat) (Ob.box (29 : Nat) [V.i (0 : Int), V.i (0 : Int)]), pv (5 : Nat) (V.i (0 : Int))] (by kernel_rfl) (by kernel_rfl) True.intro ?_
  refine aops_nil ?_
  refine xt_n ?_
  refine hK _ ?_
  clear hK K
  refine aw_seq_k fun K hK => ?_
  refine w_region (n' := 3) (by kernel_rfl) (by kernel_rfl) ?_
  refine aops_n hTT (M := []) (n := 3) [pv (9 : Nat) (V.agg [V.i (Cut.half c), V.i (Cut.gain c), V.i (Cut.thin c), V.i (Cut.wide c), V.i (Cut.slope c), V.i (Cut.jerk c), V.i (Cut.sty c)]), pv (10 : Nat) (V.agg [V.i (Prod.fst s), V.i (Prod.snd s)]), pv (11 : Nat) (V.sl (2 : Nat) (1 : Nat) fun (i : Nat) => List.take (2 : Nat) (List.drop (i * (2 : Nat)) [V.i (Prod.fst s), V.i (Prod.snd s)]))] (by kernel_rfl) (by kernel_rfl) True.intro ?_
  refine e_call (first := []) (caps := []) (AC.conv (A) (args' := [V.agg [V.i (Cut.half c), V.i (Cut.gain c), V.i (Cut.thin c), V.i (Cut.wide c), V.i (Cut.slope c), V.i (Cut.jerk c), V.i (Cut.sty c)], V.sl (2 : Nat) (1 : Nat) fun (i : Nat) => List.take (2 : Nat) (List.drop (i * (2 : Nat)) [V.i (Prod.fst s), V.i (Prod.snd s)])]) ⟨RImp.refl _, ?_, trivial⟩) (by kernel_rfl) (by kernel_rfl) (by kernel_rfl) (by kernel_rfl) (by kernel_rfl) ?_
  · exact RImp.rows rfl fun i hi => by obtain rfl : i = 0 := by omega
                                       rfl
  refine aops_n hTT (M := []) (n := 5) [pv (8 : Nat) (V.tup [V.sl (2 : Nat) (List.length (Prod.fst (cutR c [s]))) fun (k : Nat) => [V.i (Prod.fst (gp (Prod.fst (cutR c [s])) k)), V.i (Prod.snd (gp (Prod.fst (cutR c [s])) k))], V.i (Prod.snd (cutR c [s]))]), pv (13 : Nat) (V.sl (2 : Nat) (List.length (Prod.fst (cutR c [s]))) fun (k : Nat) => [V.i (Prod.fst (gp (Prod.fst (cutR c [s])) k)), V.i (Prod.snd (gp (Prod.fst (cutR c [s])) k))]), pv (14 : Nat) (V.i (Prod.snd (cutR c [s]))), pv (6 : Nat) (V.sl (2 : Nat) (List.length (Prod.fst (cutR c [s]))) fun (k : Nat) => [V.i (Prod.fst (gp (Prod.fst (cutR c [s])) k)), V.i (Prod.snd (gp (Prod.fst (cutR c [s])) k))]), pv (7 : Nat) (V.i (Prod.snd (cutR c [s])))] (by kernel_rfl) (by kernel_rfl) True.intro ?_
  refine aops_nil ?_
  refine xt_n ?_
  refine hK _ ?_
  clear hK K
  refine aw_seq_k fun K hK => ?_
  refine aw_seq_k fun K hK => ?_
  refine w_region (n' := 4) (by kernel_rfl) (by kernel_rfl) ?_
  refine aops_n hTT (M := []) (n := 2) [pv (15 : Nat) (V.i (Prod.snd (cutR c [s]))), pv (16 : Nat) (V.b !decide (Prod.snd (cutR c [s]) = (0 : Int)))] (by kernel_rfl) (by kernel_rfl) True.intro ?_
  refine aops_nil ?_
  refine xt_n ?_
  refine hK _ ?_
  clear hK K
  rw [o1]
  refine w_cond (t := !decide (Prod.snd (wallR c s) = (0 : Int))) (by kernel_rfl) (fun c1 => ?_) (fun c1 => ?_)
  · simp at c1
    refine aw_seq_k fun K hK => ?_
    refine w_region (n' := 5) (by kernel_rfl) (by kernel_rfl) ?_
    refine aops_n hTT (M := []) (n := 4) [pv (17 : Nat) (V.agg [V.i (0 : Int), V.i (0 : Int)]), pv (18 : Nat) (V.i (Prod.snd (wallR c s))), pw ((0 : Nat) + (2 : Nat) ≤ (2 : Nat)) (100004 : Nat) (Ob.box (29 : Nat) [V.i (0 : Int), V.i (0 : Int)]), pv (5 : Nat) (V.i (Prod.snd (wallR c s)))] (by kernel_rfl) (by kernel_rfl) ⟨(by omega), True.intro⟩ ?_
    refine aops_nil ?_
    refine xt_n ?_
    refine hK _ ?_
    clear hK K
    refine aw_ret ?_
    refine xt_r ?_
    refine ret_of_le (le_freezeBox (t := (29 : Nat)) (cs := [V.i (0 : Int), V.i (0 : Int)]) 100004 (by kernel_rfl) (by kernel_rfl)) ?_
    rw [o3 c1]
    refine ret_pure (v' := V.tup [V.agg [V.i (0 : Int), V.i (0 : Int)], V.i (Prod.snd (wallR c s))]) (.inr rfl) (by kernel_rfl) (by kernel_rfl) (by kernel_rfl)
  · simp at c1
    rw [o2 c1]
    refine aw_skip ?_
    refine xt_n ?_
    refine hK _ ?_
    clear hK K
    refine aw_seq_k fun K hK => ?_
    refine w_region (n' := 5) (by kernel_rfl) (by kernel_rfl) ?_
    refine aops_n hTT (M := []) (n := 5) [pv (19 : Nat) (V.sl (2 : Nat) (1 : Nat) fun (k : Nat) => [V.i (Prod.fst (gp [Prod.fst (wallR c s)] k)), V.i (Prod.snd (gp [Prod.fst (wallR c s)] k))]), pc (20 : Nat) ((0 : Int) ≤ (0 : Int) ∧ (0 : Int) < (↑(1 : Nat) : Int)) (V.ptr [V.i (Prod.fst (gp [Prod.fst (wallR c s)] (0 : Nat))), V.i (Prod.snd (gp [Prod.fst (wallR c s)] (0 : Nat)))]), pv (21 : Nat) (V.agg [V.i (Prod.fst (gp [Prod.fst (wallR c s)] (0 : Nat))), V.i (Prod.snd (gp [Prod.fst (wallR c s)] (0 : Nat)))]), pw ((0 : Nat) + (2 : Nat) ≤ (2 : Nat)) (100004 : Nat) (Ob.box (29 : Nat) [V.i (Prod.fst (gp [Prod.fst (wallR c s)] (0 : Nat))), V.i (Prod.snd (gp [Prod.fst (wallR c s)] (0 : Nat)))]), pv (5 : Nat) (V.i (0 : Int))] (by kernel_rfl) (by kernel_rfl) ⟨(by omega), (by omega), True.intro⟩ ?_
    refine aops_nil ?_
    refine xt_n ?_
    refine hK _ ?_
    clear hK K
    refine aw_ret ?_
    refine ret_of_le (le_freezeBox (t := (29 : Nat)) (cs := [V.i (Prod.fst (gp [Prod.fst (wallR c s)] (0 : Nat))), V.i (Prod.snd (gp [Prod.fst (wallR c s)] (0 : Nat)))]) 100004 (by kernel_rfl) (by kernel_rfl)) ?_
    refine ret_pure (v' := V.tup [V.agg [V.i (Prod.fst (gp [Prod.fst (wallR c s)] (0 : Nat))), V.i (Prod.snd (gp [Prod.fst (wallR c s)] (0 : Nat)))], V.i (0 : Int)]) (.inr rfl) (by kernel_rfl) ?_ (by kernel_rfl)
    rw [c1]
    rfl
end Go.Proofs.Ytlfaaddoemcokaa
