/-
  Which cutters are valid: the walks of both copies. No condition.
-/
import Derived.Test.YtlfaaddoemcokaaMC
import Derived.Test.YtlfaaddoemcokaaMD
namespace Go.Proofs.Ytlfaaddoemcokaa
open Go.Ab Go.RowKit Go.Dw Go.Shelf

def betB (x lo hi : Int) : Bool := decide (lo ≤ x) && decide (x ≤ hi)
set_option maxRecDepth 100000 in
theorem between_ac (x lo hi : Int) : AC Try.prog 101 [.i x, .i lo, .i hi] (.b (betB x lo hi)) [] := by
  refine ac_intro hTT hMX (fn := Try.f101) (N := _) ⟨Try.func101, rfl, Try.ntmps101, by kernel_rfl⟩ (by simp) fun C hC hF => ?_
  refine aw_seq_k fun K hK => ?_
  refine w_region (n' := 2) (by kernel_rfl) (by kernel_rfl) ?_
  refine aops_n hTT (M := []) (n := 1) [pv (6 : Nat) (V.b false)] (by kernel_rfl) (by kernel_rfl) True.intro ?_
  refine aops_nil ?_
  refine xt_n ?_
  refine hK _ ?_
  clear hK K
  refine aw_seq_k fun K hK => ?_
  refine w_region (n' := 3) (by kernel_rfl) (by kernel_rfl) ?_
  refine aops_n hTT (M := []) (n := 9) [pv (7 : Nat) (V.i x), pv (8 : Nat) (V.i lo), pv (9 : Nat) (V.b (decide (lo ≤ x))), pv (10 : Nat) (V.b (decide (lo ≤ x))), pc (11 : Nat) ((True ∧ True) ∧ ((decide (lo ≤ x) == true) = true → True)) (V.gd (decide (lo ≤ x) == true) (V.i x)), pc (12 : Nat) ((True ∧ True) ∧ ((decide (lo ≤ x) == true) = true → True)) (V.gd (decide (lo ≤ x) == true) (V.i hi)), pc (13 : Nat) ((((decide (lo ≤ x) == true) = true → (decide (lo ≤ x) == true) = true) ∧ ((decide (lo ≤ x) == true) = true → (decide (lo ≤ x) == true) = true) ∧ True) ∧ ((decide (lo ≤ x) == true) = true → True)) (V.gd (decide (lo ≤ x) == true) (V.b (decide (x ≤ hi)))), pc (14 : Nat) ((decide (lo ≤ x) = true → (decide (lo ≤ x) == true) = true) ∧ True) (V.b (decide (lo ≤ x) && decide (x ≤ hi))), pv (6 : Nat) (V.b (decide (lo ≤ x) && decide (x ≤ hi)))] (by kernel_rfl) (by kernel_rfl) ⟨⟨⟨True.intro, True.intro⟩, (fun _ => True.intro)⟩, ⟨⟨True.intro, True.intro⟩, (fun _ => True.intro)⟩, ⟨⟨(by (exact fun h => h)), ⟨(by (exact fun h => h)), True.intro⟩⟩, (fun _ => True.intro)⟩, ⟨(by (intro h; rw [h]; rfl)), True.intro⟩, True.intro⟩ ?_
  refine aops_nil ?_
  refine xt_n ?_
  refine hK _ ?_
  clear hK K
  refine aw_ret ?_
  refine ret_pure (v' := V.b (decide (lo ≤ x) && decide (x ≤ hi))) (.inr rfl) (by kernel_rfl) (by kernel_rfl) (by kernel_rfl)
set_option maxRecDepth 100000 in
theorem within3_ac (x lo hi : Int) : AC Try.prog 82 [.i x, .i lo, .i hi] (.b (betB x lo hi)) [] := by
  refine ac_intro hTT hMX (fn := Try.f82) (N := _) ⟨Try.func82, rfl, Try.ntmps82, by kernel_rfl⟩ (by simp) fun C hC hF => ?_
  refine aw_seq_k fun K hK => ?_
  refine w_region (n' := 2) (by kernel_rfl) (by kernel_rfl) ?_
  refine aops_n hTT (M := []) (n := 1) [pv (6 : Nat) (V.b false)] (by kernel_rfl) (by kernel_rfl) True.intro ?_
  refine aops_nil ?_
  refine xt_n ?_
  refine hK _ ?_
  clear hK K
  refine aw_seq_k fun K hK => ?_
  refine w_region (n' := 3) (by kernel_rfl) (by kernel_rfl) ?_
  refine aops_n hTT (M := []) (n := 9) [pv (7 : Nat) (V.i x), pv (8 : Nat) (V.i lo), pv (9 : Nat) (V.b (decide (lo ≤ x))), pv (10 : Nat) (V.b (decide (lo ≤ x))), pc (11 : Nat) ((True ∧ True) ∧ ((decide (lo ≤ x) == true) = true → True)) (V.gd (decide (lo ≤ x) == true) (V.i x)), pc (12 : Nat) ((True ∧ True) ∧ ((decide (lo ≤ x) == true) = true → True)) (V.gd (decide (lo ≤ x) == true) (V.i hi)), pc (13 : Nat) ((((decide (lo ≤ x) == true) = true → (decide (lo ≤ x) == true) = true) ∧ ((decide (lo ≤ x) == true) = true → (decide (lo ≤ x) == true) = true) ∧ True) ∧ ((decide (lo ≤ x) == true) = true → True)) (V.gd (decide (lo ≤ x) == true) (V.b (decide (x ≤ hi)))), pc (14 : Nat) ((decide (lo ≤ x) = true → (decide (lo ≤ x) == true) = true) ∧ True) (V.b (decide (lo ≤ x) && decide (x ≤ hi))), pv (6 : Nat) (V.b (decide (lo ≤ x) && decide (x ≤ hi)))] (by kernel_rfl) (by kernel_rfl) ⟨⟨⟨True.intro, True.intro⟩, (fun _ => True.intro)⟩, ⟨⟨True.intro, True.intro⟩, (fun _ => True.intro)⟩, ⟨⟨(by (exact fun h => h)), ⟨(by (exact fun h => h)), True.intro⟩⟩, (fun _ => True.intro)⟩, ⟨(by (intro h; rw [h]; rfl)), True.intro⟩, True.intro⟩ ?_
  refine aops_nil ?_
  refine xt_n ?_
  refine hK _ ?_
  clear hK K
  refine aw_ret ?_
  refine ret_pure (v' := V.b (decide (lo ≤ x) && decide (x ≤ hi))) (.inr rfl) (by kernel_rfl) (by kernel_rfl) (by kernel_rfl)
structure Cut where
  half : Int
  gain : Int
  thin : Int
  wide : Int
  slope : Int
  jerk : Int
  sty : Int
def Cut.v (c : Cut) : V := .agg [.i c.half, .i c.gain, .i c.thin, .i c.wide, .i c.slope, .i c.jerk, .i c.sty]
def bnd (c : Cut) : Nat → Int × Int × Int
  | 0 => (c.half, 1, 4096)
  | 1 => (c.gain, 0, 100000)
  | 2 => (c.thin, 0, c.wide)
  | 3 => (c.wide, 0, 1048576)
  | 4 => (c.slope, 0, 10000)
  | 5 => (c.jerk, 0, 1048576)
  | _ => (c.sty, 0, 1024)
def bndB (c : Cut) (j : Nat) : Bool := betB (bnd c j).1 (bnd c j).2.1 (bnd c j).2.2
def cutE (c : Cut) : Int := if (List.range 7).all (bndB c) then 0 else 2
theorem cutE_bad {c : Cut} {j : Nat} (hj : j < 7) (h : bndB c j = false) : cutE c = 2 := by
  rw [cutE, if_neg]
  simp only [Bool.not_eq_true, List.all_eq_false]
  exact ⟨j, by simpa using hj, by simp [h]⟩
theorem cutE_good {c : Cut} (h : ∀ j, j < 7 → bndB c j = true) : cutE c = 0 := by
  rw [cutE, if_pos]
  rw [List.all_eq_true]
  exact fun j hj => h j (by simpa using hj)
theorem cutE_cases (c : Cut) : cutE c = 0 ∨ cutE c = 2 := by unfold cutE; split <;> simp
theorem cutE_ok {c : Cut} : cutE c = 0 ↔ (1 ≤ c.half ∧ c.half ≤ 4096) ∧ (0 ≤ c.gain ∧ c.gain ≤ 100000) ∧ (0 ≤ c.thin ∧ c.thin ≤ c.wide) ∧ (0 ≤ c.wide ∧ c.wide ≤ 1048576) ∧ (0 ≤ c.slope ∧ c.slope ≤ 10000) ∧ (0 ≤ c.jerk ∧ c.jerk ≤ 1048576) ∧ (0 ≤ c.sty ∧ c.sty ≤ 1024) := by
  unfold cutE
  simp [List.range_succ, bndB, bnd, betB]
  omega
set_option maxRecDepth 100000 in
theorem cutCheck_ac (c : Cut) : AC Try.prog 78 [c.v] (.i (cutE c)) [] := by
  refine ac_intro hTT hMX (fn := Try.f78) (N := _) ⟨Try.func78, rfl, Try.ntmps78, by kernel_rfl⟩ (by simp) fun C hC hF => ?_
  refine aw_seq_k fun K hK => ?_
  refine w_region (n' := 2) (by kernel_rfl) (by kernel_rfl) ?_
  refine aops_n hTT (M := []) (n := 2) [pv (1 : Nat) (V.ptr [V.i (Cut.half c), V.i (Cut.gain c), V.i (Cut.thin c), V.i (Cut.wide c), V.i (Cut.slope c), V.i (Cut.jerk c), V.i (Cut.sty c)]), pv (2 : Nat) (V.i (0 : Int))] (by kernel_rfl) (by kernel_rfl) True.intro ?_
  refine aops_nil ?_
  refine xt_n ?_
  refine hK _ ?_
  clear hK K
  refine aw_seq_k fun K hK => ?_
  refine aw_seq_k fun K hK => ?_
  refine w_region (n' := 3) (by kernel_rfl) (by kernel_rfl) ?_
  refine aops_n hTT (M := []) (n := 25) [pv (5 : Nat) (V.ptr [V.i (Cut.half c), V.i (Cut.gain c), V.i (Cut.thin c), V.i (Cut.wide c), V.i (Cut.slope c), V.i (Cut.jerk c), V.i (Cut.sty c)]), pv (6 : Nat) (V.i (Cut.half c)), pv (7 : Nat) (V.agg [V.i (Cut.half c), V.i (1 : Int), V.i (4096 : Int)]), pv (8 : Nat) (V.ptr [V.i (Cut.gain c), V.i (Cut.thin c), V.i (Cut.wide c), V.i (Cut.slope c), V.i (Cut.jerk c), V.i (Cut.sty c)]), pv (9 : Nat) (V.i (Cut.gain c)), pv (10 : Nat) (V.agg [V.i (Cut.gain c), V.i (0 : Int), V.i (100000 : Int)]), pv (11 : Nat) (V.ptr [V.i (Cut.thin c), V.i (Cut.wide c), V.i (Cut.slope c), V.i (Cut.jerk c), V.i (Cut.sty c)]), pv (12 : Nat) (V.i (Cut.thin c)), pv (13 : Nat) (V.ptr [V.i (Cut.wide c), V.i (Cut.slope c), V.i (Cut.jerk c), V.i (Cut.sty c)]), pv (14 : Nat) (V.i (Cut.wide c)), pv (15 : Nat) (V.agg [V.i (Cut.thin c), V.i (0 : Int), V.i (Cut.wide c)]), pv (16 : Nat) (V.ptr [V.i (Cut.wide c), V.i (Cut.slope c), V.i (Cut.jerk c), V.i (Cut.sty c)]), pv (17 : Nat) (V.i (Cut.wide c)), pv (18 : Nat) (V.agg [V.i (Cut.wide c), V.i (0 : Int), V.i (1048576 : Int)]), pv (19 : Nat) (V.ptr [V.i (Cut.slope c), V.i (Cut.jerk c), V.i (Cut.sty c)]), pv (20 : Nat) (V.i (Cut.slope c)), pv (21 : Nat) (V.agg [V.i (Cut.slope c), V.i (0 : Int), V.i (10000 : Int)]), pv (22 : Nat) (V.ptr [V.i (Cut.jerk c), V.i (Cut.sty c)]), pv (23 : Nat) (V.i (Cut.jerk c)), pv (24 : Nat) (V.agg [V.i (Cut.jerk c), V.i (0 : Int), V.i (1048576 : Int)]), pv (25 : Nat) (V.ptr [V.i (Cut.sty c)]), pv (26 : Nat) (V.i (Cut.sty c)), pv (27 : Nat) (V.agg [V.i (Cut.sty c), V.i (0 : Int), V.i (1024 : Int)]), pv (28 : Nat) (V.agg [V.i (Cut.half c), V.i (1 : Int), V.i (4096 : Int), V.i (Cut.gain c), V.i (0 : Int), V.i (100000 : Int), V.i (Cut.thin c), V.i (0 : Int), V.i (Cut.wide c), V.i (Cut.wide c), V.i (0 : Int), V.i (1048576 : Int), V.i (Cut.slope c), V.i (0 : Int), V.i (10000 : Int), V.i (Cut.jerk c), V.i (0 : Int), V.i (1048576 : Int), V.i (Cut.sty c), V.i (0 : Int), V.i (1024 : Int)]), pv (29 : Nat) (V.i (0 : Int))] (by kernel_rfl) (by kernel_rfl) True.intro ?_
  refine aops_nil ?_
  refine xt_n ?_
  refine hK _ ?_
  clear hK K
  refine aw_block ?_
  refine w_loop (fun k : Nat => [(28, .agg [.i c.half, .i 1, .i 4096, .i c.gain, .i 0, .i 100000, .i c.thin, .i 0, .i c.wide, .i c.wide, .i 0, .i 1048576, .i c.slope, .i 0, .i 10000, .i c.jerk, .i 0, .i 1048576, .i c.sty, .i 0, .i 1024]), (29, .i k)]) (fun _ => [])
    (fun k => k ≤ 7 ∧ ∀ j, j < k → bndB c j = true) (fun k => 7 - k) 0 ⟨by decide, fun j hj => by omega⟩ ?_ ?_
  · refine le_ren [] (.cons (by kernel_rfl) (.cons (by kernel_rfl) .nil)) .nil (by kernel_rfl) (by kernel_rfl)
  rintro k ⟨hk, hb⟩
  have h7 : k = 0 ∨ k = 1 ∨ k = 2 ∨ k = 3 ∨ k = 4 ∨ k = 5 ∨ k = 6 ∨ k = 7 := by omega
  rcases h7 with rfl | rfl | rfl | rfl | rfl | rfl | rfl | rfl
  · refine aw_seq_k fun K hK => ?_
    refine w_region (n' := 2) (by kernel_rfl) (by kernel_rfl) ?_
    refine aops_n hTT (M := []) (n := 1) [pv (30 : Nat) (V.b true)] (by kernel_rfl) (by kernel_rfl) True.intro ?_
    refine aops_nil ?_
    refine xt_n ?_
    refine hK _ ?_
    clear hK K
    refine aw_seq_k fun K hK => ?_
    refine w_true (t := true) (by kernel_rfl) rfl ?_
    refine aw_skip ?_
    refine xt_n ?_
    refine hK _ ?_
    clear hK K
    refine aw_seq_k fun K hK => ?_
    refine aw_block ?_
    refine aw_seq_k fun K hK => ?_
    refine w_region (n' := 3) (by kernel_rfl) (by kernel_rfl) ?_
    refine aops_n hTT (M := []) (n := 3) [pc (31 : Nat) ((0 : Int) ≤ (↑(0 : Nat) : Int) ∧ (↑(0 : Nat) : Int) < (↑(7 : Nat) : Int)) (V.agg [V.i (Cut.half c), V.i (1 : Int), V.i (4096 : Int)]), pn (4 : Nat) (V.ref (200004 : Nat) (0 : Nat)) (200004 : Nat) (Ob.box (136 : Nat) [V.i (0 : Int), V.i (0 : Int), V.i (0 : Int)]), pw ((0 : Nat) + (3 : Nat) ≤ (3 : Nat)) (200004 : Nat) (Ob.box (136 : Nat) [V.i (Cut.half c), V.i (1 : Int), V.i (4096 : Int)])] (by kernel_rfl) (by kernel_rfl) ⟨(by omega), (by omega), True.intro⟩ ?_
    refine aops_nil ?_
    refine xt_n ?_
    refine hK _ ?_
    clear hK K
    refine aw_seq_k fun K hK => ?_
    refine w_region (n' := 4) (by kernel_rfl) (by kernel_rfl) ?_
    refine aops_n hTT (M := []) (n := 6) [pc (32 : Nat) ((0 : Int) ≤ (0 : Int) ∧ (0 : Int) < (↑(3 : Nat) : Int)) (V.ref (200004 : Nat) (0 : Nat)), pc (33 : Nat) ((0 : Nat) ≤ (3 : Nat)) (V.i (Cut.half c)), pc (34 : Nat) ((0 : Int) ≤ (1 : Int) ∧ (1 : Int) < (↑(3 : Nat) : Int)) (V.ref (200004 : Nat) (1 : Nat)), pc (35 : Nat) ((1 : Nat) ≤ (3 : Nat)) (V.i (1 : Int)), pc (36 : Nat) ((0 : Int) ≤ (2 : Int) ∧ (2 : Int) < (↑(3 : Nat) : Int)) (V.ref (200004 : Nat) (2 : Nat)), pc (37 : Nat) ((2 : Nat) ≤ (3 : Nat)) (V.i (4096 : Int))] (by kernel_rfl) (by kernel_rfl) ⟨(by omega), (by omega), (by omega), (by omega), (by omega), (by omega), True.intro⟩ ?_
    refine e_call (first := []) (caps := []) (between_ac (bnd c 0).1 (bnd c 0).2.1 (bnd c 0).2.2) (by kernel_rfl) (by kernel_rfl) (by kernel_rfl) (by kernel_rfl) (by kernel_rfl) ?_
    refine aops_n hTT (M := []) (n := 1) [pv (39 : Nat) (V.b !betB (Prod.fst (bnd c (0 : Nat))) (Prod.fst (Prod.snd (bnd c (0 : Nat)))) (Prod.snd (Prod.snd (bnd c (0 : Nat)))))] (by kernel_rfl) (by kernel_rfl) True.intro ?_
    refine aops_nil ?_
    refine xt_n ?_
    refine hK _ ?_
    clear hK K
    refine w_cond (t := !betB (Prod.fst (bnd c (0 : Nat))) (Prod.fst (Prod.snd (bnd c (0 : Nat)))) (Prod.snd (Prod.snd (bnd c (0 : Nat))))) (by kernel_rfl) (fun h2 => ?_) (fun h2 => ?_)
    · refine aw_seq_k fun K hK => ?_
      refine w_region (n' := 5) (by kernel_rfl) (by kernel_rfl) ?_
      refine aops_n hTT (M := []) (n := 1) [pv (2 : Nat) (V.i (2 : Int))] (by kernel_rfl) (by kernel_rfl) True.intro ?_
      refine aops_nil ?_
      refine xt_n ?_
      refine hK _ ?_
      clear hK K
      refine aw_ret ?_
      refine xb_r ?_
      refine xt_r ?_
      refine xt_r ?_
      refine xb_r ?_
      refine xt_r ?_
      rw [cutE_bad (j := 0) (by decide) (by simpa [bndB] using h2)]
      refine ret_pure (v' := V.i (2 : Int)) (.inr rfl) (by kernel_rfl) (by kernel_rfl) (by kernel_rfl)
    refine aw_skip ?_
    refine xb_n ?_
    refine xt_n ?_
    refine hK _ ?_
    clear hK K
    refine w_region (n' := 5) (by kernel_rfl) (by kernel_rfl) ?_
    refine aops_n hTT (M := []) (n := 2) [pc (40 : Nat) ((-9223372036854775808 : Int) ≤ (↑(0 : Nat) : Int) + (1 : Int) ∧ (↑(0 : Nat) : Int) + (1 : Int) ≤ (9223372036854775807 : Int)) (V.i ((↑(0 : Nat) : Int) + (1 : Int))), pv (29 : Nat) (V.i ((↑(0 : Nat) : Int) + (1 : Int)))] (by kernel_rfl) (by kernel_rfl) ⟨(by omega), True.intro⟩ ?_
    refine aops_nil ?_
    refine xt_n ?_
    refine ⟨1, ⟨by decide, fun i hi => ?_⟩, ?_, by decide⟩
    · by_cases he : i = 0
      · subst he; simpa [bndB] using h2
      · exact hb i (by omega)
    · refine le_ren [] (.cons (by kernel_rfl) (.cons (by kernel_rfl) .nil)) .nil (by kernel_rfl) (by kernel_rfl)
  · refine aw_seq_k fun K hK => ?_
    refine w_region (n' := 2) (by kernel_rfl) (by kernel_rfl) ?_
    refine aops_n hTT (M := []) (n := 1) [pv (30 : Nat) (V.b true)] (by kernel_rfl) (by kernel_rfl) True.intro ?_
    refine aops_nil ?_
    refine xt_n ?_
    refine hK _ ?_
    clear hK K
    refine aw_seq_k fun K hK => ?_
    refine w_true (t := true) (by kernel_rfl) rfl ?_
    refine aw_skip ?_
    refine xt_n ?_
    refine hK _ ?_
    clear hK K
    refine aw_seq_k fun K hK => ?_
    refine aw_block ?_
    refine aw_seq_k fun K hK => ?_
    refine w_region (n' := 3) (by kernel_rfl) (by kernel_rfl) ?_
    refine aops_n hTT (M := []) (n := 3) [pc (31 : Nat) ((0 : Int) ≤ (↑(1 : Nat) : Int) ∧ (↑(1 : Nat) : Int) < (↑(7 : Nat) : Int)) (V.agg [V.i (Cut.gain c), V.i (0 : Int), V.i (100000 : Int)]), pn (4 : Nat) (V.ref (200004 : Nat) (0 : Nat)) (200004 : Nat) (Ob.box (136 : Nat) [V.i (0 : Int), V.i (0 : Int), V.i (0 : Int)]), pw ((0 : Nat) + (3 : Nat) ≤ (3 : Nat)) (200004 : Nat) (Ob.box (136 : Nat) [V.i (Cut.gain c), V.i (0 : Int), V.i (100000 : Int)])] (by kernel_rfl) (by kernel_rfl) ⟨(by omega), (by omega), True.intro⟩ ?_
    refine aops_nil ?_
    refine xt_n ?_
    refine hK _ ?_
    clear hK K
    refine aw_seq_k fun K hK => ?_
    refine w_region (n' := 4) (by kernel_rfl) (by kernel_rfl) ?_
    refine aops_n hTT (M := []) (n := 6) [pc (32 : Nat) ((0 : Int) ≤ (0 : Int) ∧ (0 : Int) < (↑(3 : Nat) : Int)) (V.ref (200004 : Nat) (0 : Nat)), pc (33 : Nat) ((0 : Nat) ≤ (3 : Nat)) (V.i (Cut.gain c)), pc (34 : Nat) ((0 : Int) ≤ (1 : Int) ∧ (1 : Int) < (↑(3 : Nat) : Int)) (V.ref (200004 : Nat) (1 : Nat)), pc (35 : Nat) ((1 : Nat) ≤ (3 : Nat)) (V.i (0 : Int)), pc (36 : Nat) ((0 : Int) ≤ (2 : Int) ∧ (2 : Int) < (↑(3 : Nat) : Int)) (V.ref (200004 : Nat) (2 : Nat)), pc (37 : Nat) ((2 : Nat) ≤ (3 : Nat)) (V.i (100000 : Int))] (by kernel_rfl) (by kernel_rfl) ⟨(by omega), (by omega), (by omega), (by omega), (by omega), (by omega), True.intro⟩ ?_
    refine e_call (first := []) (caps := []) (between_ac (bnd c 1).1 (bnd c 1).2.1 (bnd c 1).2.2) (by kernel_rfl) (by kernel_rfl) (by kernel_rfl) (by kernel_rfl) (by kernel_rfl) ?_
    refine aops_n hTT (M := []) (n := 1) [pv (39 : Nat) (V.b !betB (Prod.fst (bnd c (1 : Nat))) (Prod.fst (Prod.snd (bnd c (1 : Nat)))) (Prod.snd (Prod.snd (bnd c (1 : Nat)))))] (by kernel_rfl) (by kernel_rfl) True.intro ?_
    refine aops_nil ?_
    refine xt_n ?_
    refine hK _ ?_
    clear hK K
    refine w_cond (t := !betB (Prod.fst (bnd c (1 : Nat))) (Prod.fst (Prod.snd (bnd c (1 : Nat)))) (Prod.snd (Prod.snd (bnd c (1 : Nat))))) (by kernel_rfl) (fun h2 => ?_) (fun h2 => ?_)
    · refine aw_seq_k fun K hK => ?_
      refine w_region (n' := 5) (by kernel_rfl) (by kernel_rfl) ?_
      refine aops_n hTT (M := []) (n := 1) [pv (2 : Nat) (V.i (2 : Int))] (by kernel_rfl) (by kernel_rfl) True.intro ?_
      refine aops_nil ?_
      refine xt_n ?_
      refine hK _ ?_
      clear hK K
      refine aw_ret ?_
      refine xb_r ?_
      refine xt_r ?_
      refine xt_r ?_
      refine xb_r ?_
      refine xt_r ?_
      rw [cutE_bad (j := 1) (by decide) (by simpa [bndB] using h2)]
      refine ret_pure (v' := V.i (2 : Int)) (.inr rfl) (by kernel_rfl) (by kernel_rfl) (by kernel_rfl)
    refine aw_skip ?_
    refine xb_n ?_
    refine xt_n ?_
    refine hK _ ?_
    clear hK K
    refine w_region (n' := 5) (by kernel_rfl) (by kernel_rfl) ?_
    refine aops_n hTT (M := []) (n := 2) [pc (40 : Nat) ((-9223372036854775808 : Int) ≤ (↑(1 : Nat) : Int) + (1 : Int) ∧ (↑(1 : Nat) : Int) + (1 : Int) ≤ (9223372036854775807 : Int)) (V.i ((↑(1 : Nat) : Int) + (1 : Int))), pv (29 : Nat) (V.i ((↑(1 : Nat) : Int) + (1 : Int)))] (by kernel_rfl) (by kernel_rfl) ⟨(by omega), True.intro⟩ ?_
    refine aops_nil ?_
    refine xt_n ?_
    refine ⟨2, ⟨by decide, fun i hi => ?_⟩, ?_, by decide⟩
    · by_cases he : i = 1
      · subst he; simpa [bndB] using h2
      · exact hb i (by omega)
    · refine le_ren [] (.cons (by kernel_rfl) (.cons (by kernel_rfl) .nil)) .nil (by kernel_rfl) (by kernel_rfl)
  · refine aw_seq_k fun K hK => ?_
    refine w_region (n' := 2) (by kernel_rfl) (by kernel_rfl) ?_
    refine aops_n hTT (M := []) (n := 1) [pv (30 : Nat) (V.b true)] (by kernel_rfl) (by kernel_rfl) True.intro ?_
    refine aops_nil ?_
    refine xt_n ?_
    refine hK _ ?_
    clear hK K
    refine aw_seq_k fun K hK => ?_
    refine w_true (t := true) (by kernel_rfl) rfl ?_
    refine aw_skip ?_
    refine xt_n ?_
    refine hK _ ?_
    clear hK K
    refine aw_seq_k fun K hK => ?_
    refine aw_block ?_
    refine aw_seq_k fun K hK => ?_
    refine w_region (n' := 3) (by kernel_rfl) (by kernel_rfl) ?_
    refine aops_n hTT (M := []) (n := 3) [pc (31 : Nat) ((0 : Int) ≤ (↑(2 : Nat) : Int) ∧ (↑(2 : Nat) : Int) < (↑(7 : Nat) : Int)) (V.agg [V.i (Cut.thin c), V.i (0 : Int), V.i (Cut.wide c)]), pn (4 : Nat) (V.ref (200004 : Nat) (0 : Nat)) (200004 : Nat) (Ob.box (136 : Nat) [V.i (0 : Int), V.i (0 : Int), V.i (0 : Int)]), pw ((0 : Nat) + (3 : Nat) ≤ (3 : Nat)) (200004 : Nat) (Ob.box (136 : Nat) [V.i (Cut.thin c), V.i (0 : Int), V.i (Cut.wide c)])] (by kernel_rfl) (by kernel_rfl) ⟨(by omega), (by omega), True.intro⟩ ?_
    refine aops_nil ?_
    refine xt_n ?_
    refine hK _ ?_
    clear hK K
    refine aw_seq_k fun K hK => ?_
    refine w_region (n' := 4) (by kernel_rfl) (by kernel_rfl) ?_
    refine aops_n hTT (M := []) (n := 6) [pc (32 : Nat) ((0 : Int) ≤ (0 : Int) ∧ (0 : Int) < (↑(3 : Nat) : Int)) (V.ref (200004 : Nat) (0 : Nat)), pc (33 : Nat) ((0 : Nat) ≤ (3 : Nat)) (V.i (Cut.thin c)), pc (34 : Nat) ((0 : Int) ≤ (1 : Int) ∧ (1 : Int) < (↑(3 : Nat) : Int)) (V.ref (200004 : Nat) (1 : Nat)), pc (35 : Nat) ((1 : Nat) ≤ (3 : Nat)) (V.i (0 : Int)), pc (36 : Nat) ((0 : Int) ≤ (2 : Int) ∧ (2 : Int) < (↑(3 : Nat) : Int)) (V.ref (200004 : Nat) (2 : Nat)), pc (37 : Nat) ((2 : Nat) ≤ (3 : Nat)) (V.i (Cut.wide c))] (by kernel_rfl) (by kernel_rfl) ⟨(by omega), (by omega), (by omega), (by omega), (by omega), (by omega), True.intro⟩ ?_
    refine e_call (first := []) (caps := []) (between_ac (bnd c 2).1 (bnd c 2).2.1 (bnd c 2).2.2) (by kernel_rfl) (by kernel_rfl) (by kernel_rfl) (by kernel_rfl) (by kernel_rfl) ?_
    refine aops_n hTT (M := []) (n := 1) [pv (39 : Nat) (V.b !betB (Prod.fst (bnd c (2 : Nat))) (Prod.fst (Prod.snd (bnd c (2 : Nat)))) (Prod.snd (Prod.snd (bnd c (2 : Nat)))))] (by kernel_rfl) (by kernel_rfl) True.intro ?_
    refine aops_nil ?_
    refine xt_n ?_
    refine hK _ ?_
    clear hK K
    refine w_cond (t := !betB (Prod.fst (bnd c (2 : Nat))) (Prod.fst (Prod.snd (bnd c (2 : Nat)))) (Prod.snd (Prod.snd (bnd c (2 : Nat))))) (by kernel_rfl) (fun h2 => ?_) (fun h2 => ?_)
    · refine aw_seq_k fun K hK => ?_
      refine w_region (n' := 5) (by kernel_rfl) (by kernel_rfl) ?_
      refine aops_n hTT (M := []) (n := 1) [pv (2 : Nat) (V.i (2 : Int))] (by kernel_rfl) (by kernel_rfl) True.intro ?_
      refine aops_nil ?_
      refine xt_n ?_
      refine hK _ ?_
      clear hK K
      refine aw_ret ?_
      refine xb_r ?_
      refine xt_r ?_
      refine xt_r ?_
      refine xb_r ?_
      refine xt_r ?_
      rw [cutE_bad (j := 2) (by decide) (by simpa [bndB] using h2)]
      refine ret_pure (v' := V.i (2 : Int)) (.inr rfl) (by kernel_rfl) (by kernel_rfl) (by kernel_rfl)
    refine aw_skip ?_
    refine xb_n ?_
    refine xt_n ?_
    refine hK _ ?_
    clear hK K
    refine w_region (n' := 5) (by kernel_rfl) (by kernel_rfl) ?_
    refine aops_n hTT (M := []) (n := 2) [pc (40 : Nat) ((-9223372036854775808 : Int) ≤ (↑(2 : Nat) : Int) + (1 : Int) ∧ (↑(2 : Nat) : Int) + (1 : Int) ≤ (9223372036854775807 : Int)) (V.i ((↑(2 : Nat) : Int) + (1 : Int))), pv (29 : Nat) (V.i ((↑(2 : Nat) : Int) + (1 : Int)))] (by kernel_rfl) (by kernel_rfl) ⟨(by omega), True.intro⟩ ?_
    refine aops_nil ?_
    refine xt_n ?_
    refine ⟨3, ⟨by decide, fun i hi => ?_⟩, ?_, by decide⟩
    · by_cases he : i = 2
      · subst he; simpa [bndB] using h2
      · exact hb i (by omega)
    · refine le_ren [] (.cons (by kernel_rfl) (.cons (by kernel_rfl) .nil)) .nil (by kernel_rfl) (by kernel_rfl)
  · refine aw_seq_k fun K hK => ?_
    refine w_region (n' := 2) (by kernel_rfl) (by kernel_rfl) ?_
    refine aops_n hTT (M := []) (n := 1) [pv (30 : Nat) (V.b true)] (by kernel_rfl) (by kernel_rfl) True.intro ?_
    refine aops_nil ?_
    refine xt_n ?_
    refine hK _ ?_
    clear hK K
    refine aw_seq_k fun K hK => ?_
    refine w_true (t := true) (by kernel_rfl) rfl ?_
    refine aw_skip ?_
    refine xt_n ?_
    refine hK _ ?_
    clear hK K
    refine aw_seq_k fun K hK => ?_
    refine aw_block ?_
    refine aw_seq_k fun K hK => ?_
    refine w_region (n' := 3) (by kernel_rfl) (by kernel_rfl) ?_
    refine aops_n hTT (M := []) (n := 3) [pc (31 : Nat) ((0 : Int) ≤ (↑(3 : Nat) : Int) ∧ (↑(3 : Nat) : Int) < (↑(7 : Nat) : Int)) (V.agg [V.i (Cut.wide c), V.i (0 : Int), V.i (1048576 : Int)]), pn (4 : Nat) (V.ref (200004 : Nat) (0 : Nat)) (200004 : Nat) (Ob.box (136 : Nat) [V.i (0 : Int), V.i (0 : Int), V.i (0 : Int)]), pw ((0 : Nat) + (3 : Nat) ≤ (3 : Nat)) (200004 : Nat) (Ob.box (136 : Nat) [V.i (Cut.wide c), V.i (0 : Int), V.i (1048576 : Int)])] (by kernel_rfl) (by kernel_rfl) ⟨(by omega), (by omega), True.intro⟩ ?_
    refine aops_nil ?_
    refine xt_n ?_
    refine hK _ ?_
    clear hK K
    refine aw_seq_k fun K hK => ?_
    refine w_region (n' := 4) (by kernel_rfl) (by kernel_rfl) ?_
    refine aops_n hTT (M := []) (n := 6) [pc (32 : Nat) ((0 : Int) ≤ (0 : Int) ∧ (0 : Int) < (↑(3 : Nat) : Int)) (V.ref (200004 : Nat) (0 : Nat)), pc (33 : Nat) ((0 : Nat) ≤ (3 : Nat)) (V.i (Cut.wide c)), pc (34 : Nat) ((0 : Int) ≤ (1 : Int) ∧ (1 : Int) < (↑(3 : Nat) : Int)) (V.ref (200004 : Nat) (1 : Nat)), pc (35 : Nat) ((1 : Nat) ≤ (3 : Nat)) (V.i (0 : Int)), pc (36 : Nat) ((0 : Int) ≤ (2 : Int) ∧ (2 : Int) < (↑(3 : Nat) : Int)) (V.ref (200004 : Nat) (2 : Nat)), pc (37 : Nat) ((2 : Nat) ≤ (3 : Nat)) (V.i (1048576 : Int))] (by kernel_rfl) (by kernel_rfl) ⟨(by omega), (by omega), (by omega), (by omega), (by omega), (by omega), True.intro⟩ ?_
    refine e_call (first := []) (caps := []) (between_ac (bnd c 3).1 (bnd c 3).2.1 (bnd c 3).2.2) (by kernel_rfl) (by kernel_rfl) (by kernel_rfl) (by kernel_rfl) (by kernel_rfl) ?_
    refine aops_n hTT (M := []) (n := 1) [pv (39 : Nat) (V.b !betB (Prod.fst (bnd c (3 : Nat))) (Prod.fst (Prod.snd (bnd c (3 : Nat)))) (Prod.snd (Prod.snd (bnd c (3 : Nat)))))] (by kernel_rfl) (by kernel_rfl) True.intro ?_
    refine aops_nil ?_
    refine xt_n ?_
    refine hK _ ?_
    clear hK K
    refine w_cond (t := !betB (Prod.fst (bnd c (3 : Nat))) (Prod.fst (Prod.snd (bnd c (3 : Nat)))) (Prod.snd (Prod.snd (bnd c (3 : Nat))))) (by kernel_rfl) (fun h2 => ?_) (fun h2 => ?_)
    · refine aw_seq_k fun K hK => ?_
      refine w_region (n' := 5) (by kernel_rfl) (by kernel_rfl) ?_
      refine aops_n hTT (M := []) (n := 1) [pv (2 : Nat) (V.i (2 : Int))] (by kernel_rfl) (by kernel_rfl) True.intro ?_
      refine aops_nil ?_
      refine xt_n ?_
      refine hK _ ?_
      clear hK K
      refine aw_ret ?_
      refine xb_r ?_
      refine xt_r ?_
      refine xt_r ?_
      refine xb_r ?_
      refine xt_r ?_
      rw [cutE_bad (j := 3) (by decide) (by simpa [bndB] using h2)]
      refine ret_pure (v' := V.i (2 : Int)) (.inr rfl) (by kernel_rfl) (by kernel_rfl) (by kernel_rfl)
    refine aw_skip ?_
    refine xb_n ?_
    refine xt_n ?_
    refine hK _ ?_
    clear hK K
    refine w_region (n' := 5) (by kernel_rfl) (by kernel_rfl) ?_
    refine aops_n hTT (M := []) (n := 2) [pc (40 : Nat) ((-9223372036854775808 : Int) ≤ (↑(3 : Nat) : Int) + (1 : Int) ∧ (↑(3 : Nat) : Int) + (1 : Int) ≤ (9223372036854775807 : Int)) (V.i ((↑(3 : Nat) : Int) + (1 : Int))), pv (29 : Nat) (V.i ((↑(3 : Nat) : Int) + (1 : Int)))] (by kernel_rfl) (by kernel_rfl) ⟨(by omega), True.intro⟩ ?_
    refine aops_nil ?_
    refine xt_n ?_
    refine ⟨4, ⟨by decide, fun i hi => ?_⟩, ?_, by decide⟩
    · by_cases he : i = 3
      · subst he; simpa [bndB] using h2
      · exact hb i (by omega)
    · refine le_ren [] (.cons (by kernel_rfl) (.cons (by kernel_rfl) .nil)) .nil (by kernel_rfl) (by kernel_rfl)
  · refine aw_seq_k fun K hK => ?_
    refine w_region (n' := 2) (by kernel_rfl) (by kernel_rfl) ?_
    refine aops_n hTT (M := []) (n := 1) [pv (30 : Nat) (V.b true)] (by kernel_rfl) (by kernel_rfl) True.intro ?_
    refine aops_nil ?_
    refine xt_n ?_
    refine hK _ ?_
    clear hK K
    refine aw_seq_k fun K hK => ?_
    refine w_true (t := true) (by kernel_rfl) rfl ?_
    refine aw_skip ?_
    refine xt_n ?_
    refine hK _ ?_
    clear hK K
    refine aw_seq_k fun K hK => ?_
    refine aw_block ?_
    refine aw_seq_k fun K hK => ?_
    refine w_region (n' := 3) (by kernel_rfl) (by kernel_rfl) ?_
    refine aops_n hTT (M := []) (n := 3) [pc (31 : Nat) ((0 : Int) ≤ (↑(4 : Nat) : Int) ∧ (↑(4 : Nat) : Int) < (↑(7 : Nat) : Int)) (V.agg [V.i (Cut.slope c), V.i (0 : Int), V.i (10000 : Int)]), pn (4 : Nat) (V.ref (200004 : Nat) (0 : Nat)) (200004 : Nat) (Ob.box (136 : Nat) [V.i (0 : Int), V.i (0 : Int), V.i (0 : Int)]), pw ((0 : Nat) + (3 : Nat) ≤ (3 : Nat)) (200004 : Nat) (Ob.box (136 : Nat) [V.i (Cut.slope c), V.i (0 : Int), V.i (10000 : Int)])] (by kernel_rfl) (by kernel_rfl) ⟨(by omega), (by omega), True.intro⟩ ?_
    refine aops_nil ?_
    refine xt_n ?_
    refine hK _ ?_
    clear hK K
    refine aw_seq_k fun K hK => ?_
    refine w_region (n' := 4) (by kernel_rfl) (by kernel_rfl) ?_
    refine aops_n hTT (M := []) (n := 6) [pc (32 : Nat) ((0 : Int) ≤ (0 : Int) ∧ (0 : Int) < (↑(3 : Nat) : Int)) (V.ref (200004 : Nat) (0 : Nat)), pc (33 : Nat) ((0 : Nat) ≤ (3 : Nat)) (V.i (Cut.slope c)), pc (34 : Nat) ((0 : Int) ≤ (1 : Int) ∧ (1 : Int) < (↑(3 : Nat) : Int)) (V.ref (200004 : Nat) (1 : Nat)), pc (35 : Nat) ((1 : Nat) ≤ (3 : Nat)) (V.i (0 : Int)), pc (36 : Nat) ((0 : Int) ≤ (2 : Int) ∧ (2 : Int) < (↑(3 : Nat) : Int)) (V.ref (200004 : Nat) (2 : Nat)), pc (37 : Nat) ((2 : Nat) ≤ (3 : Nat)) (V.i (10000 : Int))] (by kernel_rfl) (by kernel_rfl) ⟨(by omega), (by omega), (by omega), (by omega), (by omega), (by omega), True.intro⟩ ?_
    refine e_call (first := []) (caps := []) (between_ac (bnd c 4).1 (bnd c 4).2.1 (bnd c 4).2.2) (by kernel_rfl) (by kernel_rfl) (by kernel_rfl) (by kernel_rfl) (by kernel_rfl) ?_
    refine aops_n hTT (M := []) (n := 1) [pv (39 : Nat) (V.b !betB (Prod.fst (bnd c (4 : Nat))) (Prod.fst (Prod.snd (bnd c (4 : Nat)))) (Prod.snd (Prod.snd (bnd c (4 : Nat)))))] (by kernel_rfl) (by kernel_rfl) True.intro ?_
    refine aops_nil ?_
    refine xt_n ?_
    refine hK _ ?_
    clear hK K
    refine w_cond (t := !betB (Prod.fst (bnd c (4 : Nat))) (Prod.fst (Prod.snd (bnd c (4 : Nat)))) (Prod.snd (Prod.snd (bnd c (4 : Nat))))) (by kernel_rfl) (fun h2 => ?_) (fun h2 => ?_)
    · refine aw_seq_k fun K hK => ?_
      refine w_region (n' := 5) (by kernel_rfl) (by kernel_rfl) ?_
      refine aops_n hTT (M := []) (n := 1) [pv (2 : Nat) (V.i (2 : Int))] (by kernel_rfl) (by kernel_rfl) True.intro ?_
      refine aops_nil ?_
      refine xt_n ?_
      refine hK _ ?_
      clear hK K
      refine aw_ret ?_
      refine xb_r ?_
      refine xt_r ?_
      refine xt_r ?_
      refine xb_r ?_
      refine xt_r ?_
      rw [cutE_bad (j := 4) (by decide) (by simpa [bndB] using h2)]
      refine ret_pure (v' := V.i (2 : Int)) (.inr rfl) (by kernel_rfl) (by kernel_rfl) (by kernel_rfl)
    refine aw_skip ?_
    refine xb_n ?_
    refine xt_n ?_
    refine hK _ ?_
    clear hK K
    refine w_region (n' := 5) (by kernel_rfl) (by kernel_rfl) ?_
    refine aops_n hTT (M := []) (n := 2) [pc (40 : Nat) ((-9223372036854775808 : Int) ≤ (↑(4 : Nat) : Int) + (1 : Int) ∧ (↑(4 : Nat) : Int) + (1 : Int) ≤ (9223372036854775807 : Int)) (V.i ((↑(4 : Nat) : Int) + (1 : Int))), pv (29 : Nat) (V.i ((↑(4 : Nat) : Int) + (1 : Int)))] (by kernel_rfl) (by kernel_rfl) ⟨(by omega), True.intro⟩ ?_
    refine aops_nil ?_
    refine xt_n ?_
    refine ⟨5, ⟨by decide, fun i hi => ?_⟩, ?_, by decide⟩
    · by_cases he : i = 4
      · subst he; simpa [bndB] using h2
      · exact hb i (by omega)
    · refine le_ren [] (.cons (by kernel_rfl) (.cons (by kernel_rfl) .nil)) .nil (by kernel_rfl) (by kernel_rfl)
  · refine aw_seq_k fun K hK => ?_
    refine w_region (n' := 2) (by kernel_rfl) (by kernel_rfl) ?_
    refine aops_n hTT (M := []) (n := 1) [pv (30 : Nat) (V.b true)] (by kernel_rfl) (by kernel_rfl) True.intro ?_
    refine aops_nil ?_
    refine xt_n ?_
    refine hK _ ?_
    clear hK K
    refine aw_seq_k fun K hK => ?_
    refine w_true (t := true) (by kernel_rfl) rfl ?_
    refine aw_skip ?_
    refine xt_n ?_
    refine hK _ ?_
    clear hK K
    refine aw_seq_k fun K hK => ?_
    refine aw_block ?_
    refine aw_seq_k fun K hK => ?_
    refine w_region (n' := 3) (by kernel_rfl) (by kernel_rfl) ?_
    refine aops_n hTT (M := []) (n := 3) [pc (31 : Nat) ((0 : Int) ≤ (↑(5 : Nat) : Int) ∧ (↑(5 : Nat) : Int) < (↑(7 : Nat) : Int)) (V.agg [V.i (Cut.jerk c), V.i (0 : Int), V.i (1048576 : Int)]), pn (4 : Nat) (V.ref (200004 : Nat) (0 : Nat)) (200004 : Nat) (Ob.box (136 : Nat) [V.i (0 : Int), V.i (0 : Int), V.i (0 : Int)]), pw ((0 : Nat) + (3 : Nat) ≤ (3 : Nat)) (200004 : Nat) (Ob.box (136 : Nat) [V.i (Cut.jerk c), V.i (0 : Int), V.i (1048576 : Int)])] (by kernel_rfl) (by kernel_rfl) ⟨(by omega), (by omega), True.intro⟩ ?_
    refine aops_nil ?_
    refine xt_n ?_
    refine hK _ ?_
    clear hK K
    refine aw_seq_k fun K hK => ?_
    refine w_region (n' := 4) (by kernel_rfl) (by kernel_rfl) ?_
    refine aops_n hTT (M := []) (n := 6) [pc (32 : Nat) ((0 : Int) ≤ (0 : Int) ∧ (0 : Int) < (↑(3 : Nat) : Int)) (V.ref (200004 : Nat) (0 : Nat)), pc (33 : Nat) ((0 : Nat) ≤ (3 : Nat)) (V.i (Cut.jerk c)), pc (34 : Nat) ((0 : Int) ≤ (1 : Int) ∧ (1 : Int) < (↑(3 : Nat) : Int)) (V.ref (200004 : Nat) (1 : Nat)), pc (35 : Nat) ((1 : Nat) ≤ (3 : Nat)) (V.i (0 : Int)), pc (36 : Nat) ((0 : Int) ≤ (2 : Int) ∧ (2 : Int) < (↑(3 : Nat) : Int)) (V.ref (200004 : Nat) (2 : Nat)), pc (37 : Nat) ((2 : Nat) ≤ (3 : Nat)) (V.i (1048576 : Int))] (by kernel_rfl) (by kernel_rfl) ⟨(by omega), (by omega), (by omega), (by omega), (by omega), (by omega), True.intro⟩ ?_
    refine e_call (first := []) (caps := []) (between_ac (bnd c 5).1 (bnd c 5).2.1 (bnd c 5).2.2) (by kernel_rfl) (by kernel_rfl) (by kernel_rfl) (by kernel_rfl) (by kernel_rfl) ?_
    refine aops_n hTT (M := []) (n := 1) [pv (39 : Nat) (V.b !betB (Prod.fst (bnd c (5 : Nat))) (Prod.fst (Prod.snd (bnd c (5 : Nat)))) (Prod.snd (Prod.snd (bnd c (5 : Nat)))))] (by kernel_rfl) (by kernel_rfl) True.intro ?_
    refine aops_nil ?_
    refine xt_n ?_
    refine hK _ ?_
    clear hK K
    refine w_cond (t := !betB (Prod.fst (bnd c (5 : Nat))) (Prod.fst (Prod.snd (bnd c (5 : Nat)))) (Prod.snd (Prod.snd (bnd c (5 : Nat))))) (by kernel_rfl) (fun h2 => ?_) (fun h2 => ?_)
    · refine aw_seq_k fun K hK => ?_
      refine w_region (n' := 5) (by kernel_rfl) (by kernel_rfl) ?_
      refine aops_n hTT (M := []) (n := 1) [pv (2 : Nat) (V.i (2 : Int))] (by kernel_rfl) (by kernel_rfl) True.intro ?_
      refine aops_nil ?_
      refine xt_n ?_
      refine hK _ ?_
      clear hK K
      refine aw_ret ?_
      refine xb_r ?_
      refine xt_r ?_
      refine xt_r ?_
      refine xb_r ?_
      refine xt_r ?_
      rw [cutE_bad (j := 5) (by decide) (by simpa [bndB] using h2)]
      refine ret_pure (v' := V.i (2 : Int)) (.inr rfl) (by kernel_rfl) (by kernel_rfl) (by kernel_rfl)
    refine aw_skip ?_
    refine xb_n ?_
    refine xt_n ?_
    refine hK _ ?_
    clear hK K
    refine w_region (n' := 5) (by kernel_rfl) (by kernel_rfl) ?_
    refine aops_n hTT (M := []) (n := 2) [pc (40 : Nat) ((-9223372036854775808 : Int) ≤ (↑(5 : Nat) : Int) + (1 : Int) ∧ (↑(5 : Nat) : Int) + (1 : Int) ≤ (9223372036854775807 : Int)) (V.i ((↑(5 : Nat) : Int) + (1 : Int))), pv (29 : Nat) (V.i ((↑(5 : Nat) : Int) + (1 : Int)))] (by kernel_rfl) (by kernel_rfl) ⟨(by omega), True.intro⟩ ?_
    refine aops_nil ?_
    refine xt_n ?_
    refine ⟨6, ⟨by decide, fun i hi => ?_⟩, ?_, by decide⟩
    · by_cases he : i = 5
      · subst he; simpa [bndB] using h2
      · exact hb i (by omega)
    · refine le_ren [] (.cons (by kernel_rfl) (.cons (by kernel_rfl) .nil)) .nil (by kernel_rfl) (by kernel_rfl)
  · refine aw_seq_k fun K hK => ?_
    refine w_region (n' := 2) (by kernel_rfl) (by kernel_rfl) ?_
    refine aops_n hTT (M := []) (n := 1) [pv (30 : Nat) (V.b true)] (by kernel_rfl) (by kernel_rfl) True.intro ?_
    refine aops_nil ?_
    refine xt_n ?_
    refine hK _ ?_
    clear hK K
    refine aw_seq_k fun K hK => ?_
    refine w_true (t := true) (by kernel_rfl) rfl ?_
    refine aw_skip ?_
    refine xt_n ?_
    refine hK _ ?_
    clear hK K
    refine aw_seq_k fun K hK => ?_
    refine aw_block ?_
    refine aw_seq_k fun K hK => ?_
    refine w_region (n' := 3) (by kernel_rfl) (by kernel_rfl) ?_
    refine aops_n hTT (M := []) (n := 3) [pc (31 : Nat) ((0 : Int) ≤ (↑(6 : Nat) : Int) ∧ (↑(6 : Nat) : Int) < (↑(7 : Nat) : Int)) (V.agg [V.i (Cut.sty c), V.i (0 : Int), V.i (1024 : Int)]), pn (4 : Nat) (V.ref (200004 : Nat) (0 : Nat)) (200004 : Nat) (Ob.box (136 : Nat) [V.i (0 : Int), V.i (0 : Int), V.i (0 : Int)]), pw ((0 : Nat) + (3 : Nat) ≤ (3 : Nat)) (200004 : Nat) (Ob.box (136 : Nat) [V.i (Cut.sty c), V.i (0 : Int), V.i (1024 : Int)])] (by kernel_rfl) (by kernel_rfl) ⟨(by omega), (by omega), True.intro⟩ ?_
    refine aops_nil ?_
    refine xt_n ?_
    refine hK _ ?_
    clear hK K
    refine aw_seq_k fun K hK => ?_
    refine w_region (n' := 4) (by kernel_rfl) (by kernel_rfl) ?_
    refine aops_n hTT (M := []) (n := 6) [pc (32 : Nat) ((0 : Int) ≤ (0 : Int) ∧ (0 : Int) < (↑(3 : Nat) : Int)) (V.ref (200004 : Nat) (0 : Nat)), pc (33 : Nat) ((0 : Nat) ≤ (3 : Nat)) (V.i (Cut.sty c)), pc (34 : Nat) ((0 : Int) ≤ (1 : Int) ∧ (1 : Int) < (↑(3 : Nat) : Int)) (V.ref (200004 : Nat) (1 : Nat)), pc (35 : Nat) ((1 : Nat) ≤ (3 : Nat)) (V.i (0 : Int)), pc (36 : Nat) ((0 : Int) ≤ (2 : Int) ∧ (2 : Int) < (↑(3 : Nat) : Int)) (V.ref (200004 : Nat) (2 : Nat)), pc (37 : Nat) ((2 : Nat) ≤ (3 : Nat)) (V.i (1024 : Int))] (by kernel_rfl) (by kernel_rfl) ⟨(by omega), (by omega), (by omega), (by omega), (by omega), (by omega), True.intro⟩ ?_
    refine e_call (first := []) (caps := []) (between_ac (bnd c 6).1 (bnd c 6).2.1 (bnd c 6).2.2) (by kernel_rfl) (by kernel_rfl) (by kernel_rfl) (by kernel_rfl) (by kernel_rfl) ?_
    refine aops_n hTT (M := []) (n := 1) [pv (39 : Nat) (V.b !betB (Prod.fst (bnd c (6 : Nat))) (Prod.fst (Prod.snd (bnd c (6 : Nat)))) (Prod.snd (Prod.snd (bnd c (6 : Nat)))))] (by kernel_rfl) (by kernel_rfl) True.intro ?_
    refine aops_nil ?_
    refine xt_n ?_
    refine hK _ ?_
    clear hK K
    refine w_cond (t := !betB (Prod.fst (bnd c (6 : Nat))) (Prod.fst (Prod.snd (bnd c (6 : Nat)))) (Prod.snd (Prod.snd (bnd c (6 : Nat))))) (by kernel_rfl) (fun h2 => ?_) (fun h2 => ?_)
    · refine aw_seq_k fun K hK => ?_
      refine w_region (n' := 5) (by kernel_rfl) (by kernel_rfl) ?_
      refine aops_n hTT (M := []) (n := 1) [pv (2 : Nat) (V.i (2 : Int))] (by kernel_rfl) (by kernel_rfl) True.intro ?_
      refine aops_nil ?_
      refine xt_n ?_
      refine hK _ ?_
      clear hK K
      refine aw_ret ?_
      refine xb_r ?_
      refine xt_r ?_
      refine xt_r ?_
      refine xb_r ?_
      refine xt_r ?_
      rw [cutE_bad (j := 6) (by decide) (by simpa [bndB] using h2)]
      refine ret_pure (v' := V.i (2 : Int)) (.inr rfl) (by kernel_rfl) (by kernel_rfl) (by kernel_rfl)
    refine aw_skip ?_
    refine xb_n ?_
    refine xt_n ?_
    refine hK _ ?_
    clear hK K
    refine w_region (n' := 5) (by kernel_rfl) (by kernel_rfl) ?_
    refine aops_n hTT (M := []) (n := 2) [pc (40 : Nat) ((-9223372036854775808 : Int) ≤ (↑(6 : Nat) : Int) + (1 : Int) ∧ (↑(6 : Nat) : Int) + (1 : Int) ≤ (9223372036854775807 : Int)) (V.i ((↑(6 : Nat) : Int) + (1 : Int))), pv (29 : Nat) (V.i ((↑(6 : Nat) : Int) + (1 : Int)))] (by kernel_rfl) (by kernel_rfl) ⟨(by omega), True.intro⟩ ?_
    refine aops_nil ?_
    refine xt_n ?_
    refine ⟨7, ⟨by decide, fun i hi => ?_⟩, ?_, by decide⟩
    · by_cases he : i = 6
      · subst he; simpa [bndB] using h2
      · exact hb i (by omega)
    · refine le_ren [] (.cons (by kernel_rfl) (.cons (by kernel_rfl) .nil)) .nil (by kernel_rfl) (by kernel_rfl)
  · refine aw_seq_k fun K hK => ?_
    refine w_region (n' := 2) (by kernel_rfl) (by kernel_rfl) ?_
    refine aops_n hTT (M := []) (n := 1) [pv (30 : Nat) (V.b false)] (by kernel_rfl) (by kernel_rfl) True.intro ?_
    refine aops_nil ?_
    refine xt_n ?_
    refine hK _ ?_
    clear hK K
    refine aw_seq_k fun K hK => ?_
    refine w_false (t := false) (by kernel_rfl) rfl ?_
    refine aw_exit ?_
    refine xt_x ?_
    refine xt_x ?_
    refine xb_same ?_
    refine xt_n ?_
    clear hK K
    refine hK _ ?_
    clear hK K
    refine aw_seq_k fun K hK => ?_
    refine w_region (n' := 3) (by kernel_rfl) (by kernel_rfl) ?_
    refine aops_n hTT (M := []) (n := 1) [pv (2 : Nat) (V.i (0 : Int))] (by kernel_rfl) (by kernel_rfl) True.intro ?_
    refine aops_nil ?_
    refine xt_n ?_
    refine hK _ ?_
    clear hK K
    refine aw_ret ?_
    rw [cutE_good hb]
    refine ret_pure (v' := V.i (0 : Int)) (.inr rfl) (by kernel_rfl) (by kernel_rfl) (by kernel_rfl)
theorem cut3 (c : Cut) : cutE c = if (!(betB c.half 1 4096) || !(betB c.gain 0 100000) || !(betB c.thin 0 1048576) || !(betB c.wide 0 1048576) || decide (c.wide < c.thin) || !(betB c.slope 0 10000) || !(betB c.jerk 0 1048576) || !(betB c.sty 0 1024)) = true then 2 else 0 := by
  rcases cutE_cases c with h | h
  · rw [h, if_neg]
    have := cutE_ok.1 h
    simp [betB]
    omega
  · rw [h, if_pos]
    have : ¬ cutE c = 0 := by rw [h]; decide
    rw [cutE_ok] at this
    simp [betB]
    omega
set_option maxRecDepth 100000 in
theorem refCheck_ac (c : Cut) : AC Try.prog 54 [c.v] (.i (cutE c)) [] := by
  refine ac_intro hTT hMX (fn := Try.f54) (N := _) ⟨Try.func54, rfl, Try.ntmps54, by kernel_rfl⟩ (by simp) fun C hC hF => ?_
  refine aw_seq_k fun K hK => ?_
  refine w_region (n' := 2) (by kernel_rfl) (by kernel_rfl) ?_
  refine aops_n hTT (M := []) (n := 2) [pv (1 : Nat) (V.ptr [V.i (Cut.half c), V.i (Cut.gain c), V.i (Cut.thin c), V.i (Cut.wide c), V.i (Cut.slope c), V.i (Cut.jerk c), V.i (Cut.sty c)]), pv (2 : Nat) (V.i (0 : Int))] (by kernel_rfl) (by kernel_rfl) True.intro ?_
  refine aops_nil ?_
  refine xt_n ?_
  refine hK _ ?_
  clear hK K
  refine aw_seq_k fun K hK => ?_
  refine aw_seq_k fun K hK => ?_
  refine w_region (n' := 3) (by kernel_rfl) (by kernel_rfl) ?_
  refine aops_n hTT (M := []) (n := 2) [pv (3 : Nat) (V.ptr [V.i (Cut.half c), V.i (Cut.gain c), V.i (Cut.thin c), V.i (Cut.wide c), V.i (Cut.slope c), V.i (Cut.jerk c), V.i (Cut.sty c)]), pv (4 : Nat) (V.i (Cut.half c))] (by kernel_rfl) (by kernel_rfl) True.intro ?_
  refine e_call (first := []) (caps := []) (within3_ac c.half 1 4096) (by kernel_rfl) (by kernel_rfl) (by kernel_rfl) (by kernel_rfl) (by kernel_rfl) ?_
  refine aops_n hTT (M := []) (n := 4) [pv (6 : Nat) (V.b !betB (Cut.half c) (1 : Int) (4096 : Int)), pv (7 : Nat) (V.b !betB (Cut.half c) (1 : Int) (4096 : Int)), pc (8 : Nat) ((True ∧ True) ∧ (((!betB (Cut.half c) (1 : Int) (4096 : Int)) == false) = true → True)) (V.gd ((!betB (Cut.half c) (1 : Int) (4096 : Int)) == false) (V.ptr [V.i (Cut.gain c), V.i (Cut.thin c), V.i (Cut.wide c), V.i (Cut.slope c), V.i (Cut.jerk c), V.i (Cut.sty c)])), pc (9 : Nat) (((((!betB (Cut.half c) (1 : Int) (4096 : Int)) == false) = true → ((!betB (Cut.half c) (1 : Int) (4096 : Int)) == false) = true) ∧ True) ∧ (((!betB (Cut.half c) (1 : Int) (4096 : Int)) == false) = true → True)) (V.gd ((!betB (Cut.half c) (1 : Int) (4096 : Int)) == false) (V.i (Cut.gain c)))] (by kernel_rfl) (by kernel_rfl) ⟨⟨⟨True.intro, True.intro⟩, (fun _ => True.intro)⟩, ⟨⟨(by (exact fun h => h)), True.intro⟩, (fun _ => True.intro)⟩, True.intro⟩ ?_
  refine e_callG 1 (g := (!betB (Cut.half c) (1 : Int) (4096 : Int)) == false) (first := []) (caps := []) (by kernel_rfl) (fun _ => within3_ac c.gain 0 100000) (by kernel_rfl) (by kernel_rfl) (by kernel_rfl) (by kernel_rfl) (by kernel_rfl) (by kernel_rfl) ?_
  refine aops_n hTT (M := []) (n := 5) [pc (11 : Nat) (((((!betB (Cut.half c) (1 : Int) (4096 : Int)) == false) = true → ((!betB (Cut.half c) (1 : Int) (4096 : Int)) == false) = true) ∧ True) ∧ (((!betB (Cut.half c) (1 : Int) (4096 : Int)) == false) = true → True)) (V.gd ((!betB (Cut.half c) (1 : Int) (4096 : Int)) == false) (V.b !betB (Cut.gain c) (0 : Int) (100000 : Int))), pc (12 : Nat) (True ∧ ((!betB (Cut.half c) (1 : Int) (4096 : Int)) = false → ((!betB (Cut.half c) (1 : Int) (4096 : Int)) == false) = true)) (V.b (!betB (Cut.half c) (1 : Int) (4096 : Int) || !betB (Cut.gain c) (0 : Int) (100000 : Int))), pv (13 : Nat) (V.b (!betB (Cut.half c) (1 : Int) (4096 : Int) || !betB (Cut.gain c) (0 : Int) (100000 : Int))), pc (14 : Nat) ((True ∧ True) ∧ (((!betB (Cut.half c) (1 : Int) (4096 : Int) || !betB (Cut.gain c) (0 : Int) (100000 : Int)) == false) = true → True)) (V.gd ((!betB (Cut.half c) (1 : Int) (4096 : Int) || !betB (Cut.gain c) (0 : Int) (100000 : Int)) == false) (V.ptr [V.i (Cut.thin c), V.i (Cut.wide c), V.i (Cut.slope c), V.i (Cut.jerk c), V.i (Cut.sty c)])), pc (15 : Nat) (((((!betB (Cut.half c) (1 : Int) (4096 : Int) || !betB (Cut.gain c) (0 : Int) (100000 : Int)) == false) = true → ((!betB (Cut.half c) (1 : Int) (4096 : Int) || !betB (Cut.gain c) (0 : Int) (100000 : Int)) == false) = true) ∧ True) ∧ (((!betB (Cut.half c) (1 : Int) (4096 : Int) || !betB (Cut.gain c) (0 : Int) (100000 : Int)) == false) = true → True)) (V.gd ((!betB (Cut.half c) (1 : Int) (4096 : Int) || !betB (Cut.gain c) (0 : Int) (100000 : Int)) == false) (V.i (Cut.thin c)))] (by kernel_rfl) (by kernel_rfl) ⟨⟨⟨(by (exact fun h => h)), True.intro⟩, (fun _ => True.intro)⟩, ⟨True.intro, (by (intro h; rw [h]; rfl))⟩, ⟨⟨True.intro, True.intro⟩, (fun _ => True.intro)⟩, ⟨⟨(by (exact fun h => h)), True.intro⟩, (fun _ => True.intro)⟩, True.intro⟩ ?_
  refine e_callG 1 (g := (!betB (Cut.half c) (1 : Int) (4096 : Int) || !betB (Cut.gain c) (0 : Int) (100000 : Int)) == false) (first := []) (caps := []) (by kernel_rfl) (fun _ => within3_ac c.thin 0 1048576) (by kernel_rfl) (by kernel_rfl) (by kernel_rfl) (by kernel_rfl) (by kernel_rfl) (by kernel_rfl) ?_
  refine aops_n hTT (M := []) (n := 5) [pc (17 : Nat) (((((!betB (Cut.half c) (1 : Int) (4096 : Int) || !betB (Cut.gain c) (0 : Int) (100000 : Int)) == false) = true → ((!betB (Cut.half c) (1 : Int) (4096 : Int) || !betB (Cut.gain c) (0 : Int) (100000 : Int)) == false) = true) ∧ True) ∧ (((!betB (Cut.half c) (1 : Int) (4096 : Int) || !betB (Cut.gain c) (0 : Int) (100000 : Int)) == false) = true → True)) (V.gd ((!betB (Cut.half c) (1 : Int) (4096 : Int) || !betB (Cut.gain c) (0 : Int) (100000 : Int)) == false) (V.b !betB (Cut.thin c) (0 : Int) (1048576 : Int))), pc (18 : Nat) (True ∧ ((!betB (Cut.half c) (1 : Int) (4096 : Int) || !betB (Cut.gain c) (0 : Int) (100000 : Int)) = false → ((!betB (Cut.half c) (1 : Int) (4096 : Int) || !betB (Cut.gain c) (0 : Int) (100000 : Int)) == false) = true)) (V.b (!betB (Cut.half c) (1 : Int) (4096 : Int) || !betB (Cut.gain c) (0 : Int) (100000 : Int) || !betB (Cut.thin c) (0 : Int) (1048576 : Int))), pv (19 : Nat) (V.b (!betB (Cut.half c) (1 : Int) (4096 : Int) || !betB (Cut.gain c) (0 : Int) (100000 : Int) || !betB (Cut.thin c) (0 : Int) (1048576 : Int))), pc (20 : Nat) ((True ∧ True) ∧ (((!betB (Cut.half c) (1 : Int) (4096 : Int) || !betB (Cut.gain c) (0 : Int) (100000 : Int) || !betB (Cut.thin c) (0 : Int) (1048576 : Int)) == false) = true → True)) (V.gd ((!betB (Cut.half c) (1 : Int) (4096 : Int) || !betB (Cut.gain c) (0 : Int) (100000 : Int) || !betB (Cut.thin c) (0 : Int) (1048576 : Int)) == false) (V.ptr [V.i (Cut.wide c), V.i (Cut.slope c), V.i (Cut.jerk c), V.i (Cut.sty c)])), pc (21 : Nat) (((((!betB (Cut.half c) (1 : Int) (4096 : Int) || !betB (Cut.gain c) (0 : Int) (100000 : Int) || !betB (Cut.thin c) (0 : Int) (1048576 : Int)) == false) = true → ((!betB (Cut.half c) (1 : Int) (4096 : Int) || !betB (Cut.gain c) (0 : Int) (100000 : Int) || !betB (Cut.thin c) (0 : Int) (1048576 : Int)) == false) = true) ∧ True) ∧ (((!betB (Cut.half c) (1 : Int) (4096 : Int) || !betB (Cut.gain c) (0 : Int) (100000 : Int) || !betB (Cut.thin c) (0 : Int) (1048576 : Int)) == false) = true → True)) (V.gd ((!betB (Cut.half c) (1 : Int) (4096 : Int) || !betB (Cut.gain c) (0 : Int) (100000 : Int) || !betB (Cut.thin c) (0 : Int) (1048576 : Int)) == false) (V.i (Cut.wide c)))] (by kernel_rfl) (by kernel_rfl) ⟨⟨⟨(by (exact fun h => h)), True.intro⟩, (fun _ => True.intro)⟩, ⟨True.intro, (by (intro h; rw [h]; rfl))⟩, ⟨⟨True.intro, True.intro⟩, (fun _ => True.intro)⟩, ⟨⟨(by (exact fun h => h)), True.intro⟩, (fun _ => True.intro)⟩, True.intro⟩ ?_
  refine e_callG 1 (g := (!betB (Cut.half c) (1 : Int) (4096 : Int) || !betB (Cut.gain c) (0 : Int) (100000 : Int) || !betB (Cut.thin c) (0 : Int) (1048576 : Int)) == false) (first := []) (caps := []) (by kernel_rfl) (fun _ => within3_ac c.wide 0 1048576) (by kernel_rfl) (by kernel_rfl) (by kernel_rfl) (by kernel_rfl) (by kernel_rfl) (by kernel_rfl) ?_
  refine aops_n hTT (M := []) (n := 12) [pc (23 : Nat) (((((!betB (Cut.half c) (1 : Int) (4096 : Int) || !betB (Cut.gain c) (0 : Int) (100000 : Int) || !betB (Cut.thin c) (0 : Int) (1048576 : Int)) == false) = true → ((!betB (Cut.half c) (1 : Int) (4096 : Int) || !betB (Cut.gain c) (0 : Int) (100000 : Int) || !betB (Cut.thin c) (0 : Int) (1048576 : Int)) == false) = true) ∧ True) ∧ (((!betB (Cut.half c) (1 : Int) (4096 : Int) || !betB (Cut.gain c) (0 : Int) (100000 : Int) || !betB (Cut.thin c) (0 : Int) (1048576 : Int)) == false) = true → True)) (V.gd ((!betB (Cut.half c) (1 : Int) (4096 : Int) || !betB (Cut.gain c) (0 : Int) (100000 : Int) || !betB (Cut.thin c) (0 : Int) (1048576 : Int)) == false) (V.b !betB (Cut.wide c) (0 : Int) (1048576 : Int))), pc (24 : Nat) (True ∧ ((!betB (Cut.half c) (1 : Int) (4096 : Int) || !betB (Cut.gain c) (0 : Int) (100000 : Int) || !betB (Cut.thin c) (0 : Int) (1048576 : Int)) = false → ((!betB (Cut.half c) (1 : Int) (4096 : Int) || !betB (Cut.gain c) (0 : Int) (100000 : Int) || !betB (Cut.thin c) (0 : Int) (1048576 : Int)) == false) = true)) (V.b (!betB (Cut.half c) (1 : Int) (4096 : Int) || !betB (Cut.gain c) (0 : Int) (100000 : Int) || !betB (Cut.thin c) (0 : Int) (1048576 : Int) || !betB (Cut.wide c) (0 : Int) (1048576 : Int))), pv (25 : Nat) (V.b (!betB (Cut.half c) (1 : Int) (4096 : Int) || !betB (Cut.gain c) (0 : Int) (100000 : Int) || !betB (Cut.thin c) (0 : Int) (1048576 : Int) || !betB (Cut.wide c) (0 : Int) (1048576 : Int))), pc (26 : Nat) ((True ∧ True) ∧ (((!betB (Cut.half c) (1 : Int) (4096 : Int) || !betB (Cut.gain c) (0 : Int) (100000 : Int) || !betB (Cut.thin c) (0 : Int) (1048576 : Int) || !betB (Cut.wide c) (0 : Int) (1048576 : Int)) == false) = true → True)) (V.gd ((!betB (Cut.half c) (1 : Int) (4096 : Int) || !betB (Cut.gain c) (0 : Int) (100000 : Int) || !betB (Cut.thin c) (0 : Int) (1048576 : Int) || !betB (Cut.wide c) (0 : Int) (1048576 : Int)) == false) (V.ptr [V.i (Cut.thin c), V.i (Cut.wide c), V.i (Cut.slope c), V.i (Cut.jerk c), V.i (Cut.sty c)])), pc (27 : Nat) (((((!betB (Cut.half c) (1 : Int) (4096 : Int) || !betB (Cut.gain c) (0 : Int) (100000 : Int) || !betB (Cut.thin c) (0 : Int) (1048576 : Int) || !betB (Cut.wide c) (0 : Int) (1048576 : Int)) == false) = true → ((!betB (Cut.half c) (1 : Int) (4096 : Int) || !betB (Cut.gain c) (0 : Int) (100000 : Int) || !betB (Cut.thin c) (0 : Int) (1048576 : Int) || !betB (Cut.wide c) (0 : Int) (1048576 : Int)) == false) = true) ∧ True) ∧ (((!betB (Cut.half c) (1 : Int) (4096 : Int) || !betB (Cut.gain c) (0 : Int) (100000 : Int) || !betB (Cut.thin c) (0 : Int) (1048576 : Int) || !betB (Cut.wide c) (0 : Int) (1048576 : Int)) == false) = true → True)) (V.gd ((!betB (Cut.half c) (1 : Int) (4096 : Int) || !betB (Cut.gain c) (0 : Int) (100000 : Int) || !betB (Cut.thin c) (0 : Int) (1048576 : Int) || !betB (Cut.wide c) (0 : Int) (1048576 : Int)) == false) (V.i (Cut.thin c))), pc (28 : Nat) ((True ∧ True) ∧ (((!betB (Cut.half c) (1 : Int) (4096 : Int) || !betB (Cut.gain c) (0 : Int) (100000 : Int) || !betB (Cut.thin c) (0 : Int) (1048576 : Int) || !betB (Cut.wide c) (0 : Int) (1048576 : Int)) == false) = true → True)) (V.gd ((!betB (Cut.half c) (1 : Int) (4096 : Int) || !betB (Cut.gain c) (0 : Int) (100000 : Int) || !betB (Cut.thin c) (0 : Int) (1048576 : Int) || !betB (Cut.wide c) (0 : Int) (1048576 : Int)) == false) (V.ptr [V.i (Cut.wide c), V.i (Cut.slope c), V.i (Cut.jerk c), V.i (Cut.sty c)])), pc (29 : Nat) (((((!betB (Cut.half c) (1 : Int) (4096 : Int) || !betB (Cut.gain c) (0 : Int) (100000 : Int) || !betB (Cut.thin c) (0 : Int) (1048576 : Int) || !betB (Cut.wide c) (0 : Int) (1048576 : Int)) == false) = true → ((!betB (Cut.half c) (1 : Int) (4096 : Int) || !betB (Cut.gain c) (0 : Int) (100000 : Int) || !betB (Cut.thin c) (0 : Int) (1048576 : Int) || !betB (Cut.wide c) (0 : Int) (1048576 : Int)) == false) = true) ∧ True) ∧ (((!betB (Cut.half c) (1 : Int) (4096 : Int) || !betB (Cut.gain c) (0 : Int) (100000 : Int) || !betB (Cut.thin c) (0 : Int) (1048576 : Int) || !betB (Cut.wide c) (0 : Int) (1048576 : Int)) == false) = true → True)) (V.gd ((!betB (Cut.half c) (1 : Int) (4096 : Int) || !betB (Cut.gain c) (0 : Int) (100000 : Int) || !betB (Cut.thin c) (0 : Int) (1048576 : Int) || !betB (Cut.wide c) (0 : Int) (1048576 : Int)) == false) (V.i (Cut.wide c))), pc (30 : Nat) (((((!betB (Cut.half c) (1 : Int) (4096 : Int) || !betB (Cut.gain c) (0 : Int) (100000 : Int) || !betB (Cut.thin c) (0 : Int) (1048576 : Int) || !betB (Cut.wide c) (0 : Int) (1048576 : Int)) == false) = true → ((!betB (Cut.half c) (1 : Int) (4096 : Int) || !betB (Cut.gain c) (0 : Int) (100000 : Int) || !betB (Cut.thin c) (0 : Int) (1048576 : Int) || !betB (Cut.wide c) (0 : Int) (1048576 : Int)) == false) = true) ∧ (((!betB (Cut.half c) (1 : Int) (4096 : Int) || !betB (Cut.gain c) (0 : Int) (100000 : Int) || !betB (Cut.thin c) (0 : Int) (1048576 : Int) || !betB (Cut.wide c) (0 : Int) (1048576 : Int)) == false) = true → ((!betB (Cut.half c) (1 : Int) (4096 : Int) || !betB (Cut.gain c) (0 : Int) (100000 : Int) || !betB (Cut.thin c) (0 : Int) (1048576 : Int) || !betB (Cut.wide c) (0 : Int) (1048576 : Int)) == false) = true) ∧ True) ∧ (((!betB (Cut.half c) (1 : Int) (4096 : Int) || !betB (Cut.gain c) (0 : Int) (100000 : Int) || !betB (Cut.thin c) (0 : Int) (1048576 : Int) || !betB (Cut.wide c) (0 : Int) (1048576 : Int)) == false) = true → True)) (V.gd ((!betB (Cut.half c) (1 : Int) (4096 : Int) || !betB (Cut.gain c) (0 : Int) (100000 : Int) || !betB (Cut.thin c) (0 : Int) (1048576 : Int) || !betB (Cut.wide c) (0 : Int) (1048576 : Int)) == false) (V.b (decide (Cut.wide c < Cut.thin c)))), pc (31 : Nat) (True ∧ ((!betB (Cut.half c) (1 : Int) (4096 : Int) || !betB (Cut.gain c) (0 : Int) (100000 : Int) || !betB (Cut.thin c) (0 : Int) (1048576 : Int) || !betB (Cut.wide c) (0 : Int) (1048576 : Int)) = false → ((!betB (Cut.half c) (1 : Int) (4096 : Int) || !betB (Cut.gain c) (0 : Int) (100000 : Int) || !betB (Cut.thin c) (0 : Int) (1048576 : Int) || !betB (Cut.wide c) (0 : Int) (1048576 : Int)) == false) = true)) (V.b (!betB (Cut.half c) (1 : Int) (4096 : Int) || !betB (Cut.gain c) (0 : Int) (100000 : Int) || !betB (Cut.thin c) (0 : Int) (1048576 : Int) || !betB (Cut.wide c) (0 : Int) (1048576 : Int) || decide (Cut.wide c < Cut.thin c))), pv (32 : Nat) (V.b (!betB (Cut.half c) (1 : Int) (4096 : Int) || !betB (Cut.gain c) (0 : Int) (100000 : Int) || !betB (Cut.thin c) (0 : Int) (1048576 : Int) || !betB (Cut.wide c) (0 : Int) (1048576 : Int) || decide (Cut.wide c < Cut.thin c))), pc (33 : Nat) ((True ∧ True) ∧ (((!betB (Cut.half c) (1 : Int) (4096 : Int) || !betB (Cut.gain c) (0 : Int) (100000 : Int) || !betB (Cut.thin c) (0 : Int) (1048576 : Int) || !betB (Cut.wide c) (0 : Int) (1048576 : Int) || decide (Cut.wide c < Cut.thin c)) == false) = true → True)) (V.gd ((!betB (Cut.half c) (1 : Int) (4096 : Int) || !betB (Cut.gain c) (0 : Int) (100000 : Int) || !betB (Cut.thin c) (0 : Int) (1048576 : Int) || !betB (Cut.wide c) (0 : Int) (1048576 : Int) || decide (Cut.wide c < Cut.thin c)) == false) (V.ptr [V.i (Cut.slope c), V.i (Cut.jerk c), V.i (Cut.sty c)])), pc (34 : Nat) (((((!betB (Cut.half c) (1 : Int) (4096 : Int) || !betB (Cut.gain c) (0 : Int) (100000 : Int) || !betB (Cut.thin c) (0 : Int) (1048576 : Int) || !betB (Cut.wide c) (0 : Int) (1048576 : Int) || decide (Cut.wide c < Cut.thin c)) == false) = true → ((!betB (Cut.half c) (1 : Int) (4096 : Int) || !betB (Cut.gain c) (0 : Int) (100000 : Int) || !betB (Cut.thin c) (0 : Int) (1048576 : Int) || !betB (Cut.wide c) (0 : Int) (1048576 : Int) || decide (Cut.wide c < Cut.thin c)) == false) = true) ∧ True) ∧ (((!betB (Cut.half c) (1 : Int) (4096 : Int) || !betB (Cut.gain c) (0 : Int) (100000 : Int) || !betB (Cut.thin c) (0 : Int) (1048576 : Int) || !betB (Cut.wide c) (0 : Int) (1048576 : Int) || decide (Cut.wide c < Cut.thin c)) == false) = true → True)) (V.gd ((!betB (Cut.half c) (1 : Int) (4096 : Int) || !betB (Cut.gain c) (0 : Int) (100000 : Int) || !betB (Cut.thin c) (0 : Int) (1048576 : Int) || !betB (Cut.wide c) (0 : Int) (1048576 : Int) || decide (Cut.wide c < Cut.thin c)) == false) (V.i (Cut.slope c)))] (by kernel_rfl) (by kernel_rfl) ⟨⟨⟨(by (exact fun h => h)), True.intro⟩, (fun _ => True.intro)⟩, ⟨True.intro, (by (intro h; rw [h]; rfl))⟩, ⟨⟨True.intro, True.intro⟩, (fun _ => True.intro)⟩, ⟨⟨(by (exact fun h => h)), True.intro⟩, (fun _ => True.intro)⟩, ⟨⟨True.intro, True.intro⟩, (fun _ => True.intro)⟩, ⟨⟨(by (exact fun h => h)), True.intro⟩, (fun _ => True.intro)⟩, ⟨⟨(by (exact fun h => h)), ⟨(by (exact fun h => h)), True.intro⟩⟩, (fun _ => True.intro)⟩, ⟨True.intro, (by (intro h; rw [h]; rfl))⟩, ⟨⟨True.intro, True.intro⟩, (fun _ => True.intro)⟩, ⟨⟨(by (exact fun h => h)), True.intro⟩, (fun _ => True.intro)⟩, True.intro⟩ ?_
  refine e_callG 1 (g := (!betB (Cut.half c) (1 : Int) (4096 : Int) || !betB (Cut.gain c) (0 : Int) (100000 : Int) || !betB (Cut.thin c) (0 : Int) (1048576 : Int) || !betB (Cut.wide c) (0 : Int) (1048576 : Int) || decide (Cut.wide c < Cut.thin c)) == false) (first := []) (caps := []) (by kernel_rfl) (fun _ => within3_ac c.slope 0 10000) (by kernel_rfl) (by kernel_rfl) (by kernel_rfl) (by kernel_rfl) (by kernel_rfl) (by kernel_rfl) ?_
  refine aops_n hTT (M := []) (n := 5) [pc (36 : Nat) (((((!betB (Cut.half c) (1 : Int) (4096 : Int) || !betB (Cut.gain c) (0 : Int) (100000 : Int) || !betB (Cut.thin c) (0 : Int) (1048576 : Int) || !betB (Cut.wide c) (0 : Int) (1048576 : Int) || decide (Cut.wide c < Cut.thin c)) == false) = true → ((!betB (Cut.half c) (1 : Int) (4096 : Int) || !betB (Cut.gain c) (0 : Int) (100000 : Int) || !betB (Cut.thin c) (0 : Int) (1048576 : Int) || !betB (Cut.wide c) (0 : Int) (1048576 : Int) || decide (Cut.wide c < Cut.thin c)) == false) = true) ∧ True) ∧ (((!betB (Cut.half c) (1 : Int) (4096 : Int) || !betB (Cut.gain c) (0 : Int) (100000 : Int) || !betB (Cut.thin c) (0 : Int) (1048576 : Int) || !betB (Cut.wide c) (0 : Int) (1048576 : Int) || decide (Cut.wide c < Cut.thin c)) == false) = true → True)) (V.gd ((!betB (Cut.half c) (1 : Int) (4096 : Int) || !betB (Cut.gain c) (0 : Int) (100000 : Int) || !betB (Cut.thin c) (0 : Int) (1048576 : Int) || !betB (Cut.wide c) (0 : Int) (1048576 : Int) || decide (Cut.wide c < Cut.thin c)) == false) (V.b !betB (Cut.slope c) (0 : Int) (10000 : Int))), pc (37 : Nat) (True ∧ ((!betB (Cut.half c) (1 : Int) (4096 : Int) || !betB (Cut.gain c) (0 : Int) (100000 : Int) || !betB (Cut.thin c) (0 : Int) (1048576 : Int) || !betB (Cut.wide c) (0 : Int) (1048576 : Int) || decide (Cut.wide c < Cut.thin c)) = false → ((!betB (Cut.half c) (1 : Int) (4096 : Int) || !betB (Cut.gain c) (0 : Int) (100000 : Int) || !betB (Cut.thin c) (0 : Int) (1048576 : Int) || !betB (Cut.wide c) (0 : Int) (1048576 : Int) || decide (Cut.wide c < Cut.thin c)) == false) = true)) (V.b (!betB (Cut.half c) (1 : Int) (4096 : Int) || !betB (Cut.gain c) (0 : Int) (100000 : Int) || !betB (Cut.thin c) (0 : Int) (1048576 : Int) || !betB (Cut.wide c) (0 : Int) (1048576 : Int) || decide (Cut.wide c < Cut.thin c) || !betB (Cut.slope c) (0 : Int) (10000 : Int))), pv (38 : Nat) (V.b (!betB (Cut.half c) (1 : Int) (4096 : Int) || !betB (Cut.gain c) (0 : Int) (100000 : Int) || !betB (Cut.thin c) (0 : Int) (1048576 : Int) || !betB (Cut.wide c) (0 : Int) (1048576 : Int) || decide (Cut.wide c < Cut.thin c) || !betB (Cut.slope c) (0 : Int) (10000 : Int))), pc (39 : Nat) ((True ∧ True) ∧ (((!betB (Cut.half c) (1 : Int) (4096 : Int) || !betB (Cut.gain c) (0 : Int) (100000 : Int) || !betB (Cut.thin c) (0 : Int) (1048576 : Int) || !betB (Cut.wide c) (0 : Int) (1048576 : Int) || decide (Cut.wide c < Cut.thin c) || !betB (Cut.slope c) (0 : Int) (10000 : Int)) == false) = true → True)) (V.gd ((!betB (Cut.half c) (1 : Int) (4096 : Int) || !betB (Cut.gain c) (0 : Int) (100000 : Int) || !betB (Cut.thin c) (0 : Int) (1048576 : Int) || !betB (Cut.wide c) (0 : Int) (1048576 : Int) || decide (Cut.wide c < Cut.thin c) || !betB (Cut.slope c) (0 : Int) (10000 : Int)) == false) (V.ptr [V.i (Cut.jerk c), V.i (Cut.sty c)])), pc (40 : Nat) (((((!betB (Cut.half c) (1 : Int) (4096 : Int) || !betB (Cut.gain c) (0 : Int) (100000 : Int) || !betB (Cut.thin c) (0 : Int) (1048576 : Int) || !betB (Cut.wide c) (0 : Int) (1048576 : Int) || decide (Cut.wide c < Cut.thin c) || !betB (Cut.slope c) (0 : Int) (10000 : Int)) == false) = true → ((!betB (Cut.half c) (1 : Int) (4096 : Int) || !betB (Cut.gain c) (0 : Int) (100000 : Int) || !betB (Cut.thin c) (0 : Int) (1048576 : Int) || !betB (Cut.wide c) (0 : Int) (1048576 : Int) || decide (Cut.wide c < Cut.thin c) || !betB (Cut.slope c) (0 : Int) (10000 : Int)) == false) = true) ∧ True) ∧ (((!betB (Cut.half c) (1 : Int) (4096 : Int) || !betB (Cut.gain c) (0 : Int) (100000 : Int) || !betB (Cut.thin c) (0 : Int) (1048576 : Int) || !betB (Cut.wide c) (0 : Int) (1048576 : Int) || decide (Cut.wide c < Cut.thin c) || !betB (Cut.slope c) (0 : Int) (10000 : Int)) == false) = true → True)) (V.gd ((!betB (Cut.half c) (1 : Int) (4096 : Int) || !betB (Cut.gain c) (0 : Int) (100000 : Int) || !betB (Cut.thin c) (0 : Int) (1048576 : Int) || !betB (Cut.wide c) (0 : Int) (1048576 : Int) || decide (Cut.wide c < Cut.thin c) || !betB (Cut.slope c) (0 : Int) (10000 : Int)) == false) (V.i (Cut.jerk c)))] (by kernel_rfl) (by kernel_rfl) ⟨⟨⟨(by (exact fun h => h)), True.intro⟩, (fun _ => True.intro)⟩, ⟨True.intro, (by (intro h; rw [h]; rfl))⟩, ⟨⟨True.intro, True.intro⟩, (fun _ => True.intro)⟩, ⟨⟨(by (exact fun h => h)), True.intro⟩, (fun _ => True.intro)⟩, True.intro⟩ ?_
  refine e_callG 1 (g := (!betB (Cut.half c) (1 : Int) (4096 : Int) || !betB (Cut.gain c) (0 : Int) (100000 : Int) || !betB (Cut.thin c) (0 : Int) (1048576 : Int) || !betB (Cut.wide c) (0 : Int) (1048576 : Int) || decide (Cut.wide c < Cut.thin c) || !betB (Cut.slope c) (0 : Int) (10000 : Int)) == false) (first := []) (caps := []) (by kernel_rfl) (fun _ => within3_ac c.jerk 0 1048576) (by kernel_rfl) (by kernel_rfl) (by kernel_rfl) (by kernel_rfl) (by kernel_rfl) (by kernel_rfl) ?_
  refine aops_n hTT (M := []) (n := 5) [pc (42 : Nat) (((((!betB (Cut.half c) (1 : Int) (4096 : Int) || !betB (Cut.gain c) (0 : Int) (100000 : Int) || !betB (Cut.thin c) (0 : Int) (1048576 : Int) || !betB (Cut.wide c) (0 : Int) (1048576 : Int) || decide (Cut.wide c < Cut.thin c) || !betB (Cut.slope c) (0 : Int) (10000 : Int)) == false) = true → ((!betB (Cut.half c) (1 : Int) (4096 : Int) || !betB (Cut.gain c) (0 : Int) (100000 : Int) || !betB (Cut.thin c) (0 : Int) (1048576 : Int) || !betB (Cut.wide c) (0 : Int) (1048576 : Int) || decide (Cut.wide c < Cut.thin c) || !betB (Cut.slope c) (0 : Int) (10000 : Int)) == false) = true) ∧ True) ∧ (((!betB (Cut.half c) (1 : Int) (4096 : Int) || !betB (Cut.gain c) (0 : Int) (100000 : Int) || !betB (Cut.thin c) (0 : Int) (1048576 : Int) || !betB (Cut.wide c) (0 : Int) (1048576 : Int) || decide (Cut.wide c < Cut.thin c) || !betB (Cut.slope c) (0 : Int) (10000 : Int)) == false) = true → True)) (V.gd ((!betB (Cut.half c) (1 : Int) (4096 : Int) || !betB (Cut.gain c) (0 : Int) (100000 : Int) || !betB (Cut.thin c) (0 : Int) (1048576 : Int) || !betB (Cut.wide c) (0 : Int) (1048576 : Int) || decide (Cut.wide c < Cut.thin c) || !betB (Cut.slope c) (0 : Int) (10000 : Int)) == false) (V.b !betB (Cut.jerk c) (0 : Int) (1048576 : Int))), pc (43 : Nat) (True ∧ ((!betB (Cut.half c) (1 : Int) (4096 : Int) || !betB (Cut.gain c) (0 : Int) (100000 : Int) || !betB (Cut.thin c) (0 : Int) (1048576 : Int) || !betB (Cut.wide c) (0 : Int) (1048576 : Int) || decide (Cut.wide c < Cut.thin c) || !betB (Cut.slope c) (0 : Int) (10000 : Int)) = false → ((!betB (Cut.half c) (1 : Int) (4096 : Int) || !betB (Cut.gain c) (0 : Int) (100000 : Int) || !betB (Cut.thin c) (0 : Int) (1048576 : Int) || !betB (Cut.wide c) (0 : Int) (1048576 : Int) || decide (Cut.wide c < Cut.thin c) || !betB (Cut.slope c) (0 : Int) (10000 : Int)) == false) = true)) (V.b (!betB (Cut.half c) (1 : Int) (4096 : Int) || !betB (Cut.gain c) (0 : Int) (100000 : Int) || !betB (Cut.thin c) (0 : Int) (1048576 : Int) || !betB (Cut.wide c) (0 : Int) (1048576 : Int) || decide (Cut.wide c < Cut.thin c) || !betB (Cut.slope c) (0 : Int) (10000 : Int) || !betB (Cut.jerk c) (0 : Int) (1048576 : Int))), pv (44 : Nat) (V.b (!betB (Cut.half c) (1 : Int) (4096 : Int) || !betB (Cut.gain c) (0 : Int) (100000 : Int) || !betB (Cut.thin c) (0 : Int) (1048576 : Int) || !betB (Cut.wide c) (0 : Int) (1048576 : Int) || decide (Cut.wide c < Cut.thin c) || !betB (Cut.slope c) (0 : Int) (10000 : Int) || !betB (Cut.jerk c) (0 : Int) (1048576 : Int))), pc (45 : Nat) ((True ∧ True) ∧ (((!betB (Cut.half c) (1 : Int) (4096 : Int) || !betB (Cut.gain c) (0 : Int) (100000 : Int) || !betB (Cut.thin c) (0 : Int) (1048576 : Int) || !betB (Cut.wide c) (0 : Int) (1048576 : Int) || decide (Cut.wide c < Cut.thin c) || !betB (Cut.slope c) (0 : Int) (10000 : Int) || !betB (Cut.jerk c) (0 : Int) (1048576 : Int)) == false) = true → True)) (V.gd ((!betB (Cut.half c) (1 : Int) (4096 : Int) || !betB (Cut.gain c) (0 : Int) (100000 : Int) || !betB (Cut.thin c) (0 : Int) (1048576 : Int) || !betB (Cut.wide c) (0 : Int) (1048576 : Int) || decide (Cut.wide c < Cut.thin c) || !betB (Cut.slope c) (0 : Int) (10000 : Int) || !betB (Cut.jerk c) (0 : Int) (1048576 : Int)) == false) (V.ptr [V.i (Cut.sty c)])), pc (46 : Nat) (((((!betB (Cut.half c) (1 : Int) (4096 : Int) || !betB (Cut.gain c) (0 : Int) (100000 : Int) || !betB (Cut.thin c) (0 : Int) (1048576 : Int) || !betB (Cut.wide c) (0 : Int) (1048576 : Int) || decide (Cut.wide c < Cut.thin c) || !betB (Cut.slope c) (0 : Int) (10000 : Int) || !betB (Cut.jerk c) (0 : Int) (1048576 : Int)) == false) = true → ((!betB (Cut.half c) (1 : Int) (4096 : Int) || !betB (Cut.gain c) (0 : Int) (100000 : Int) || !betB (Cut.thin c) (0 : Int) (1048576 : Int) || !betB (Cut.wide c) (0 : Int) (1048576 : Int) || decide (Cut.wide c < Cut.thin c) || !betB (Cut.slope c) (0 : Int) (10000 : Int) || !betB (Cut.jerk c) (0 : Int) (1048576 : Int)) == false) = true) ∧ True) ∧ (((!betB (Cut.half c) (1 : Int) (4096 : Int) || !betB (Cut.gain c) (0 : Int) (100000 : Int) || !betB (Cut.thin c) (0 : Int) (1048576 : Int) || !betB (Cut.wide c) (0 : Int) (1048576 : Int) || decide (Cut.wide c < Cut.thin c) || !betB (Cut.slope c) (0 : Int) (10000 : Int) || !betB (Cut.jerk c) (0 : Int) (1048576 : Int)) == false) = true → True)) (V.gd ((!betB (Cut.half c) (1 : Int) (4096 : Int) || !betB (Cut.gain c) (0 : Int) (100000 : Int) || !betB (Cut.thin c) (0 : Int) (1048576 : Int) || !betB (Cut.wide c) (0 : Int) (1048576 : Int) || decide (Cut.wide c < Cut.thin c) || !betB (Cut.slope c) (0 : Int) (10000 : Int) || !betB (Cut.jerk c) (0 : Int) (1048576 : Int)) == false) (V.i (Cut.sty c)))] (by kernel_rfl) (by kernel_rfl) ⟨⟨⟨(by (exact fun h => h)), True.intro⟩, (fun _ => True.intro)⟩, ⟨True.intro, (by (intro h; rw [h]; rfl))⟩, ⟨⟨True.intro, True.intro⟩, (fun _ => True.intro)⟩, ⟨⟨(by (exact fun h => h)), True.intro⟩, (fun _ => True.intro)⟩, True.intro⟩ ?_
  refine e_callG 1 (g := (!betB (Cut.half c) (1 : Int) (4096 : Int) || !betB (Cut.gain c) (0 : Int) (100000 : Int) || !betB (Cut.thin c) (0 : Int) (1048576 : Int) || !betB (Cut.wide c) (0 : Int) (1048576 : Int) || decide (Cut.wide c < Cut.thin c) || !betB (Cut.slope c) (0 : Int) (10000 : Int) || !betB (Cut.jerk c) (0 : Int) (1048576 : Int)) == false) (first := []) (caps := []) (by kernel_rfl) (fun _ => within3_ac c.sty 0 1024) (by kernel_rfl) (by kernel_rfl) (by kernel_rfl) (by kernel_rfl) (by kernel_rfl) (by kernel_rfl) ?_
  refine aops_n hTT (M := []) (n := 2) [pc (48 : Nat) (((((!betB (Cut.half c) (1 : Int) (4096 : Int) || !betB (Cut.gain c) (0 : Int) (100000 : Int) || !betB (Cut.thin c) (0 : Int) (1048576 : Int) || !betB (Cut.wide c) (0 : Int) (1048576 : Int) || decide (Cut.wide c < Cut.thin c) || !betB (Cut.slope c) (0 : Int) (10000 : Int) || !betB (Cut.jerk c) (0 : Int) (1048576 : Int)) == false) = true → ((!betB (Cut.half c) (1 : Int) (4096 : Int) || !betB (Cut.gain c) (0 : Int) (100000 : Int) || !betB (Cut.thin c) (0 : Int) (1048576 : Int) || !betB (Cut.wide c) (0 : Int) (1048576 : Int) || decide (Cut.wide c < Cut.thin c) || !betB (Cut.slope c) (0 : Int) (10000 : Int) || !betB (Cut.jerk c) (0 : Int) (1048576 : Int)) == false) = true) ∧ True) ∧ (((!betB (Cut.half c) (1 : Int) (4096 : Int) || !betB (Cut.gain c) (0 : Int) (100000 : Int) || !betB (Cut.thin c) (0 : Int) (1048576 : Int) || !betB (Cut.wide c) (0 : Int) (1048576 : Int) || decide (Cut.wide c < Cut.thin c) || !betB (Cut.slope c) (0 : Int) (10000 : Int) || !betB (Cut.jerk c) (0 : Int) (1048576 : Int)) == false) = true → True)) (V.gd ((!betB (Cut.half c) (1 : Int) (4096 : Int) || !betB (Cut.gain c) (0 : Int) (100000 : Int) || !betB (Cut.thin c) (0 : Int) (1048576 : Int) || !betB (Cut.wide c) (0 : Int) (1048576 : Int) || decide (Cut.wide c < Cut.thin c) || !betB (Cut.slope c) (0 : Int) (10000 : Int) || !betB (Cut.jerk c) (0 : Int) (1048576 : Int)) == false) (V.b !betB (Cut.sty c) (0 : Int) (1024 : Int))), pc (49 : Nat) (True ∧ ((!betB (Cut.half c) (1 : Int) (4096 : Int) || !betB (Cut.gain c) (0 : Int) (100000 : Int) || !betB (Cut.thin c) (0 : Int) (1048576 : Int) || !betB (Cut.wide c) (0 : Int) (1048576 : Int) || decide (Cut.wide c < Cut.thin c) || !betB (Cut.slope c) (0 : Int) (10000 : Int) || !betB (Cut.jerk c) (0 : Int) (1048576 : Int)) = false → ((!betB (Cut.half c) (1 : Int) (4096 : Int) || !betB (Cut.gain c) (0 : Int) (100000 : Int) || !betB (Cut.thin c) (0 : Int) (1048576 : Int) || !betB (Cut.wide c) (0 : Int) (1048576 : Int) || decide (Cut.wide c < Cut.thin c) || !betB (Cut.slope c) (0 : Int) (10000 : Int) || !betB (Cut.jerk c) (0 : Int) (1048576 : Int)) == false) = true)) (V.b (!betB (Cut.half c) (1 : Int) (4096 : Int) || !betB (Cut.gain c) (0 : Int) (100000 : Int) || !betB (Cut.thin c) (0 : Int) (1048576 : Int) || !betB (Cut.wide c) (0 : Int) (1048576 : Int) || decide (Cut.wide c < Cut.thin c) || !betB (Cut.slope c) (0 : Int) (10000 : Int) || !betB (Cut.jerk c) (0 : Int) (1048576 : Int) || !betB (Cut.sty c) (0 : Int) (1024 : Int)))] (by kernel_rfl) (by kernel_rfl) ⟨⟨⟨(by (exact fun h => h)), True.intro⟩, (fun _ => True.intro)⟩, ⟨True.intro, (by (intro h; rw [h]; rfl))⟩, True.intro⟩ ?_
  refine aops_nil ?_
  refine xt_n ?_
  refine hK _ ?_
  clear hK K
  refine w_cond (t := !betB (Cut.half c) (1 : Int) (4096 : Int) || !betB (Cut.gain c) (0 : Int) (100000 : Int) || !betB (Cut.thin c) (0 : Int) (1048576 : Int) || !betB (Cut.wide c) (0 : Int) (1048576 : Int) || decide (Cut.wide c < Cut.thin c) || !betB (Cut.slope c) (0 : Int) (10000 : Int) || !betB (Cut.jerk c) (0 : Int) (1048576 : Int) || !betB (Cut.sty c) (0 : Int) (1024 : Int)) (by kernel_rfl) (fun h => ?_) (fun h => ?_)
  · refine aw_seq_k fun K hK => ?_
    refine w_region (n' := 4) (by kernel_rfl) (by kernel_rfl) ?_
    refine aops_n hTT (M := []) (n := 1) [pv (2 : Nat) (V.i (2 : Int))] (by kernel_rfl) (by kernel_rfl) True.intro ?_
    refine aops_nil ?_
    refine xt_n ?_
    refine hK _ ?_
    clear hK K
    refine aw_ret ?_
    refine xt_r ?_
    rw [cut3, if_pos h]
    refine ret_pure (v' := V.i (2 : Int)) (.inr rfl) (by kernel_rfl) (by kernel_rfl) (by kernel_rfl)
  refine aw_skip ?_
  refine xt_n ?_
  refine hK _ ?_
  clear hK K
  refine aw_seq_k fun K hK => ?_
  refine w_region (n' := 4) (by kernel_rfl) (by kernel_rfl) ?_
  refine aops_n hTT (M := []) (n := 1) [pv (2 : Nat) (V.i (0 : Int))] (by kernel_rfl) (by kernel_rfl) True.intro ?_
  refine aops_nil ?_
  refine xt_n ?_
  refine hK _ ?_
  clear hK K
  refine aw_ret ?_
  rw [cut3, if_neg (by rw [h]; decide)]
  refine ret_pure (v' := V.i (0 : Int)) (.inr rfl) (by kernel_rfl) (by kernel_rfl) (by kernel_rfl)
end Go.Proofs.Ytlfaaddoemcokaa
