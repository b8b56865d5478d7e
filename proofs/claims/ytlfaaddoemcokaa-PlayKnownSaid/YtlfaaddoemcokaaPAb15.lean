/-
  Where a tip lands, with all errors: the walk of play.Drop. No condition but the sizes of slices.
-/
import Derived.Test.YtlfaaddoemcokaaPAb14
namespace Go.Proofs.Ytlfaaddoemcokaa
open Go.Ab Go.RowKit Go.Dw Go.Shelf

def badI (l : List Int) : Int := match (List.range l.length).find? fun k => radB (gi l k) with
  | some k => (k : Int)
  | none => -1
theorem badI_some {l : List Int} {k : Nat} (hk : k < l.length) (h : radB (gi l k) = true) (hb : ∀ j, j < k → radB (gi l j) = false) : badI l = k := by
  have : (List.range l.length).find? (fun k => radB (gi l k)) = some k := find_first hk h hb
  rw [badI, this]
theorem badI_none {l : List Int} (hb : ∀ j, j < l.length → radB (gi l j) = false) : badI l = -1 := by
  have : (List.range l.length).find? (fun k => radB (gi l k)) = none := find_none hb
  rw [badI, this]
theorem badI_cases (l : List Int) : (badI l = -1 ∧ ∀ j, j < l.length → radB (gi l j) = false) ∨ ∃ k : Nat, badI l = k ∧ k < l.length ∧ radB (gi l k) = true := by
  by_cases h : ∃ k, k < l.length ∧ radB (gi l k) = true
  · right
    obtain ⟨k, hk, hmin⟩ := least _ h
    refine ⟨k, badI_some hk.1 hk.2 fun j hj => ?_, hk.1, hk.2⟩
    cases hb : radB (gi l j) with
    | false => rfl
    | true => have := hmin j ⟨by omega, hb⟩; omega
  · left
    have hb : ∀ j, j < l.length → radB (gi l j) = false := fun j hj => by
      cases hb : radB (gi l j) with
      | false => rfl
      | true => exact absurd ⟨j, hj, hb⟩ h
    exact ⟨badI_none hb, hb⟩
set_option maxRecDepth 100000 in
theorem indexFuncB_ac (l : List Int) (hl : l.length ≤ 4611686018427387904) : AC Try.prog 97 [V.ints l, .fn (.func 73) [] []] (.i (badI l)) [] := by
  refine ac_intro hTT hMX (fn := Try.f97) (N := _) ⟨Try.func97, rfl, Try.ntmps97, by kernel_rfl⟩ (by simp) fun C hC hF => ?_
  refine aw_seq_k fun K hK => ?_
  refine w_region (n' := 2) (by kernel_rfl) (by kernel_rfl) ?_
  refine aops_n hTT (M := []) (n := 1) [pv (4 : Nat) (V.i (0 : Int))] (by kernel_rfl) (by kernel_rfl) True.intro ?_
  refine aops_nil ?_
  refine xt_n ?_
  refine hK _ ?_
  clear hK K
  refine aw_seq_k fun K hK => ?_
  refine aw_seq_k fun K hK => ?_
  refine w_region (n' := 3) (by kernel_rfl) (by kernel_rfl) ?_
  refine aops_n hTT (M := []) (n := 3) [pv (6 : Nat) (V.sl (1 : Nat) (List.length l) fun (k : Nat) => [V.i (gi l k)]), pv (7 : Nat) (V.i (↑(List.length l) : Int)), pv (8 : Nat) (V.i (0 : Int))] (by kernel_rfl) (by kernel_rfl) True.intro ?_
  refine aops_nil ?_
  refine xt_n ?_
  refine hK _ ?_
  clear hK K
  refine aw_block ?_
  refine w_loop (fun k : Nat => [(0, V.ints l), (1, .fn (.func 73) [] []), (7, .i l.length), (8, .i k)]) (fun _ => []) (fun k => k ≤ l.length ∧ ∀ j, j < k → radB (gi l j) = false) (fun k => l.length - k) 0 ⟨Nat.zero_le _, fun j hj => by omega⟩ ?_ ?_
  · refine le_ren [] (.cons (by kernel_rfl) (.cons (by kernel_rfl) (.cons (by kernel_rfl) (.cons (by kernel_rfl) .nil)))) .nil (by kernel_rfl) (by kernel_rfl)
  rintro k ⟨hk, hb⟩
  refine aw_seq_k fun K hK => ?_
  refine w_region (n' := 2) (by kernel_rfl) (by kernel_rfl) ?_
  refine aops_n hTT (M := []) (n := 1) [pv (9 : Nat) (V.b (decide ((↑k : Int) < (↑(List.length l) : Int))))] (by kernel_rfl) (by kernel_rfl) True.intro ?_
  refine aops_nil ?_
  refine xt_n ?_
  refine hK _ ?_
  clear hK K
  refine aw_seq_k fun K hK => ?_
  refine w_cond (t := decide ((↑k : Int) < (↑(List.length l) : Int))) (by kernel_rfl) (fun h => ?_) (fun h => ?_)
  · simp at h
    refine aw_skip ?_
    refine xt_n ?_
    refine hK _ ?_
    clear hK K
    refine aw_seq_k fun K hK => ?_
    refine aw_block ?_
    refine aw_seq_k fun K hK => ?_
    refine w_region (n' := 3) (by kernel_rfl) (by kernel_rfl) ?_
    refine aops_n hTT (M := []) (n := 2) [pv (10 : Nat) (V.i (↑k : Int)), pv (5 : Nat) (V.i (↑k : Int))] (by kernel_rfl) (by kernel_rfl) True.intro ?_
    refine aops_nil ?_
    refine xt_n ?_
    refine hK _ ?_
    clear hK K
    refine aw_seq_k fun K hK => ?_
    refine w_region (n' := 4) (by kernel_rfl) (by kernel_rfl) ?_
    refine aops_n hTT (M := []) (n := 5) [pv (11 : Nat) (V.fn (Fn.func (73 : Nat)) [] []), pv (12 : Nat) (V.sl (1 : Nat) (List.length l) fun (k : Nat) => [V.i (gi l k)]), pv (13 : Nat) (V.i (↑k : Int)), pc (14 : Nat) ((0 : Int) ≤ (↑k : Int) ∧ (↑k : Int) < (↑(List.length l) : Int)) (V.ptr [V.i (gi l k)]), pv (15 : Nat) (V.i (gi l k))] (by kernel_rfl) (by kernel_rfl) ⟨(by omega), True.intro⟩ ?_
    refine e_call (first := []) (caps := []) (drop1_ac (gi l k)) (by kernel_rfl) (by kernel_rfl) (by kernel_rfl) (by kernel_rfl) (by kernel_rfl) ?_
    refine aops_nil ?_
    refine xt_n ?_
    refine hK _ ?_
    clear hK K
    refine w_cond (t := radB (gi l k)) (by kernel_rfl) (fun h2 => ?_) (fun h2 => ?_)
    · refine aw_seq_k fun K hK => ?_
      refine w_region (n' := 5) (by kernel_rfl) (by kernel_rfl) ?_
      refine aops_n hTT (M := []) (n := 2) [pv (17 : Nat) (V.i (↑k : Int)), pv (4 : Nat) (V.i (↑k : Int))] (by kernel_rfl) (by kernel_rfl) True.intro ?_
      refine aops_nil ?_
      refine xt_n ?_
      refine hK _ ?_
      clear hK K
      refine aw_ret ?_
      refine xb_r ?_
      refine xt_r ?_
      refine xt_r ?_
      refine xb_r ?_
      refine xt_r ?_
      rw [badI_some h h2 hb]
      refine ret_pure (v' := V.i (↑k : Int)) (.inr rfl) (by kernel_rfl) (by kernel_rfl) (by kernel_rfl)
    refine aw_skip ?_
    refine xb_n ?_
    refine xt_n ?_
    refine hK _ ?_
    clear hK K
    refine w_region (n' := 5) (by kernel_rfl) (by kernel_rfl) ?_
    refine aops_n hTT (M := []) (n := 2) [pc (18 : Nat) ((-9223372036854775808 : Int) ≤ (↑k : Int) + (1 : Int) ∧ (↑k : Int) + (1 : Int) ≤ (9223372036854775807 : Int)) (V.i ((↑k : Int) + (1 : Int))), pv (8 : Nat) (V.i ((↑k : Int) + (1 : Int)))] (by kernel_rfl) (by kernel_rfl) ⟨(by omega), True.intro⟩ ?_
    refine aops_nil ?_
    refine xt_n ?_
    refine ⟨k + 1, ⟨by omega, fun j hj => ?_⟩, ?_, by omega⟩
    · by_cases he : j = k
      · subst he; exact h2
      · exact hb j (by omega)
    · refine le_ren [] (.cons (by kernel_rfl) (.cons (by kernel_rfl) (.cons (by kernel_rfl) (.cons (by kernel_rfl) .nil)))) .nil (by kernel_rfl) (by kernel_rfl)
  simp at h
  refine aw_exit ?_
  refine xt_x ?_
  refine xt_x ?_
  refine xb_same ?_
  refine xt_n ?_
  clear hK K
  refine hK _ ?_
  clear hK K
  refine aw_seq_k fun K hK => ?_
  refine w_region (n' := 3) (by kernel_rfl) (by kernel_rfl) ?_
  refine aops_n hTT (M := []) (n := 1) [pv (4 : Nat) (V.i (-1 : Int))] (by kernel_rfl) (by kernel_rfl) True.intro ?_
  refine aops_nil ?_
  refine xt_n ?_
  refine hK _ ?_
  clear hK K
  refine aw_ret ?_
  rw [badI_none fun j hj => hb j (by omega)]
  refine ret_pure (v' := V.i (-1 : Int)) (.inr rfl) (by kernel_rfl) (by kernel_rfl) (by kernel_rfl)
set_option maxRecDepth 100000 in
theorem containsFuncB_ac (l : List Int) (hl : l.length ≤ 4611686018427387904) : AC Try.prog 72 [V.ints l, .fn (.func 73) [] []] (.b (decide (0 ≤ badI l))) [] := by
  refine ac_intro hTT hMX (fn := Try.f72) (N := _) ⟨Try.func72, rfl, Try.ntmps72, by kernel_rfl⟩ (by simp) fun C hC hF => ?_
  refine aw_seq_k fun K hK => ?_
  refine w_region (n' := 2) (by kernel_rfl) (by kernel_rfl) ?_
  refine aops_n hTT (M := []) (n := 1) [pv (4 : Nat) (V.b false)] (by kernel_rfl) (by kernel_rfl) True.intro ?_
  refine aops_nil ?_
  refine xt_n ?_
  refine hK _ ?_
  clear hK K
  refine aw_seq_k fun K hK => ?_
  refine w_region (n' := 3) (by kernel_rfl) (by kernel_rfl) ?_
  refine aops_n hTT (M := []) (n := 2) [pv (5 : Nat) (V.sl (1 : Nat) (List.length l) fun (k : Nat) => [V.i (gi l k)]), pv (6 : Nat) (V.fn (Fn.func (73 : Nat)) [] [])] (by kernel_rfl) (by kernel_rfl) True.intro ?_
  refine e_call (first := []) (caps := []) (indexFuncB_ac l hl) (by kernel_rfl) (by kernel_rfl) (by kernel_rfl) (by kernel_rfl) (by kernel_rfl) ?_
  refine aops_n hTT (M := []) (n := 2) [pv (8 : Nat) (V.b (decide ((0 : Int) ≤ badI l))), pv (4 : Nat) (V.b (decide ((0 : Int) ≤ badI l)))] (by kernel_rfl) (by kernel_rfl) True.intro ?_
  refine aops_nil ?_
  refine xt_n ?_
  refine hK _ ?_
  clear hK K
  refine aw_ret ?_
  refine ret_pure (v' := V.b (decide ((0 : Int) ≤ badI l))) (.inr rfl) (by kernel_rfl) (by kernel_rfl) (by kernel_rfl)
set_option maxRecDepth 100000 in
theorem DropF_ac (l : List Pt) (radii : List Int) (per angle x : Int) (hl : l.length ≤ 4611686018427387904) (hr : radii.length ≤ 4611686018427387904) :
    AC Try.prog 37 [V.pts l, V.ints radii, .i per, .i angle, .i x] (.tup [.i (dropF l radii per angle x).1, .i (dropF l radii per angle x).2]) [] := by
  refine ac_intro hTT hMX (fn := Try.f37) (N := _) ⟨Try.func37, rfl, Try.ntmps37, by kernel_rfl⟩ (by simp) fun C hC hF => ?_
  refine aw_seq_k fun K hK => ?_
  refine w_region (n' := 2) (by kernel_rfl) (by kernel_rfl) ?_
  refine aops_n hTT (M := []) (n := 2) [pv (10 : Nat) (V.i (0 : Int)), pv (11 : Nat) (V.i (0 : Int))] (by kernel_rfl) (by kernel_rfl) True.intro ?_
  refine aops_nil ?_
  refine xt_n ?_
  refine hK _ ?_
  clear hK K
  refine aw_seq_k fun K hK => ?_
  refine aw_seq_k fun K hK => ?_
  refine w_region (n' := 3) (by kernel_rfl) (by kernel_rfl) ?_
  refine aops_n hTT (M := []) (n := 1) [pv (15 : Nat) (V.sl (2 : Nat) (List.length l) fun (k : Nat) => [V.i (Prod.fst (gp l k)), V.i (Prod.snd (gp l k))])] (by kernel_rfl) (by kernel_rfl) True.intro ?_
  refine e_call (first := []) (caps := []) (checkPts_ac l hl) (by kernel_rfl) (by kernel_rfl) (by kernel_rfl) (by kernel_rfl) (by kernel_rfl) ?_
  refine aops_n hTT (M := []) (n := 1) [pv (12 : Nat) (V.i (checkPts l))] (by kernel_rfl) (by kernel_rfl) True.intro ?_
  refine aops_nil ?_
  refine xt_n ?_
  refine hK _ ?_
  clear hK K
  refine aw_seq_k fun K hK => ?_
  refine w_region (n' := 4) (by kernel_rfl) (by kernel_rfl) ?_
  refine aops_n hTT (M := []) (n := 2) [pv (17 : Nat) (V.i (checkPts l)), pv (18 : Nat) (V.b !decide (checkPts l = (0 : Int)))] (by kernel_rfl) (by kernel_rfl) True.intro ?_
  refine aops_nil ?_
  refine xt_n ?_
  refine hK _ ?_
  clear hK K
  refine w_cond (t := !decide (checkPts l = (0 : Int))) (by kernel_rfl) (fun h1 => ?_) (fun h1 => ?_)
  · simp at h1
    refine aw_seq_k fun K hK => ?_
    refine w_region (n' := 5) (by kernel_rfl) (by kernel_rfl) ?_
    refine aops_n hTT (M := []) (n := 3) [pv (19 : Nat) (V.i (checkPts l)), pv (10 : Nat) (V.i (0 : Int)), pv (11 : Nat) (V.i (checkPts l))] (by kernel_rfl) (by kernel_rfl) True.intro ?_
    refine aops_nil ?_
    refine xt_n ?_
    refine hK _ ?_
    clear hK K
    refine aw_ret ?_
    refine xt_r ?_
    rw [dropF_1 h1]
    refine ret_pure (v' := V.tup [V.i (0 : Int), V.i (checkPts l)]) (.inr rfl) (by kernel_rfl) (by kernel_rfl) (by kernel_rfl)
  simp at h1
  obtain ⟨m4, m5⟩ := checkPts_ok h1
  refine aw_skip ?_
  refine xt_n ?_
  refine hK _ ?_
  clear hK K
  refine aw_seq_k fun K hK => ?_
  refine aw_block ?_
  refine aw_seq_k fun K hK => ?_
  refine w_region (n' := 5) (by kernel_rfl) (by kernel_rfl) ?_
  refine aops_n hTT (M := []) (n := 6) [pv (21 : Nat) (V.sl (1 : Nat) (List.length radii) fun (k : Nat) => [V.i (gi radii k)]), pv (22 : Nat) (V.i (↑(List.length radii) : Int)), pv (23 : Nat) (V.sl (2 : Nat) (List.length l) fun (k : Nat) => [V.i (Prod.fst (gp l k)), V.i (Prod.snd (gp l k))]), pv (24 : Nat) (V.i (↑(List.length l) : Int)), pv (25 : Nat) (V.b !decide ((↑(List.length radii) : Int) = (↑(List.length l) : Int))), pv (20 : Nat) (V.b !decide ((↑(List.length radii) : Int) = (↑(List.length l) : Int)))] (by kernel_rfl) (by kernel_rfl) True.intro ?_
  refine aops_nil ?_
  refine xt_n ?_
  refine hK _ ?_
  clear hK K
  refine w_cond (t := !decide ((↑(List.length radii) : Int) = (↑(List.length l) : Int))) (by kernel_rfl) (fun h2 => ?_) (fun h2 => ?_)
  · simp at h2
    refine aw_seq_k fun K hK => ?_
    refine w_region (n' := 6) (by kernel_rfl) (by kernel_rfl) ?_
    refine aops_n hTT (M := []) (n := 2) [pv (10 : Nat) (V.i (0 : Int)), pv (11 : Nat) (V.i (17 : Int))] (by kernel_rfl) (by kernel_rfl) True.intro ?_
    refine aops_nil ?_
    refine xt_n ?_
    refine hK _ ?_
    clear hK K
    refine aw_ret ?_
    refine xb_r ?_
    refine xt_r ?_
    rw [dropF_2 h1 (by omega)]
    refine ret_pure (v' := V.tup [V.i (0 : Int), V.i (17 : Int)]) (.inr rfl) (by kernel_rfl) (by kernel_rfl) (by kernel_rfl)
  simp at h2
  refine aw_seq_k fun K hK => ?_
  refine w_region (n' := 6) (by kernel_rfl) (by kernel_rfl) ?_
  refine aops_n hTT (M := []) (n := 1) [pv (27 : Nat) (V.sl (1 : Nat) (List.length radii) fun (k : Nat) => [V.i (gi radii k)])] (by kernel_rfl) (by kernel_rfl) True.intro ?_
  refine e_call (first := []) (caps := []) (containsFuncB_ac radii hr) (by kernel_rfl) (by kernel_rfl) (by kernel_rfl) (by kernel_rfl) (by kernel_rfl) ?_
  refine aops_n hTT (M := []) (n := 1) [pv (26 : Nat) (V.b (decide ((0 : Int) ≤ badI radii)))] (by kernel_rfl) (by kernel_rfl) True.intro ?_
  refine aops_nil ?_
  refine xt_n ?_
  refine hK _ ?_
  clear hK K
  refine w_cond (t := decide ((0 : Int) ≤ badI radii)) (by kernel_rfl) (fun h3 => ?_) (fun h3 => ?_)
  · simp at h3
    refine aw_seq_k fun K hK => ?_
    refine w_region (n' := 7) (by kernel_rfl) (by kernel_rfl) ?_
    refine aops_n hTT (M := []) (n := 2) [pv (10 : Nat) (V.i (0 : Int)), pv (11 : Nat) (V.i (2 : Int))] (by kernel_rfl) (by kernel_rfl) True.intro ?_
    refine aops_nil ?_
    refine xt_n ?_
    refine hK _ ?_
    clear hK K
    refine aw_ret ?_
    refine xb_r ?_
    refine xt_r ?_
    rcases badI_cases radii with ⟨hb, _⟩ | ⟨k, _, hk, hbad⟩
    · omega
    rw [dropF_3 h1 (by omega) hk hbad]
    refine ret_pure (v' := V.tup [V.i (0 : Int), V.i (2 : Int)]) (.inr rfl) (by kernel_rfl) (by kernel_rfl) (by kernel_rfl)
  simp at h3
  have hb' : ∀ j, j < radii.length → radB (gi radii j) = false := by
    rcases badI_cases radii with ⟨_, hb⟩ | ⟨k, hk, _, _⟩
    · exact hb
    · omega
  refine aw_seq_k fun K hK => ?_
  refine w_region (n' := 7) (by kernel_rfl) (by kernel_rfl) ?_
  refine aops_n hTT (M := []) (n := 16) [pv (30 : Nat) (V.i per), pv (31 : Nat) (V.b (decide (per < (1 : Int)))), pv (32 : Nat) (V.b (decide (per < (1 : Int)))), pc (33 : Nat) ((True ∧ True) ∧ ((decide (per < (1 : Int)) == false) = true → True)) (V.gd (decide (per < (1 : Int)) == false) (V.i per)), pc (34 : Nat) ((((decide (per < (1 : Int)) == false) = true → (decide (per < (1 : Int)) == false) = true) ∧ True ∧ True) ∧ ((decide (per < (1 : Int)) == false) = true → True)) (V.gd (decide (per < (1 : Int)) == false) (V.b (decide ((65536 : Int) < per)))), pc (35 : Nat) (True ∧ (decide (per < (1 : Int)) = false → (decide (per < (1 : Int)) == false) = true)) (V.b (decide (per < (1 : Int)) || decide ((65536 : Int) < per))), pv (36 : Nat) (V.b (decide (per < (1 : Int)) || decide ((65536 : Int) < per))), pc (37 : Nat) ((True ∧ True) ∧ (((decide (per < (1 : Int)) || decide ((65536 : Int) < per)) == false) = true → True)) (V.gd ((decide (per < (1 : Int)) || decide ((65536 : Int) < per)) == false) (V.i angle)), pc (38 : Nat) (((((decide (per < (1 : Int)) || decide ((65536 : Int) < per)) == false) = true → ((decide (per < (1 : Int)) || decide ((65536 : Int) < per)) == false) = true) ∧ True ∧ True) ∧ (((decide (per < (1 : Int)) || decide ((65536 : Int) < per)) == false) = true → True)) (V.gd ((decide (per < (1 : Int)) || decide ((65536 : Int) < per)) == false) (V.b (decide (angle < (0 : Int))))), pc (39 : Nat) (True ∧ ((decide (per < (1 : Int)) || decide ((65536 : Int) < per)) = false → ((decide (per < (1 : Int)) || decide ((65536 : Int) < per)) == false) = true)) (V.b (decide (per < (1 : Int)) || decide ((65536 : Int) < per) || decide (angle < (0 : Int)))), pv (40 : Nat) (V.b (decide (per < (1 : Int)) || decide ((65536 : Int) < per) || decide (angle < (0 : Int)))), pc (41 : Nat) ((True ∧ True) ∧ (((decide (per < (1 : Int)) || decide ((65536 : Int) < per) || decide (angle < (0 : Int))) == false) = true → True)) (V.gd ((decide (per < (1 : Int)) || decide ((65536 : Int) < per) || decide (angle < (0 : Int))) == false) (V.i angle)), pc (42 : Nat) ((True ∧ True) ∧ (((decide (per < (1 : Int)) || decide ((65536 : Int) < per) || decide (angle < (0 : Int))) == false) = true → True)) (V.gd ((decide (per < (1 : Int)) || decide ((65536 : Int) < per) || decide (angle < (0 : Int))) == false) (V.i per)), pc (43 : Nat) (((((decide (per < (1 : Int)) || decide ((65536 : Int) < per) || decide (angle < (0 : Int))) == false) = true → ((decide (per < (1 : Int)) || decide ((65536 : Int) < per) || decide (angle < (0 : Int))) == false) = true) ∧ (((decide (per < (1 : Int)) || decide ((65536 : Int) < per) || decide (angle < (0 : Int))) == false) = true → ((decide (per < (1 : Int)) || decide ((65536 : Int) < per) || decide (angle < (0 : Int))) == false) = true) ∧ True) ∧ (((decide (per < (1 : Int)) || decide ((65536 : Int) < per) || decide (angle < (0 : Int))) == false) = true → True)) (V.gd ((decide (per < (1 : Int)) || decide ((65536 : Int) < per) || decide (angle < (0 : Int))) == false) (V.b (decide (per ≤ angle)))), pc (44 : Nat) (True ∧ ((decide (per < (1 : Int)) || decide ((65536 : Int) < per) || decide (angle < (0 : Int))) = false → ((decide (per < (1 : Int)) || decide ((65536 : Int) < per) || decide (angle < (0 : Int))) == false) = true)) (V.b (decide (per < (1 : Int)) || decide ((65536 : Int) < per) || decide (angle < (0 : Int)) || decide (per ≤ angle))), pv (29 : Nat) (V.b (decide (per < (1 : Int)) || decide ((65536 : Int) < per) || decide (angle < (0 : Int)) || decide (per ≤ angle)))] (by kernel_rfl) (by kernel_rfl) ⟨⟨⟨True.intro, True.intro⟩, (fun _ => True.intro)⟩, ⟨⟨(by (exact fun h => h)), ⟨True.intro, True.intro⟩⟩, (fun _ => True.intro)⟩, ⟨True.intro, (by (intro h; rw [h]; rfl))⟩, ⟨⟨True.intro, True.intro⟩, (fun _ => True.intro)⟩, ⟨⟨(by (exact fun h => h)), ⟨True.intro, True.intro⟩⟩, (fun _ => True.intro)⟩, ⟨True.intro, (by (intro h; rw [h]; rfl))⟩, ⟨⟨True.intro, True.intro⟩, (fun _ => True.intro)⟩, ⟨⟨True.intro, True.intro⟩, (fun _ => True.intro)⟩, ⟨⟨(by (exact fun h => h)), ⟨(by (exact fun h => h)), True.intro⟩⟩, (fun _ => True.intro)⟩, ⟨True.intro, (by (intro h; rw [h]; rfl))⟩, True.intro⟩ ?_
  refine aops_nil ?_
  refine xt_n ?_
  refine hK _ ?_
  clear hK K
  refine w_cond (t := decide (per < (1 : Int)) || decide ((65536 : Int) < per) || decide (angle < (0 : Int)) || decide (per ≤ angle)) (by kernel_rfl) (fun h4 => ?_) (fun h4 => ?_)
  · simp at h4
    refine aw_seq_k fun K hK => ?_
    refine w_region (n' := 8) (by kernel_rfl) (by kernel_rfl) ?_
    refine aops_n hTT (M := []) (n := 2) [pv (10 : Nat) (V.i (0 : Int)), pv (11 : Nat) (V.i (3 : Int))] (by kernel_rfl) (by kernel_rfl) True.intro ?_
    refine aops_nil ?_
    refine xt_n ?_
    refine hK _ ?_
    clear hK K
    refine aw_ret ?_
    refine xb_r ?_
    refine xt_r ?_
    rw [dropF_4 h1 (by omega) hb' (by omega)]
    refine ret_pure (v' := V.tup [V.i (0 : Int), V.i (3 : Int)]) (.inr rfl) (by kernel_rfl) (by kernel_rfl) (by kernel_rfl)
  simp at h4
  obtain ⟨p, rfl⟩ : ∃ p : Nat, per = (p : Int) := ⟨per.toNat, by omega⟩
  obtain ⟨a, rfl⟩ : ∃ a : Nat, angle = (a : Int) := ⟨angle.toNat, by omega⟩
  have hF5 : dropF l radii p a x = dropI l radii p a x := dropF_5 h1 (by omega) hb' (by omega)
  have hap : a < p := by omega
  refine aw_skip ?_
  refine xb_n ?_
  refine xt_n ?_
  refine hK _ ?_
  clear hK K
  refine aw_seq_k fun K hK => ?_
  refine aw_seq_k fun K hK => ?_
  refine w_region (n' := 8) (by kernel_rfl) (by kernel_rfl) ?_
  refine aops_n hTT (M := []) (n := 2) [pv (45 : Nat) (V.i (↑a : Int)), pv (13 : Nat) (V.i (↑a : Int))] (by kernel_rfl) (by kernel_rfl) True.intro ?_
  refine aops_nil ?_
  refine xt_n ?_
  refine hK _ ?_
  clear hK K
  refine aw_block ?_
  refine w_loop (fun i : Nat => [(0, V.pts l), (1, V.ints radii), (2, .i p), (4, .i x), (13, .i i)]) (fun _ => []) (fun i => i % p = a ∧ ∀ j, j < i → (decide (j % p = a) && dropIn l radii x j) = false) (fun i => l.length - i) a ⟨Nat.mod_eq_of_lt hap, fun j hj => by simp [Nat.mod_eq_of_lt (show j < p by omega)]; omega⟩ ?_ ?_
  · refine le_ren [] (.cons (by kernel_rfl) (.cons (by kernel_rfl) (.cons (by kernel_rfl) (.cons (by kernel_rfl) (.cons (by kernel_rfl) .nil))))) .nil (by kernel_rfl) (by kernel_rfl)
  rintro i ⟨hi, hbad⟩
  refine aw_seq_k fun K hK => ?_
  refine aw_seq_k fun K hK => ?_
  refine w_region (n' := 2) (by kernel_rfl) (by kernel_rfl) ?_
  refine aops_n hTT (M := []) (n := 4) [pv (46 : Nat) (V.i (↑i : Int)), pv (47 : Nat) (V.sl (2 : Nat) (List.length l) fun (k : Nat) => [V.i (Prod.fst (gp l k)), V.i (Prod.snd (gp l k))]), pv (48 : Nat) (V.i (↑(List.length l) : Int)), pv (49 : Nat) (V.b (decide ((↑i : Int) < (↑(List.length l) : Int))))] (by kernel_rfl) (by kernel_rfl) True.intro ?_
  refine aops_nil ?_
  refine xt_n ?_
  refine hK _ ?_
  clear hK K
  refine w_cond (t := decide ((↑i : Int) < (↑(List.length l) : Int))) (by kernel_rfl) (fun hl2 => ?_) (fun hl2 => ?_)
  · simp at hl2
    have b0 := gp_bd m5 i
    have hri : i < radii.length := by omega
    have b1 : -16777216 ≤ gi radii i ∧ gi radii i ≤ 16777216 := by simpa [radB] using hb' i hri
    refine aw_skip ?_
    refine xt_n ?_
    refine hK _ ?_
    clear hK K
    refine aw_seq_k fun K hK => ?_
    refine aw_block ?_
    refine aw_seq_k fun K hK => ?_
    refine w_region (n' := 3) (by kernel_rfl) (by kernel_rfl) ?_
    refine aops_n hTT (M := []) (n := 5) [pv (53 : Nat) (V.sl (1 : Nat) (List.length radii) fun (k : Nat) => [V.i (gi radii k)]), pv (54 : Nat) (V.i (↑i : Int)), pc (55 : Nat) ((0 : Int) ≤ (↑i : Int) ∧ (↑i : Int) < (↑(List.length radii) : Int)) (V.ptr [V.i (gi radii i)]), pv (56 : Nat) (V.i (gi radii i)), pv (14 : Nat) (V.i (gi radii i))] (by kernel_rfl) (by kernel_rfl) ⟨(by omega), True.intro⟩ ?_
    refine aops_nil ?_
    refine xt_n ?_
    refine hK _ ?_
    clear hK K
    refine aw_seq_k fun K hK => ?_
    refine w_region (n' := 4) (by kernel_rfl) (by kernel_rfl) ?_
    refine aops_n hTT (M := []) (n := 20) [pv (57 : Nat) (V.i x), pv (58 : Nat) (V.i (gi radii i)), pv (59 : Nat) (V.sl (2 : Nat) (List.length l) fun (k : Nat) => [V.i (Prod.fst (gp l k)), V.i (Prod.snd (gp l k))]), pv (60 : Nat) (V.i (↑i : Int)), pc (61 : Nat) ((0 : Int) ≤ (↑i : Int) ∧ (↑i : Int) < (↑(List.length l) : Int)) (V.ptr [V.i (Prod.fst (gp l i)), V.i (Prod.snd (gp l i))]), pv (62 : Nat) (V.ptr [V.i (Prod.fst (gp l i)), V.i (Prod.snd (gp l i))]), pv (63 : Nat) (V.i (Prod.fst (gp l i))), pc (64 : Nat) ((-9223372036854775808 : Int) ≤ gi radii i + Prod.fst (gp l i) ∧ gi radii i + Prod.fst (gp l i) ≤ (9223372036854775807 : Int)) (V.i (gi radii i + Prod.fst (gp l i))), pv (65 : Nat) (V.b (decide (gi radii i + Prod.fst (gp l i) ≤ x))), pv (66 : Nat) (V.b (decide (gi radii i + Prod.fst (gp l i) ≤ x))), pc (67 : Nat) ((True ∧ True) ∧ ((decide (gi radii i + Prod.fst (gp l i) ≤ x) == true) = true → True)) (V.gd (decide (gi radii i + Prod.fst (gp l i) ≤ x) == true) (V.i x)), pc (68 : Nat) ((True ∧ True) ∧ ((decide (gi radii i + Prod.fst (gp l i) ≤ x) == true) = true → True)) (V.gd (decide (gi radii i + Prod.fst (gp l i) ≤ x) == true) (V.i (gi radii i))), pc (69 : Nat) ((True ∧ True) ∧ ((decide (gi radii i + Prod.fst (gp l i) ≤ x) == true) = true → True)) (V.gd (decide (gi radii i + Prod.fst (gp l i) ≤ x) == true) (V.sl (2 : Nat) (List.length l) fun (k : Nat) => [V.i (Prod.fst (gp l k)), V.i (Prod.snd (gp l k))])), pc (70 : Nat) ((True ∧ True) ∧ ((decide (gi radii i + Prod.fst (gp l i) ≤ x) == true) = true → True)) (V.gd (decide (gi radii i + Prod.fst (gp l i) ≤ x) == true) (V.i (↑i : Int))), pc (71 : Nat) ((((decide (gi radii i + Prod.fst (gp l i) ≤ x) == true) = true → (decide (gi radii i + Prod.fst (gp l i) ≤ x) == true) = true) ∧ ((decide (gi radii i + Prod.fst (gp l i) ≤ x) == true) = true → (decide (gi radii i + Prod.fst (gp l i) ≤ x) == true) = true) ∧ True) ∧ ((decide (gi radii i + Prod.fst (gp l i) ≤ x) == true) = true → (0 : Int) ≤ (↑i : Int) ∧ (↑i : Int) < (↑(List.length l) : Int))) (V.gd (decide (gi radii i + Prod.fst (gp l i) ≤ x) == true) (V.ptr [V.i (Prod.fst (gp l i)), V.i (Prod.snd (gp l i))])), pc (72 : Nat) ((((decide (gi radii i + Prod.fst (gp l i) ≤ x) == true) = true → (decide (gi radii i + Prod.fst (gp l i) ≤ x) == true) = true) ∧ True) ∧ ((decide (gi radii i + Prod.fst (gp l i) ≤ x) == true) = true → True)) (V.gd (decide (gi radii i + Prod.fst (gp l i) ≤ x) == true) (V.ptr [V.i (Prod.snd (gp l i))])), pc (73 : Nat) ((((decide (gi radii i + Prod.fst (gp l i) ≤ x) == true) = true → (decide (gi radii i + Prod.fst (gp l i) ≤ x) == true) = true) ∧ True) ∧ ((decide (gi radii i + Prod.fst (gp l i) ≤ x) == true) = true → True)) (V.gd (decide (gi radii i + Prod.fst (gp l i) ≤ x) == true) (V.i (Prod.snd (gp l i)))), pc (74 : Nat) ((((decide (gi radii i + Prod.fst (gp l i) ≤ x) == true) = true → (decide (gi radii i + Prod.fst (gp l i) ≤ x) == true) = true) ∧ ((decide (gi radii i + Prod.fst (gp l i) ≤ x) == true) = true → (decide (gi radii i + Prod.fst (gp l i) ≤ x) == true) = true) ∧ True) ∧ ((decide (gi radii i + Prod.fst (gp l i) ≤ x) == true) = true → (-9223372036854775808 : Int) ≤ gi radii i + Prod.snd (gp l i) ∧ gi radii i + Prod.snd (gp l i) ≤ (9223372036854775807 : Int))) (V.gd (decide (gi radii i + Prod.fst (gp l i) ≤ x) == true) (V.i (gi radii i + Prod.snd (gp l i)))), pc (75 : Nat) ((((decide (gi radii i + Prod.fst (gp l i) ≤ x) == true) = true → (decide (gi radii i + Prod.fst (gp l i) ≤ x) == true) = true) ∧ ((decide (gi radii i + Prod.fst (gp l i) ≤ x) == true) = true → (decide (gi radii i + Prod.fst (gp l i) ≤ x) == true) = true) ∧ True) ∧ ((decide (gi radii i + Prod.fst (gp l i) ≤ x) == true) = true → True)) (V.gd (decide (gi radii i + Prod.fst (gp l i) ≤ x) == true) (V.b (decide (x ≤ gi radii i + Prod.snd (gp l i))))), pc (76 : Nat) ((decide (gi radii i + Prod.fst (gp l i) ≤ x) = true → (decide (gi radii i + Prod.fst (gp l i) ≤ x) == true) = true) ∧ True) (V.b (decide (gi radii i + Prod.fst (gp l i) ≤ x) && decide (x ≤ gi radii i + Prod.snd (gp l i))))] (by kernel_rfl) (by kernel_rfl) ⟨(by omega), (by omega), ⟨⟨True.intro, True.intro⟩, (fun _ => True.intro)⟩, ⟨⟨True.intro, True.intro⟩, (fun _ => True.intro)⟩, ⟨⟨True.intro, True.intro⟩, (fun _ => True.intro)⟩, ⟨⟨True.intro, True.intro⟩, (fun _ => True.intro)⟩, ⟨⟨(by (exact fun h => h)), ⟨(by (exact fun h => h)), True.intro⟩⟩, (by (intro hg; simp at hg; omega))⟩, ⟨⟨(by (exact fun h => h)), True.intro⟩, (fun _ => True.intro)⟩, ⟨⟨(by (exact fun h => h)), True.intro⟩, (fun _ => True.intro)⟩, ⟨⟨(by (exact fun h => h)), ⟨(by (exact fun h => h)), True.intro⟩⟩, (by (intro hg; simp at hg; omega))⟩, ⟨⟨(by (exact fun h => h)), ⟨(by (exact fun h => h)), True.intro⟩⟩, (fun _ => True.intro)⟩, ⟨(by (intro h; rw [h]; rfl)), True.intro⟩, True.intro⟩ ?_
    refine aops_nil ?_
    refine xt_n ?_
    refine hK _ ?_
    clear hK K
    refine w_cond (t := decide (gi radii i + Prod.fst (gp l i) ≤ x) && decide (x ≤ gi radii i + Prod.snd (gp l i))) (by kernel_rfl) (fun h5 => ?_) (fun h5 => ?_)
    · have hd : dropIn l radii x i = true := h5
      refine aw_seq_k fun K hK => ?_
      refine w_region (n' := 5) (by kernel_rfl) (by kernel_rfl) ?_
      refine aops_n hTT (M := []) (n := 3) [pv (77 : Nat) (V.i (↑i : Int)), pv (10 : Nat) (V.i (↑i : Int)), pv (11 : Nat) (V.i (0 : Int))] (by kernel_rfl) (by kernel_rfl) True.intro ?_
      refine aops_nil ?_
      refine xt_n ?_
      refine hK _ ?_
      clear hK K
      refine aw_ret ?_
      refine xb_r ?_
      refine xt_r ?_
      refine xt_r ?_
      refine xb_r ?_
      refine xt_r ?_
      rw [hF5, dropI_some hl2 hi hd hbad]
      refine ret_pure (v' := V.tup [V.i (↑i : Int), V.i (0 : Int)]) (.inr rfl) (by kernel_rfl) (by kernel_rfl) (by kernel_rfl)
    · have hd : dropIn l radii x i = false := h5
      refine aw_skip ?_
      refine xb_n ?_
      refine xt_n ?_
      refine hK _ ?_
      clear hK K
      refine w_region (n' := 5) (by kernel_rfl) (by kernel_rfl) ?_
      refine aops_n hTT (M := []) (n := 4) [pv (50 : Nat) (V.i (↑i : Int)), pv (51 : Nat) (V.i (↑p : Int)), pc (52 : Nat) ((-9223372036854775808 : Int) ≤ (↑i : Int) + (↑p : Int) ∧ (↑i : Int) + (↑p : Int) ≤ (9223372036854775807 : Int)) (V.i ((↑i : Int) + (↑p : Int))), pv (13 : Nat) (V.i ((↑i : Int) + (↑p : Int)))] (by kernel_rfl) (by kernel_rfl) ⟨(by omega), True.intro⟩ ?_
      refine aops_nil ?_
      refine xt_n ?_
      refine ⟨i + p, ⟨by simpa using hi, fun j hj => ?_⟩, ?_, by omega⟩
      · by_cases h6 : j < i
        · exact hbad j h6
        · by_cases h7 : j = i
          · subst h7; simp [hd]
          · have := mod_between (e := j - i) hi (by omega) (by omega) (by omega)
            rw [show i + (j - i) = j by omega] at this
            simp [this]
      · refine le_ren [] (.cons (by kernel_rfl) (.cons (by kernel_rfl) (.cons (by kernel_rfl) (.cons (by kernel_rfl) (.cons (by kernel_rfl) .nil))))) .nil (by kernel_rfl) (by kernel_rfl)
  simp at hl2
  refine aw_exit ?_
  refine xt_x ?_
  refine xt_x ?_
  refine xb_same ?_
  refine xt_n ?_
  clear hK K
  refine hK _ ?_
  clear hK K
  refine aw_seq_k fun K hK => ?_
  refine w_region (n' := 3) (by kernel_rfl) (by kernel_rfl) ?_
  refine aops_n hTT (M := []) (n := 2) [pv (10 : Nat) (V.i (0 : Int)), pv (11 : Nat) (V.i (5 : Int))] (by kernel_rfl) (by kernel_rfl) True.intro ?_
  refine aops_nil ?_
  refine xt_n ?_
  refine hK _ ?_
  clear hK K
  refine aw_ret ?_
  rw [hF5, dropI_none fun j hj => hbad j (by omega)]
  refine ret_pure (v' := V.tup [V.i (0 : Int), V.i (5 : Int)]) (.inr rfl) (by kernel_rfl) (by kernel_rfl) (by kernel_rfl)
end Go.Proofs.Ytlfaaddoemcokaa
