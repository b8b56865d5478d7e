/-
  Where a tip lands: the walk of play.Drop. Conditions: a valid groove, radii in range, a valid turn.
-/
import Derived.Test.YtlfaaddoemcokaaPC
namespace Go.Proofs.Ytlfaaddoemcokaa
open Go.Ab Go.RowKit Go.Dw Go.Shelf

theorem checkPts_ac (l : List Pt) (hl : l.length ≤ 4611686018427387904) : AC Try.prog 60 [V.pts l] (.i (checkPts l)) [] := by
  refine ac_of_flat (enters_of Try.func60 (by kernel_rfl) rfl) fun L w vs hL hvs => ?_
  obtain ⟨vs⟩ := vs
  obtain ⟨x1, e1, q1⟩ := hvs.get (i := 0) rfl
  obtain ⟨A, c, rfl, _, ha⟩ := R_pts_inv q1 hL
  have hn := hvs.1
  have hvs' : vs = [.slice A l.length c] := by
    match vs, hn with
    | [a], _ => simp at e1; subst e1; rfl
  subst hvs'
  exact checkPts_calls A _ c l w ha hl
def radB (r : Int) : Bool := decide (r < -16777216) || decide (16777216 < r)
set_option maxRecDepth 100000 in
theorem drop1_ac (r : Int) : AC Try.prog 73 [.i r] (.b (radB r)) [] := by
  refine ac_intro hTT hMX (fn := Try.f73) (N := _) ⟨Try.func73, rfl, Try.ntmps73, by kernel_rfl⟩ (by simp) fun C hC hF => ?_
  refine aw_seq_k fun K hK => ?_
  refine w_region (n' := 2) (by kernel_rfl) (by kernel_rfl) ?_
  refine aops_n hTT (M := []) (n := 1) [pv (2 : Nat) (V.b false)] (by kernel_rfl) (by kernel_rfl) True.intro ?_
  refine aops_nil ?_
  refine xt_n ?_
  refine hK _ ?_
  clear hK K
  refine aw_seq_k fun K hK => ?_
  refine w_region (n' := 3) (by kernel_rfl) (by kernel_rfl) ?_
  refine aops_n hTT (M := []) (n := 7) [pv (3 : Nat) (V.i r), pv (4 : Nat) (V.b (decide (r < (-16777216 : Int)))), pv (5 : Nat) (V.b (decide (r < (-16777216 : Int)))), pc (6 : Nat) ((True ∧ True) ∧ ((decide (r < (-16777216 : Int)) == false) = true → True)) (V.gd (decide (r < (-16777216 : Int)) == false) (V.i r)), pc (7 : Nat) ((((decide (r < (-16777216 : Int)) == false) = true → (decide (r < (-16777216 : Int)) == false) = true) ∧ True ∧ True) ∧ ((decide (r < (-16777216 : Int)) == false) = true → True)) (V.gd (decide (r < (-16777216 : Int)) == false) (V.b (decide ((16777216 : Int) < r)))), pc (8 : Nat) (True ∧ (decide (r < (-16777216 : Int)) = false → (decide (r < (-16777216 : Int)) == false) = true)) (V.b (decide (r < (-16777216 : Int)) || decide ((16777216 : Int) < r))), pv (2 : Nat) (V.b (decide (r < (-16777216 : Int)) || decide ((16777216 : Int) < r)))] (by kernel_rfl) (by kernel_rfl) ⟨⟨⟨True.intro, True.intro⟩, (fun _ => True.intro)⟩, ⟨⟨(by (exact fun h => h)), ⟨True.intro, True.intro⟩⟩, (fun _ => True.intro)⟩, ⟨True.intro, (by (intro h; rw [h]; rfl))⟩, True.intro⟩ ?_
  refine aops_nil ?_
  refine xt_n ?_
  refine hK _ ?_
  clear hK K
  refine aw_ret ?_
  refine ret_pure (.inr rfl) rfl rfl rfl
set_option maxRecDepth 100000 in
theorem indexFunc_ac (l : List Int) (hl : l.length ≤ 65536) (hb : ∀ k, k < l.length → radB (gi l k) = false) : AC Try.prog 97 [V.ints l, .fn (.func 73) [] []] (.i (-1)) [] := by
  refine ac_intro hTT hMX (fn := Try.f97) (N := _) ⟨Try.func97, rfl, Try.ntmps97, by kernel_rfl⟩ (by simp) fun C hC hF => ?_
  refine aw_seq_k fun K hK => ?_
  refine w_region (n' := 2) (by kernel_rfl) (by kernel_rfl) ?_
  refine aops_n hTT (M := []) (n := 1) [pv (4 : Nat) (V.i (0 : Int))] (by kernel_rfl) (by kernel_rfl) True.intro ?_
  refine aops_nil ?_
  refine xt_n ?_
  refine hK _ ?_
  clear hK K
  refine aw_seq_k fun K hK => ?_
  refine aw_seq_k fun K hK => ?_
  refine w_region (n' := 3) (by kernel_rfl) (by kernel_rfl) ?_
  refine aops_n hTT (M := []) (n := 3) [pv (6 : Nat) (V.sl (1 : Nat) (List.length l) fun (k : Nat) => [V.i (gi l k)]), pv (7 : Nat) (V.i (↑(List.length l) : Int)), pv (8 : Nat) (V.i (0 : Int))] (by kernel_rfl) (by kernel_rfl) True.intro ?_
  refine aops_nil ?_
  refine xt_n ?_
  refine hK _ ?_
  clear hK K
  refine aw_block ?_
  refine w_loop (fun k : Nat => [(0, V.ints l), (1, .fn (.func 73) [] []), (7, .i l.length), (8, .i k)]) (fun _ => []) (fun k => k ≤ l.length) (fun k => l.length - k) 0 (Nat.zero_le _) ?_ ?_
  · exact le_ren [] (.cons rfl (.cons rfl (.cons rfl (.cons rfl .nil)))) .nil rfl rfl
  intro k hk
  refine aw_seq_k fun K hK => ?_
  refine w_region (n' := 2) (by kernel_rfl) (by kernel_rfl) ?_
  refine aops_n hTT (M := []) (n := 1) [pv (9 : Nat) (V.b (decide ((↑k : Int) < (↑(List.length l) : Int))))] (by kernel_rfl) (by kernel_rfl) True.intro ?_
  refine aops_nil ?_
  refine xt_n ?_
  refine hK _ ?_
  clear hK K
  refine aw_seq_k fun K hK => ?_
  refine w_cond rfl (fun h => ?_) (fun h => ?_)
  · simp at h
    refine aw_skip ?_
    refine xt_n ?_
    refine hK _ ?_
    clear hK K
    refine aw_seq_k fun K hK => ?_
    refine aw_block ?_
    refine aw_seq_k fun K hK => ?_
    refine w_region (n' := 3) (by kernel_rfl) (by kernel_rfl) ?_
    refine aops_n hTT (M := []) (n := 2) [pv (10 : Nat) (V.i (↑k : Int)), pv (5 : Nat) (V.i (↑k : Int))] (by kernel_rfl) (by kernel_rfl) True.intro ?_
    refine aops_nil ?_
    refine xt_n ?_
    refine hK _ ?_
    clear hK K
    refine aw_seq_k fun K hK => ?_
    refine w_region (n' := 4) (by kernel_rfl) (by kernel_rfl) ?_
    refine aops_n hTT (M := []) (n := 5) [pv (11 : Nat) (V.fn (Fn.func (73 : Nat)) [] []), pv (12 : Nat) (V.sl (1 : Nat) (List.length l) fun (k : Nat) => [V.i (gi l k)]), pv (13 : Nat) (V.i (↑k : Int)), pc (14 : Nat) ((0 : Int) ≤ (↑k : Int) ∧ (↑k : Int) < (↑(List.length l) : Int)) (V.ptr [V.i (gi l k)]), pv (15 : Nat) (V.i (gi l k))] (by kernel_rfl) (by kernel_rfl) ⟨(by omega), True.intro⟩ ?_
    refine e_call (drop1_ac (gi l k)) rfl rfl rfl rfl rfl ?_
    refine aops_nil ?_
    refine xt_n ?_
    refine hK _ ?_
    clear hK K
    refine w_cond rfl (fun h2 => ?_) (fun h2 => ?_)
    · exfalso
      have := hb k (by omega)
      rw [this] at h2
      cases h2
    refine aw_skip ?_
    refine xb_n ?_
    refine xt_n ?_
    refine hK _ ?_
    clear hK K
    refine w_region (n' := 5) (by kernel_rfl) (by kernel_rfl) ?_
    refine aops_n hTT (M := []) (n := 2) [pc (18 : Nat) ((-9223372036854775808 : Int) ≤ (↑k : Int) + (1 : Int) ∧ (↑k : Int) + (1 : Int) ≤ (9223372036854775807 : Int)) (V.i ((↑k : Int) + (1 : Int))), pv (8 : Nat) (V.i ((↑k : Int) + (1 : Int)))] (by kernel_rfl) (by kernel_rfl) ⟨(by omega), True.intro⟩ ?_
    refine aops_nil ?_
    refine xt_n ?_
    refine ⟨k + 1, by omega, le_ren [] (.cons rfl (.cons rfl (.cons rfl (.cons rfl .nil)))) .nil rfl rfl, by omega⟩
  · simp at h
    refine aw_exit ?_
    refine xt_x ?_
    refine xt_x ?_
    refine xb_same ?_
    refine xt_n ?_
    clear hK K
    refine hK _ ?_
    clear hK K
    refine aw_seq_k fun K hK => ?_
    refine w_region (n' := 3) (by kernel_rfl) (by kernel_rfl) ?_
    refine aops_n hTT (M := []) (n := 1) [pv (4 : Nat) (V.i (-1 : Int))] (by kernel_rfl) (by kernel_rfl) True.intro ?_
    refine aops_nil ?_
    refine xt_n ?_
    refine hK _ ?_
    clear hK K
    refine aw_ret ?_
    refine ret_pure (.inr rfl) rfl rfl rfl
set_option maxRecDepth 100000 in
theorem containsFunc_ac (l : List Int) (hl : l.length ≤ 65536) (hb : ∀ k, k < l.length → radB (gi l k) = false) : AC Try.prog 72 [V.ints l, .fn (.func 73) [] []] (.b false) [] := by
  refine ac_intro hTT hMX (fn := Try.f72) (N := _) ⟨Try.func72, rfl, Try.ntmps72, by kernel_rfl⟩ (by simp) fun C hC hF => ?_
  refine aw_seq_k fun K hK => ?_
  refine w_region (n' := 2) (by kernel_rfl) (by kernel_rfl) ?_
  refine aops_n hTT (M := []) (n := 1) [pv (4 : Nat) (V.b false)] (by kernel_rfl) (by kernel_rfl) True.intro ?_
  refine aops_nil ?_
  refine xt_n ?_
  refine hK _ ?_
  clear hK K
  refine aw_seq_k fun K hK => ?_
  refine w_region (n' := 3) (by kernel_rfl) (by kernel_rfl) ?_
  refine aops_n hTT (M := []) (n := 2) [pv (5 : Nat) (V.sl (1 : Nat) (List.length l) fun (k : Nat) => [V.i (gi l k)]), pv (6 : Nat) (V.fn (Fn.func (73 : Nat)) [] [])] (by kernel_rfl) (by kernel_rfl) True.intro ?_
  refine e_call (indexFunc_ac l hl hb) rfl rfl rfl rfl rfl ?_
  refine aops_n hTT (M := []) (n := 2) [pv (8 : Nat) (V.b false), pv (4 : Nat) (V.b false)] (by kernel_rfl) (by kernel_rfl) True.intro ?_
  refine aops_nil ?_
  refine xt_n ?_
  refine hK _ ?_
  clear hK K
  refine aw_ret ?_
  refine ret_pure (.inr rfl) rfl rfl rfl

def dropIn (l : List Pt) (radii : List Int) (x : Int) (i : Nat) : Bool := decide (gi radii i + (gp l i).1 ≤ x) && decide (x ≤ gi radii i + (gp l i).2)
def dropL (l : List Pt) (radii : List Int) (per angle : Nat) (x : Int) : Option Nat := (List.range l.length).find? fun i => decide (i % per = angle) && dropIn l radii x i
def dropI (l : List Pt) (radii : List Int) (per angle : Nat) (x : Int) : Int × Int := match dropL l radii per angle x with
  | some i => ((i : Int), 0)
  | none => (0, 5)
theorem mod_between {per angle i e : Nat} (hi : i % per = angle) (hp : 0 < per) (h0 : 0 < e) (h1 : e < per) : (i + e) % per ≠ angle := by
  have ha : angle < per := by rw [← hi]; exact Nat.mod_lt _ hp
  have e1 : (i + e) % per = (angle + e) % per := by rw [← hi, Nat.mod_add_mod]
  rw [e1]
  by_cases h : angle + e < per
  · rw [Nat.mod_eq_of_lt h]; omega
  · rw [Nat.mod_eq_sub_mod (by omega), Nat.mod_eq_of_lt (by omega)]; omega
theorem dropI_some {l : List Pt} {radii : List Int} {per angle : Nat} {x : Int} {i : Nat} (hi : i < l.length) (hm : i % per = angle) (hd : dropIn l radii x i = true) (h : ∀ j, j < i → (decide (j % per = angle) && dropIn l radii x j) = false) : dropI l radii per angle x = ((i : Int), 0) := by
  have : dropL l radii per angle x = some i := find_first hi (by simp [hm, hd]) h
  rw [dropI, this]
theorem dropI_none {l : List Pt} {radii : List Int} {per angle : Nat} {x : Int} (h : ∀ j, j < l.length → (decide (j % per = angle) && dropIn l radii x j) = false) : dropI l radii per angle x = (0, 5) := by
  have : dropL l radii per angle x = none := find_none h
  rw [dropI, this]
set_option maxRecDepth 100000 in
theorem Drop_ac (l : List Pt) (radii : List Int) (per angle : Nat) (x : Int) (h0 : checkPts l = 0) (hr : radii.length = l.length) (hb : ∀ k, k < radii.length → radB (gi radii k) = false) (hp : 1 ≤ per ∧ per ≤ 65536) (ha : angle < per) :
    AC Try.prog 37 [V.pts l, V.ints radii, .i per, .i angle, .i x] (.tup [.i (dropI l radii per angle x).1, .i (dropI l radii per angle x).2]) [] := by
  obtain ⟨m4, m5⟩ := checkPts_ok h0
  refine ac_intro hTT hMX (fn := Try.f37) (N := _) ⟨Try.func37, rfl, Try.ntmps37, by kernel_rfl⟩ (by simp) fun C hC hF => ?_
  refine aw_seq_k fun K hK => ?_
  refine w_region (n' := 2) (by kernel_rfl) (by kernel_rfl) ?_
  refine aops_n hTT (M := []) (n := 2) [pv (10 : Nat) (V.i (0 : Int)), pv (11 : Nat) (V.i (0 : Int))] (by kernel_rfl) (by kernel_rfl) True.intro ?_
  refine aops_nil ?_
  refine xt_n ?_
  refine hK _ ?_
  clear hK K
  refine aw_seq_k fun K hK => ?_
  refine aw_seq_k fun K hK => ?_
  refine w_region (n' := 3) (by kernel_rfl) (by kernel_rfl) ?_
  refine aops_n hTT (M := []) (n := 1) [pv (15 : Nat) (V.sl (2 : Nat) (List.length l) fun (k : Nat) => [V.i (Prod.fst (gp l k)), V.i (Prod.snd (gp l k))])] (by kernel_rfl) (by kernel_rfl) True.intro ?_
  refine e_call (checkPts_ac l (by omega)) rfl rfl rfl rfl rfl ?_
  refine aops_n hTT (M := []) (n := 1) [pv (12 : Nat) (V.i (checkPts l))] (by kernel_rfl) (by kernel_rfl) True.intro ?_
  refine aops_nil ?_
  refine xt_n ?_
  refine hK _ ?_
  clear hK K
  refine aw_seq_k fun K hK => ?_
  refine w_region (n' := 4) (by kernel_rfl) (by kernel_rfl) ?_
  refine aops_n hTT (M := []) (n := 2) [pv (17 : Nat) (V.i (checkPts l)), pv (18 : Nat) (V.b !decide (checkPts l = (0 : Int)))] (by kernel_rfl) (by kernel_rfl) True.intro ?_
  refine aops_nil ?_
  refine xt_n ?_
  refine hK _ ?_
  clear hK K
  refine w_cond rfl (fun h => ?_) (fun h => ?_)
  · simp [h0] at h
  refine aw_skip ?_
  refine xt_n ?_
  refine hK _ ?_
  clear hK K
  refine aw_seq_k fun K hK => ?_
  refine aw_block ?_
  refine aw_seq_k fun K hK => ?_
  refine w_region (n' := 5) (by kernel_rfl) (by kernel_rfl) ?_
  refine aops_n hTT (M := []) (n := 6) [pv (21 : Nat) (V.sl (1 : Nat) (List.length radii) fun (k : Nat) => [V.i (gi radii k)]), pv (22 : Nat) (V.i (↑(List.length radii) : Int)), pv (23 : Nat) (V.sl (2 : Nat) (List.length l) fun (k : Nat) => [V.i (Prod.fst (gp l k)), V.i (Prod.snd (gp l k))]), pv (24 : Nat) (V.i (↑(List.length l) : Int)), pv (25 : Nat) (V.b !decide ((↑(List.length radii) : Int) = (↑(List.length l) : Int))), pv (20 : Nat) (V.b !decide ((↑(List.length radii) : Int) = (↑(List.length l) : Int)))] (by kernel_rfl) (by kernel_rfl) True.intro ?_
  refine aops_nil ?_
  refine xt_n ?_
  refine hK _ ?_
  clear hK K
  refine w_cond rfl (fun h => ?_) (fun h => ?_)
  · simp [hr] at h
  refine aw_seq_k fun K hK => ?_
  refine w_region (n' := 6) (by kernel_rfl) (by kernel_rfl) ?_
  refine aops_n hTT (M := []) (n := 1) [pv (27 : Nat) (V.sl (1 : Nat) (List.length radii) fun (k : Nat) => [V.i (gi radii k)])] (by kernel_rfl) (by kernel_rfl) True.intro ?_
  refine e_call (containsFunc_ac radii (by omega) hb) rfl rfl rfl rfl rfl ?_
  refine aops_n hTT (M := []) (n := 1) [pv (26 : Nat) (V.b false)] (by kernel_rfl) (by kernel_rfl) True.intro ?_
  refine aops_nil ?_
  refine xt_n ?_
  refine hK _ ?_
  clear hK K
  refine w_false (t := false) (by kernel_rfl) rfl ?_
  refine aw_seq_k fun K hK => ?_
  refine w_region (n' := 7) (by kernel_rfl) (by kernel_rfl) ?_
  refine aops_n hTT (M := []) (n := 16) [pv (30 : Nat) (V.i (↑per : Int)), pv (31 : Nat) (V.b (decide ((↑per : Int) < (1 : Int)))), pv (32 : Nat) (V.b (decide ((↑per : Int) < (1 : Int)))), pc (33 : Nat) ((True ∧ True) ∧ ((decide ((↑per : Int) < (1 : Int)) == false) = true → True)) (V.gd (decide ((↑per : Int) < (1 : Int)) == false) (V.i (↑per : Int))), pc (34 : Nat) ((((decide ((↑per : Int) < (1 : Int)) == false) = true → (decide ((↑per : Int) < (1 : Int)) == false) = true) ∧ True ∧ True) ∧ ((decide ((↑per : Int) < (1 : Int)) == false) = true → True)) (V.gd (decide ((↑per : Int) < (1 : Int)) == false) (V.b (decide ((65536 : Int) < (↑per : Int))))), pc (35 : Nat) (True ∧ (decide ((↑per : Int) < (1 : Int)) = false → (decide ((↑per : Int) < (1 : Int)) == false) = true)) (V.b (decide ((↑per : Int) < (1 : Int)) || decide ((65536 : Int) < (↑per : Int)))), pv (36 : Nat) (V.b (decide ((↑per : Int) < (1 : Int)) || decide ((65536 : Int) < (↑per : Int)))), pc (37 : Nat) ((True ∧ True) ∧ (((decide ((↑per : Int) < (1 : Int)) || decide ((65536 : Int) < (↑per : Int))) == false) = true → True)) (V.gd ((decide ((↑per : Int) < (1 : Int)) || decide ((65536 : Int) < (↑per : Int))) == false) (V.i (↑angle : Int))), pc (38 : Nat) (((((decide ((↑per : Int) < (1 : Int)) || decide ((65536 : Int) < (↑per : Int))) == false) = true → ((decide ((↑per : Int) < (1 : Int)) || decide ((65536 : Int) < (↑per : Int))) == false) = true) ∧ True ∧ True) ∧ (((decide ((↑per : Int) < (1 : Int)) || decide ((65536 : Int) < (↑per : Int))) == false) = true → True)) (V.gd ((decide ((↑per : Int) < (1 : Int)) || decide ((65536 : Int) < (↑per : Int))) == false) (V.b (decide ((↑angle : Int) < (0 : Int))))), pc (39 : Nat) (True ∧ ((decide ((↑per : Int) < (1 : Int)) || decide ((65536 : Int) < (↑per : Int))) = false → ((decide ((↑per : Int) < (1 : Int)) || decide ((65536 : Int) < (↑per : Int))) == false) = true)) (V.b (decide ((↑per : Int) < (1 : Int)) || decide ((65536 : Int) < (↑per : Int)) || decide ((↑angle : Int) < (0 : Int)))), pv (40 : Nat) (V.b (decide ((↑per : Int) < (1 : Int)) || decide ((65536 : Int) < (↑per : Int)) || decide ((↑angle : Int) < (0 : Int)))), pc (41 : Nat) ((True ∧ True) ∧ (((decide ((↑per : Int) < (1 : Int)) || decide ((65536 : Int) < (↑per : Int)) || decide ((↑angle : Int) < (0 : Int))) == false) = true → True)) (V.gd ((decide ((↑per : Int) < (1 : Int)) || decide ((65536 : Int) < (↑per : Int)) || decide ((↑angle : Int) < (0 : Int))) == false) (V.i (↑angle : Int))), pc (42 : Nat) ((True ∧ True) ∧ (((decide ((↑per : Int) < (1 : Int)) || decide ((65536 : Int) < (↑per : Int)) || decide ((↑angle : Int) < (0 : Int))) == false) = true → True)) (V.gd ((decide ((↑per : Int) < (1 : Int)) || decide ((65536 : Int) < (↑per : Int)) || decide ((↑angle : Int) < (0 : Int))) == false) (V.i (↑per : Int))), pc (43 : Nat) (((((decide ((↑per : Int) < (1 : Int)) || decide ((65536 : Int) < (↑per : Int)) || decide ((↑angle : Int) < (0 : Int))) == false) = true → ((decide ((↑per : Int) < (1 : Int)) || decide ((65536 : Int) < (↑per : Int)) || decide ((↑angle : Int) < (0 : Int))) == false) = true) ∧ (((decide ((↑per : Int) < (1 : Int)) || decide ((65536 : Int) < (↑per : Int)) || decide ((↑angle : Int) < (0 : Int))) == false) = true → ((decide ((↑per : Int) < (1 : Int)) || decide ((65536 : Int) < (↑per : Int)) || decide ((↑angle : Int) < (0 : Int))) == false) = true) ∧ True) ∧ (((decide ((↑per : Int) < (1 : Int)) || decide ((65536 : Int) < (↑per : Int)) || decide ((↑angle : Int) < (0 : Int))) == false) = true → True)) (V.gd ((decide ((↑per : Int) < (1 : Int)) || decide ((65536 : Int) < (↑per : Int)) || decide ((↑angle : Int) < (0 : Int))) == false) (V.b (decide ((↑per : Int) ≤ (↑angle : Int))))), pc (44 : Nat) (True ∧ ((decide ((↑per : Int) < (1 : Int)) || decide ((65536 : Int) < (↑per : Int)) || decide ((↑angle : Int) < (0 : Int))) = false → ((decide ((↑per : Int) < (1 : Int)) || decide ((65536 : Int) < (↑per : Int)) || decide ((↑angle : Int) < (0 : Int))) == false) = true)) (V.b (decide ((↑per : Int) < (1 : Int)) || decide ((65536 : Int) < (↑per : Int)) || decide ((↑angle : Int) < (0 : Int)) || decide ((↑per : Int) ≤ (↑angle : Int)))), pv (29 : Nat) (V.b (decide ((↑per : Int) < (1 : Int)) || decide ((65536 : Int) < (↑per : Int)) || decide ((↑angle : Int) < (0 : Int)) || decide ((↑per : Int) ≤ (↑angle : Int))))] (by kernel_rfl) (by kernel_rfl) ⟨⟨⟨True.intro, True.intro⟩, (fun _ => True.intro)⟩, ⟨⟨(by (exact fun h => h)), ⟨True.intro, True.intro⟩⟩, (fun _ => True.intro)⟩, ⟨True.intro, (by (intro h; rw [h]; rfl))⟩, ⟨⟨True.intro, True.intro⟩, (fun _ => True.intro)⟩, ⟨⟨(by (exact fun h => h)), ⟨True.intro, True.intro⟩⟩, (fun _ => True.intro)⟩, ⟨True.intro, (by (intro h; rw [h]; rfl))⟩, ⟨⟨True.intro, True.intro⟩, (fun _ => True.intro)⟩, ⟨⟨True.intro, True.intro⟩, (fun _ => True.intro)⟩, ⟨⟨(by (exact fun h => h)), ⟨(by (exact fun h => h)), True.intro⟩⟩, (fun _ => True.intro)⟩, ⟨True.intro, (by (intro h; rw [h]; rfl))⟩, True.intro⟩ ?_
  refine aops_nil ?_
  refine xt_n ?_
  refine hK _ ?_
  clear hK K
  refine w_cond rfl (fun h => ?_) (fun h => ?_)
  · simp at h; omega
  refine aw_skip ?_
  refine xb_n ?_
  refine xt_n ?_
  refine hK _ ?_
  clear hK K
  refine aw_seq_k fun K hK => ?_
  refine aw_seq_k fun K hK => ?_
  refine w_region (n' := 8) (by kernel_rfl) (by kernel_rfl) ?_
  refine aops_n hTT (M := []) (n := 2) [pv (45 : Nat) (V.i (↑angle : Int)), pv (13 : Nat) (V.i (↑angle : Int))] (by kernel_rfl) (by kernel_rfl) True.intro ?_
  refine aops_nil ?_
  refine xt_n ?_
  refine hK _ ?_
  clear hK K
  refine aw_block ?_
  refine w_loop (fun i : Nat => [(0, V.pts l), (1, V.ints radii), (2, .i per), (4, .i x), (13, .i i)]) (fun _ => []) (fun i => i % per = angle ∧ ∀ j, j < i → (decide (j % per = angle) && dropIn l radii x j) = false) (fun i => l.length - i) angle ⟨Nat.mod_eq_of_lt ha, fun j hj => by simp [Nat.mod_eq_of_lt (show j < per by omega)]; omega⟩ ?_ ?_
  · exact le_ren [] (.cons rfl (.cons rfl (.cons rfl (.cons rfl (.cons rfl .nil))))) .nil rfl rfl
  rintro i ⟨hi, hbad⟩
  refine aw_seq_k fun K hK => ?_
  refine aw_seq_k fun K hK => ?_
  refine w_region (n' := 2) (by kernel_rfl) (by kernel_rfl) ?_
  refine aops_n hTT (M := []) (n := 4) [pv (46 : Nat) (V.i (↑i : Int)), pv (47 : Nat) (V.sl (2 : Nat) (List.length l) fun (k : Nat) => [V.i (Prod.fst (gp l k)), V.i (Prod.snd (gp l k))]), pv (48 : Nat) (V.i (↑(List.length l) : Int)), pv (49 : Nat) (V.b (decide ((↑i : Int) < (↑(List.length l) : Int))))] (by kernel_rfl) (by kernel_rfl) True.intro ?_
  refine aops_nil ?_
  refine xt_n ?_
  refine hK _ ?_
  clear hK K
  refine w_cond rfl (fun h => ?_) (fun h => ?_)
  · simp at h
    have b0 := gp_bd m5 i
    have b1 : -16777216 ≤ gi radii i ∧ gi radii i ≤ 16777216 := by
      have := hb i (by omega)
      simp [radB] at this
      simpa using this
    have hri : i < radii.length := by omega
    refine aw_skip ?_
    refine xt_n ?_
    refine hK _ ?_
    clear hK K
    refine aw_seq_k fun K hK => ?_
    refine aw_block ?_
    refine aw_seq_k fun K hK => ?_
    refine w_region (n' := 3) (by kernel_rfl) (by kernel_rfl) ?_
    refine aops_n hTT (M := []) (n := 5) [pv (53 : Nat) (V.sl (1 : Nat) (List.length radii) fun (k : Nat) => [V.i (gi radii k)]), pv (54 : Nat) (V.i (↑i : Int)), pc (55 : Nat) ((0 : Int) ≤ (↑i : Int) ∧ (↑i : Int) < (↑(List.length radii) : Int)) (V.ptr [V.i (gi radii i)]), pv (56 : Nat) (V.i (gi radii i)), pv (14 : Nat) (V.i (gi radii i))] (by kernel_rfl) (by kernel_rfl) ⟨(by omega), True.intro⟩ ?_
    refine aops_nil ?_
    refine xt_n ?_
    refine hK _ ?_
    clear hK K
    refine aw_seq_k fun K hK => ?_
    refine w_region (n' := 4) (by kernel_rfl) (by kernel_rfl) ?_
    refine aops_n hTT (M := []) (n := 20) [pv (57 : Nat) (V.i x), pv (58 : Nat) (V.i (gi radii i)), pv (59 : Nat) (V.sl (2 : Nat) (List.length l) fun (k : Nat) => [V.i (Prod.fst (gp l k)), V.i (Prod.snd (gp l k))]), pv (60 : Nat) (V.i (↑i : Int)), pc (61 : Nat) ((0 : Int) ≤ (↑i : Int) ∧ (↑i : Int) < (↑(List.length l) : Int)) (V.ptr [V.i (Prod.fst (gp l i)), V.i (Prod.snd (gp l i))]), pv (62 : Nat) (V.ptr [V.i (Prod.fst (gp l i)), V.i (Prod.snd (gp l i))]), pv (63 : Nat) (V.i (Prod.fst (gp l i))), pc (64 : Nat) ((-9223372036854775808 : Int) ≤ gi radii i + Prod.fst (gp l i) ∧ gi radii i + Prod.fst (gp l i) ≤ (9223372036854775807 : Int)) (V.i (gi radii i + Prod.fst (gp l i))), pv (65 : Nat) (V.b (decide (gi radii i + Prod.fst (gp l i) ≤ x))), pv (66 : Nat) (V.b (decide (gi radii i + Prod.fst (gp l i) ≤ x))), pc (67 : Nat) ((True ∧ True) ∧ ((decide (gi radii i + Prod.fst (gp l i) ≤ x) == true) = true → True)) (V.gd (decide (gi radii i + Prod.fst (gp l i) ≤ x) == true) (V.i x)), pc (68 : Nat) ((True ∧ True) ∧ ((decide (gi radii i + Prod.fst (gp l i) ≤ x) == true) = true → True)) (V.gd (decide (gi radii i + Prod.fst (gp l i) ≤ x) == true) (V.i (gi radii i))), pc (69 : Nat) ((True ∧ True) ∧ ((decide (gi radii i + Prod.fst (gp l i) ≤ x) == true) = true → True)) (V.gd (decide (gi radii i + Prod.fst (gp l i) ≤ x) == true) (V.sl (2 : Nat) (List.length l) fun (k : Nat) => [V.i (Prod.fst (gp l k)), V.i (Prod.snd (gp l k))])), pc (70 : Nat) ((True ∧ True) ∧ ((decide (gi radii i + Prod.fst (gp l i) ≤ x) == true) = true → True)) (V.gd (decide (gi radii i + Prod.fst (gp l i) ≤ x) == true) (V.i (↑i : Int))), pc (71 : Nat) ((((decide (gi radii i + Prod.fst (gp l i) ≤ x) == true) = true → (decide (gi radii i + Prod.fst (gp l i) ≤ x) == true) = true) ∧ ((decide (gi radii i + Prod.fst (gp l i) ≤ x) == true) = true → (decide (gi radii i + Prod.fst (gp l i) ≤ x) == true) = true) ∧ True) ∧ ((decide (gi radii i + Prod.fst (gp l i) ≤ x) == true) = true → (0 : Int) ≤ (↑i : Int) ∧ (↑i : Int) < (↑(List.length l) : Int))) (V.gd (decide (gi radii i + Prod.fst (gp l i) ≤ x) == true) (V.ptr [V.i (Prod.fst (gp l i)), V.i (Prod.snd (gp l i))])), pc (72 : Nat) ((((decide (gi radii i + Prod.fst (gp l i) ≤ x) == true) = true → (decide (gi radii i + Prod.fst (gp l i) ≤ x) == true) = true) ∧ True) ∧ ((decide (gi radii i + Prod.fst (gp l i) ≤ x) == true) = true → True)) (V.gd (decide (gi radii i + Prod.fst (gp l i) ≤ x) == true) (V.ptr [V.i (Prod.snd (gp l i))])), pc (73 : Nat) ((((decide (gi radii i + Prod.fst (gp l i) ≤ x) == true) = true → (decide (gi radii i + Prod.fst (gp l i) ≤ x) == true) = true) ∧ True) ∧ ((decide (gi radii i + Prod.fst (gp l i) ≤ x) == true) = true → True)) (V.gd (decide (gi radii i + Prod.fst (gp l i) ≤ x) == true) (V.i (Prod.snd (gp l i)))), pc (74 : Nat) ((((decide (gi radii i + Prod.fst (gp l i) ≤ x) == true) = true → (decide (gi radii i + Prod.fst (gp l i) ≤ x) == true) = true) ∧ ((decide (gi radii i + Prod.fst (gp l i) ≤ x) == true) = true → (decide (gi radii i + Prod.fst (gp l i) ≤ x) == true) = true) ∧ True) ∧ ((decide (gi radii i + Prod.fst (gp l i) ≤ x) == true) = true → (-9223372036854775808 : Int) ≤ gi radii i + Prod.snd (gp l i) ∧ gi radii i + Prod.snd (gp l i) ≤ (9223372036854775807 : Int))) (V.gd (decide (gi radii i + Prod.fst (gp l i) ≤ x) == true) (V.i (gi radii i + Prod.snd (gp l i)))), pc (75 : Nat) ((((decide (gi radii i + Prod.fst (gp l i) ≤ x) == true) = true → (decide (gi radii i + Prod.fst (gp l i) ≤ x) == true) = true) ∧ ((decide (gi radii i + Prod.fst (gp l i) ≤ x) == true) = true → (decide (gi radii i + Prod.fst (gp l i) ≤ x) == true) = true) ∧ True) ∧ ((decide (gi radii i + Prod.fst (gp l i) ≤ x) == true) = true → True)) (V.gd (decide (gi radii i + Prod.fst (gp l i) ≤ x) == true) (V.b (decide (x ≤ gi radii i + Prod.snd (gp l i))))), pc (76 : Nat) ((decide (gi radii i + Prod.fst (gp l i) ≤ x) = true → (decide (gi radii i + Prod.fst (gp l i) ≤ x) == true) = true) ∧ True) (V.b (decide (gi radii i + Prod.fst (gp l i) ≤ x) && decide (x ≤ gi radii i + Prod.snd (gp l i))))] (by kernel_rfl) (by kernel_rfl) ⟨(by omega), (by omega), ⟨⟨True.intro, True.intro⟩, (fun _ => True.intro)⟩, ⟨⟨True.intro, True.intro⟩, (fun _ => True.intro)⟩, ⟨⟨True.intro, True.intro⟩, (fun _ => True.intro)⟩, ⟨⟨True.intro, True.intro⟩, (fun _ => True.intro)⟩, ⟨⟨(by (exact fun h => h)), ⟨(by (exact fun h => h)), True.intro⟩⟩, (by (intro hg; simp at hg; omega))⟩, ⟨⟨(by (exact fun h => h)), True.intro⟩, (fun _ => True.intro)⟩, ⟨⟨(by (exact fun h => h)), True.intro⟩, (fun _ => True.intro)⟩, ⟨⟨(by (exact fun h => h)), ⟨(by (exact fun h => h)), True.intro⟩⟩, (by (intro hg; simp at hg; omega))⟩, ⟨⟨(by (exact fun h => h)), ⟨(by (exact fun h => h)), True.intro⟩⟩, (fun _ => True.intro)⟩, ⟨(by (intro h; rw [h]; rfl)), True.intro⟩, True.intro⟩ ?_
    refine aops_nil ?_
    refine xt_n ?_
    refine hK _ ?_
    clear hK K
    refine w_cond rfl (fun h2 => ?_) (fun h2 => ?_)
    ·
      refine aw_seq_k fun K hK => ?_
      refine w_region (n' := 5) (by kernel_rfl) (by kernel_rfl) ?_
      refine aops_n hTT (M := []) (n := 3) [pv (77 : Nat) (V.i (↑i : Int)), pv (10 : Nat) (V.i (↑i : Int)), pv (11 : Nat) (V.i (0 : Int))] (by kernel_rfl) (by kernel_rfl) True.intro ?_
      refine aops_nil ?_
      refine xt_n ?_
      refine hK _ ?_
      clear hK K
      refine aw_ret ?_
      refine xb_r ?_
      refine xt_r ?_
      refine xt_r ?_
      refine xb_r ?_
      refine xt_r ?_
      rw [dropI_some h hi h2 hbad]
      refine ret_pure (.inr rfl) rfl rfl rfl
    ·
      refine aw_skip ?_
      refine xb_n ?_
      refine xt_n ?_
      refine hK _ ?_
      clear hK K
      refine w_region (n' := 5) (by kernel_rfl) (by kernel_rfl) ?_
      refine aops_n hTT (M := []) (n := 4) [pv (50 : Nat) (V.i (↑i : Int)), pv (51 : Nat) (V.i (↑per : Int)), pc (52 : Nat) ((-9223372036854775808 : Int) ≤ (↑i : Int) + (↑per : Int) ∧ (↑i : Int) + (↑per : Int) ≤ (9223372036854775807 : Int)) (V.i ((↑i : Int) + (↑per : Int))), pv (13 : Nat) (V.i ((↑i : Int) + (↑per : Int)))] (by kernel_rfl) (by kernel_rfl) ⟨(by omega), True.intro⟩ ?_
      refine aops_nil ?_
      refine xt_n ?_
      refine ⟨i + per, ⟨by simpa using hi, fun j hj => ?_⟩, le_ren [] (.cons rfl (.cons rfl (.cons rfl (.cons rfl (.cons rfl .nil))))) .nil rfl rfl, by omega⟩
      by_cases h3 : j < i
      · exact hbad j h3
      · by_cases h4 : j = i
        · subst h4
          have : dropIn l radii x j = false := h2
          simp [this]
        · have := mod_between (e := j - i) hi (by omega) (by omega) (by omega)
          rw [show i + (j - i) = j by omega] at this
          simp [this]
  · simp at h
    refine aw_exit ?_
    refine xt_x ?_
    refine xt_x ?_
    refine xb_same ?_
    refine xt_n ?_
    clear hK K
    refine hK _ ?_
    clear hK K
    refine aw_seq_k fun K hK => ?_
    refine w_region (n' := 3) (by kernel_rfl) (by kernel_rfl) ?_
    refine aops_n hTT (M := []) (n := 2) [pv (10 : Nat) (V.i (0 : Int)), pv (11 : Nat) (V.i (5 : Int))] (by kernel_rfl) (by kernel_rfl) True.intro ?_
    refine aops_nil ?_
    refine xt_n ?_
    refine hK _ ?_
    clear hK K
    refine aw_ret ?_
    rw [dropI_none fun j hj => hbad j (by omega)]
    refine ret_pure (.inr rfl) rfl rfl rfl
end Go.Proofs.Ytlfaaddoemcokaa
