/-
  Where a tip lands: the walk of play.Drop. Conditions: a valid groove, radii in range, a valid turn.
-/
import Derived.Test.YtlfaaddoemcokaaPC
namespace Go.Proofs.Ytlfaaddoemcokaa
open Go.Ab Go.RowKit Go.Dw Go.Shelf

theorem checkPts_ac (l : List Pt) (hl : l.length ≤ 4611686018427387904) : AC Try.prog 60 [V.pts l] (.i (checkPts l)) [] := by
  refine ac_of_flat (enters_of Try.func60 (by kernel_rfl) rfl) fun L w vs hL hvs => ?_
  obtain ⟨vs⟩ := vs
  obtain ⟨x1, e1, q1⟩ := hvs.get (i := 0) rfl
  obtain ⟨A, c, rfl, _, ha⟩ := R_pts_inv q1 hL
  have hn := hvs.1
  have hvs' : vs = [.slice A l.length c] := by
    match vs, hn with
    | [a], _ => simp at e1; subst e1; rfl
  subst hvs'
  exact checkPts_calls A _ c l w ha hl
def radB (r : Int) : Bool := decide (r < -16777216) || decide (16777216 < r)
set_option maxRecDepth 100000 in
theorem drop1_ac (r : Int) : AC Try.prog 73 [.i r] (.b (radB r)) [] := by
  refine ac_intro hTT hMX (fn := Try.f73) (N := _) ⟨Try.func73, rfl, Try.ntmps73, by kernel_rfl⟩ (by simp) fun C hC hF => ?_
  refine aw_seq_k fun K hK => ?_
  refine w_region (n' := 2) (by kernel_rfl) (by kernel_rfl) ?_
  refine aops_n hTT (M := []) (n := 1) [pv (2 : Nat) (V.b false)] (by kernel_rfl) (by kernel_rfl) True.intro ?_
  refine aops_nil ?_
  refine xt_n ?_
  refine hK _ ?_
  clear hK K
  refine aw_seq_k fun K hK => ?_
  refine w_region (n' := 3) (by kernel_rfl) (by kernel_rfl) ?_
  refine aops_n hTT (M := []) (n := 7) [pv (3 : Nat) (V.i r), pv (4 : Nat) (V.b (decide (r < (-16777216 : Int)))), pv (5 : Nat) (V.b (decide (r < (-16777216 : Int)))), pc (6 : Nat) ((True ∧ True) ∧ ((decide (r < (-16777216 : Int)) == false) = true → True)) (V.gd (decide (r < (-16777216 : Int)) == false) (V.i r)), pc (7 : Nat) ((((decide (r < (-16777216 : Int)) == false) = true → (decide (r < (-16777216 : Int)) == false) = true) ∧ True ∧ True) ∧ ((decide (r < (-16777216 : Int)) == false) = true → True)) (V.gd (decide (r < (-16777216 : Int)) == false) (V.b (decide ((16777216 : Int) < r)))), pc (8 : Nat) (True ∧ (decide (r < (-16777216 : Int)) = false → (decide (r < (-16777216 : Int)) == false) = true)) (V.b (decide (r < (-16777216 : Int)) || decide ((16777216 : Int) < r))), pv (2 : Nat) (V.b (decide (r < (-16777216 : Int)) || decide ((16777216 : Int) < r)))] (by kernel_rfl) (by kernel_rfl) ⟨⟨⟨True.intro, True.intro⟩, (fun _ => True.intro)⟩, ⟨⟨(by (exact fun h => h)), ⟨True.intro, True.intro⟩⟩, (fun _ => True.intro)⟩, ⟨True.intro, (by (intro h; rw [h]; rfl))⟩, True.intro⟩ ?_
  refine aops_nil ?_
  refine xt_n ?_
  refine hK _ ?_
  clear hK K
  refine aw_ret ?_
  refine ret_pure (.inr rfl) rfl rfl rfl
def dropIn (l : List Pt) (radii : List Int) (x : Int) (i : Nat) : Bool := decide (gi radii i + (gp l i).1 ≤ x) && decide (x ≤ gi radii i + (gp l i).2)
def dropL (l : List Pt) (radii : List Int) (per angle : Nat) (x : Int) : Option Nat := (List.range l.length).find? fun i => decide (i % per = angle) && dropIn l radii x i
def dropI (l : List Pt) (radii : List Int) (per angle : Nat) (x : Int) : Int × Int := match dropL l radii per angle x with
  | some i => ((i : Int), 0)
  | none => (0, 5)
theorem mod_between {per angle i e : Nat} (hi : i % per = angle) (hp : 0 < per) (h0 : 0 < e) (h1 : e < per) : (i + e) % per ≠ angle := by
  have ha : angle < per := by rw [← hi]; exact Nat.mod_lt _ hp
  have e1 : (i + e) % per = (angle + e) % per := by rw [← hi, Nat.mod_add_mod]
  rw [e1]
  by_cases h : angle + e < per
  · rw [Nat.mod_eq_of_lt h]; omega
  · rw [Nat.mod_eq_sub_mod (by omega), Nat.mod_eq_of_lt (by omega)]; omega
theorem dropI_some {l : List Pt} {radii : List Int} {per angle : Nat} {x : Int} {i : Nat} (hi : i < l.length) (hm : i % per = angle) (hd : dropIn l radii x i = true) (h : ∀ j, j < i → (decide (j % per = angle) && dropIn l radii x j) = false) : dropI l radii per angle x = ((i : Int), 0) := by
  have : dropL l radii per angle x = some i := find_first hi (by simp [hm, hd]) h
  rw [dropI, this]
theorem dropI_none {l : List Pt} {radii : List Int} {per angle : Nat} {x : Int} (h : ∀ j, j < l.length → (decide (j % per = angle) && dropIn l radii x j) = false) : dropI l radii per angle x = (0, 5) := by
  have : dropL l radii per angle x = none := find_none h
  rw [dropI, this]
end Go.Proofs.Ytlfaaddoemcokaa
