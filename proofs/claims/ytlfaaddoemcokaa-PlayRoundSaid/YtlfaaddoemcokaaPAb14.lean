/-
  Where a tip leaves its groove, the best arm, where it lands: the walks of the reference. Conditions: told in each theorem.
-/
import Derived.Test.YtlfaaddoemcokaaPAb7
import Derived.Test.YtlfaaddoemcokaaPAb13
import Derived.Test.YtlfaaddoemcokaaMD
namespace Go.Proofs.Ytlfaaddoemcokaa
open Go.Ab Go.RowKit Go.Dw Go.Shelf

theorem appRow_lt {n i : Nat} {r r' : Nat → List V} (h : i < n) : appRow n r r' i = r i := by simp [appRow, h]
theorem appRow_at {n : Nat} {r r' : Nat → List V} : appRow n r r' n = r' 0 := by simp [appRow]
theorem refCheckPts_ac (l : List Pt) (hl : l.length ≤ 4611686018427387904) : AC Try.prog 28 [V.pts l] (.i (checkPts l)) [] := by
  refine ac_of_flat (enters_of Try.func28 (by kernel_rfl) rfl) fun L w vs hL hvs => ?_
  obtain ⟨vs⟩ := vs
  obtain ⟨x1, e1, q1⟩ := hvs.get (i := 0) rfl
  obtain ⟨A, c, rfl, _, ha⟩ := R_pts_inv q1 hL
  have hn := hvs.1
  have hvs' : vs = [.slice A l.length c] := by
    match vs, hn with
    | [a], _ => simp at e1; subst e1; rfl
  subst hvs'
  exact refCheckPts_calls A _ c l w ha hl
/-! ### arms -/
def armB (h s : Int) : Bool := decide (0 ≤ h) && decide (h ≤ 67108864) && decide (-67108864 ≤ s) && decide (s ≤ 67108864)
theorem armB_iff {h s : Int} : armB h s = true ↔ 0 ≤ h ∧ h ≤ 67108864 ∧ -67108864 ≤ s ∧ s ≤ 67108864 := by simp [armB]; omega
set_option maxRecDepth 100000 in
theorem checkArm_ac (h s : Int) : AC Try.prog 29 [.agg [.i h, .i s]] (.b (armB h s)) [] := by
  refine ac_intro hTT hMX (fn := Try.f29) (N := _) ⟨Try.func29, rfl, Try.ntmps29, by kernel_rfl⟩ (by simp) fun C hC hF => ?_
  refine aw_seq_k fun K hK => ?_
  refine w_region (n' := 2) (by kernel_rfl) (by kernel_rfl) ?_
  refine aops_n hTT (M := []) (n := 2) [pv (1 : Nat) (V.ptr [V.i h, V.i s]), pv (2 : Nat) (V.b false)] (by kernel_rfl) (by kernel_rfl) True.intro ?_
  refine aops_nil ?_
  refine xt_n ?_
  refine hK _ ?_
  clear hK K
  refine aw_seq_k fun K hK => ?_
  refine w_region (n' := 3) (by kernel_rfl) (by kernel_rfl) ?_
  refine aops_n hTT (M := []) (n := 19) [pv (3 : Nat) (V.ptr [V.i h, V.i s]), pv (4 : Nat) (V.i h), pv (5 : Nat) (V.b (decide ((0 : Int) ≤ h))), pv (6 : Nat) (V.b (decide ((0 : Int) ≤ h))), pc (7 : Nat) ((True ∧ True) ∧ ((decide ((0 : Int) ≤ h) == true) = true → True)) (V.gd (decide ((0 : Int) ≤ h) == true) (V.ptr [V.i h, V.i s])), pc (8 : Nat) ((((decide ((0 : Int) ≤ h) == true) = true → (decide ((0 : Int) ≤ h) == true) = true) ∧ True) ∧ ((decide ((0 : Int) ≤ h) == true) = true → True)) (V.gd (decide ((0 : Int) ≤ h) == true) (V.i h)), pc (9 : Nat) ((((decide ((0 : Int) ≤ h) == true) = true → (decide ((0 : Int) ≤ h) == true) = true) ∧ True ∧ True) ∧ ((decide ((0 : Int) ≤ h) == true) = true → True)) (V.gd (decide ((0 : Int) ≤ h) == true) (V.b (decide (h ≤ (67108864 : Int))))), pc (10 : Nat) ((decide ((0 : Int) ≤ h) = true → (decide ((0 : Int) ≤ h) == true) = true) ∧ True) (V.b (decide ((0 : Int) ≤ h) && decide (h ≤ (67108864 : Int)))), pv (11 : Nat) (V.b (decide ((0 : Int) ≤ h) && decide (h ≤ (67108864 : Int)))), pc (12 : Nat) ((True ∧ True) ∧ (((decide ((0 : Int) ≤ h) && decide (h ≤ (67108864 : Int))) == true) = true → True)) (V.gd ((decide ((0 : Int) ≤ h) && decide (h ≤ (67108864 : Int))) == true) (V.ptr [V.i s])), pc (13 : Nat) (((((decide ((0 : Int) ≤ h) && decide (h ≤ (67108864 : Int))) == true) = true → ((decide ((0 : Int) ≤ h) && decide (h ≤ (67108864 : Int))) == true) = true) ∧ True) ∧ (((decide ((0 : Int) ≤ h) && decide (h ≤ (67108864 : Int))) == true) = true → True)) (V.gd ((decide ((0 : Int) ≤ h) && decide (h ≤ (67108864 : Int))) == true) (V.i s)), pc (14 : Nat) (((((decide ((0 : Int) ≤ h) && decide (h ≤ (67108864 : Int))) == true) = true → ((decide ((0 : Int) ≤ h) && decide (h ≤ (67108864 : Int))) == true) = true) ∧ True ∧ True) ∧ (((decide ((0 : Int) ≤ h) && decide (h ≤ (67108864 : Int))) == true) = true → True)) (V.gd ((decide ((0 : Int) ≤ h) && decide (h ≤ (67108864 : Int))) == true) (V.b (decide ((-67108864 : Int) ≤ s)))), pc (15 : Nat) (((decide ((0 : Int) ≤ h) && decide (h ≤ (67108864 : Int))) = true → ((decide ((0 : Int) ≤ h) && decide (h ≤ (67108864 : Int))) == true) = true) ∧ True) (V.b (decide ((0 : Int) ≤ h) && decide (h ≤ (67108864 : Int)) && decide ((-67108864 : Int) ≤ s))), pv (16 : Nat) (V.b (decide ((0 : Int) ≤ h) && decide (h ≤ (67108864 : Int)) && decide ((-67108864 : Int) ≤ s))), pc (17 : Nat) ((True ∧ True) ∧ (((decide ((0 : Int) ≤ h) && decide (h ≤ (67108864 : Int)) && decide ((-67108864 : Int) ≤ s)) == true) = true → True)) (V.gd ((decide ((0 : Int) ≤ h) && decide (h ≤ (67108864 : Int)) && decide ((-67108864 : Int) ≤ s)) == true) (V.ptr [V.i s])), pc (18 : Nat) (((((decide ((0 : Int) ≤ h) && decide (h ≤ (67108864 : Int)) && decide ((-67108864 : Int) ≤ s)) == true) = true → ((decide ((0 : Int) ≤ h) && decide (h ≤ (67108864 : Int)) && decide ((-67108864 : Int) ≤ s)) == true) = true) ∧ True) ∧ (((decide ((0 : Int) ≤ h) && decide (h ≤ (67108864 : Int)) && decide ((-67108864 : Int) ≤ s)) == true) = true → True)) (V.gd ((decide ((0 : Int) ≤ h) && decide (h ≤ (67108864 : Int)) && decide ((-67108864 : Int) ≤ s)) == true) (V.i s)), pc (19 : Nat) (((((decide ((0 : Int) ≤ h) && decide (h ≤ (67108864 : Int)) && decide ((-67108864 : Int) ≤ s)) == true) = true → ((decide ((0 : Int) ≤ h) && decide (h ≤ (67108864 : Int)) && decide ((-67108864 : Int) ≤ s)) == true) = true) ∧ True ∧ True) ∧ (((decide ((0 : Int) ≤ h) && decide (h ≤ (67108864 : Int)) && decide ((-67108864 : Int) ≤ s)) == true) = true → True)) (V.gd ((decide ((0 : Int) ≤ h) && decide (h ≤ (67108864 : Int)) && decide ((-67108864 : Int) ≤ s)) == true) (V.b (decide (s ≤ (67108864 : Int))))), pc (20 : Nat) (((decide ((0 : Int) ≤ h) && decide (h ≤ (67108864 : Int)) && decide ((-67108864 : Int) ≤ s)) = true → ((decide ((0 : Int) ≤ h) && decide (h ≤ (67108864 : Int)) && decide ((-67108864 : Int) ≤ s)) == true) = true) ∧ True) (V.b (decide ((0 : Int) ≤ h) && decide (h ≤ (67108864 : Int)) && decide ((-67108864 : Int) ≤ s) && decide (s ≤ (67108864 : Int)))), pv (2 : Nat) (V.b (decide ((0 : Int) ≤ h) && decide (h ≤ (67108864 : Int)) && decide ((-67108864 : Int) ≤ s) && decide (s ≤ (67108864 : Int))))] (by kernel_rfl) (by kernel_rfl) ⟨⟨⟨True.intro, True.intro⟩, (fun _ => True.intro)⟩, ⟨⟨(by (exact fun h => h)), True.intro⟩, (fun _ => True.intro)⟩, ⟨⟨(by (exact fun h => h)), ⟨True.intro, True.intro⟩⟩, (fun _ => True.intro)⟩, ⟨(by (intro h; rw [h]; rfl)), True.intro⟩, ⟨⟨True.intro, True.intro⟩, (fun _ => True.intro)⟩, ⟨⟨(by (exact fun h => h)), True.intro⟩, (fun _ => True.intro)⟩, ⟨⟨(by (exact fun h => h)), ⟨True.intro, True.intro⟩⟩, (fun _ => True.intro)⟩, ⟨(by (intro h; rw [h]; rfl)), True.intro⟩, ⟨⟨True.intro, True.intro⟩, (fun _ => True.intro)⟩, ⟨⟨(by (exact fun h => h)), True.intro⟩, (fun _ => True.intro)⟩, ⟨⟨(by (exact fun h => h)), ⟨True.intro, True.intro⟩⟩, (fun _ => True.intro)⟩, ⟨(by (intro h; rw [h]; rfl)), True.intro⟩, True.intro⟩ ?_
  refine aops_nil ?_
  refine xt_n ?_
  refine hK _ ?_
  clear hK K
  refine aw_ret ?_
  refine ret_pure (v' := V.b (decide ((0 : Int) ≤ h) && decide (h ≤ (67108864 : Int)) && decide ((-67108864 : Int) ≤ s) && decide (s ≤ (67108864 : Int)))) (.inr rfl) (by kernel_rfl) (by kernel_rfl) (by kernel_rfl)
theorem bend_bd {l : List Pt} (hl : Bd l) {i : Nat} (h0 : 0 < i) (h1 : i + 1 < l.length) : -33554432 ≤ bendAt l i ∧ bendAt l i ≤ 33554432 := by
  have a := (forall_gp.1 hl) (i - 1) (by omega)
  have b := (forall_gp.1 hl) i (by omega)
  have c := (forall_gp.1 hl) (i + 1) h1
  unfold bendAt; omega
set_option maxRecDepth 100000 in
theorem bendRef_ac (l : List Pt) (i : Nat) (hl : l.length ≤ 4096) (hb : Bd l) (h0 : 0 < i) (h1 : i + 1 < l.length) : AC Try.prog 31 [V.pts l, .i i] (.i (bendAt l i)) [] := by
  have b0 := gp_bd hb (i - 1)
  have b1 := gp_bd hb i
  have b2 := gp_bd hb (i + 1)
  have e1 : ((i : Int) - 1).toNat = i - 1 := by omega
  refine ac_intro hTT hMX (fn := Try.f31) (N := _) ⟨Try.func31, rfl, Try.ntmps31, by kernel_rfl⟩ (by simp) fun C hC hF => ?_
  rw [← e1] at b0
  refine aw_seq_k fun K hK => ?_
  refine w_region (n' := 2) (by kernel_rfl) (by kernel_rfl) ?_
  refine aops_n hTT (M := []) (n := 1) [pv (4 : Nat) (V.i (0 : Int))] (by kernel_rfl) (by kernel_rfl) True.intro ?_
  refine aops_nil ?_
  refine xt_n ?_
  refine hK _ ?_
  clear hK K
  refine aw_seq_k fun K hK => ?_
  refine w_regionD (n' := 3) (by kernel_rfl) (by kernel_rfl) ?_
  refine aops_n hTT (M := []) (n := 41) [pv (5 : Nat) (V.sl (2 : Nat) (List.length l) fun (k : Nat) => [V.i (Prod.fst (gp l k)), V.i (Prod.snd (gp l k))]), pv (6 : Nat) (V.i (↑i : Int)), pc (7 : Nat) ((-9223372036854775808 : Int) ≤ (↑i : Int) - (1 : Int) ∧ (↑i : Int) - (1 : Int) ≤ (9223372036854775807 : Int)) (V.i ((↑i : Int) - (1 : Int))), pc (8 : Nat) ((0 : Int) ≤ (↑i : Int) - (1 : Int) ∧ (↑i : Int) - (1 : Int) < (↑(List.length l) : Int)) (V.ptr [V.i (Prod.fst (gp l (Int.toNat ((↑i : Int) - (1 : Int))))), V.i (Prod.snd (gp l (Int.toNat ((↑i : Int) - (1 : Int)))))]), pv (9 : Nat) (V.ptr [V.i (Prod.fst (gp l (Int.toNat ((↑i : Int) - (1 : Int))))), V.i (Prod.snd (gp l (Int.toNat ((↑i : Int) - (1 : Int)))))]), pv (10 : Nat) (V.i (Prod.fst (gp l (Int.toNat ((↑i : Int) - (1 : Int)))))), pv (11 : Nat) (V.sl (2 : Nat) (List.length l) fun (k : Nat) => [V.i (Prod.fst (gp l k)), V.i (Prod.snd (gp l k))]), pv (12 : Nat) (V.i (↑i : Int)), pc (13 : Nat) ((-9223372036854775808 : Int) ≤ (↑i : Int) - (1 : Int) ∧ (↑i : Int) - (1 : Int) ≤ (9223372036854775807 : Int)) (V.i ((↑i : Int) - (1 : Int))), pc (14 : Nat) ((0 : Int) ≤ (↑i : Int) - (1 : Int) ∧ (↑i : Int) - (1 : Int) < (↑(List.length l) : Int)) (V.ptr [V.i (Prod.fst (gp l (Int.toNat ((↑i : Int) - (1 : Int))))), V.i (Prod.snd (gp l (Int.toNat ((↑i : Int) - (1 : Int)))))]), pv (15 : Nat) (V.ptr [V.i (Prod.snd (gp l (Int.toNat ((↑i : Int) - (1 : Int)))))]), pv (16 : Nat) (V.i (Prod.snd (gp l (Int.toNat ((↑i : Int) - (1 : Int)))))), pc (17 : Nat) ((-9223372036854775808 : Int) ≤ Prod.fst (gp l (Int.toNat ((↑i : Int) - (1 : Int)))) + Prod.snd (gp l (Int.toNat ((↑i : Int) - (1 : Int)))) ∧ Prod.fst (gp l (Int.toNat ((↑i : Int) - (1 : Int)))) + Prod.snd (gp l (Int.toNat ((↑i : Int) - (1 : Int)))) ≤ (9223372036854775807 : Int)) (V.i (Prod.fst (gp l (Int.toNat ((↑i : Int) - (1 : Int)))) + Prod.snd (gp l (Int.toNat ((↑i : Int) - (1 : Int)))))), pv (18 : Nat) (V.sl (2 : Nat) (List.length l) fun (k : Nat) => [V.i (Prod.fst (gp l k)), V.i (Prod.snd (gp l k))]), pv (19 : Nat) (V.i (↑i : Int)), pc (20 : Nat) ((-9223372036854775808 : Int) ≤ (↑i : Int) + (1 : Int) ∧ (↑i : Int) + (1 : Int) ≤ (9223372036854775807 : Int)) (V.i ((↑i : Int) + (1 : Int))), pc (21 : Nat) ((0 : Int) ≤ (↑i : Int) + (1 : Int) ∧ (↑i : Int) + (1 : Int) < (↑(List.length l) : Int)) (V.ptr [V.i (Prod.fst (gp l (i + (1 : Nat)))), V.i (Prod.snd (gp l (i + (1 : Nat))))]), pv (22 : Nat) (V.ptr [V.i (Prod.fst (gp l (i + (1 : Nat)))), V.i (Prod.snd (gp l (i + (1 : Nat))))]), pv (23 : Nat) (V.i (Prod.fst (gp l (i + (1 : Nat))))), pc (24 : Nat) ((-9223372036854775808 : Int) ≤ Prod.fst (gp l (Int.toNat ((↑i : Int) - (1 : Int)))) + Prod.snd (gp l (Int.toNat ((↑i : Int) - (1 : Int)))) + Prod.fst (gp l (i + (1 : Nat))) ∧ Prod.fst (gp l (Int.toNat ((↑i : Int) - (1 : Int)))) + Prod.snd (gp l (Int.toNat ((↑i : Int) - (1 : Int)))) + Prod.fst (gp l (i + (1 : Nat))) ≤ (9223372036854775807 : Int)) (V.i (Prod.fst (gp l (Int.toNat ((↑i : Int) - (1 : Int)))) + Prod.snd (gp l (Int.toNat ((↑i : Int) - (1 : Int)))) + Prod.fst (gp l (i + (1 : Nat))))), pv (25 : Nat) (V.sl (2 : Nat) (List.length l) fun (k : Nat) => [V.i (Prod.fst (gp l k)), V.i (Prod.snd (gp l k))]), pv (26 : Nat) (V.i (↑i : Int)), pc (27 : Nat) ((-9223372036854775808 : Int) ≤ (↑i : Int) + (1 : Int) ∧ (↑i : Int) + (1 : Int) ≤ (9223372036854775807 : Int)) (V.i ((↑i : Int) + (1 : Int))), pc (28 : Nat) ((0 : Int) ≤ (↑i : Int) + (1 : Int) ∧ (↑i : Int) + (1 : Int) < (↑(List.length l) : Int)) (V.ptr [V.i (Prod.fst (gp l (i + (1 : Nat)))), V.i (Prod.snd (gp l (i + (1 : Nat))))]), pv (29 : Nat) (V.ptr [V.i (Prod.snd (gp l (i + (1 : Nat))))]), pv (30 : Nat) (V.i (Prod.snd (gp l (i + (1 : Nat))))), pc (31 : Nat) ((-9223372036854775808 : Int) ≤ Prod.fst (gp l (Int.toNat ((↑i : Int) - (1 : Int)))) + Prod.snd (gp l (Int.toNat ((↑i : Int) - (1 : Int)))) + Prod.fst (gp l (i + (1 : Nat))) + Prod.snd (gp l (i + (1 : Nat))) ∧ Prod.fst (gp l (Int.toNat ((↑i : Int) - (1 : Int)))) + Prod.snd (gp l (Int.toNat ((↑i : Int) - (1 : Int)))) + Prod.fst (gp l (i + (1 : Nat))) + Prod.snd (gp l (i + (1 : Nat))) ≤ (9223372036854775807 : Int)) (V.i (Prod.fst (gp l (Int.toNat ((↑i : Int) - (1 : Int)))) + Prod.snd (gp l (Int.toNat ((↑i : Int) - (1 : Int)))) + Prod.fst (gp l (i + (1 : Nat))) + Prod.snd (gp l (i + (1 : Nat))))), pv (32 : Nat) (V.sl (2 : Nat) (List.length l) fun (k : Nat) => [V.i (Prod.fst (gp l k)), V.i (Prod.snd (gp l k))]), pv (33 : Nat) (V.i (↑i : Int)), pc (34 : Nat) ((0 : Int) ≤ (↑i : Int) ∧ (↑i : Int) < (↑(List.length l) : Int)) (V.ptr [V.i (Prod.fst (gp l i)), V.i (Prod.snd (gp l i))]), pv (35 : Nat) (V.ptr [V.i (Prod.fst (gp l i)), V.i (Prod.snd (gp l i))]), pv (36 : Nat) (V.i (Prod.fst (gp l i))), pv (37 : Nat) (V.sl (2 : Nat) (List.length l) fun (k : Nat) => [V.i (Prod.fst (gp l k)), V.i (Prod.snd (gp l k))]), pv (38 : Nat) (V.i (↑i : Int)), pc (39 : Nat) ((0 : Int) ≤ (↑i : Int) ∧ (↑i : Int) < (↑(List.length l) : Int)) (V.ptr [V.i (Prod.fst (gp l i)), V.i (Prod.snd (gp l i))]), pv (40 : Nat) (V.ptr [V.i (Prod.snd (gp l i))]), pv (41 : Nat) (V.i (Prod.snd (gp l i))), pc (42 : Nat) ((-9223372036854775808 : Int) ≤ Prod.fst (gp l i) + Prod.snd (gp l i) ∧ Prod.fst (gp l i) + Prod.snd (gp l i) ≤ (9223372036854775807 : Int)) (V.i (Prod.fst (gp l i) + Prod.snd (gp l i))), pc (43 : Nat) ((-9223372036854775808 : Int) ≤ (2 : Int) * (Prod.fst (gp l i) + Prod.snd (gp l i)) ∧ (2 : Int) * (Prod.fst (gp l i) + Prod.snd (gp l i)) ≤ (9223372036854775807 : Int)) (V.i ((2 : Int) * (Prod.fst (gp l i) + Prod.snd (gp l i)))), pc (44 : Nat) ((-9223372036854775808 : Int) ≤ Prod.fst (gp l (Int.toNat ((↑i : Int) - (1 : Int)))) + Prod.snd (gp l (Int.toNat ((↑i : Int) - (1 : Int)))) + Prod.fst (gp l (i + (1 : Nat))) + Prod.snd (gp l (i + (1 : Nat))) - (2 : Int) * (Prod.fst (gp l i) + Prod.snd (gp l i)) ∧ Prod.fst (gp l (Int.toNat ((↑i : Int) - (1 : Int)))) + Prod.snd (gp l (Int.toNat ((↑i : Int) - (1 : Int)))) + Prod.fst (gp l (i + (1 : Nat))) + Prod.snd (gp l (i + (1 : Nat))) - (2 : Int) * (Prod.fst (gp l i) + Prod.snd (gp l i)) ≤ (9223372036854775807 : Int)) (V.i (Prod.fst (gp l (Int.toNat ((↑i : Int) - (1 : Int)))) + Prod.snd (gp l (Int.toNat ((↑i : Int) - (1 : Int)))) + Prod.fst (gp l (i + (1 : Nat))) + Prod.snd (gp l (i + (1 : Nat))) - (2 : Int) * (Prod.fst (gp l i) + Prod.snd (gp l i)))), pv (4 : Nat) (V.i (Prod.fst (gp l (Int.toNat ((↑i : Int) - (1 : Int)))) + Prod.snd (gp l (Int.toNat ((↑i : Int) - (1 : Int)))) + Prod.fst (gp l (i + (1 : Nat))) + Prod.snd (gp l (i + (1 : Nat))) - (2 : Int) * (Prod.fst (gp l i) + Prod.snd (gp l i))))] (by kernel_rfl) (by kernel_rfl) ⟨(by omega), (by omega), (by omega), (by omega), (by omega), (by omega), (by omega), (by omega), (by omega), (by omega), (by omega), (by omega), (by omega), (by omega), (by omega), (by omega), True.intro⟩ ?_
  refine aops_nil ⟨by kernel_rfl, ?_⟩
  refine xt_n ?_
  refine hK _ ?_
  clear hK K
  refine aw_ret ?_
  refine ret_pure (v' := V.i (Prod.fst (gp l (Int.toNat ((↑i : Int) - (1 : Int)))) + Prod.snd (gp l (Int.toNat ((↑i : Int) - (1 : Int)))) + Prod.fst (gp l (i + (1 : Nat))) + Prod.snd (gp l (i + (1 : Nat))) - (2 : Int) * (Prod.fst (gp l i) + Prod.snd (gp l i)))) (.inr rfl) (by kernel_rfl) ?_ (by kernel_rfl)
  simp only [bendAt, e1]
def outB (h s b : Int) : Bool := decide (h < b - s) || decide (h < -(b - s))
def jumpK (h s : Int) (l : List Pt) : Option Nat := (List.range (l.length - 2)).find? fun k => outB h s (bendAt l (k + 1))
def jumpI (h s : Int) (l : List Pt) : Int × Int × Int :=
  if armB h s then (if checkPts l = 0 then (match jumpK h s l with
    | some k => ((k : Int) + 1, if h < bendAt l (k + 1) - s then 1 else -1, 0)
    | none => (0, 0, 5)) else (0, 0, checkPts l)) else (0, 0, 2)
theorem jumpI_arm {h s : Int} {l : List Pt} (ha : armB h s = false) : jumpI h s l = (0, 0, 2) := by rw [jumpI, ha]; rfl
theorem jumpI_pts {h s : Int} {l : List Pt} (ha : armB h s = true) (hc : ¬ checkPts l = 0) : jumpI h s l = (0, 0, checkPts l) := by rw [jumpI, if_pos ha, if_neg hc]
theorem jumpI_some {h s : Int} {l : List Pt} {k : Nat} (ha : armB h s = true) (hc : checkPts l = 0) (hk : k < l.length - 2) (ho : outB h s (bendAt l (k + 1)) = true) (hb : ∀ j, j < k → outB h s (bendAt l (j + 1)) = false) :
    jumpI h s l = ((k : Int) + 1, if h < bendAt l (k + 1) - s then 1 else -1, 0) := by
  have : jumpK h s l = some k := find_first hk ho hb
  rw [jumpI, if_pos ha, if_pos hc, this]
theorem jumpI_none {h s : Int} {l : List Pt} (ha : armB h s = true) (hc : checkPts l = 0) (hb : ∀ j, j < l.length - 2 → outB h s (bendAt l (j + 1)) = false) : jumpI h s l = (0, 0, 5) := by
  have : jumpK h s l = none := find_none hb
  rw [jumpI, if_pos ha, if_pos hc, this]
set_option maxRecDepth 100000 in
theorem refJump_ac (h s : Int) (l : List Pt) (hl : l.length ≤ 4611686018427387904) : AC Try.prog 46 [.agg [.i h, .i s], V.pts l] (.tup [.i (jumpI h s l).1, .i (jumpI h s l).2.1, .i (jumpI h s l).2.2]) [] := by
  refine ac_intro hTT hMX (fn := Try.f46) (N := _) ⟨Try.func46, rfl, Try.ntmps46, by kernel_rfl⟩ (by simp) fun C hC hF => ?_
  refine aw_seq_k fun K hK => ?_
  refine w_region (n' := 2) (by kernel_rfl) (by kernel_rfl) ?_
  refine aops_n hTT (M := []) (n := 4) [pv (2 : Nat) (V.ptr [V.i h, V.i s]), pv (4 : Nat) (V.i (0 : Int)), pv (5 : Nat) (V.i (0 : Int)), pv (6 : Nat) (V.i (0 : Int))] (by kernel_rfl) (by kernel_rfl) True.intro ?_
  refine aops_nil ?_
  refine xt_n ?_
  refine hK _ ?_
  clear hK K
  refine aw_seq_k fun K hK => ?_
  refine aw_seq_k fun K hK => ?_
  refine w_region (n' := 3) (by kernel_rfl) (by kernel_rfl) ?_
  refine aops_n hTT (M := []) (n := 1) [pv (10 : Nat) (V.agg [V.i h, V.i s])] (by kernel_rfl) (by kernel_rfl) True.intro ?_
  refine e_call (first := []) (caps := []) (checkArm_ac h s) (by kernel_rfl) (by kernel_rfl) (by kernel_rfl) (by kernel_rfl) (by kernel_rfl) ?_
  refine aops_n hTT (M := []) (n := 1) [pv (12 : Nat) (V.b !armB h s)] (by kernel_rfl) (by kernel_rfl) True.intro ?_
  refine aops_nil ?_
  refine xt_n ?_
  refine hK _ ?_
  clear hK K
  refine w_cond (t := !armB h s) (by kernel_rfl) (fun h1 => ?_) (fun h1 => ?_)
  · refine aw_seq_k fun K hK => ?_
    refine w_region (n' := 4) (by kernel_rfl) (by kernel_rfl) ?_
    refine aops_n hTT (M := []) (n := 3) [pv (4 : Nat) (V.i (0 : Int)), pv (5 : Nat) (V.i (0 : Int)), pv (6 : Nat) (V.i (2 : Int))] (by kernel_rfl) (by kernel_rfl) True.intro ?_
    refine aops_nil ?_
    refine xt_n ?_
    refine hK _ ?_
    clear hK K
    refine aw_ret ?_
    refine xt_r ?_
    rw [jumpI_arm (by simpa using h1)]
    refine ret_pure (v' := V.tup [V.i (0 : Int), V.i (0 : Int), V.i (2 : Int)]) (.inr rfl) (by kernel_rfl) (by kernel_rfl) (by kernel_rfl)
  simp at h1
  refine aw_skip ?_
  refine xt_n ?_
  refine hK _ ?_
  clear hK K
  refine aw_seq_k fun K hK => ?_
  refine w_region (n' := 4) (by kernel_rfl) (by kernel_rfl) ?_
  refine aops_n hTT (M := []) (n := 1) [pv (13 : Nat) (V.sl (2 : Nat) (List.length l) fun (k : Nat) => [V.i (Prod.fst (gp l k)), V.i (Prod.snd (gp l k))])] (by kernel_rfl) (by kernel_rfl) True.intro ?_
  refine e_call (first := []) (caps := []) (refCheckPts_ac l hl) (by kernel_rfl) (by kernel_rfl) (by kernel_rfl) (by kernel_rfl) (by kernel_rfl) ?_
  refine aops_n hTT (M := []) (n := 1) [pv (7 : Nat) (V.i (checkPts l))] (by kernel_rfl) (by kernel_rfl) True.intro ?_
  refine aops_nil ?_
  refine xt_n ?_
  refine hK _ ?_
  clear hK K
  refine aw_seq_k fun K hK => ?_
  refine aw_seq_k fun K hK => ?_
  refine w_region (n' := 5) (by kernel_rfl) (by kernel_rfl) ?_
  refine aops_n hTT (M := []) (n := 2) [pv (15 : Nat) (V.i (checkPts l)), pv (16 : Nat) (V.b !decide (checkPts l = (0 : Int)))] (by kernel_rfl) (by kernel_rfl) True.intro ?_
  refine aops_nil ?_
  refine xt_n ?_
  refine hK _ ?_
  clear hK K
  refine w_cond (t := !decide (checkPts l = (0 : Int))) (by kernel_rfl) (fun h2 => ?_) (fun h2 => ?_)
  · simp at h2
    refine aw_seq_k fun K hK => ?_
    refine w_region (n' := 6) (by kernel_rfl) (by kernel_rfl) ?_
    refine aops_n hTT (M := []) (n := 4) [pv (17 : Nat) (V.i (checkPts l)), pv (4 : Nat) (V.i (0 : Int)), pv (5 : Nat) (V.i (0 : Int)), pv (6 : Nat) (V.i (checkPts l))] (by kernel_rfl) (by kernel_rfl) True.intro ?_
    refine aops_nil ?_
    refine xt_n ?_
    refine hK _ ?_
    clear hK K
    refine aw_ret ?_
    refine xt_r ?_
    rw [jumpI_pts h1 h2]
    refine ret_pure (v' := V.tup [V.i (0 : Int), V.i (0 : Int), V.i (checkPts l)]) (.inr rfl) (by kernel_rfl) (by kernel_rfl) (by kernel_rfl)
  simp at h2
  obtain ⟨m4, m5⟩ := checkPts_ok h2
  obtain ⟨a1, a2, a3, a4⟩ := armB_iff.1 h1
  refine aw_skip ?_
  refine xt_n ?_
  refine hK _ ?_
  clear hK K
  refine aw_seq_k fun K hK => ?_
  refine aw_seq_k fun K hK => ?_
  refine w_region (n' := 6) (by kernel_rfl) (by kernel_rfl) ?_
  refine aops_n hTT (M := []) (n := 1) [pv (8 : Nat) (V.i (1 : Int))] (by kernel_rfl) (by kernel_rfl) True.intro ?_
  refine aops_nil ?_
  refine xt_n ?_
  refine hK _ ?_
  clear hK K
  refine aw_block ?_
  refine w_loop (fun k : Nat => [(1, V.pts l), (2, .ptr [.i h, .i s]), (8, .i ((k : Int) + 1))]) (fun _ => []) (fun k => k ≤ l.length - 2 ∧ ∀ j, j < k → outB h s (bendAt l (j + 1)) = false) (fun k => l.length - k) 0 ⟨Nat.zero_le _, fun j hj => by omega⟩ ?_ ?_
  · refine le_ren [] (.cons (by kernel_rfl) (.cons (by kernel_rfl) (.cons (by kernel_rfl) .nil))) .nil (by kernel_rfl) (by kernel_rfl)
  rintro k ⟨hk, hb⟩
  refine aw_seq_k fun K hK => ?_
  refine aw_seq_k fun K hK => ?_
  refine w_region (n' := 2) (by kernel_rfl) (by kernel_rfl) ?_
  refine aops_n hTT (M := []) (n := 5) [pv (18 : Nat) (V.i ((↑k : Int) + (1 : Int))), pc (19 : Nat) ((-9223372036854775808 : Int) ≤ (↑k : Int) + (1 : Int) + (1 : Int) ∧ (↑k : Int) + (1 : Int) + (1 : Int) ≤ (9223372036854775807 : Int)) (V.i ((↑k : Int) + (1 : Int) + (1 : Int))), pv (20 : Nat) (V.sl (2 : Nat) (List.length l) fun (k : Nat) => [V.i (Prod.fst (gp l k)), V.i (Prod.snd (gp l k))]), pv (21 : Nat) (V.i (↑(List.length l) : Int)), pv (22 : Nat) (V.b (decide ((↑k : Int) + (1 : Int) + (1 : Int) < (↑(List.length l) : Int))))] (by kernel_rfl) (by kernel_rfl) ⟨(by omega), True.intro⟩ ?_
  refine aops_nil ?_
  refine xt_n ?_
  refine hK _ ?_
  clear hK K
  refine w_cond (t := decide ((↑k : Int) + (1 : Int) + (1 : Int) < (↑(List.length l) : Int))) (by kernel_rfl) (fun hkl => ?_) (fun hkl => ?_)
  · simp at hkl
    have b0 := bend_bd m5 (i := k + 1) (by omega) (by omega)
    refine aw_skip ?_
    refine xt_n ?_
    refine hK _ ?_
    clear hK K
    refine aw_seq_k fun K hK => ?_
    refine aw_block ?_
    refine aw_seq_k fun K hK => ?_
    refine w_regionD (n' := 3) (by kernel_rfl) (by kernel_rfl) ?_
    refine aops_n hTT (M := []) (n := 2) [pv (25 : Nat) (V.sl (2 : Nat) (List.length l) fun (k : Nat) => [V.i (Prod.fst (gp l k)), V.i (Prod.snd (gp l k))]), pv (26 : Nat) (V.i ((↑k : Int) + (1 : Int)))] (by kernel_rfl) (by kernel_rfl) True.intro ?_
    refine e_call (first := []) (caps := []) (bendRef_ac l (k + 1) m4 m5 (by omega) (by omega)) (by kernel_rfl) (by kernel_rfl) (by kernel_rfl) (by kernel_rfl) (by kernel_rfl) ?_
    refine aops_n hTT (M := []) (n := 4) [pv (28 : Nat) (V.ptr [V.i s]), pv (29 : Nat) (V.i s), pc (30 : Nat) ((-9223372036854775808 : Int) ≤ bendAt l (k + (1 : Nat)) - s ∧ bendAt l (k + (1 : Nat)) - s ≤ (9223372036854775807 : Int)) (V.i (bendAt l (k + (1 : Nat)) - s)), pv (9 : Nat) (V.i (bendAt l (k + (1 : Nat)) - s))] (by kernel_rfl) (by kernel_rfl) ⟨(by omega), True.intro⟩ ?_
    refine aops_nil ⟨by kernel_rfl, ?_⟩
    refine xt_n ?_
    refine hK _ ?_
    clear hK K
    refine aw_seq_k fun K hK => ?_
    refine aw_seq_k fun K hK => ?_
    refine w_region (n' := 4) (by kernel_rfl) (by kernel_rfl) ?_
    refine aops_n hTT (M := []) (n := 4) [pv (31 : Nat) (V.i (bendAt l (k + (1 : Nat)) - s)), pv (32 : Nat) (V.ptr [V.i h, V.i s]), pv (33 : Nat) (V.i h), pv (34 : Nat) (V.b (decide (h < bendAt l (k + (1 : Nat)) - s)))] (by kernel_rfl) (by kernel_rfl) True.intro ?_
    refine aops_nil ?_
    refine xt_n ?_
    refine hK _ ?_
    clear hK K
    refine w_cond (t := decide (h < bendAt l (k + (1 : Nat)) - s)) (by kernel_rfl) (fun h3 => ?_) (fun h3 => ?_)
    · simp at h3
      refine aw_seq_k fun K hK => ?_
      refine w_region (n' := 5) (by kernel_rfl) (by kernel_rfl) ?_
      refine aops_n hTT (M := []) (n := 4) [pv (35 : Nat) (V.i ((↑k : Int) + (1 : Int))), pv (4 : Nat) (V.i ((↑k : Int) + (1 : Int))), pv (5 : Nat) (V.i (1 : Int)), pv (6 : Nat) (V.i (0 : Int))] (by kernel_rfl) (by kernel_rfl) True.intro ?_
      refine aops_nil ?_
      refine xt_n ?_
      refine hK _ ?_
      clear hK K
      refine aw_ret ?_
      refine xt_r ?_
      refine xb_r ?_
      refine xt_r ?_
      refine xt_r ?_
      refine xb_r ?_
      refine xt_r ?_
      rw [jumpI_some h1 h2 (by omega) (by simp [outB]; omega) hb, if_pos h3]
      refine ret_pure (v' := V.tup [V.i ((↑k : Int) + (1 : Int)), V.i (1 : Int), V.i (0 : Int)]) (.inr rfl) (by kernel_rfl) (by kernel_rfl) (by kernel_rfl)
    simp at h3
    refine aw_skip ?_
    refine xt_n ?_
    refine hK _ ?_
    clear hK K
    refine aw_seq_k fun K hK => ?_
    refine w_region (n' := 5) (by kernel_rfl) (by kernel_rfl) ?_
    refine aops_n hTT (M := []) (n := 5) [pv (36 : Nat) (V.i (bendAt l (k + (1 : Nat)) - s)), pc (37 : Nat) ((-9223372036854775808 : Int) ≤ -(bendAt l (k + (1 : Nat)) - s) ∧ -(bendAt l (k + (1 : Nat)) - s) ≤ (9223372036854775807 : Int)) (V.i (-(bendAt l (k + (1 : Nat)) - s))), pv (38 : Nat) (V.ptr [V.i h, V.i s]), pv (39 : Nat) (V.i h), pv (40 : Nat) (V.b (decide (h < -(bendAt l (k + (1 : Nat)) - s))))] (by kernel_rfl) (by kernel_rfl) ⟨(by omega), True.intro⟩ ?_
    refine aops_nil ?_
    refine xt_n ?_
    refine hK _ ?_
    clear hK K
    refine w_cond (t := decide (h < -(bendAt l (k + (1 : Nat)) - s))) (by kernel_rfl) (fun h4 => ?_) (fun h4 => ?_)
    · simp at h4
      refine aw_seq_k fun K hK => ?_
      refine w_region (n' := 6) (by kernel_rfl) (by kernel_rfl) ?_
      refine aops_n hTT (M := []) (n := 4) [pv (41 : Nat) (V.i ((↑k : Int) + (1 : Int))), pv (4 : Nat) (V.i ((↑k : Int) + (1 : Int))), pv (5 : Nat) (V.i (-1 : Int)), pv (6 : Nat) (V.i (0 : Int))] (by kernel_rfl) (by kernel_rfl) True.intro ?_
      refine aops_nil ?_
      refine xt_n ?_
      refine hK _ ?_
      clear hK K
      refine aw_ret ?_
      refine xb_r ?_
      refine xt_r ?_
      refine xt_r ?_
      refine xb_r ?_
      refine xt_r ?_
      rw [jumpI_some h1 h2 (by omega) (by simp [outB]; omega) hb, if_neg (by omega)]
      refine ret_pure (v' := V.tup [V.i ((↑k : Int) + (1 : Int)), V.i (-1 : Int), V.i (0 : Int)]) (.inr rfl) (by kernel_rfl) (by kernel_rfl) (by kernel_rfl)
    simp at h4
    refine aw_skip ?_
    refine xb_n ?_
    refine xt_n ?_
    refine hK _ ?_
    clear hK K
    refine w_region (n' := 6) (by kernel_rfl) (by kernel_rfl) ?_
    refine aops_n hTT (M := []) (n := 3) [pv (23 : Nat) (V.i ((↑k : Int) + (1 : Int))), pc (24 : Nat) ((-9223372036854775808 : Int) ≤ (↑k : Int) + (1 : Int) + (1 : Int) ∧ (↑k : Int) + (1 : Int) + (1 : Int) ≤ (9223372036854775807 : Int)) (V.i ((↑k : Int) + (1 : Int) + (1 : Int))), pv (8 : Nat) (V.i ((↑k : Int) + (1 : Int) + (1 : Int)))] (by kernel_rfl) (by kernel_rfl) ⟨(by omega), True.intro⟩ ?_
    refine aops_nil ?_
    refine xt_n ?_
    refine ⟨k + 1, ⟨by omega, fun j hj => ?_⟩, ?_, by omega⟩
    · by_cases he : j = k
      · subst he; simp [outB]; omega
      · exact hb j (by omega)
    · refine le_ren [] (.cons (by kernel_rfl) (.cons (by kernel_rfl) (.cons (by kernel_rfl) .nil))) .nil (by kernel_rfl) (by kernel_rfl)
  simp at hkl
  refine aw_exit ?_
  refine xt_x ?_
  refine xt_x ?_
  refine xb_same ?_
  refine xt_n ?_
  clear hK K
  refine hK _ ?_
  clear hK K
  refine aw_seq_k fun K hK => ?_
  refine w_region (n' := 3) (by kernel_rfl) (by kernel_rfl) ?_
  refine aops_n hTT (M := []) (n := 3) [pv (4 : Nat) (V.i (0 : Int)), pv (5 : Nat) (V.i (0 : Int)), pv (6 : Nat) (V.i (5 : Int))] (by kernel_rfl) (by kernel_rfl) True.intro ?_
  refine aops_nil ?_
  refine xt_n ?_
  refine hK _ ?_
  clear hK K
  refine aw_ret ?_
  rw [jumpI_none h1 h2 fun j hj => hb j (by omega)]
  refine ret_pure (v' := V.tup [V.i (0 : Int), V.i (0 : Int), V.i (5 : Int)]) (.inr rfl) (by kernel_rfl) (by kernel_rfl) (by kernel_rfl)
/-! ### the best arm -/
theorem balArm_small {l : List Pt} (h : ¬ (checkPts l = 0 ∧ 3 ≤ l.length)) : balArm l = (0, 0) := by rw [balArm, if_neg h]
def loM (l : List Pt) : Nat → Int
  | 0 => bendAt l 1
  | k + 1 => min (loM l k) (bendAt l (k + 1))
def hiM (l : List Pt) : Nat → Int
  | 0 => bendAt l 1
  | k + 1 => max (hiM l k) (bendAt l (k + 1))
theorem loM_eq {l : List Pt} : ∀ {k : Nat}, k + 2 < l.length → loM l (k + 1) = minTo (bendsL l) k ∧ hiM l (k + 1) = maxTo (bendsL l) k
  | 0, h => by simp [loM, hiM, minTo, maxTo, bendsL_gi h]
  | k + 1, h => by
    obtain ⟨h1, h2⟩ := loM_eq (l := l) (k := k) (by omega)
    rw [loM, hiM, h1, h2, minTo, maxTo, bendsL_gi h]
    exact ⟨rfl, rfl⟩
theorem loM_bd {l : List Pt} (hl : Bd l) : ∀ {k : Nat}, k + 1 < l.length → 3 ≤ l.length → -33554432 ≤ loM l k ∧ loM l k ≤ hiM l k ∧ hiM l k ≤ 33554432
  | 0, _, h3 => by have := bend_bd hl (i := 1) (by omega) (by omega); simp only [loM, hiM]; omega
  | k + 1, h, h3 => by
    have := bend_bd hl (i := k + 1) (by omega) (by omega)
    have := loM_bd hl (k := k) (by omega) h3
    simp only [loM, hiM]
    omega
theorem balArm_big {l : List Pt} (h : checkPts l = 0) (h3 : 3 ≤ l.length) (hl : Bd l) : balArm l = ((hiM l (l.length - 2) - loM l (l.length - 2) + 1).tdiv 2, hiM l (l.length - 2) - (hiM l (l.length - 2) - loM l (l.length - 2) + 1).tdiv 2) := by
  have hb := loM_bd hl (k := l.length - 2) (by omega) h3
  obtain ⟨h1, h2⟩ := loM_eq (l := l) (k := l.length - 3) (by omega)
  rw [show l.length - 3 + 1 = l.length - 2 by omega] at h1 h2
  rw [Int.tdiv_eq_ediv_of_nonneg (by omega), balArm, if_pos ⟨h, h3⟩, balHi, balLo, h1, h2]
set_option maxRecDepth 100000 in
theorem refBalance_ac (l : List Pt) (hl : l.length ≤ 4611686018427387904) : AC Try.prog 47 [V.pts l] (.tup [.agg [.i (balArm l).1, .i (balArm l).2], .i (checkPts l)]) [] := by
  refine ac_intro hTT hMX (fn := Try.f47) (N := _) ⟨Try.func47, rfl, Try.ntmps47, by kernel_rfl⟩ (by simp) fun C hC hF => ?_
  refine aw_seq_k fun K hK => ?_
  refine w_region (n' := 2) (by kernel_rfl) (by kernel_rfl) ?_
  refine aops_n hTT (M := []) (n := 2) [pn (2 : Nat) (V.ref (100002 : Nat) (0 : Nat)) (100002 : Nat) (Ob.box (34 : Nat) [V.i (0 : Int), V.i (0 : Int)]), pv (3 : Nat) (V.i (0 : Int))] (by kernel_rfl) (by kernel_rfl) True.intro ?_
  refine aops_nil ?_
  refine xt_n ?_
  refine hK _ ?_
  clear hK K
  refine aw_seq_k fun K hK => ?_
  refine w_region (n' := 3) (by kernel_rfl) (by kernel_rfl) ?_
  refine aops_n hTT (M := []) (n := 1) [pv (9 : Nat) (V.sl (2 : Nat) (List.length l) fun (k : Nat) => [V.i (Prod.fst (gp l k)), V.i (Prod.snd (gp l k))])] (by kernel_rfl) (by kernel_rfl) True.intro ?_
  refine e_call (first := []) (caps := []) (refCheckPts_ac l hl) (by kernel_rfl) (by kernel_rfl) (by kernel_rfl) (by kernel_rfl) (by kernel_rfl) ?_
  refine aops_n hTT (M := []) (n := 1) [pv (4 : Nat) (V.i (checkPts l))] (by kernel_rfl) (by kernel_rfl) True.intro ?_
  refine aops_nil ?_
  refine xt_n ?_
  refine hK _ ?_
  clear hK K
  refine aw_seq_k fun K hK => ?_
  refine aw_seq_k fun K hK => ?_
  refine w_region (n' := 4) (by kernel_rfl) (by kernel_rfl) ?_
  refine aops_n hTT (M := []) (n := 7) [pv (11 : Nat) (V.i (checkPts l)), pv (12 : Nat) (V.b !decide (checkPts l = (0 : Int))), pv (13 : Nat) (V.b !decide (checkPts l = (0 : Int))), pc (14 : Nat) ((True ∧ True) ∧ (((!decide (checkPts l = (0 : Int))) == false) = true → True)) (V.gd ((!decide (checkPts l = (0 : Int))) == false) (V.sl (2 : Nat) (List.length l) fun (k : Nat) => [V.i (Prod.fst (gp l k)), V.i (Prod.snd (gp l k))])), pc (15 : Nat) (((((!decide (checkPts l = (0 : Int))) == false) = true → ((!decide (checkPts l = (0 : Int))) == false) = true) ∧ True) ∧ (((!decide (checkPts l = (0 : Int))) == false) = true → True)) (V.gd ((!decide (checkPts l = (0 : Int))) == false) (V.i (↑(List.length l) : Int))), pc (16 : Nat) (((((!decide (checkPts l = (0 : Int))) == false) = true → ((!decide (checkPts l = (0 : Int))) == false) = true) ∧ True ∧ True) ∧ (((!decide (checkPts l = (0 : Int))) == false) = true → True)) (V.gd ((!decide (checkPts l = (0 : Int))) == false) (V.b (decide ((↑(List.length l) : Int) < (3 : Int))))), pc (17 : Nat) (True ∧ ((!decide (checkPts l = (0 : Int))) = false → ((!decide (checkPts l = (0 : Int))) == false) = true)) (V.b (!decide (checkPts l = (0 : Int)) || decide ((↑(List.length l) : Int) < (3 : Int))))] (by kernel_rfl) (by kernel_rfl) ⟨⟨⟨True.intro, True.intro⟩, (fun _ => True.intro)⟩, ⟨⟨(by (exact fun h => h)), True.intro⟩, (fun _ => True.intro)⟩, ⟨⟨(by (exact fun h => h)), ⟨True.intro, True.intro⟩⟩, (fun _ => True.intro)⟩, ⟨True.intro, (by (intro h; rw [h]; rfl))⟩, True.intro⟩ ?_
  refine aops_nil ?_
  refine xt_n ?_
  refine hK _ ?_
  clear hK K
  refine w_cond (t := !decide (checkPts l = (0 : Int)) || decide ((↑(List.length l) : Int) < (3 : Int))) (by kernel_rfl) (fun h1 => ?_) (fun h1 => ?_)
  · simp at h1
    refine aw_seq_k fun K hK => ?_
    refine w_region (n' := 5) (by kernel_rfl) (by kernel_rfl) ?_
    refine aops_n hTT (M := []) (n := 4) [pv (18 : Nat) (V.agg [V.i (0 : Int), V.i (0 : Int)]), pv (19 : Nat) (V.i (checkPts l)), pw ((0 : Nat) + (2 : Nat) ≤ (2 : Nat)) (100002 : Nat) (Ob.box (34 : Nat) [V.i (0 : Int), V.i (0 : Int)]), pv (3 : Nat) (V.i (checkPts l))] (by kernel_rfl) (by kernel_rfl) ⟨(by omega), True.intro⟩ ?_
    refine aops_nil ?_
    refine xt_n ?_
    refine hK _ ?_
    clear hK K
    refine aw_ret ?_
    refine xt_r ?_
    rw [balArm_small (by omega)]
    refine ret_pure (v' := V.tup [V.agg [V.i (0 : Int), V.i (0 : Int)], V.i (checkPts l)]) (.inr rfl) (by kernel_rfl) (by kernel_rfl) (by kernel_rfl)
  simp at h1
  obtain ⟨h1, h2⟩ := h1
  obtain ⟨m4, m5⟩ := checkPts_ok h1
  refine aw_skip ?_
  refine xt_n ?_
  refine hK _ ?_
  clear hK K
  refine aw_seq_k fun K hK => ?_
  refine w_region (n' := 5) (by kernel_rfl) (by kernel_rfl) ?_
  refine aops_n hTT (M := []) (n := 1) [pv (20 : Nat) (V.sl (2 : Nat) (List.length l) fun (k : Nat) => [V.i (Prod.fst (gp l k)), V.i (Prod.snd (gp l k))])] (by kernel_rfl) (by kernel_rfl) True.intro ?_
  refine e_call (first := []) (caps := []) (bendRef_ac l 1 m4 m5 (by omega) (by omega)) (by kernel_rfl) (by kernel_rfl) (by kernel_rfl) (by kernel_rfl) (by kernel_rfl) ?_
  refine aops_n hTT (M := []) (n := 1) [pv (22 : Nat) (V.sl (2 : Nat) (List.length l) fun (k : Nat) => [V.i (Prod.fst (gp l k)), V.i (Prod.snd (gp l k))])] (by kernel_rfl) (by kernel_rfl) True.intro ?_
  refine e_call (first := []) (caps := []) (bendRef_ac l 1 m4 m5 (by omega) (by omega)) (by kernel_rfl) (by kernel_rfl) (by kernel_rfl) (by kernel_rfl) (by kernel_rfl) ?_
  refine aops_n hTT (M := []) (n := 2) [pv (5 : Nat) (V.i (bendAt l (1 : Nat))), pv (6 : Nat) (V.i (bendAt l (1 : Nat)))] (by kernel_rfl) (by kernel_rfl) True.intro ?_
  refine aops_nil ?_
  refine xt_n ?_
  refine hK _ ?_
  clear hK K
  refine aw_seq_k fun K hK => ?_
  refine aw_seq_k fun K hK => ?_
  refine w_region (n' := 6) (by kernel_rfl) (by kernel_rfl) ?_
  refine aops_n hTT (M := []) (n := 1) [pv (7 : Nat) (V.i (1 : Int))] (by kernel_rfl) (by kernel_rfl) True.intro ?_
  refine aops_nil ?_
  refine xt_n ?_
  refine hK _ ?_
  clear hK K
  refine aw_block ?_
  refine w_loop (fun k : Nat => [(0, V.pts l), (2, .ref 2 0), (5, .i (loM l k)), (6, .i (hiM l k)), (7, .i ((k : Int) + 1))]) (fun _ => [(2, .box 34 [.i 0, .i 0])]) (fun k => k ≤ l.length - 2) (fun k => l.length - k) 0 (Nat.zero_le _) ?_ ?_
  · refine le_ren (sl := [(2, Ob.box (34 : Nat) [V.i (0 : Int), V.i (0 : Int)])]) [(2, 100002)] (.cons (by kernel_rfl) (.cons (by kernel_rfl) (.cons (by kernel_rfl) (.cons (by kernel_rfl) (.cons (by kernel_rfl) .nil))))) (.cons ⟨Ob.box (34 : Nat) [V.i (0 : Int), V.i (0 : Int)], (by kernel_rfl), .box (by kernel_rfl)⟩ .nil) (by kernel_rfl) (by kernel_rfl)
  intro k hk
  refine aw_seq_k fun K hK => ?_
  refine aw_seq_k fun K hK => ?_
  refine w_region (n' := 2) (by kernel_rfl) (by kernel_rfl) ?_
  refine aops_n hTT (M := []) (n := 5) [pv (24 : Nat) (V.i ((↑k : Int) + (1 : Int))), pc (25 : Nat) ((-9223372036854775808 : Int) ≤ (↑k : Int) + (1 : Int) + (1 : Int) ∧ (↑k : Int) + (1 : Int) + (1 : Int) ≤ (9223372036854775807 : Int)) (V.i ((↑k : Int) + (1 : Int) + (1 : Int))), pv (26 : Nat) (V.sl (2 : Nat) (List.length l) fun (k : Nat) => [V.i (Prod.fst (gp l k)), V.i (Prod.snd (gp l k))]), pv (27 : Nat) (V.i (↑(List.length l) : Int)), pv (28 : Nat) (V.b (decide ((↑k : Int) + (1 : Int) + (1 : Int) < (↑(List.length l) : Int))))] (by kernel_rfl) (by kernel_rfl) ⟨(by omega), True.intro⟩ ?_
  refine aops_nil ?_
  refine xt_n ?_
  refine hK _ ?_
  clear hK K
  refine w_cond (t := decide ((↑k : Int) + (1 : Int) + (1 : Int) < (↑(List.length l) : Int))) (by kernel_rfl) (fun hkl => ?_) (fun hkl => ?_)
  · simp at hkl
    refine aw_skip ?_
    refine xt_n ?_
    refine hK _ ?_
    clear hK K
    refine aw_seq_k fun K hK => ?_
    refine aw_block ?_
    refine w_region (n' := 3) (by kernel_rfl) (by kernel_rfl) ?_
    refine aops_n hTT (M := []) (n := 3) [pv (31 : Nat) (V.i (loM l k)), pv (32 : Nat) (V.sl (2 : Nat) (List.length l) fun (k : Nat) => [V.i (Prod.fst (gp l k)), V.i (Prod.snd (gp l k))]), pv (33 : Nat) (V.i ((↑k : Int) + (1 : Int)))] (by kernel_rfl) (by kernel_rfl) True.intro ?_
    refine e_call (first := []) (caps := []) (bendRef_ac l (k + 1) m4 m5 (by omega) (by omega)) (by kernel_rfl) (by kernel_rfl) (by kernel_rfl) (by kernel_rfl) (by kernel_rfl) ?_
    refine aops_n hTT (M := []) (n := 4) [pv (35 : Nat) (V.i (min (loM l k) (bendAt l (k + (1 : Nat))))), pv (36 : Nat) (V.i (hiM l k)), pv (37 : Nat) (V.sl (2 : Nat) (List.length l) fun (k : Nat) => [V.i (Prod.fst (gp l k)), V.i (Prod.snd (gp l k))]), pv (38 : Nat) (V.i ((↑k : Int) + (1 : Int)))] (by kernel_rfl) (by kernel_rfl) True.intro ?_
    refine e_call (first := []) (caps := []) (bendRef_ac l (k + 1) m4 m5 (by omega) (by omega)) (by kernel_rfl) (by kernel_rfl) (by kernel_rfl) (by kernel_rfl) (by kernel_rfl) ?_
    refine aops_n hTT (M := []) (n := 3) [pv (40 : Nat) (V.i (max (hiM l k) (bendAt l (k + (1 : Nat))))), pv (5 : Nat) (V.i (min (loM l k) (bendAt l (k + (1 : Nat))))), pv (6 : Nat) (V.i (max (hiM l k) (bendAt l (k + (1 : Nat)))))] (by kernel_rfl) (by kernel_rfl) True.intro ?_
    refine aops_nil ?_
    refine xb_n ?_
    refine xt_n ?_
    refine hK _ ?_
    clear hK K
    refine w_region (n' := 4) (by kernel_rfl) (by kernel_rfl) ?_
    refine aops_n hTT (M := []) (n := 3) [pv (29 : Nat) (V.i ((↑k : Int) + (1 : Int))), pc (30 : Nat) ((-9223372036854775808 : Int) ≤ (↑k : Int) + (1 : Int) + (1 : Int) ∧ (↑k : Int) + (1 : Int) + (1 : Int) ≤ (9223372036854775807 : Int)) (V.i ((↑k : Int) + (1 : Int) + (1 : Int))), pv (7 : Nat) (V.i ((↑k : Int) + (1 : Int) + (1 : Int)))] (by kernel_rfl) (by kernel_rfl) ⟨(by omega), True.intro⟩ ?_
    refine aops_nil ?_
    refine xt_n ?_
    refine ⟨k + 1, by omega, ?_, by omega⟩
    refine le_ren (tl := [(0, V.sl (2 : Nat) (List.length l) fun (k : Nat) => [V.i (Prod.fst (gp l k)), V.i (Prod.snd (gp l k))]), (2, V.ref (2 : Nat) (0 : Nat)), (5, V.i (loM l (k + (1 : Nat)))), (6, V.i (hiM l (k + (1 : Nat)))), (7, V.i ((↑(k + (1 : Nat)) : Int) + (1 : Int)))]) (sl := [(2, Ob.box (34 : Nat) [V.i (0 : Int), V.i (0 : Int)])]) [(2, 2)] (.cons (by kernel_rfl) (.cons (by kernel_rfl) (.cons ?_ (.cons ?_ (.cons (by kernel_rfl) .nil))))) (.cons ⟨Ob.box (34 : Nat) [V.i (0 : Int), V.i (0 : Int)], (by kernel_rfl), .box (by kernel_rfl)⟩ .nil) (by kernel_rfl) (by kernel_rfl)
    · rfl
    · rfl
  simp at hkl
  obtain rfl : k = l.length - 2 := by omega
  have hb := loM_bd m5 (k := l.length - 2) (by omega) (by omega)
  have h5 := Int.tdiv_eq_ediv_of_nonneg (show 0 ≤ hiM l (l.length - 2) - loM l (l.length - 2) + 1 by omega) (b := 2)
  refine aw_exit ?_
  refine xt_x ?_
  refine xt_x ?_
  refine xb_same ?_
  refine xt_n ?_
  clear hK K
  refine hK _ ?_
  clear hK K
  refine aw_seq_k fun K hK => ?_
  refine w_region (n' := 3) (by kernel_rfl) (by kernel_rfl) ?_
  refine aops_n hTT (M := []) (n := 6) [pv (41 : Nat) (V.i (hiM l (List.length l - (2 : Nat)))), pv (42 : Nat) (V.i (loM l (List.length l - (2 : Nat)))), pc (43 : Nat) ((-9223372036854775808 : Int) ≤ hiM l (List.length l - (2 : Nat)) - loM l (List.length l - (2 : Nat)) ∧ hiM l (List.length l - (2 : Nat)) - loM l (List.length l - (2 : Nat)) ≤ (9223372036854775807 : Int)) (V.i (hiM l (List.length l - (2 : Nat)) - loM l (List.length l - (2 : Nat)))), pc (44 : Nat) ((-9223372036854775808 : Int) ≤ hiM l (List.length l - (2 : Nat)) - loM l (List.length l - (2 : Nat)) + (1 : Int) ∧ hiM l (List.length l - (2 : Nat)) - loM l (List.length l - (2 : Nat)) + (1 : Int) ≤ (9223372036854775807 : Int)) (V.i (hiM l (List.length l - (2 : Nat)) - loM l (List.length l - (2 : Nat)) + (1 : Int))), pc (45 : Nat) ((0 : Int) < (2 : Int) ∧ (-9223372036854775808 : Int) ≤ hiM l (List.length l - (2 : Nat)) - loM l (List.length l - (2 : Nat)) + (1 : Int) ∧ hiM l (List.length l - (2 : Nat)) - loM l (List.length l - (2 : Nat)) + (1 : Int) ≤ (9223372036854775807 : Int)) (V.i (Int.tdiv (hiM l (List.length l - (2 : Nat)) - loM l (List.length l - (2 : Nat)) + (1 : Int)) (2 : Int))), pv (8 : Nat) (V.i (Int.tdiv (hiM l (List.length l - (2 : Nat)) - loM l (List.length l - (2 : Nat)) + (1 : Int)) (2 : Int)))] (by kernel_rfl) (by kernel_rfl) ⟨(by omega), (by omega), ⟨(by omega), (by omega)⟩, True.intro⟩ ?_
  refine aops_nil ?_
  refine xt_n ?_
  refine hK _ ?_
  clear hK K
  refine aw_seq_k fun K hK => ?_
  refine w_region (n' := 4) (by kernel_rfl) (by kernel_rfl) ?_
  refine aops_n hTT (M := []) (n := 7) [pv (46 : Nat) (V.i (Int.tdiv (hiM l (List.length l - (2 : Nat)) - loM l (List.length l - (2 : Nat)) + (1 : Int)) (2 : Int))), pv (47 : Nat) (V.i (hiM l (List.length l - (2 : Nat)))), pv (48 : Nat) (V.i (Int.tdiv (hiM l (List.length l - (2 : Nat)) - loM l (List.length l - (2 : Nat)) + (1 : Int)) (2 : Int))), pc (49 : Nat) ((-9223372036854775808 : Int) ≤ hiM l (List.length l - (2 : Nat)) - Int.tdiv (hiM l (List.length l - (2 : Nat)) - loM l (List.length l - (2 : Nat)) + (1 : Int)) (2 : Int) ∧ hiM l (List.length l - (2 : Nat)) - Int.tdiv (hiM l (List.length l - (2 : Nat)) - loM l (List.length l - (2 : Nat)) + (1 : Int)) (2 : Int) ≤ (9223372036854775807 : Int)) (V.i (hiM l (List.length l - (2 : Nat)) - Int.tdiv (hiM l (List.length l - (2 : Nat)) - loM l (List.length l - (2 : Nat)) + (1 : Int)) (2 : Int))), pv (50 : Nat) (V.agg [V.i (Int.tdiv (hiM l (List.length l - (2 : Nat)) - loM l (List.length l - (2 : Nat)) + (1 : Int)) (2 : Int)), V.i (hiM l (List.length l - (2 : Nat)) - Int.tdiv (hiM l (List.length l - (2 : Nat)) - loM l (List.length l - (2 : Nat)) + (1 : Int)) (2 : Int))]), pw ((0 : Nat) + (2 : Nat) ≤ (2 : Nat)) (2 : Nat) (Ob.box (34 : Nat) [V.i (Int.tdiv (hiM l (List.length l - (2 : Nat)) - loM l (List.length l - (2 : Nat)) + (1 : Int)) (2 : Int)), V.i (hiM l (List.length l - (2 : Nat)) - Int.tdiv (hiM l (List.length l - (2 : Nat)) - loM l (List.length l - (2 : Nat)) + (1 : Int)) (2 : Int))]), pv (3 : Nat) (V.i (0 : Int))] (by kernel_rfl) (by kernel_rfl) ⟨(by omega), (by omega), True.intro⟩ ?_
  refine aops_nil ?_
  refine xt_n ?_
  refine hK _ ?_
  clear hK K
  refine aw_ret ?_
  rw [balArm_big h1 (by omega) m5]
  refine ret_pure (v' := V.tup [V.agg [V.i (Int.tdiv (hiM l (List.length l - (2 : Nat)) - loM l (List.length l - (2 : Nat)) + (1 : Int)) (2 : Int)), V.i (hiM l (List.length l - (2 : Nat)) - Int.tdiv (hiM l (List.length l - (2 : Nat)) - loM l (List.length l - (2 : Nat)) + (1 : Int)) (2 : Int))], V.i (0 : Int)]) (.inr rfl) (by kernel_rfl) ?_ (by kernel_rfl)
  rw [h1]
/-! ### where it lands -/
def dropE (l : List Pt) (radii : List Int) (per angle : Int) : Int :=
  if checkPts l = 0 then (if radii.length = l.length then (if (List.range radii.length).any (fun k => radB (gi radii k)) then 2 else if per < 1 ∨ 65536 < per ∨ angle < 0 ∨ per ≤ angle then 3 else 0) else 17) else checkPts l
def dropF (l : List Pt) (radii : List Int) (per angle x : Int) : Int × Int := if dropE l radii per angle = 0 then dropI l radii per.toNat angle.toNat x else (0, dropE l radii per angle)
theorem dropF_1 {l : List Pt} {radii : List Int} {per angle x : Int} (h : ¬ checkPts l = 0) : dropF l radii per angle x = (0, checkPts l) := by
  have e : dropE l radii per angle = checkPts l := by rw [dropE, if_neg h]
  rw [dropF, e, if_neg h]
theorem dropF_2 {l : List Pt} {radii : List Int} {per angle x : Int} (h : checkPts l = 0) (h2 : ¬ radii.length = l.length) : dropF l radii per angle x = (0, 17) := by
  have e : dropE l radii per angle = 17 := by rw [dropE, if_pos h, if_neg h2]
  rw [dropF, e, if_neg (by decide)]
theorem dropF_3 {l : List Pt} {radii : List Int} {per angle x : Int} (h : checkPts l = 0) (h2 : radii.length = l.length) {k : Nat} (hk : k < radii.length) (h3 : radB (gi radii k) = true) : dropF l radii per angle x = (0, 2) := by
  have e : dropE l radii per angle = 2 := by rw [dropE, if_pos h, if_pos h2, if_pos (List.any_eq_true.2 ⟨k, by simpa using hk, h3⟩)]
  rw [dropF, e, if_neg (by decide)]
theorem dropF_4 {l : List Pt} {radii : List Int} {per angle x : Int} (h : checkPts l = 0) (h2 : radii.length = l.length) (h3 : ∀ k, k < radii.length → radB (gi radii k) = false) (h4 : per < 1 ∨ 65536 < per ∨ angle < 0 ∨ per ≤ angle) : dropF l radii per angle x = (0, 3) := by
  have e : dropE l radii per angle = 3 := by
    rw [dropE, if_pos h, if_pos h2, if_neg, if_pos h4]
    simp only [Bool.not_eq_true, List.any_eq_false, List.mem_range]
    intro k hk
    simp [h3 k hk]
  rw [dropF, e, if_neg (by decide)]
theorem dropF_5 {l : List Pt} {radii : List Int} {per angle x : Int} (h : checkPts l = 0) (h2 : radii.length = l.length) (h3 : ∀ k, k < radii.length → radB (gi radii k) = false) (h4 : ¬ (per < 1 ∨ 65536 < per ∨ angle < 0 ∨ per ≤ angle)) : dropF l radii per angle x = dropI l radii per.toNat angle.toNat x := by
  have e : dropE l radii per angle = 0 := by
    rw [dropE, if_pos h, if_pos h2, if_neg, if_neg h4]
    simp only [Bool.not_eq_true, List.any_eq_false, List.mem_range]
    intro k hk
    simp [h3 k hk]
  rw [dropF, e, if_pos rfl]
set_option maxRecDepth 100000 in
theorem refDrop_ac (l : List Pt) (radii : List Int) (per angle x : Int) (hl : l.length ≤ 4611686018427387904) (hr : radii.length ≤ 4611686018427387904) :
    AC Try.prog 48 [V.pts l, V.ints radii, .i per, .i angle, .i x] (.tup [.i (dropF l radii per angle x).1, .i (dropF l radii per angle x).2]) [] := by
  refine ac_intro hTT hMX (fn := Try.f48) (N := _) ⟨Try.func48, rfl, Try.ntmps48, by kernel_rfl⟩ (by simp) fun C hC hF => ?_
  refine aw_seq_k fun K hK => ?_
  refine w_region (n' := 2) (by kernel_rfl) (by kernel_rfl) ?_
  refine aops_n hTT (M := []) (n := 2) [pv (10 : Nat) (V.i (0 : Int)), pv (11 : Nat) (V.i (0 : Int))] (by kernel_rfl) (by kernel_rfl) True.intro ?_
  refine aops_nil ?_
  refine xt_n ?_
  refine hK _ ?_
  clear hK K
  refine aw_seq_k fun K hK => ?_
  refine w_region (n' := 3) (by kernel_rfl) (by kernel_rfl) ?_
  refine aops_n hTT (M := []) (n := 1) [pv (15 : Nat) (V.sl (2 : Nat) (List.length l) fun (k : Nat) => [V.i (Prod.fst (gp l k)), V.i (Prod.snd (gp l k))])] (by kernel_rfl) (by kernel_rfl) True.intro ?_
  refine e_call (first := []) (caps := []) (refCheckPts_ac l hl) (by kernel_rfl) (by kernel_rfl) (by kernel_rfl) (by kernel_rfl) (by kernel_rfl) ?_
  refine aops_n hTT (M := []) (n := 1) [pv (12 : Nat) (V.i (checkPts l))] (by kernel_rfl) (by kernel_rfl) True.intro ?_
  refine aops_nil ?_
  refine xt_n ?_
  refine hK _ ?_
  clear hK K
  refine aw_seq_k fun K hK => ?_
  refine aw_seq_k fun K hK => ?_
  refine w_region (n' := 4) (by kernel_rfl) (by kernel_rfl) ?_
  refine aops_n hTT (M := []) (n := 2) [pv (17 : Nat) (V.i (checkPts l)), pv (18 : Nat) (V.b !decide (checkPts l = (0 : Int)))] (by kernel_rfl) (by kernel_rfl) True.intro ?_
  refine aops_nil ?_
  refine xt_n ?_
  refine hK _ ?_
  clear hK K
  refine w_cond (t := !decide (checkPts l = (0 : Int))) (by kernel_rfl) (fun h1 => ?_) (fun h1 => ?_)
  · simp at h1
    refine aw_seq_k fun K hK => ?_
    refine w_region (n' := 5) (by kernel_rfl) (by kernel_rfl) ?_
    refine aops_n hTT (M := []) (n := 3) [pv (19 : Nat) (V.i (checkPts l)), pv (10 : Nat) (V.i (0 : Int)), pv (11 : Nat) (V.i (checkPts l))] (by kernel_rfl) (by kernel_rfl) True.intro ?_
    refine aops_nil ?_
    refine xt_n ?_
    refine hK _ ?_
    clear hK K
    refine aw_ret ?_
    refine xt_r ?_
    rw [dropF_1 h1]
    refine ret_pure (v' := V.tup [V.i (0 : Int), V.i (checkPts l)]) (.inr rfl) (by kernel_rfl) (by kernel_rfl) (by kernel_rfl)
  simp at h1
  obtain ⟨m4, m5⟩ := checkPts_ok h1
  refine aw_skip ?_
  refine xt_n ?_
  refine hK _ ?_
  clear hK K
  refine aw_seq_k fun K hK => ?_
  refine aw_seq_k fun K hK => ?_
  refine w_region (n' := 5) (by kernel_rfl) (by kernel_rfl) ?_
  refine aops_n hTT (M := []) (n := 5) [pv (20 : Nat) (V.sl (1 : Nat) (List.length radii) fun (k : Nat) => [V.i (gi radii k)]), pv (21 : Nat) (V.i (↑(List.length radii) : Int)), pv (22 : Nat) (V.sl (2 : Nat) (List.length l) fun (k : Nat) => [V.i (Prod.fst (gp l k)), V.i (Prod.snd (gp l k))]), pv (23 : Nat) (V.i (↑(List.length l) : Int)), pv (24 : Nat) (V.b !decide ((↑(List.length radii) : Int) = (↑(List.length l) : Int)))] (by kernel_rfl) (by kernel_rfl) True.intro ?_
  refine aops_nil ?_
  refine xt_n ?_
  refine hK _ ?_
  clear hK K
  refine w_cond (t := !decide ((↑(List.length radii) : Int) = (↑(List.length l) : Int))) (by kernel_rfl) (fun h2 => ?_) (fun h2 => ?_)
  · simp at h2
    refine aw_seq_k fun K hK => ?_
    refine w_region (n' := 6) (by kernel_rfl) (by kernel_rfl) ?_
    refine aops_n hTT (M := []) (n := 2) [pv (10 : Nat) (V.i (0 : Int)), pv (11 : Nat) (V.i (17 : Int))] (by kernel_rfl) (by kernel_rfl) True.intro ?_
    refine aops_nil ?_
    refine xt_n ?_
    refine hK _ ?_
    clear hK K
    refine aw_ret ?_
    refine xt_r ?_
    rw [dropF_2 h1 (by omega)]
    refine ret_pure (v' := V.tup [V.i (0 : Int), V.i (17 : Int)]) (.inr rfl) (by kernel_rfl) (by kernel_rfl) (by kernel_rfl)
  simp at h2
  refine aw_skip ?_
  refine xt_n ?_
  refine hK _ ?_
  clear hK K
  refine aw_seq_k fun K hK => ?_
  refine aw_seq_k fun K hK => ?_
  refine w_region (n' := 6) (by kernel_rfl) (by kernel_rfl) ?_
  refine aops_n hTT (M := []) (n := 1) [pv (13 : Nat) (V.i (0 : Int))] (by kernel_rfl) (by kernel_rfl) True.intro ?_
  refine aops_nil ?_
  refine xt_n ?_
  refine hK _ ?_
  clear hK K
  refine aw_block ?_
  refine w_loop (fun k : Nat => [(0, V.pts l), (1, V.ints radii), (2, .i per), (3, .i angle), (4, .i x), (13, .i k)]) (fun _ => []) (fun k => k ≤ radii.length ∧ ∀ j, j < k → radB (gi radii j) = false) (fun k => radii.length - k) 0 ⟨Nat.zero_le _, fun j hj => by omega⟩ ?_ ?_
  · refine le_ren [] (.cons (by kernel_rfl) (.cons (by kernel_rfl) (.cons (by kernel_rfl) (.cons (by kernel_rfl) (.cons (by kernel_rfl) (.cons (by kernel_rfl) .nil)))))) .nil (by kernel_rfl) (by kernel_rfl)
  rintro k ⟨hk, hb⟩
  refine aw_seq_k fun K hK => ?_
  refine aw_seq_k fun K hK => ?_
  refine w_region (n' := 2) (by kernel_rfl) (by kernel_rfl) ?_
  refine aops_n hTT (M := []) (n := 4) [pv (25 : Nat) (V.i (↑k : Int)), pv (26 : Nat) (V.sl (1 : Nat) (List.length radii) fun (k : Nat) => [V.i (gi radii k)]), pv (27 : Nat) (V.i (↑(List.length radii) : Int)), pv (28 : Nat) (V.b (decide ((↑k : Int) < (↑(List.length radii) : Int))))] (by kernel_rfl) (by kernel_rfl) True.intro ?_
  refine aops_nil ?_
  refine xt_n ?_
  refine hK _ ?_
  clear hK K
  refine w_cond (t := decide ((↑k : Int) < (↑(List.length radii) : Int))) (by kernel_rfl) (fun hkl => ?_) (fun hkl => ?_)
  · simp at hkl
    refine aw_skip ?_
    refine xt_n ?_
    refine hK _ ?_
    clear hK K
    refine aw_seq_k fun K hK => ?_
    refine aw_block ?_
    refine aw_seq_k fun K hK => ?_
    refine w_region (n' := 3) (by kernel_rfl) (by kernel_rfl) ?_
    refine aops_n hTT (M := []) (n := 12) [pv (31 : Nat) (V.sl (1 : Nat) (List.length radii) fun (k : Nat) => [V.i (gi radii k)]), pv (32 : Nat) (V.i (↑k : Int)), pc (33 : Nat) ((0 : Int) ≤ (↑k : Int) ∧ (↑k : Int) < (↑(List.length radii) : Int)) (V.ptr [V.i (gi radii k)]), pv (34 : Nat) (V.i (gi radii k)), pv (35 : Nat) (V.b (decide (gi radii k < (-16777216 : Int)))), pv (36 : Nat) (V.b (decide (gi radii k < (-16777216 : Int)))), pc (37 : Nat) ((True ∧ True) ∧ ((decide (gi radii k < (-16777216 : Int)) == false) = true → True)) (V.gd (decide (gi radii k < (-16777216 : Int)) == false) (V.sl (1 : Nat) (List.length radii) fun (k : Nat) => [V.i (gi radii k)])), pc (38 : Nat) ((True ∧ True) ∧ ((decide (gi radii k < (-16777216 : Int)) == false) = true → True)) (V.gd (decide (gi radii k < (-16777216 : Int)) == false) (V.i (↑k : Int))), pc (39 : Nat) ((((decide (gi radii k < (-16777216 : Int)) == false) = true → (decide (gi radii k < (-16777216 : Int)) == false) = true) ∧ ((decide (gi radii k < (-16777216 : Int)) == false) = true → (decide (gi radii k < (-16777216 : Int)) == false) = true) ∧ True) ∧ ((decide (gi radii k < (-16777216 : Int)) == false) = true → (0 : Int) ≤ (↑k : Int) ∧ (↑k : Int) < (↑(List.length radii) : Int))) (V.gd (decide (gi radii k < (-16777216 : Int)) == false) (V.ptr [V.i (gi radii k)])), pc (40 : Nat) ((((decide (gi radii k < (-16777216 : Int)) == false) = true → (decide (gi radii k < (-16777216 : Int)) == false) = true) ∧ True) ∧ ((decide (gi radii k < (-16777216 : Int)) == false) = true → True)) (V.gd (decide (gi radii k < (-16777216 : Int)) == false) (V.i (gi radii k))), pc (41 : Nat) ((((decide (gi radii k < (-16777216 : Int)) == false) = true → (decide (gi radii k < (-16777216 : Int)) == false) = true) ∧ True ∧ True) ∧ ((decide (gi radii k < (-16777216 : Int)) == false) = true → True)) (V.gd (decide (gi radii k < (-16777216 : Int)) == false) (V.b (decide ((16777216 : Int) < gi radii k)))), pc (42 : Nat) (True ∧ (decide (gi radii k < (-16777216 : Int)) = false → (decide (gi radii k < (-16777216 : Int)) == false) = true)) (V.b (decide (gi radii k < (-16777216 : Int)) || decide ((16777216 : Int) < gi radii k)))] (by kernel_rfl) (by kernel_rfl) ⟨(by omega), ⟨⟨True.intro, True.intro⟩, (fun _ => True.intro)⟩, ⟨⟨True.intro, True.intro⟩, (fun _ => True.intro)⟩, ⟨⟨(by (exact fun h => h)), ⟨(by (exact fun h => h)), True.intro⟩⟩, (by (intro hg; simp at hg; omega))⟩, ⟨⟨(by (exact fun h => h)), True.intro⟩, (fun _ => True.intro)⟩, ⟨⟨(by (exact fun h => h)), ⟨True.intro, True.intro⟩⟩, (fun _ => True.intro)⟩, ⟨True.intro, (by (intro h; rw [h]; rfl))⟩, True.intro⟩ ?_
    refine aops_nil ?_
    refine xt_n ?_
    refine hK _ ?_
    clear hK K
    refine w_cond (t := decide (gi radii k < (-16777216 : Int)) || decide ((16777216 : Int) < gi radii k)) (by kernel_rfl) (fun h3 => ?_) (fun h3 => ?_)
    · refine aw_seq_k fun K hK => ?_
      refine w_region (n' := 4) (by kernel_rfl) (by kernel_rfl) ?_
      refine aops_n hTT (M := []) (n := 2) [pv (10 : Nat) (V.i (0 : Int)), pv (11 : Nat) (V.i (2 : Int))] (by kernel_rfl) (by kernel_rfl) True.intro ?_
      refine aops_nil ?_
      refine xt_n ?_
      refine hK _ ?_
      clear hK K
      refine aw_ret ?_
      refine xb_r ?_
      refine xt_r ?_
      refine xt_r ?_
      refine xb_r ?_
      refine xt_r ?_
      rw [dropF_3 h1 (by omega) hkl h3]
      refine ret_pure (v' := V.tup [V.i (0 : Int), V.i (2 : Int)]) (.inr rfl) (by kernel_rfl) (by kernel_rfl) (by kernel_rfl)
    refine aw_skip ?_
    refine xb_n ?_
    refine xt_n ?_
    refine hK _ ?_
    clear hK K
    refine w_region (n' := 4) (by kernel_rfl) (by kernel_rfl) ?_
    refine aops_n hTT (M := []) (n := 3) [pv (29 : Nat) (V.i (↑k : Int)), pc (30 : Nat) ((-9223372036854775808 : Int) ≤ (↑k : Int) + (1 : Int) ∧ (↑k : Int) + (1 : Int) ≤ (9223372036854775807 : Int)) (V.i ((↑k : Int) + (1 : Int))), pv (13 : Nat) (V.i ((↑k : Int) + (1 : Int)))] (by kernel_rfl) (by kernel_rfl) ⟨(by omega), True.intro⟩ ?_
    refine aops_nil ?_
    refine xt_n ?_
    refine ⟨k + 1, ⟨by omega, fun j hj => ?_⟩, ?_, by omega⟩
    · by_cases he : j = k
      · subst he; exact h3
      · exact hb j (by omega)
    · refine le_ren [] (.cons (by kernel_rfl) (.cons (by kernel_rfl) (.cons (by kernel_rfl) (.cons (by kernel_rfl) (.cons (by kernel_rfl) (.cons (by kernel_rfl) .nil)))))) .nil (by kernel_rfl) (by kernel_rfl)
  simp at hkl
  have hb' : ∀ j, j < radii.length → radB (gi radii j) = false := fun j hj => hb j (by omega)
  refine aw_exit ?_
  refine xt_x ?_
  refine xt_x ?_
  refine xb_same ?_
  refine xt_n ?_
  clear hK K
  refine hK _ ?_
  clear hK K
  refine aw_seq_k fun K hK => ?_
  refine aw_seq_k fun K hK => ?_
  refine w_region (n' := 3) (by kernel_rfl) (by kernel_rfl) ?_
  refine aops_n hTT (M := []) (n := 15) [pv (43 : Nat) (V.i per), pv (44 : Nat) (V.b (decide (per < (1 : Int)))), pv (45 : Nat) (V.b (decide (per < (1 : Int)))), pc (46 : Nat) ((True ∧ True) ∧ ((decide (per < (1 : Int)) == false) = true → True)) (V.gd (decide (per < (1 : Int)) == false) (V.i per)), pc (47 : Nat) ((((decide (per < (1 : Int)) == false) = true → (decide (per < (1 : Int)) == false) = true) ∧ True ∧ True) ∧ ((decide (per < (1 : Int)) == false) = true → True)) (V.gd (decide (per < (1 : Int)) == false) (V.b (decide ((65536 : Int) < per)))), pc (48 : Nat) (True ∧ (decide (per < (1 : Int)) = false → (decide (per < (1 : Int)) == false) = true)) (V.b (decide (per < (1 : Int)) || decide ((65536 : Int) < per))), pv (49 : Nat) (V.b (decide (per < (1 : Int)) || decide ((65536 : Int) < per))), pc (50 : Nat) ((True ∧ True) ∧ (((decide (per < (1 : Int)) || decide ((65536 : Int) < per)) == false) = true → True)) (V.gd ((decide (per < (1 : Int)) || decide ((65536 : Int) < per)) == false) (V.i angle)), pc (51 : Nat) (((((decide (per < (1 : Int)) || decide ((65536 : Int) < per)) == false) = true → ((decide (per < (1 : Int)) || decide ((65536 : Int) < per)) == false) = true) ∧ True ∧ True) ∧ (((decide (per < (1 : Int)) || decide ((65536 : Int) < per)) == false) = true → True)) (V.gd ((decide (per < (1 : Int)) || decide ((65536 : Int) < per)) == false) (V.b (decide (angle < (0 : Int))))), pc (52 : Nat) (True ∧ ((decide (per < (1 : Int)) || decide ((65536 : Int) < per)) = false → ((decide (per < (1 : Int)) || decide ((65536 : Int) < per)) == false) = true)) (V.b (decide (per < (1 : Int)) || decide ((65536 : Int) < per) || decide (angle < (0 : Int)))), pv (53 : Nat) (V.b (decide (per < (1 : Int)) || decide ((65536 : Int) < per) || decide (angle < (0 : Int)))), pc (54 : Nat) ((True ∧ True) ∧ (((decide (per < (1 : Int)) || decide ((65536 : Int) < per) || decide (angle < (0 : Int))) == false) = true → True)) (V.gd ((decide (per < (1 : Int)) || decide ((65536 : Int) < per) || decide (angle < (0 : Int))) == false) (V.i angle)), pc (55 : Nat) ((True ∧ True) ∧ (((decide (per < (1 : Int)) || decide ((65536 : Int) < per) || decide (angle < (0 : Int))) == false) = true → True)) (V.gd ((decide (per < (1 : Int)) || decide ((65536 : Int) < per) || decide (angle < (0 : Int))) == false) (V.i per)), pc (56 : Nat) (((((decide (per < (1 : Int)) || decide ((65536 : Int) < per) || decide (angle < (0 : Int))) == false) = true → ((decide (per < (1 : Int)) || decide ((65536 : Int) < per) || decide (angle < (0 : Int))) == false) = true) ∧ (((decide (per < (1 : Int)) || decide ((65536 : Int) < per) || decide (angle < (0 : Int))) == false) = true → ((decide (per < (1 : Int)) || decide ((65536 : Int) < per) || decide (angle < (0 : Int))) == false) = true) ∧ True) ∧ (((decide (per < (1 : Int)) || decide ((65536 : Int) < per) || decide (angle < (0 : Int))) == false) = true → True)) (V.gd ((decide (per < (1 : Int)) || decide ((65536 : Int) < per) || decide (angle < (0 : Int))) == false) (V.b (decide (per ≤ angle)))), pc (57 : Nat) (True ∧ ((decide (per < (1 : Int)) || decide ((65536 : Int) < per) || decide (angle < (0 : Int))) = false → ((decide (per < (1 : Int)) || decide ((65536 : Int) < per) || decide (angle < (0 : Int))) == false) = true)) (V.b (decide (per < (1 : Int)) || decide ((65536 : Int) < per) || decide (angle < (0 : Int)) || decide (per ≤ angle)))] (by kernel_rfl) (by kernel_rfl) ⟨⟨⟨True.intro, True.intro⟩, (fun _ => True.intro)⟩, ⟨⟨(by (exact fun h => h)), ⟨True.intro, True.intro⟩⟩, (fun _ => True.intro)⟩, ⟨True.intro, (by (intro h; rw [h]; rfl))⟩, ⟨⟨True.intro, True.intro⟩, (fun _ => True.intro)⟩, ⟨⟨(by (exact fun h => h)), ⟨True.intro, True.intro⟩⟩, (fun _ => True.intro)⟩, ⟨True.intro, (by (intro h; rw [h]; rfl))⟩, ⟨⟨True.intro, True.intro⟩, (fun _ => True.intro)⟩, ⟨⟨True.intro, True.intro⟩, (fun _ => True.intro)⟩, ⟨⟨(by (exact fun h => h)), ⟨(by (exact fun h => h)), True.intro⟩⟩, (fun _ => True.intro)⟩, ⟨True.intro, (by (intro h; rw [h]; rfl))⟩, True.intro⟩ ?_
  refine aops_nil ?_
  refine xt_n ?_
  refine hK _ ?_
  clear hK K
  refine w_cond (t := decide (per < (1 : Int)) || decide ((65536 : Int) < per) || decide (angle < (0 : Int)) || decide (per ≤ angle)) (by kernel_rfl) (fun h4 => ?_) (fun h4 => ?_)
  · simp at h4
    refine aw_seq_k fun K hK => ?_
    refine w_region (n' := 4) (by kernel_rfl) (by kernel_rfl) ?_
    refine aops_n hTT (M := []) (n := 2) [pv (10 : Nat) (V.i (0 : Int)), pv (11 : Nat) (V.i (3 : Int))] (by kernel_rfl) (by kernel_rfl) True.intro ?_
    refine aops_nil ?_
    refine xt_n ?_
    refine hK _ ?_
    clear hK K
    refine aw_ret ?_
    refine xt_r ?_
    rw [dropF_4 h1 (by omega) hb' (by omega)]
    refine ret_pure (v' := V.tup [V.i (0 : Int), V.i (3 : Int)]) (.inr rfl) (by kernel_rfl) (by kernel_rfl) (by kernel_rfl)
  simp at h4
  obtain ⟨p, rfl⟩ : ∃ p : Nat, per = (p : Int) := ⟨per.toNat, by omega⟩
  obtain ⟨a, rfl⟩ : ∃ a : Nat, angle = (a : Int) := ⟨angle.toNat, by omega⟩
  have hF5 : dropF l radii p a x = dropI l radii p a x := dropF_5 h1 (by omega) hb' (by omega)
  refine aw_skip ?_
  refine xt_n ?_
  refine hK _ ?_
  clear hK K
  refine aw_seq_k fun K hK => ?_
  refine aw_seq_k fun K hK => ?_
  refine w_region (n' := 4) (by kernel_rfl) (by kernel_rfl) ?_
  refine aops_n hTT (M := []) (n := 1) [pv (14 : Nat) (V.i (0 : Int))] (by kernel_rfl) (by kernel_rfl) True.intro ?_
  refine aops_nil ?_
  refine xt_n ?_
  refine hK _ ?_
  clear hK K
  refine aw_block ?_
  refine w_loop (fun k : Nat => [(0, V.pts l), (1, V.ints radii), (2, .i p), (3, .i a), (4, .i x), (14, .i k)]) (fun _ => []) (fun k => k ≤ l.length ∧ ∀ j, j < k → (decide (j % p = a) && dropIn l radii x j) = false) (fun k => l.length - k) 0 ⟨Nat.zero_le _, fun j hj => by omega⟩ ?_ ?_
  · refine le_ren [] (.cons (by kernel_rfl) (.cons (by kernel_rfl) (.cons (by kernel_rfl) (.cons (by kernel_rfl) (.cons (by kernel_rfl) (.cons (by kernel_rfl) .nil)))))) .nil (by kernel_rfl) (by kernel_rfl)
  rintro k ⟨hk, hn⟩
  refine aw_seq_k fun K hK => ?_
  refine aw_seq_k fun K hK => ?_
  refine w_region (n' := 2) (by kernel_rfl) (by kernel_rfl) ?_
  refine aops_n hTT (M := []) (n := 4) [pv (58 : Nat) (V.i (↑k : Int)), pv (59 : Nat) (V.sl (2 : Nat) (List.length l) fun (k : Nat) => [V.i (Prod.fst (gp l k)), V.i (Prod.snd (gp l k))]), pv (60 : Nat) (V.i (↑(List.length l) : Int)), pv (61 : Nat) (V.b (decide ((↑k : Int) < (↑(List.length l) : Int))))] (by kernel_rfl) (by kernel_rfl) True.intro ?_
  refine aops_nil ?_
  refine xt_n ?_
  refine hK _ ?_
  clear hK K
  refine w_cond (t := decide ((↑k : Int) < (↑(List.length l) : Int))) (by kernel_rfl) (fun hkl => ?_) (fun hkl => ?_)
  · simp at hkl
    have hkr : k < radii.length := by omega
    have g1 := gp_bd m5 k
    have g2 : -16777216 ≤ gi radii k ∧ gi radii k ≤ 16777216 := by simpa [radB] using hb' k hkr
    have e1 : (k : Int).tmod (p : Int) = ((k % p : Nat) : Int) := by rw [Int.tmod_eq_emod_of_nonneg (by omega)]; omega
    refine aw_skip ?_
    refine xt_n ?_
    refine hK _ ?_
    clear hK K
    refine aw_seq_k fun K hK => ?_
    refine aw_block ?_
    refine aw_seq_k fun K hK => ?_
    refine w_regionD (n' := 3) (by kernel_rfl) (by kernel_rfl) ?_
    refine aops_n hTT (M := []) (n := 33) [pv (64 : Nat) (V.i (↑k : Int)), pv (65 : Nat) (V.i (↑p : Int)), pc (66 : Nat) ((↑p : Int) ≠ (0 : Int)) (V.i (Int.tmod (↑k : Int) (↑p : Int))), pv (67 : Nat) (V.i (↑a : Int)), pv (68 : Nat) (V.b (decide (Int.tmod (↑k : Int) (↑p : Int) = (↑a : Int)))), pv (69 : Nat) (V.b (decide (Int.tmod (↑k : Int) (↑p : Int) = (↑a : Int)))), pc (70 : Nat) ((True ∧ True) ∧ ((decide (Int.tmod (↑k : Int) (↑p : Int) = (↑a : Int)) == true) = true → True)) (V.gd (decide (Int.tmod (↑k : Int) (↑p : Int) = (↑a : Int)) == true) (V.i x)), pc (71 : Nat) ((True ∧ True) ∧ ((decide (Int.tmod (↑k : Int) (↑p : Int) = (↑a : Int)) == true) = true → True)) (V.gd (decide (Int.tmod (↑k : Int) (↑p : Int) = (↑a : Int)) == true) (V.sl (1 : Nat) (List.length radii) fun (k : Nat) => [V.i (gi radii k)])), pc (72 : Nat) ((True ∧ True) ∧ ((decide (Int.tmod (↑k : Int) (↑p : Int) = (↑a : Int)) == true) = true → True)) (V.gd (decide (Int.tmod (↑k : Int) (↑p : Int) = (↑a : Int)) == true) (V.i (↑k : Int))), pc (73 : Nat) ((((decide (Int.tmod (↑k : Int) (↑p : Int) = (↑a : Int)) == true) = true → (decide (Int.tmod (↑k : Int) (↑p : Int) = (↑a : Int)) == true) = true) ∧ ((decide (Int.tmod (↑k : Int) (↑p : Int) = (↑a : Int)) == true) = true → (decide (Int.tmod (↑k : Int) (↑p : Int) = (↑a : Int)) == true) = true) ∧ True) ∧ ((decide (Int.tmod (↑k : Int) (↑p : Int) = (↑a : Int)) == true) = true → (0 : Int) ≤ (↑k : Int) ∧ (↑k : Int) < (↑(List.length radii) : Int))) (V.gd (decide (Int.tmod (↑k : Int) (↑p : Int) = (↑a : Int)) == true) (V.ptr [V.i (gi radii k)])), pc (74 : Nat) ((((decide (Int.tmod (↑k : Int) (↑p : Int) = (↑a : Int)) == true) = true → (decide (Int.tmod (↑k : Int) (↑p : Int) = (↑a : Int)) == true) = true) ∧ True) ∧ ((decide (Int.tmod (↑k : Int) (↑p : Int) = (↑a : Int)) == true) = true → True)) (V.gd (decide (Int.tmod (↑k : Int) (↑p : Int) = (↑a : Int)) == true) (V.i (gi radii k))), pc (75 : Nat) ((True ∧ True) ∧ ((decide (Int.tmod (↑k : Int) (↑p : Int) = (↑a : Int)) == true) = true → True)) (V.gd (decide (Int.tmod (↑k : Int) (↑p : Int) = (↑a : Int)) == true) (V.sl (2 : Nat) (List.length l) fun (k : Nat) => [V.i (Prod.fst (gp l k)), V.i (Prod.snd (gp l k))])), pc (76 : Nat) ((True ∧ True) ∧ ((decide (Int.tmod (↑k : Int) (↑p : Int) = (↑a : Int)) == true) = true → True)) (V.gd (decide (Int.tmod (↑k : Int) (↑p : Int) = (↑a : Int)) == true) (V.i (↑k : Int))), pc (77 : Nat) ((((decide (Int.tmod (↑k : Int) (↑p : Int) = (↑a : Int)) == true) = true → (decide (Int.tmod (↑k : Int) (↑p : Int) = (↑a : Int)) == true) = true) ∧ ((decide (Int.tmod (↑k : Int) (↑p : Int) = (↑a : Int)) == true) = true → (decide (Int.tmod (↑k : Int) (↑p : Int) = (↑a : Int)) == true) = true) ∧ True) ∧ ((decide (Int.tmod (↑k : Int) (↑p : Int) = (↑a : Int)) == true) = true → (0 : Int) ≤ (↑k : Int) ∧ (↑k : Int) < (↑(List.length l) : Int))) (V.gd (decide (Int.tmod (↑k : Int) (↑p : Int) = (↑a : Int)) == true) (V.ptr [V.i (Prod.fst (gp l k)), V.i (Prod.snd (gp l k))])), pc (78 : Nat) ((((decide (Int.tmod (↑k : Int) (↑p : Int) = (↑a : Int)) == true) = true → (decide (Int.tmod (↑k : Int) (↑p : Int) = (↑a : Int)) == true) = true) ∧ True) ∧ ((decide (Int.tmod (↑k : Int) (↑p : Int) = (↑a : Int)) == true) = true → True)) (V.gd (decide (Int.tmod (↑k : Int) (↑p : Int) = (↑a : Int)) == true) (V.ptr [V.i (Prod.fst (gp l k)), V.i (Prod.snd (gp l k))])), pc (79 : Nat) ((((decide (Int.tmod (↑k : Int) (↑p : Int) = (↑a : Int)) == true) = true → (decide (Int.tmod (↑k : Int) (↑p : Int) = (↑a : Int)) == true) = true) ∧ True) ∧ ((decide (Int.tmod (↑k : Int) (↑p : Int) = (↑a : Int)) == true) = true → True)) (V.gd (decide (Int.tmod (↑k : Int) (↑p : Int) = (↑a : Int)) == true) (V.i (Prod.fst (gp l k)))), pc (80 : Nat) ((((decide (Int.tmod (↑k : Int) (↑p : Int) = (↑a : Int)) == true) = true → (decide (Int.tmod (↑k : Int) (↑p : Int) = (↑a : Int)) == true) = true) ∧ ((decide (Int.tmod (↑k : Int) (↑p : Int) = (↑a : Int)) == true) = true → (decide (Int.tmod (↑k : Int) (↑p : Int) = (↑a : Int)) == true) = true) ∧ True) ∧ ((decide (Int.tmod (↑k : Int) (↑p : Int) = (↑a : Int)) == true) = true → (-9223372036854775808 : Int) ≤ gi radii k + Prod.fst (gp l k) ∧ gi radii k + Prod.fst (gp l k) ≤ (9223372036854775807 : Int))) (V.gd (decide (Int.tmod (↑k : Int) (↑p : Int) = (↑a : Int)) == true) (V.i (gi radii k + Prod.fst (gp l k)))), pc (81 : Nat) ((((decide (Int.tmod (↑k : Int) (↑p : Int) = (↑a : Int)) == true) = true → (decide (Int.tmod (↑k : Int) (↑p : Int) = (↑a : Int)) == true) = true) ∧ ((decide (Int.tmod (↑k : Int) (↑p : Int) = (↑a : Int)) == true) = true → (decide (Int.tmod (↑k : Int) (↑p : Int) = (↑a : Int)) == true) = true) ∧ True) ∧ ((decide (Int.tmod (↑k : Int) (↑p : Int) = (↑a : Int)) == true) = true → True)) (V.gd (decide (Int.tmod (↑k : Int) (↑p : Int) = (↑a : Int)) == true) (V.b (decide (gi radii k + Prod.fst (gp l k) ≤ x)))), pc (82 : Nat) ((decide (Int.tmod (↑k : Int) (↑p : Int) = (↑a : Int)) = true → (decide (Int.tmod (↑k : Int) (↑p : Int) = (↑a : Int)) == true) = true) ∧ True) (V.b (decide (Int.tmod (↑k : Int) (↑p : Int) = (↑a : Int)) && decide (gi radii k + Prod.fst (gp l k) ≤ x))), pv (83 : Nat) (V.b (decide (Int.tmod (↑k : Int) (↑p : Int) = (↑a : Int)) && decide (gi radii k + Prod.fst (gp l k) ≤ x))), pc (84 : Nat) ((True ∧ True) ∧ (((decide (Int.tmod (↑k : Int) (↑p : Int) = (↑a : Int)) && decide (gi radii k + Prod.fst (gp l k) ≤ x)) == true) = true → True)) (V.gd ((decide (Int.tmod (↑k : Int) (↑p : Int) = (↑a : Int)) && decide (gi radii k + Prod.fst (gp l k) ≤ x)) == true) (V.i x)), pc (85 : Nat) ((True ∧ True) ∧ (((decide (Int.tmod (↑k : Int) (↑p : Int) = (↑a : Int)) && decide (gi radii k + Prod.fst (gp l k) ≤ x)) == true) = true → True)) (V.gd ((decide (Int.tmod (↑k : Int) (↑p : Int) = (↑a : Int)) && decide (gi radii k + Prod.fst (gp l k) ≤ x)) == true) (V.sl (1 : Nat) (List.length radii) fun (k : Nat) => [V.i (gi radii k)])), pc (86 : Nat) ((True ∧ True) ∧ (((decide (Int.tmod (↑k : Int) (↑p : Int) = (↑a : Int)) && decide (gi radii k + Prod.fst (gp l k) ≤ x)) == true) = true → True)) (V.gd ((decide (Int.tmod (↑k : Int) (↑p : Int) = (↑a : Int)) && decide (gi radii k + Prod.fst (gp l k) ≤ x)) == true) (V.i (↑k : Int))), pc (87 : Nat) (((((decide (Int.tmod (↑k : Int) (↑p : Int) = (↑a : Int)) && decide (gi radii k + Prod.fst (gp l k) ≤ x)) == true) = true → ((decide (Int.tmod (↑k : Int) (↑p : Int) = (↑a : Int)) && decide (gi radii k + Prod.fst (gp l k) ≤ x)) == true) = true) ∧ (((decide (Int.tmod (↑k : Int) (↑p : Int) = (↑a : Int)) && decide (gi radii k + Prod.fst (gp l k) ≤ x)) == true) = true → ((decide (Int.tmod (↑k : Int) (↑p : Int) = (↑a : Int)) && decide (gi radii k + Prod.fst (gp l k) ≤ x)) == true) = true) ∧ True) ∧ (((decide (Int.tmod (↑k : Int) (↑p : Int) = (↑a : Int)) && decide (gi radii k + Prod.fst (gp l k) ≤ x)) == true) = true → (0 : Int) ≤ (↑k : Int) ∧ (↑k : Int) < (↑(List.length radii) : Int))) (V.gd ((decide (Int.tmod (↑k : Int) (↑p : Int) = (↑a : Int)) && decide (gi radii k + Prod.fst (gp l k) ≤ x)) == true) (V.ptr [V.i (gi radii k)])), pc (88 : Nat) (((((decide (Int.tmod (↑k : Int) (↑p : Int) = (↑a : Int)) && decide (gi radii k + Prod.fst (gp l k) ≤ x)) == true) = true → ((decide (Int.tmod (↑k : Int) (↑p : Int) = (↑a : Int)) && decide (gi radii k + Prod.fst (gp l k) ≤ x)) == true) = true) ∧ True) ∧ (((decide (Int.tmod (↑k : Int) (↑p : Int) = (↑a : Int)) && decide (gi radii k + Prod.fst (gp l k) ≤ x)) == true) = true → True)) (V.gd ((decide (Int.tmod (↑k : Int) (↑p : Int) = (↑a : Int)) && decide (gi radii k + Prod.fst (gp l k) ≤ x)) == true) (V.i (gi radii k))), pc (89 : Nat) ((True ∧ True) ∧ (((decide (Int.tmod (↑k : Int) (↑p : Int) = (↑a : Int)) && decide (gi radii k + Prod.fst (gp l k) ≤ x)) == true) = true → True)) (V.gd ((decide (Int.tmod (↑k : Int) (↑p : Int) = (↑a : Int)) && decide (gi radii k + Prod.fst (gp l k) ≤ x)) == true) (V.sl (2 : Nat) (List.length l) fun (k : Nat) => [V.i (Prod.fst (gp l k)), V.i (Prod.snd (gp l k))])), pc (90 : Nat) ((True ∧ True) ∧ (((decide (Int.tmod (↑k : Int) (↑p : Int) = (↑a : Int)) && decide (gi radii k + Prod.fst (gp l k) ≤ x)) == true) = true → True)) (V.gd ((decide (Int.tmod (↑k : Int) (↑p : Int) = (↑a : Int)) && decide (gi radii k + Prod.fst (gp l k) ≤ x)) == true) (V.i (↑k : Int))), pc (91 : Nat) (((((decide (Int.tmod (↑k : Int) (↑p : Int) = (↑a : Int)) && decide (gi radii k + Prod.fst (gp l k) ≤ x)) == true) = true → ((decide (Int.tmod (↑k : Int) (↑p : Int) = (↑a : Int)) && decide (gi radii k + Prod.fst (gp l k) ≤ x)) == true) = true) ∧ (((decide (Int.tmod (↑k : Int) (↑p : Int) = (↑a : Int)) && decide (gi radii k + Prod.fst (gp l k) ≤ x)) == true) = true → ((decide (Int.tmod (↑k : Int) (↑p : Int) = (↑a : Int)) && decide (gi radii k + Prod.fst (gp l k) ≤ x)) == true) = true) ∧ True) ∧ (((decide (Int.tmod (↑k : Int) (↑p : Int) = (↑a : Int)) && decide (gi radii k + Prod.fst (gp l k) ≤ x)) == true) = true → (0 : Int) ≤ (↑k : Int) ∧ (↑k : Int) < (↑(List.length l) : Int))) (V.gd ((decide (Int.tmod (↑k : Int) (↑p : Int) = (↑a : Int)) && decide (gi radii k + Prod.fst (gp l k) ≤ x)) == true) (V.ptr [V.i (Prod.fst (gp l k)), V.i (Prod.snd (gp l k))])), pc (92 : Nat) (((((decide (Int.tmod (↑k : Int) (↑p : Int) = (↑a : Int)) && decide (gi radii k + Prod.fst (gp l k) ≤ x)) == true) = true → ((decide (Int.tmod (↑k : Int) (↑p : Int) = (↑a : Int)) && decide (gi radii k + Prod.fst (gp l k) ≤ x)) == true) = true) ∧ True) ∧ (((decide (Int.tmod (↑k : Int) (↑p : Int) = (↑a : Int)) && decide (gi radii k + Prod.fst (gp l k) ≤ x)) == true) = true → True)) (V.gd ((decide (Int.tmod (↑k : Int) (↑p : Int) = (↑a : Int)) && decide (gi radii k + Prod.fst (gp l k) ≤ x)) == true) (V.ptr [V.i (Prod.snd (gp l k))])), pc (93 : Nat) (((((decide (Int.tmod (↑k : Int) (↑p : Int) = (↑a : Int)) && decide (gi radii k + Prod.fst (gp l k) ≤ x)) == true) = true → ((decide (Int.tmod (↑k : Int) (↑p : Int) = (↑a : Int)) && decide (gi radii k + Prod.fst (gp l k) ≤ x)) == true) = true) ∧ True) ∧ (((decide (Int.tmod (↑k : Int) (↑p : Int) = (↑a : Int)) && decide (gi radii k + Prod.fst (gp l k) ≤ x)) == true) = true → True)) (V.gd ((decide (Int.tmod (↑k : Int) (↑p : Int) = (↑a : Int)) && decide (gi radii k + Prod.fst (gp l k) ≤ x)) == true) (V.i (Prod.snd (gp l k)))), pc (94 : Nat) (((((decide (Int.tmod (↑k : Int) (↑p : Int) = (↑a : Int)) && decide (gi radii k + Prod.fst (gp l k) ≤ x)) == true) = true → ((decide (Int.tmod (↑k : Int) (↑p : Int) = (↑a : Int)) && decide (gi radii k + Prod.fst (gp l k) ≤ x)) == true) = true) ∧ (((decide (Int.tmod (↑k : Int) (↑p : Int) = (↑a : Int)) && decide (gi radii k + Prod.fst (gp l k) ≤ x)) == true) = true → ((decide (Int.tmod (↑k : Int) (↑p : Int) = (↑a : Int)) && decide (gi radii k + Prod.fst (gp l k) ≤ x)) == true) = true) ∧ True) ∧ (((decide (Int.tmod (↑k : Int) (↑p : Int) = (↑a : Int)) && decide (gi radii k + Prod.fst (gp l k) ≤ x)) == true) = true → (-9223372036854775808 : Int) ≤ gi radii k + Prod.snd (gp l k) ∧ gi radii k + Prod.snd (gp l k) ≤ (9223372036854775807 : Int))) (V.gd ((decide (Int.tmod (↑k : Int) (↑p : Int) = (↑a : Int)) && decide (gi radii k + Prod.fst (gp l k) ≤ x)) == true) (V.i (gi radii k + Prod.snd (gp l k)))), pc (95 : Nat) (((((decide (Int.tmod (↑k : Int) (↑p : Int) = (↑a : Int)) && decide (gi radii k + Prod.fst (gp l k) ≤ x)) == true) = true → ((decide (Int.tmod (↑k : Int) (↑p : Int) = (↑a : Int)) && decide (gi radii k + Prod.fst (gp l k) ≤ x)) == true) = true) ∧ (((decide (Int.tmod (↑k : Int) (↑p : Int) = (↑a : Int)) && decide (gi radii k + Prod.fst (gp l k) ≤ x)) == true) = true → ((decide (Int.tmod (↑k : Int) (↑p : Int) = (↑a : Int)) && decide (gi radii k + Prod.fst (gp l k) ≤ x)) == true) = true) ∧ True) ∧ (((decide (Int.tmod (↑k : Int) (↑p : Int) = (↑a : Int)) && decide (gi radii k + Prod.fst (gp l k) ≤ x)) == true) = true → True)) (V.gd ((decide (Int.tmod (↑k : Int) (↑p : Int) = (↑a : Int)) && decide (gi radii k + Prod.fst (gp l k) ≤ x)) == true) (V.b (decide (x ≤ gi radii k + Prod.snd (gp l k))))), pc (96 : Nat) (((decide (Int.tmod (↑k : Int) (↑p : Int) = (↑a : Int)) && decide (gi radii k + Prod.fst (gp l k) ≤ x)) = true → ((decide (Int.tmod (↑k : Int) (↑p : Int) = (↑a : Int)) && decide (gi radii k + Prod.fst (gp l k) ≤ x)) == true) = true) ∧ True) (V.b (decide (Int.tmod (↑k : Int) (↑p : Int) = (↑a : Int)) && decide (gi radii k + Prod.fst (gp l k) ≤ x) && decide (x ≤ gi radii k + Prod.snd (gp l k))))] (by kernel_rfl) (by kernel_rfl) ⟨(by omega), ⟨⟨True.intro, True.intro⟩, (fun _ => True.intro)⟩, ⟨⟨True.intro, True.intro⟩, (fun _ => True.intro)⟩, ⟨⟨True.intro, True.intro⟩, (fun _ => True.intro)⟩, ⟨⟨(by (exact fun h => h)), ⟨(by (exact fun h => h)), True.intro⟩⟩, (by (intro hg; simp at hg; omega))⟩, ⟨⟨(by (exact fun h => h)), True.intro⟩, (fun _ => True.intro)⟩, ⟨⟨True.intro, True.intro⟩, (fun _ => True.intro)⟩, ⟨⟨True.intro, True.intro⟩, (fun _ => True.intro)⟩, ⟨⟨(by (exact fun h => h)), ⟨(by (exact fun h => h)), True.intro⟩⟩, (by (intro hg; simp at hg; omega))⟩, ⟨⟨(by (exact fun h => h)), True.intro⟩, (fun _ => True.intro)⟩, ⟨⟨(by (exact fun h => h)), True.intro⟩, (fun _ => True.intro)⟩, ⟨⟨(by (exact fun h => h)), ⟨(by (exact fun h => h)), True.intro⟩⟩, (by (intro hg; simp at hg; omega))⟩, ⟨⟨(by (exact fun h => h)), ⟨(by (exact fun h => h)), True.intro⟩⟩, (fun _ => True.intro)⟩, ⟨(by (intro h; rw [h]; rfl)), True.intro⟩, ⟨⟨True.intro, True.intro⟩, (fun _ => True.intro)⟩, ⟨⟨True.intro, True.intro⟩, (fun _ => True.intro)⟩, ⟨⟨True.intro, True.intro⟩, (fun _ => True.intro)⟩, ⟨⟨(by (exact fun h => h)), ⟨(by (exact fun h => h)), True.intro⟩⟩, (by (intro hg; simp at hg; omega))⟩, ⟨⟨(by (exact fun h => h)), True.intro⟩, (fun _ => True.intro)⟩, ⟨⟨True.intro, True.intro⟩, (fun _ => True.intro)⟩, ⟨⟨True.intro, True.intro⟩, (fun _ => True.intro)⟩, ⟨⟨(by (exact fun h => h)), ⟨(by (exact fun h => h)), True.intro⟩⟩, (by (intro hg; simp at hg; omega))⟩, ⟨⟨(by (exact fun h => h)), True.intro⟩, (fun _ => True.intro)⟩, ⟨⟨(by (exact fun h => h)), True.intro⟩, (fun _ => True.intro)⟩, ⟨⟨(by (exact fun h => h)), ⟨(by (exact fun h => h)), True.intro⟩⟩, (by (intro hg; simp at hg; omega))⟩, ⟨⟨(by (exact fun h => h)), ⟨(by (exact fun h => h)), True.intro⟩⟩, (fun _ => True.intro)⟩, ⟨(by (intro h; rw [h]; rfl)), True.intro⟩, True.intro⟩ ?_
    refine aops_nil ⟨by kernel_rfl, ?_⟩
    refine xt_n ?_
    refine hK _ ?_
    clear hK K
    rw [e1]
    refine w_cond (t := decide (((k % p : Nat) : Int) = (a : Int)) && decide (gi radii k + (gp l k).1 ≤ x) && decide (x ≤ gi radii k + (gp l k).2)) (by kernel_rfl) (fun h3 => ?_) (fun h3 => ?_)
    · simp at h3
      refine aw_seq_k fun K hK => ?_
      refine w_region (n' := 4) (by kernel_rfl) (by kernel_rfl) ?_
      refine aops_n hTT (M := []) (n := 3) [pv (97 : Nat) (V.i (↑k : Int)), pv (10 : Nat) (V.i (↑k : Int)), pv (11 : Nat) (V.i (0 : Int))] (by kernel_rfl) (by kernel_rfl) True.intro ?_
      refine aops_nil ?_
      refine xt_n ?_
      refine hK _ ?_
      clear hK K
      refine aw_ret ?_
      refine xb_r ?_
      refine xt_r ?_
      refine xt_r ?_
      refine xb_r ?_
      refine xt_r ?_
      rw [hF5, dropI_some hkl (by omega) (by simp [dropIn]; omega) hn]
      refine ret_pure (v' := V.tup [V.i (↑k : Int), V.i (0 : Int)]) (.inr rfl) (by kernel_rfl) (by kernel_rfl) (by kernel_rfl)
    · refine aw_skip ?_
      refine xb_n ?_
      refine xt_n ?_
      refine hK _ ?_
      clear hK K
      refine w_region (n' := 4) (by kernel_rfl) (by kernel_rfl) ?_
      refine aops_n hTT (M := []) (n := 3) [pv (62 : Nat) (V.i (↑k : Int)), pc (63 : Nat) ((-9223372036854775808 : Int) ≤ (↑k : Int) + (1 : Int) ∧ (↑k : Int) + (1 : Int) ≤ (9223372036854775807 : Int)) (V.i ((↑k : Int) + (1 : Int))), pv (14 : Nat) (V.i ((↑k : Int) + (1 : Int)))] (by kernel_rfl) (by kernel_rfl) ⟨(by omega), True.intro⟩ ?_
      refine aops_nil ?_
      refine xt_n ?_
      refine ⟨k + 1, ⟨by omega, fun j hj => ?_⟩, ?_, by omega⟩
      · by_cases he : j = k
        · subst he
          simp [dropIn] at h3 ⊢
          omega
        · exact hn j (by omega)
      · refine le_ren [] (.cons (by kernel_rfl) (.cons (by kernel_rfl) (.cons (by kernel_rfl) (.cons (by kernel_rfl) (.cons (by kernel_rfl) (.cons (by kernel_rfl) .nil)))))) .nil (by kernel_rfl) (by kernel_rfl)
  simp at hkl
  refine aw_exit ?_
  refine xt_x ?_
  refine xt_x ?_
  refine xb_same ?_
  refine xt_n ?_
  clear hK K
  refine hK _ ?_
  clear hK K
  refine aw_seq_k fun K hK => ?_
  refine w_region (n' := 3) (by kernel_rfl) (by kernel_rfl) ?_
  refine aops_n hTT (M := []) (n := 2) [pv (10 : Nat) (V.i (0 : Int)), pv (11 : Nat) (V.i (5 : Int))] (by kernel_rfl) (by kernel_rfl) True.intro ?_
  refine aops_nil ?_
  refine xt_n ?_
  refine hK _ ?_
  clear hK K
  refine aw_ret ?_
  rw [hF5, dropI_none fun j hj => hn j (by omega)]
  refine ret_pure (v' := V.tup [V.i (0 : Int), V.i (5 : Int)]) (.inr rfl) (by kernel_rfl) (by kernel_rfl) (by kernel_rfl)
end Go.Proofs.Ytlfaaddoemcokaa
