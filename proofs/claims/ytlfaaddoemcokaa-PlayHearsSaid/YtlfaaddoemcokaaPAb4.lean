/-
  What a tip misses: the reference's copy, and both exported functions. No condition.
-/
import Derived.Test.YtlfaaddoemcokaaPAb3
namespace Go.Proofs.Ytlfaaddoemcokaa
open Go.Ab Go.RowKit Go.Dw Go.Shelf

theorem max_dist (u i : Nat) : max ((u : Int) - (i : Int)) ((i : Int) - (u : Int)) = ((dist u i : Nat) : Int) := by unfold dist; omega
theorem missB_form (t : List Int) (l : List Pt) (k u : Nat) : missB t l k u = (decide (max ((u : Int) - (k : Int)) ((k : Int) - (u : Int)) < (t.length : Int)) && (decide ((gp l (u : Int).toNat).2 + gi t (max ((u : Int) - (k : Int)) ((k : Int) - (u : Int))).toNat < (gp l (k : Int).toNat).2) || decide ((gp l (k : Int).toNat).1 < (gp l (u : Int).toNat).1 - gi t (max ((u : Int) - (k : Int)) ((k : Int) - (u : Int))).toNat))) := by
  rw [max_dist]
  simp [missB]
set_option maxRecDepth 100000 in
theorem refmiss_ac (t : List Int) (l : List Pt) (h0 : checkBoth t l = 0) : AC Try.prog 71 [.agg [V.ints t], V.pts l] (.tup [.i (missI t l).1, .i (missI t l).2.1, .b (decide ((missI t l).2.2 = 0))]) [] := by
  obtain ⟨k1, k2⟩ := checkBoth_ok h0
  obtain ⟨m1, m2, _, _, m3⟩ := checkTip_ok k1
  obtain ⟨m4, m5⟩ := checkPts_ok k2
  refine ac_intro hTT hMX (fn := Try.f71) (N := _) ⟨Try.func71, rfl, Try.ntmps71, by kernel_rfl⟩ (by simp) fun C hC hF => ?_
  refine aw_seq_k fun K hK => ?_
  refine w_region (n' := 2) (by kernel_rfl) (by kernel_rfl) ?_
  refine aops_n hTT (M := []) (n := 4) [pv (2 : Nat) (V.ptr [V.sl (1 : Nat) (List.length t) fun (k : Nat) => [V.i (gi t k)]]), pv (4 : Nat) (V.i (0 : Int)), pv (5 : Nat) (V.i (0 : Int)), pv (6 : Nat) (V.b false)] (by kernel_rfl) (by kernel_rfl) True.intro ?_
  refine aops_nil ?_
  refine xt_n ?_
  refine hK _ ?_
  clear hK K
  refine aw_seq_k fun K hK => ?_
  refine aw_seq_k fun K hK => ?_
  refine w_region (n' := 3) (by kernel_rfl) (by kernel_rfl) ?_
  refine aops_n hTT (M := []) (n := 1) [pv (7 : Nat) (V.i (0 : Int))] (by kernel_rfl) (by kernel_rfl) True.intro ?_
  refine aops_nil ?_
  refine xt_n ?_
  refine hK _ ?_
  clear hK K
  refine aw_block ?_
  refine w_loop (fun k : Nat => [(1, V.pts l), (2, .ptr [V.ints t]), (7, .i k)]) (fun k => []) (fun k => k ≤ l.length ∧ ∀ i, i < k → missRow t l i = none) (fun k => l.length - k) 0 ⟨Nat.zero_le _, fun i hi => by omega⟩ ?_ ?_
  · exact le_ren [] (.cons rfl (.cons rfl (.cons rfl .nil))) .nil rfl rfl
  rintro k ⟨hk, hrow⟩
  refine aw_seq_k fun K hK => ?_
  refine aw_seq_k fun K hK => ?_
  refine w_region (n' := 2) (by kernel_rfl) (by kernel_rfl) ?_
  refine aops_n hTT (M := []) (n := 4) [pv (10 : Nat) (V.i (↑k : Int)), pv (11 : Nat) (V.sl (2 : Nat) (List.length l) fun (k : Nat) => [V.i (Prod.fst (gp l k)), V.i (Prod.snd (gp l k))]), pv (12 : Nat) (V.i (↑(List.length l) : Int)), pv (13 : Nat) (V.b (decide ((↑k : Int) < (↑(List.length l) : Int))))] (by kernel_rfl) (by kernel_rfl) True.intro ?_
  refine aops_nil ?_
  refine xt_n ?_
  refine hK _ ?_
  clear hK K
  refine w_cond rfl (fun h => ?_) (fun h => ?_)
  · simp at h
    refine aw_skip ?_
    refine xt_n ?_
    refine hK _ ?_
    clear hK K
    refine aw_seq_k fun K hK => ?_
    refine aw_block ?_
    refine aw_seq_k fun K hK => ?_
    refine w_region (n' := 3) (by kernel_rfl) (by kernel_rfl) ?_
    refine aops_n hTT (M := []) (n := 1) [pv (8 : Nat) (V.i (0 : Int))] (by kernel_rfl) (by kernel_rfl) True.intro ?_
    refine aops_nil ?_
    refine xt_n ?_
    refine hK _ ?_
    clear hK K
    refine aw_block ?_
    refine w_loop (fun u : Nat => [(1, V.pts l), (2, .ptr [V.ints t]), (7, .i k), (8, .i u)]) (fun k => []) (fun u => u ≤ l.length ∧ ∀ j, j < u → missB t l k j = false) (fun u => l.length - u) 0 ⟨Nat.zero_le _, fun i hi => by omega⟩ ?_ ?_
    · exact le_ren [] (.cons rfl (.cons rfl (.cons rfl (.cons rfl .nil)))) .nil rfl rfl
    rintro u ⟨hu, hbad⟩
    refine aw_seq_k fun K hK => ?_
    refine aw_seq_k fun K hK => ?_
    refine w_region (n' := 2) (by kernel_rfl) (by kernel_rfl) ?_
    refine aops_n hTT (M := []) (n := 4) [pv (16 : Nat) (V.i (↑u : Int)), pv (17 : Nat) (V.sl (2 : Nat) (List.length l) fun (k : Nat) => [V.i (Prod.fst (gp l k)), V.i (Prod.snd (gp l k))]), pv (18 : Nat) (V.i (↑(List.length l) : Int)), pv (19 : Nat) (V.b (decide ((↑u : Int) < (↑(List.length l) : Int))))] (by kernel_rfl) (by kernel_rfl) True.intro ?_
    refine aops_nil ?_
    refine xt_n ?_
    refine hK _ ?_
    clear hK K
    refine w_cond rfl (fun hul => ?_) (fun hul => ?_)
    · simp at hul
      have b0 := gp_bd m5 k
      have b1 := gp_bd m5 u
      have b2 := gi_bd m3 (max ((u : Int) - (k : Int)) ((k : Int) - (u : Int))).toNat
      refine aw_skip ?_
      refine xt_n ?_
      refine hK _ ?_
      clear hK K
      refine aw_seq_k fun K hK => ?_
      refine aw_block ?_
      refine aw_seq_k fun K hK => ?_
      refine w_region (n' := 3) (by kernel_rfl) (by kernel_rfl) ?_
      refine aops_n hTT (M := []) (n := 8) [pv (22 : Nat) (V.i (↑u : Int)), pv (23 : Nat) (V.i (↑k : Int)), pc (24 : Nat) ((-9223372036854775808 : Int) ≤ (↑u : Int) - (↑k : Int) ∧ (↑u : Int) - (↑k : Int) ≤ (9223372036854775807 : Int)) (V.i ((↑u : Int) - (↑k : Int))), pv (25 : Nat) (V.i (↑k : Int)), pv (26 : Nat) (V.i (↑u : Int)), pc (27 : Nat) ((-9223372036854775808 : Int) ≤ (↑k : Int) - (↑u : Int) ∧ (↑k : Int) - (↑u : Int) ≤ (9223372036854775807 : Int)) (V.i ((↑k : Int) - (↑u : Int))), pv (28 : Nat) (V.i (max ((↑u : Int) - (↑k : Int)) ((↑k : Int) - (↑u : Int)))), pv (9 : Nat) (V.i (max ((↑u : Int) - (↑k : Int)) ((↑k : Int) - (↑u : Int))))] (by kernel_rfl) (by kernel_rfl) ⟨(by omega), (by omega), True.intro⟩ ?_
      refine aops_nil ?_
      refine xt_n ?_
      refine hK _ ?_
      clear hK K
      refine aw_seq_k fun K hK => ?_
      refine w_regionD (n' := 4) (by kernel_rfl) (by kernel_rfl) ?_
      refine aops_n hTT (M := []) (n := 43) [pv (29 : Nat) (V.i (max ((↑u : Int) - (↑k : Int)) ((↑k : Int) - (↑u : Int)))), pv (30 : Nat) (V.ptr [V.sl (1 : Nat) (List.length t) fun (k : Nat) => [V.i (gi t k)]]), pv (31 : Nat) (V.sl (1 : Nat) (List.length t) fun (k : Nat) => [V.i (gi t k)]), pv (32 : Nat) (V.i (↑(List.length t) : Int)), pv (33 : Nat) (V.b (decide (max ((↑u : Int) - (↑k : Int)) ((↑k : Int) - (↑u : Int)) < (↑(List.length t) : Int)))), pv (34 : Nat) (V.b (decide (max ((↑u : Int) - (↑k : Int)) ((↑k : Int) - (↑u : Int)) < (↑(List.length t) : Int)))), pc (35 : Nat) ((True ∧ True) ∧ ((decide (max ((↑u : Int) - (↑k : Int)) ((↑k : Int) - (↑u : Int)) < (↑(List.length t) : Int)) == true) = true → True)) (V.gd (decide (max ((↑u : Int) - (↑k : Int)) ((↑k : Int) - (↑u : Int)) < (↑(List.length t) : Int)) == true) (V.sl (2 : Nat) (List.length l) fun (k : Nat) => [V.i (Prod.fst (gp l k)), V.i (Prod.snd (gp l k))])), pc (36 : Nat) ((True ∧ True) ∧ ((decide (max ((↑u : Int) - (↑k : Int)) ((↑k : Int) - (↑u : Int)) < (↑(List.length t) : Int)) == true) = true → True)) (V.gd (decide (max ((↑u : Int) - (↑k : Int)) ((↑k : Int) - (↑u : Int)) < (↑(List.length t) : Int)) == true) (V.i (↑k : Int))), pc (37 : Nat) ((((decide (max ((↑u : Int) - (↑k : Int)) ((↑k : Int) - (↑u : Int)) < (↑(List.length t) : Int)) == true) = true → (decide (max ((↑u : Int) - (↑k : Int)) ((↑k : Int) - (↑u : Int)) < (↑(List.length t) : Int)) == true) = true) ∧ ((decide (max ((↑u : Int) - (↑k : Int)) ((↑k : Int) - (↑u : Int)) < (↑(List.length t) : Int)) == true) = true → (decide (max ((↑u : Int) - (↑k : Int)) ((↑k : Int) - (↑u : Int)) < (↑(List.length t) : Int)) == true) = true) ∧ True) ∧ ((decide (max ((↑u : Int) - (↑k : Int)) ((↑k : Int) - (↑u : Int)) < (↑(List.length t) : Int)) == true) = true → (0 : Int) ≤ (↑k : Int) ∧ (↑k : Int) < (↑(List.length l) : Int))) (V.gd (decide (max ((↑u : Int) - (↑k : Int)) ((↑k : Int) - (↑u : Int)) < (↑(List.length t) : Int)) == true) (V.ptr [V.i (Prod.fst (gp l k)), V.i (Prod.snd (gp l k))])), pc (38 : Nat) ((((decide (max ((↑u : Int) - (↑k : Int)) ((↑k : Int) - (↑u : Int)) < (↑(List.length t) : Int)) == true) = true → (decide (max ((↑u : Int) - (↑k : Int)) ((↑k : Int) - (↑u : Int)) < (↑(List.length t) : Int)) == true) = true) ∧ True) ∧ ((decide (max ((↑u : Int) - (↑k : Int)) ((↑k : Int) - (↑u : Int)) < (↑(List.length t) : Int)) == true) = true → True)) (V.gd (decide (max ((↑u : Int) - (↑k : Int)) ((↑k : Int) - (↑u : Int)) < (↑(List.length t) : Int)) == true) (V.ptr [V.i (Prod.snd (gp l k))])), pc (39 : Nat) ((((decide (max ((↑u : Int) - (↑k : Int)) ((↑k : Int) - (↑u : Int)) < (↑(List.length t) : Int)) == true) = true → (decide (max ((↑u : Int) - (↑k : Int)) ((↑k : Int) - (↑u : Int)) < (↑(List.length t) : Int)) == true) = true) ∧ True) ∧ ((decide (max ((↑u : Int) - (↑k : Int)) ((↑k : Int) - (↑u : Int)) < (↑(List.length t) : Int)) == true) = true → True)) (V.gd (decide (max ((↑u : Int) - (↑k : Int)) ((↑k : Int) - (↑u : Int)) < (↑(List.length t) : Int)) == true) (V.i (Prod.snd (gp l k)))), pc (40 : Nat) ((True ∧ True) ∧ ((decide (max ((↑u : Int) - (↑k : Int)) ((↑k : Int) - (↑u : Int)) < (↑(List.length t) : Int)) == true) = true → True)) (V.gd (decide (max ((↑u : Int) - (↑k : Int)) ((↑k : Int) - (↑u : Int)) < (↑(List.length t) : Int)) == true) (V.sl (2 : Nat) (List.length l) fun (k : Nat) => [V.i (Prod.fst (gp l k)), V.i (Prod.snd (gp l k))])), pc (41 : Nat) ((True ∧ True) ∧ ((decide (max ((↑u : Int) - (↑k : Int)) ((↑k : Int) - (↑u : Int)) < (↑(List.length t) : Int)) == true) = true → True)) (V.gd (decide (max ((↑u : Int) - (↑k : Int)) ((↑k : Int) - (↑u : Int)) < (↑(List.length t) : Int)) == true) (V.i (↑u : Int))), pc (42 : Nat) ((((decide (max ((↑u : Int) - (↑k : Int)) ((↑k : Int) - (↑u : Int)) < (↑(List.length t) : Int)) == true) = true → (decide (max ((↑u : Int) - (↑k : Int)) ((↑k : Int) - (↑u : Int)) < (↑(List.length t) : Int)) == true) = true) ∧ ((decide (max ((↑u : Int) - (↑k : Int)) ((↑k : Int) - (↑u : Int)) < (↑(List.length t) : Int)) == true) = true → (decide (max ((↑u : Int) - (↑k : Int)) ((↑k : Int) - (↑u : Int)) < (↑(List.length t) : Int)) == true) = true) ∧ True) ∧ ((decide (max ((↑u : Int) - (↑k : Int)) ((↑k : Int) - (↑u : Int)) < (↑(List.length t) : Int)) == true) = true → (0 : Int) ≤ (↑u : Int) ∧ (↑u : Int) < (↑(List.length l) : Int))) (V.gd (decide (max ((↑u : Int) - (↑k : Int)) ((↑k : Int) - (↑u : Int)) < (↑(List.length t) : Int)) == true) (V.ptr [V.i (Prod.fst (gp l u)), V.i (Prod.snd (gp l u))])), pc (43 : Nat) ((((decide (max ((↑u : Int) - (↑k : Int)) ((↑k : Int) - (↑u : Int)) < (↑(List.length t) : Int)) == true) = true → (decide (max ((↑u : Int) - (↑k : Int)) ((↑k : Int) - (↑u : Int)) < (↑(List.length t) : Int)) == true) = true) ∧ True) ∧ ((decide (max ((↑u : Int) - (↑k : Int)) ((↑k : Int) - (↑u : Int)) < (↑(List.length t) : Int)) == true) = true → True)) (V.gd (decide (max ((↑u : Int) - (↑k : Int)) ((↑k : Int) - (↑u : Int)) < (↑(List.length t) : Int)) == true) (V.ptr [V.i (Prod.snd (gp l u))])), pc (44 : Nat) ((((decide (max ((↑u : Int) - (↑k : Int)) ((↑k : Int) - (↑u : Int)) < (↑(List.length t) : Int)) == true) = true → (decide (max ((↑u : Int) - (↑k : Int)) ((↑k : Int) - (↑u : Int)) < (↑(List.length t) : Int)) == true) = true) ∧ True) ∧ ((decide (max ((↑u : Int) - (↑k : Int)) ((↑k : Int) - (↑u : Int)) < (↑(List.length t) : Int)) == true) = true → True)) (V.gd (decide (max ((↑u : Int) - (↑k : Int)) ((↑k : Int) - (↑u : Int)) < (↑(List.length t) : Int)) == true) (V.i (Prod.snd (gp l u)))), pc (45 : Nat) ((True ∧ True) ∧ ((decide (max ((↑u : Int) - (↑k : Int)) ((↑k : Int) - (↑u : Int)) < (↑(List.length t) : Int)) == true) = true → True)) (V.gd (decide (max ((↑u : Int) - (↑k : Int)) ((↑k : Int) - (↑u : Int)) < (↑(List.length t) : Int)) == true) (V.ptr [V.sl (1 : Nat) (List.length t) fun (k : Nat) => [V.i (gi t k)]])), pc (46 : Nat) ((((decide (max ((↑u : Int) - (↑k : Int)) ((↑k : Int) - (↑u : Int)) < (↑(List.length t) : Int)) == true) = true → (decide (max ((↑u : Int) - (↑k : Int)) ((↑k : Int) - (↑u : Int)) < (↑(List.length t) : Int)) == true) = true) ∧ True) ∧ ((decide (max ((↑u : Int) - (↑k : Int)) ((↑k : Int) - (↑u : Int)) < (↑(List.length t) : Int)) == true) = true → True)) (V.gd (decide (max ((↑u : Int) - (↑k : Int)) ((↑k : Int) - (↑u : Int)) < (↑(List.length t) : Int)) == true) (V.sl (1 : Nat) (List.length t) fun (k : Nat) => [V.i (gi t k)])), pc (47 : Nat) ((True ∧ True) ∧ ((decide (max ((↑u : Int) - (↑k : Int)) ((↑k : Int) - (↑u : Int)) < (↑(List.length t) : Int)) == true) = true → True)) (V.gd (decide (max ((↑u : Int) - (↑k : Int)) ((↑k : Int) - (↑u : Int)) < (↑(List.length t) : Int)) == true) (V.i (max ((↑u : Int) - (↑k : Int)) ((↑k : Int) - (↑u : Int))))), pc (48 : Nat) ((((decide (max ((↑u : Int) - (↑k : Int)) ((↑k : Int) - (↑u : Int)) < (↑(List.length t) : Int)) == true) = true → (decide (max ((↑u : Int) - (↑k : Int)) ((↑k : Int) - (↑u : Int)) < (↑(List.length t) : Int)) == true) = true) ∧ ((decide (max ((↑u : Int) - (↑k : Int)) ((↑k : Int) - (↑u : Int)) < (↑(List.length t) : Int)) == true) = true → (decide (max ((↑u : Int) - (↑k : Int)) ((↑k : Int) - (↑u : Int)) < (↑(List.length t) : Int)) == true) = true) ∧ True) ∧ ((decide (max ((↑u : Int) - (↑k : Int)) ((↑k : Int) - (↑u : Int)) < (↑(List.length t) : Int)) == true) = true → (0 : Int) ≤ max ((↑u : Int) - (↑k : Int)) ((↑k : Int) - (↑u : Int)) ∧ max ((↑u : Int) - (↑k : Int)) ((↑k : Int) - (↑u : Int)) < (↑(List.length t) : Int))) (V.gd (decide (max ((↑u : Int) - (↑k : Int)) ((↑k : Int) - (↑u : Int)) < (↑(List.length t) : Int)) == true) (V.ptr [V.i (gi t (Int.toNat (max ((↑u : Int) - (↑k : Int)) ((↑k : Int) - (↑u : Int)))))])), pc (49 : Nat) ((((decide (max ((↑u : Int) - (↑k : Int)) ((↑k : Int) - (↑u : Int)) < (↑(List.length t) : Int)) == true) = true → (decide (max ((↑u : Int) - (↑k : Int)) ((↑k : Int) - (↑u : Int)) < (↑(List.length t) : Int)) == true) = true) ∧ True) ∧ ((decide (max ((↑u : Int) - (↑k : Int)) ((↑k : Int) - (↑u : Int)) < (↑(List.length t) : Int)) == true) = true → True)) (V.gd (decide (max ((↑u : Int) - (↑k : Int)) ((↑k : Int) - (↑u : Int)) < (↑(List.length t) : Int)) == true) (V.i (gi t (Int.toNat (max ((↑u : Int) - (↑k : Int)) ((↑k : Int) - (↑u : Int))))))), pc (50 : Nat) ((((decide (max ((↑u : Int) - (↑k : Int)) ((↑k : Int) - (↑u : Int)) < (↑(List.length t) : Int)) == true) = true → (decide (max ((↑u : Int) - (↑k : Int)) ((↑k : Int) - (↑u : Int)) < (↑(List.length t) : Int)) == true) = true) ∧ ((decide (max ((↑u : Int) - (↑k : Int)) ((↑k : Int) - (↑u : Int)) < (↑(List.length t) : Int)) == true) = true → (decide (max ((↑u : Int) - (↑k : Int)) ((↑k : Int) - (↑u : Int)) < (↑(List.length t) : Int)) == true) = true) ∧ True) ∧ ((decide (max ((↑u : Int) - (↑k : Int)) ((↑k : Int) - (↑u : Int)) < (↑(List.length t) : Int)) == true) = true → (-9223372036854775808 : Int) ≤ Prod.snd (gp l u) + gi t (Int.toNat (max ((↑u : Int) - (↑k : Int)) ((↑k : Int) - (↑u : Int)))) ∧ Prod.snd (gp l u) + gi t (Int.toNat (max ((↑u : Int) - (↑k : Int)) ((↑k : Int) - (↑u : Int)))) ≤ (9223372036854775807 : Int))) (V.gd (decide (max ((↑u : Int) - (↑k : Int)) ((↑k : Int) - (↑u : Int)) < (↑(List.length t) : Int)) == true) (V.i (Prod.snd (gp l u) + gi t (Int.toNat (max ((↑u : Int) - (↑k : Int)) ((↑k : Int) - (↑u : Int))))))), pc (51 : Nat) ((((decide (max ((↑u : Int) - (↑k : Int)) ((↑k : Int) - (↑u : Int)) < (↑(List.length t) : Int)) == true) = true → (decide (max ((↑u : Int) - (↑k : Int)) ((↑k : Int) - (↑u : Int)) < (↑(List.length t) : Int)) == true) = true) ∧ ((decide (max ((↑u : Int) - (↑k : Int)) ((↑k : Int) - (↑u : Int)) < (↑(List.length t) : Int)) == true) = true → (decide (max ((↑u : Int) - (↑k : Int)) ((↑k : Int) - (↑u : Int)) < (↑(List.length t) : Int)) == true) = true) ∧ True) ∧ ((decide (max ((↑u : Int) - (↑k : Int)) ((↑k : Int) - (↑u : Int)) < (↑(List.length t) : Int)) == true) = true → True)) (V.gd (decide (max ((↑u : Int) - (↑k : Int)) ((↑k : Int) - (↑u : Int)) < (↑(List.length t) : Int)) == true) (V.b (decide (Prod.snd (gp l u) + gi t (Int.toNat (max ((↑u : Int) - (↑k : Int)) ((↑k : Int) - (↑u : Int)))) < Prod.snd (gp l k))))), pc (52 : Nat) ((((decide (max ((↑u : Int) - (↑k : Int)) ((↑k : Int) - (↑u : Int)) < (↑(List.length t) : Int)) == true) = true → (decide (max ((↑u : Int) - (↑k : Int)) ((↑k : Int) - (↑u : Int)) < (↑(List.length t) : Int)) == true) = true) ∧ True) ∧ ((decide (max ((↑u : Int) - (↑k : Int)) ((↑k : Int) - (↑u : Int)) < (↑(List.length t) : Int)) == true) = true → True)) (V.gd (decide (max ((↑u : Int) - (↑k : Int)) ((↑k : Int) - (↑u : Int)) < (↑(List.length t) : Int)) == true) (V.b (decide (Prod.snd (gp l u) + gi t (Int.toNat (max ((↑u : Int) - (↑k : Int)) ((↑k : Int) - (↑u : Int)))) < Prod.snd (gp l k))))), pc (53 : Nat) ((True ∧ True) ∧ ((decide (max ((↑u : Int) - (↑k : Int)) ((↑k : Int) - (↑u : Int)) < (↑(List.length t) : Int)) == true && decide (Prod.snd (gp l u) + gi t (Int.toNat (max ((↑u : Int) - (↑k : Int)) ((↑k : Int) - (↑u : Int)))) < Prod.snd (gp l k)) == false) = true → True)) (V.gd (decide (max ((↑u : Int) - (↑k : Int)) ((↑k : Int) - (↑u : Int)) < (↑(List.length t) : Int)) == true && decide (Prod.snd (gp l u) + gi t (Int.toNat (max ((↑u : Int) - (↑k : Int)) ((↑k : Int) - (↑u : Int)))) < Prod.snd (gp l k)) == false) (V.sl (2 : Nat) (List.length l) fun (k : Nat) => [V.i (Prod.fst (gp l k)), V.i (Prod.snd (gp l k))])), pc (54 : Nat) ((True ∧ True) ∧ ((decide (max ((↑u : Int) - (↑k : Int)) ((↑k : Int) - (↑u : Int)) < (↑(List.length t) : Int)) == true && decide (Prod.snd (gp l u) + gi t (Int.toNat (max ((↑u : Int) - (↑k : Int)) ((↑k : Int) - (↑u : Int)))) < Prod.snd (gp l k)) == false) = true → True)) (V.gd (decide (max ((↑u : Int) - (↑k : Int)) ((↑k : Int) - (↑u : Int)) < (↑(List.length t) : Int)) == true && decide (Prod.snd (gp l u) + gi t (Int.toNat (max ((↑u : Int) - (↑k : Int)) ((↑k : Int) - (↑u : Int)))) < Prod.snd (gp l k)) == false) (V.i (↑k : Int))), pc (55 : Nat) ((((decide (max ((↑u : Int) - (↑k : Int)) ((↑k : Int) - (↑u : Int)) < (↑(List.length t) : Int)) == true && decide (Prod.snd (gp l u) + gi t (Int.toNat (max ((↑u : Int) - (↑k : Int)) ((↑k : Int) - (↑u : Int)))) < Prod.snd (gp l k)) == false) = true → (decide (max ((↑u : Int) - (↑k : Int)) ((↑k : Int) - (↑u : Int)) < (↑(List.length t) : Int)) == true && decide (Prod.snd (gp l u) + gi t (Int.toNat (max ((↑u : Int) - (↑k : Int)) ((↑k : Int) - (↑u : Int)))) < Prod.snd (gp l k)) == false) = true) ∧ ((decide (max ((↑u : Int) - (↑k : Int)) ((↑k : Int) - (↑u : Int)) < (↑(List.length t) : Int)) == true && decide (Prod.snd (gp l u) + gi t (Int.toNat (max ((↑u : Int) - (↑k : Int)) ((↑k : Int) - (↑u : Int)))) < Prod.snd (gp l k)) == false) = true → (decide (max ((↑u : Int) - (↑k : Int)) ((↑k : Int) - (↑u : Int)) < (↑(List.length t) : Int)) == true && decide (Prod.snd (gp l u) + gi t (Int.toNat (max ((↑u : Int) - (↑k : Int)) ((↑k : Int) - (↑u : Int)))) < Prod.snd (gp l k)) == false) = true) ∧ True) ∧ ((decide (max ((↑u : Int) - (↑k : Int)) ((↑k : Int) - (↑u : Int)) < (↑(List.length t) : Int)) == true && decide (Prod.snd (gp l u) + gi t (Int.toNat (max ((↑u : Int) - (↑k : Int)) ((↑k : Int) - (↑u : Int)))) < Prod.snd (gp l k)) == false) = true → (0 : Int) ≤ (↑k : Int) ∧ (↑k : Int) < (↑(List.length l) : Int))) (V.gd (decide (max ((↑u : Int) - (↑k : Int)) ((↑k : Int) - (↑u : Int)) < (↑(List.length t) : Int)) == true && decide (Prod.snd (gp l u) + gi t (Int.toNat (max ((↑u : Int) - (↑k : Int)) ((↑k : Int) - (↑u : Int)))) < Prod.snd (gp l k)) == false) (V.ptr [V.i (Prod.fst (gp l k)), V.i (Prod.snd (gp l k))])), pc (56 : Nat) ((((decide (max ((↑u : Int) - (↑k : Int)) ((↑k : Int) - (↑u : Int)) < (↑(List.length t) : Int)) == true && decide (Prod.snd (gp l u) + gi t (Int.toNat (max ((↑u : Int) - (↑k : Int)) ((↑k : Int) - (↑u : Int)))) < Prod.snd (gp l k)) == false) = true → (decide (max ((↑u : Int) - (↑k : Int)) ((↑k : Int) - (↑u : Int)) < (↑(List.length t) : Int)) == true && decide (Prod.snd (gp l u) + gi t (Int.toNat (max ((↑u : Int) - (↑k : Int)) ((↑k : Int) - (↑u : Int)))) < Prod.snd (gp l k)) == false) = true) ∧ True) ∧ ((decide (max ((↑u : Int) - (↑k : Int)) ((↑k : Int) - (↑u : Int)) < (↑(List.length t) : Int)) == true && decide (Prod.snd (gp l u) + gi t (Int.toNat (max ((↑u : Int) - (↑k : Int)) ((↑k : Int) - (↑u : Int)))) < Prod.snd (gp l k)) == false) = true → True)) (V.gd (decide (max ((↑u : Int) - (↑k : Int)) ((↑k : Int) - (↑u : Int)) < (↑(List.length t) : Int)) == true && decide (Prod.snd (gp l u) + gi t (Int.toNat (max ((↑u : Int) - (↑k : Int)) ((↑k : Int) - (↑u : Int)))) < Prod.snd (gp l k)) == false) (V.ptr [V.i (Prod.fst (gp l k)), V.i (Prod.snd (gp l k))])), pc (57 : Nat) ((((decide (max ((↑u : Int) - (↑k : Int)) ((↑k : Int) - (↑u : Int)) < (↑(List.length t) : Int)) == true && decide (Prod.snd (gp l u) + gi t (Int.toNat (max ((↑u : Int) - (↑k : Int)) ((↑k : Int) - (↑u : Int)))) < Prod.snd (gp l k)) == false) = true → (decide (max ((↑u : Int) - (↑k : Int)) ((↑k : Int) - (↑u : Int)) < (↑(List.length t) : Int)) == true && decide (Prod.snd (gp l u) + gi t (Int.toNat (max ((↑u : Int) - (↑k : Int)) ((↑k : Int) - (↑u : Int)))) < Prod.snd (gp l k)) == false) = true) ∧ True) ∧ ((decide (max ((↑u : Int) - (↑k : Int)) ((↑k : Int) - (↑u : Int)) < (↑(List.length t) : Int)) == true && decide (Prod.snd (gp l u) + gi t (Int.toNat (max ((↑u : Int) - (↑k : Int)) ((↑k : Int) - (↑u : Int)))) < Prod.snd (gp l k)) == false) = true → True)) (V.gd (decide (max ((↑u : Int) - (↑k : Int)) ((↑k : Int) - (↑u : Int)) < (↑(List.length t) : Int)) == true && decide (Prod.snd (gp l u) + gi t (Int.toNat (max ((↑u : Int) - (↑k : Int)) ((↑k : Int) - (↑u : Int)))) < Prod.snd (gp l k)) == false) (V.i (Prod.fst (gp l k)))), pc (58 : Nat) ((True ∧ True) ∧ ((decide (max ((↑u : Int) - (↑k : Int)) ((↑k : Int) - (↑u : Int)) < (↑(List.length t) : Int)) == true && decide (Prod.snd (gp l u) + gi t (Int.toNat (max ((↑u : Int) - (↑k : Int)) ((↑k : Int) - (↑u : Int)))) < Prod.snd (gp l k)) == false) = true → True)) (V.gd (decide (max ((↑u : Int) - (↑k : Int)) ((↑k : Int) - (↑u : Int)) < (↑(List.length t) : Int)) == true && decide (Prod.snd (gp l u) + gi t (Int.toNat (max ((↑u : Int) - (↑k : Int)) ((↑k : Int) - (↑u : Int)))) < Prod.snd (gp l k)) == false) (V.sl (2 : Nat) (List.length l) fun (k : Nat) => [V.i (Prod.fst (gp l k)), V.i (Prod.snd (gp l k))])), pc (59 : Nat) ((True ∧ True) ∧ ((decide (max ((↑u : Int) - (↑k : Int)) ((↑k : Int) - (↑u : Int)) < (↑(List.length t) : Int)) == true && decide (Prod.snd (gp l u) + gi t (Int.toNat (max ((↑u : Int) - (↑k : Int)) ((↑k : Int) - (↑u : Int)))) < Prod.snd (gp l k)) == false) = true → True)) (V.gd (decide (max ((↑u : Int) - (↑k : Int)) ((↑k : Int) - (↑u : Int)) < (↑(List.length t) : Int)) == true && decide (Prod.snd (gp l u) + gi t (Int.toNat (max ((↑u : Int) - (↑k : Int)) ((↑k : Int) - (↑u : Int)))) < Prod.snd (gp l k)) == false) (V.i (↑u : Int))), pc (60 : Nat) ((((decide (max ((↑u : Int) - (↑k : Int)) ((↑k : Int) - (↑u : Int)) < (↑(List.length t) : Int)) == true && decide (Prod.snd (gp l u) + gi t (Int.toNat (max ((↑u : Int) - (↑k : Int)) ((↑k : Int) - (↑u : Int)))) < Prod.snd (gp l k)) == false) = true → (decide (max ((↑u : Int) - (↑k : Int)) ((↑k : Int) - (↑u : Int)) < (↑(List.length t) : Int)) == true && decide (Prod.snd (gp l u) + gi t (Int.toNat (max ((↑u : Int) - (↑k : Int)) ((↑k : Int) - (↑u : Int)))) < Prod.snd (gp l k)) == false) = true) ∧ ((decide (max ((↑u : Int) - (↑k : Int)) ((↑k : Int) - (↑u : Int)) < (↑(List.length t) : Int)) == true && decide (Prod.snd (gp l u) + gi t (Int.toNat (max ((↑u : Int) - (↑k : Int)) ((↑k : Int) - (↑u : Int)))) < Prod.snd (gp l k)) == false) = true → (decide (max ((↑u : Int) - (↑k : Int)) ((↑k : Int) - (↑u : Int)) < (↑(List.length t) : Int)) == true && decide (Prod.snd (gp l u) + gi t (Int.toNat (max ((↑u : Int) - (↑k : Int)) ((↑k : Int) - (↑u : Int)))) < Prod.snd (gp l k)) == false) = true) ∧ True) ∧ ((decide (max ((↑u : Int) - (↑k : Int)) ((↑k : Int) - (↑u : Int)) < (↑(List.length t) : Int)) == true && decide (Prod.snd (gp l u) + gi t (Int.toNat (max ((↑u : Int) - (↑k : Int)) ((↑k : Int) - (↑u : Int)))) < Prod.snd (gp l k)) == false) = true → (0 : Int) ≤ (↑u : Int) ∧ (↑u : Int) < (↑(List.length l) : Int))) (V.gd (decide (max ((↑u : Int) - (↑k : Int)) ((↑k : Int) - (↑u : Int)) < (↑(List.length t) : Int)) == true && decide (Prod.snd (gp l u) + gi t (Int.toNat (max ((↑u : Int) - (↑k : Int)) ((↑k : Int) - (↑u : Int)))) < Prod.snd (gp l k)) == false) (V.ptr [V.i (Prod.fst (gp l u)), V.i (Prod.snd (gp l u))])), pc (61 : Nat) ((((decide (max ((↑u : Int) - (↑k : Int)) ((↑k : Int) - (↑u : Int)) < (↑(List.length t) : Int)) == true && decide (Prod.snd (gp l u) + gi t (Int.toNat (max ((↑u : Int) - (↑k : Int)) ((↑k : Int) - (↑u : Int)))) < Prod.snd (gp l k)) == false) = true → (decide (max ((↑u : Int) - (↑k : Int)) ((↑k : Int) - (↑u : Int)) < (↑(List.length t) : Int)) == true && decide (Prod.snd (gp l u) + gi t (Int.toNat (max ((↑u : Int) - (↑k : Int)) ((↑k : Int) - (↑u : Int)))) < Prod.snd (gp l k)) == false) = true) ∧ True) ∧ ((decide (max ((↑u : Int) - (↑k : Int)) ((↑k : Int) - (↑u : Int)) < (↑(List.length t) : Int)) == true && decide (Prod.snd (gp l u) + gi t (Int.toNat (max ((↑u : Int) - (↑k : Int)) ((↑k : Int) - (↑u : Int)))) < Prod.snd (gp l k)) == false) = true → True)) (V.gd (decide (max ((↑u : Int) - (↑k : Int)) ((↑k : Int) - (↑u : Int)) < (↑(List.length t) : Int)) == true && decide (Prod.snd (gp l u) + gi t (Int.toNat (max ((↑u : Int) - (↑k : Int)) ((↑k : Int) - (↑u : Int)))) < Prod.snd (gp l k)) == false) (V.ptr [V.i (Prod.fst (gp l u)), V.i (Prod.snd (gp l u))])), pc (62 : Nat) ((((decide (max ((↑u : Int) - (↑k : Int)) ((↑k : Int) - (↑u : Int)) < (↑(List.length t) : Int)) == true && decide (Prod.snd (gp l u) + gi t (Int.toNat (max ((↑u : Int) - (↑k : Int)) ((↑k : Int) - (↑u : Int)))) < Prod.snd (gp l k)) == false) = true → (decide (max ((↑u : Int) - (↑k : Int)) ((↑k : Int) - (↑u : Int)) < (↑(List.length t) : Int)) == true && decide (Prod.snd (gp l u) + gi t (Int.toNat (max ((↑u : Int) - (↑k : Int)) ((↑k : Int) - (↑u : Int)))) < Prod.snd (gp l k)) == false) = true) ∧ True) ∧ ((decide (max ((↑u : Int) - (↑k : Int)) ((↑k : Int) - (↑u : Int)) < (↑(List.length t) : Int)) == true && decide (Prod.snd (gp l u) + gi t (Int.toNat (max ((↑u : Int) - (↑k : Int)) ((↑k : Int) - (↑u : Int)))) < Prod.snd (gp l k)) == false) = true → True)) (V.gd (decide (max ((↑u : Int) - (↑k : Int)) ((↑k : Int) - (↑u : Int)) < (↑(List.length t) : Int)) == true && decide (Prod.snd (gp l u) + gi t (Int.toNat (max ((↑u : Int) - (↑k : Int)) ((↑k : Int) - (↑u : Int)))) < Prod.snd (gp l k)) == false) (V.i (Prod.fst (gp l u)))), pc (63 : Nat) ((True ∧ True) ∧ ((decide (max ((↑u : Int) - (↑k : Int)) ((↑k : Int) - (↑u : Int)) < (↑(List.length t) : Int)) == true && decide (Prod.snd (gp l u) + gi t (Int.toNat (max ((↑u : Int) - (↑k : Int)) ((↑k : Int) - (↑u : Int)))) < Prod.snd (gp l k)) == false) = true → True)) (V.gd (decide (max ((↑u : Int) - (↑k : Int)) ((↑k : Int) - (↑u : Int)) < (↑(List.length t) : Int)) == true && decide (Prod.snd (gp l u) + gi t (Int.toNat (max ((↑u : Int) - (↑k : Int)) ((↑k : Int) - (↑u : Int)))) < Prod.snd (gp l k)) == false) (V.ptr [V.sl (1 : Nat) (List.length t) fun (k : Nat) => [V.i (gi t k)]])), pc (64 : Nat) ((((decide (max ((↑u : Int) - (↑k : Int)) ((↑k : Int) - (↑u : Int)) < (↑(List.length t) : Int)) == true && decide (Prod.snd (gp l u) + gi t (Int.toNat (max ((↑u : Int) - (↑k : Int)) ((↑k : Int) - (↑u : Int)))) < Prod.snd (gp l k)) == false) = true → (decide (max ((↑u : Int) - (↑k : Int)) ((↑k : Int) - (↑u : Int)) < (↑(List.length t) : Int)) == true && decide (Prod.snd (gp l u) + gi t (Int.toNat (max ((↑u : Int) - (↑k : Int)) ((↑k : Int) - (↑u : Int)))) < Prod.snd (gp l k)) == false) = true) ∧ True) ∧ ((decide (max ((↑u : Int) - (↑k : Int)) ((↑k : Int) - (↑u : Int)) < (↑(List.length t) : Int)) == true && decide (Prod.snd (gp l u) + gi t (Int.toNat (max ((↑u : Int) - (↑k : Int)) ((↑k : Int) - (↑u : Int)))) < Prod.snd (gp l k)) == false) = true → True)) (V.gd (decide (max ((↑u : Int) - (↑k : Int)) ((↑k : Int) - (↑u : Int)) < (↑(List.length t) : Int)) == true && decide (Prod.snd (gp l u) + gi t (Int.toNat (max ((↑u : Int) - (↑k : Int)) ((↑k : Int) - (↑u : Int)))) < Prod.snd (gp l k)) == false) (V.sl (1 : Nat) (List.length t) fun (k : Nat) => [V.i (gi t k)])), pc (65 : Nat) ((True ∧ True) ∧ ((decide (max ((↑u : Int) - (↑k : Int)) ((↑k : Int) - (↑u : Int)) < (↑(List.length t) : Int)) == true && decide (Prod.snd (gp l u) + gi t (Int.toNat (max ((↑u : Int) - (↑k : Int)) ((↑k : Int) - (↑u : Int)))) < Prod.snd (gp l k)) == false) = true → True)) (V.gd (decide (max ((↑u : Int) - (↑k : Int)) ((↑k : Int) - (↑u : Int)) < (↑(List.length t) : Int)) == true && decide (Prod.snd (gp l u) + gi t (Int.toNat (max ((↑u : Int) - (↑k : Int)) ((↑k : Int) - (↑u : Int)))) < Prod.snd (gp l k)) == false) (V.i (max ((↑u : Int) - (↑k : Int)) ((↑k : Int) - (↑u : Int))))), pc (66 : Nat) ((((decide (max ((↑u : Int) - (↑k : Int)) ((↑k : Int) - (↑u : Int)) < (↑(List.length t) : Int)) == true && decide (Prod.snd (gp l u) + gi t (Int.toNat (max ((↑u : Int) - (↑k : Int)) ((↑k : Int) - (↑u : Int)))) < Prod.snd (gp l k)) == false) = true → (decide (max ((↑u : Int) - (↑k : Int)) ((↑k : Int) - (↑u : Int)) < (↑(List.length t) : Int)) == true && decide (Prod.snd (gp l u) + gi t (Int.toNat (max ((↑u : Int) - (↑k : Int)) ((↑k : Int) - (↑u : Int)))) < Prod.snd (gp l k)) == false) = true) ∧ ((decide (max ((↑u : Int) - (↑k : Int)) ((↑k : Int) - (↑u : Int)) < (↑(List.length t) : Int)) == true && decide (Prod.snd (gp l u) + gi t (Int.toNat (max ((↑u : Int) - (↑k : Int)) ((↑k : Int) - (↑u : Int)))) < Prod.snd (gp l k)) == false) = true → (decide (max ((↑u : Int) - (↑k : Int)) ((↑k : Int) - (↑u : Int)) < (↑(List.length t) : Int)) == true && decide (Prod.snd (gp l u) + gi t (Int.toNat (max ((↑u : Int) - (↑k : Int)) ((↑k : Int) - (↑u : Int)))) < Prod.snd (gp l k)) == false) = true) ∧ True) ∧ ((decide (max ((↑u : Int) - (↑k : Int)) ((↑k : Int) - (↑u : Int)) < (↑(List.length t) : Int)) == true && decide (Prod.snd (gp l u) + gi t (Int.toNat (max ((↑u : Int) - (↑k : Int)) ((↑k : Int) - (↑u : Int)))) < Prod.snd (gp l k)) == false) = true → (0 : Int) ≤ max ((↑u : Int) - (↑k : Int)) ((↑k : Int) - (↑u : Int)) ∧ max ((↑u : Int) - (↑k : Int)) ((↑k : Int) - (↑u : Int)) < (↑(List.length t) : Int))) (V.gd (decide (max ((↑u : Int) - (↑k : Int)) ((↑k : Int) - (↑u : Int)) < (↑(List.length t) : Int)) == true && decide (Prod.snd (gp l u) + gi t (Int.toNat (max ((↑u : Int) - (↑k : Int)) ((↑k : Int) - (↑u : Int)))) < Prod.snd (gp l k)) == false) (V.ptr [V.i (gi t (Int.toNat (max ((↑u : Int) - (↑k : Int)) ((↑k : Int) - (↑u : Int)))))])), pc (67 : Nat) ((((decide (max ((↑u : Int) - (↑k : Int)) ((↑k : Int) - (↑u : Int)) < (↑(List.length t) : Int)) == true && decide (Prod.snd (gp l u) + gi t (Int.toNat (max ((↑u : Int) - (↑k : Int)) ((↑k : Int) - (↑u : Int)))) < Prod.snd (gp l k)) == false) = true → (decide (max ((↑u : Int) - (↑k : Int)) ((↑k : Int) - (↑u : Int)) < (↑(List.length t) : Int)) == true && decide (Prod.snd (gp l u) + gi t (Int.toNat (max ((↑u : Int) - (↑k : Int)) ((↑k : Int) - (↑u : Int)))) < Prod.snd (gp l k)) == false) = true) ∧ True) ∧ ((decide (max ((↑u : Int) - (↑k : Int)) ((↑k : Int) - (↑u : Int)) < (↑(List.length t) : Int)) == true && decide (Prod.snd (gp l u) + gi t (Int.toNat (max ((↑u : Int) - (↑k : Int)) ((↑k : Int) - (↑u : Int)))) < Prod.snd (gp l k)) == false) = true → True)) (V.gd (decide (max ((↑u : Int) - (↑k : Int)) ((↑k : Int) - (↑u : Int)) < (↑(List.length t) : Int)) == true && decide (Prod.snd (gp l u) + gi t (Int.toNat (max ((↑u : Int) - (↑k : Int)) ((↑k : Int) - (↑u : Int)))) < Prod.snd (gp l k)) == false) (V.i (gi t (Int.toNat (max ((↑u : Int) - (↑k : Int)) ((↑k : Int) - (↑u : Int))))))), pc (68 : Nat) ((((decide (max ((↑u : Int) - (↑k : Int)) ((↑k : Int) - (↑u : Int)) < (↑(List.length t) : Int)) == true && decide (Prod.snd (gp l u) + gi t (Int.toNat (max ((↑u : Int) - (↑k : Int)) ((↑k : Int) - (↑u : Int)))) < Prod.snd (gp l k)) == false) = true → (decide (max ((↑u : Int) - (↑k : Int)) ((↑k : Int) - (↑u : Int)) < (↑(List.length t) : Int)) == true && decide (Prod.snd (gp l u) + gi t (Int.toNat (max ((↑u : Int) - (↑k : Int)) ((↑k : Int) - (↑u : Int)))) < Prod.snd (gp l k)) == false) = true) ∧ ((decide (max ((↑u : Int) - (↑k : Int)) ((↑k : Int) - (↑u : Int)) < (↑(List.length t) : Int)) == true && decide (Prod.snd (gp l u) + gi t (Int.toNat (max ((↑u : Int) - (↑k : Int)) ((↑k : Int) - (↑u : Int)))) < Prod.snd (gp l k)) == false) = true → (decide (max ((↑u : Int) - (↑k : Int)) ((↑k : Int) - (↑u : Int)) < (↑(List.length t) : Int)) == true && decide (Prod.snd (gp l u) + gi t (Int.toNat (max ((↑u : Int) - (↑k : Int)) ((↑k : Int) - (↑u : Int)))) < Prod.snd (gp l k)) == false) = true) ∧ True) ∧ ((decide (max ((↑u : Int) - (↑k : Int)) ((↑k : Int) - (↑u : Int)) < (↑(List.length t) : Int)) == true && decide (Prod.snd (gp l u) + gi t (Int.toNat (max ((↑u : Int) - (↑k : Int)) ((↑k : Int) - (↑u : Int)))) < Prod.snd (gp l k)) == false) = true → (-9223372036854775808 : Int) ≤ Prod.fst (gp l u) - gi t (Int.toNat (max ((↑u : Int) - (↑k : Int)) ((↑k : Int) - (↑u : Int)))) ∧ Prod.fst (gp l u) - gi t (Int.toNat (max ((↑u : Int) - (↑k : Int)) ((↑k : Int) - (↑u : Int)))) ≤ (9223372036854775807 : Int))) (V.gd (decide (max ((↑u : Int) - (↑k : Int)) ((↑k : Int) - (↑u : Int)) < (↑(List.length t) : Int)) == true && decide (Prod.snd (gp l u) + gi t (Int.toNat (max ((↑u : Int) - (↑k : Int)) ((↑k : Int) - (↑u : Int)))) < Prod.snd (gp l k)) == false) (V.i (Prod.fst (gp l u) - gi t (Int.toNat (max ((↑u : Int) - (↑k : Int)) ((↑k : Int) - (↑u : Int))))))), pc (69 : Nat) ((((decide (max ((↑u : Int) - (↑k : Int)) ((↑k : Int) - (↑u : Int)) < (↑(List.length t) : Int)) == true && decide (Prod.snd (gp l u) + gi t (Int.toNat (max ((↑u : Int) - (↑k : Int)) ((↑k : Int) - (↑u : Int)))) < Prod.snd (gp l k)) == false) = true → (decide (max ((↑u : Int) - (↑k : Int)) ((↑k : Int) - (↑u : Int)) < (↑(List.length t) : Int)) == true && decide (Prod.snd (gp l u) + gi t (Int.toNat (max ((↑u : Int) - (↑k : Int)) ((↑k : Int) - (↑u : Int)))) < Prod.snd (gp l k)) == false) = true) ∧ ((decide (max ((↑u : Int) - (↑k : Int)) ((↑k : Int) - (↑u : Int)) < (↑(List.length t) : Int)) == true && decide (Prod.snd (gp l u) + gi t (Int.toNat (max ((↑u : Int) - (↑k : Int)) ((↑k : Int) - (↑u : Int)))) < Prod.snd (gp l k)) == false) = true → (decide (max ((↑u : Int) - (↑k : Int)) ((↑k : Int) - (↑u : Int)) < (↑(List.length t) : Int)) == true && decide (Prod.snd (gp l u) + gi t (Int.toNat (max ((↑u : Int) - (↑k : Int)) ((↑k : Int) - (↑u : Int)))) < Prod.snd (gp l k)) == false) = true) ∧ True) ∧ ((decide (max ((↑u : Int) - (↑k : Int)) ((↑k : Int) - (↑u : Int)) < (↑(List.length t) : Int)) == true && decide (Prod.snd (gp l u) + gi t (Int.toNat (max ((↑u : Int) - (↑k : Int)) ((↑k : Int) - (↑u : Int)))) < Prod.snd (gp l k)) == false) = true → True)) (V.gd (decide (max ((↑u : Int) - (↑k : Int)) ((↑k : Int) - (↑u : Int)) < (↑(List.length t) : Int)) == true && decide (Prod.snd (gp l u) + gi t (Int.toNat (max ((↑u : Int) - (↑k : Int)) ((↑k : Int) - (↑u : Int)))) < Prod.snd (gp l k)) == false) (V.b (decide (Prod.fst (gp l k) < Prod.fst (gp l u) - gi t (Int.toNat (max ((↑u : Int) - (↑k : Int)) ((↑k : Int) - (↑u : Int)))))))), pc (70 : Nat) (((decide (max ((↑u : Int) - (↑k : Int)) ((↑k : Int) - (↑u : Int)) < (↑(List.length t) : Int)) == true) = true → (decide (max ((↑u : Int) - (↑k : Int)) ((↑k : Int) - (↑u : Int)) < (↑(List.length t) : Int)) == true) = true) ∧ ((decide (max ((↑u : Int) - (↑k : Int)) ((↑k : Int) - (↑u : Int)) < (↑(List.length t) : Int)) == true) = true → True) ∧ ((decide (max ((↑u : Int) - (↑k : Int)) ((↑k : Int) - (↑u : Int)) < (↑(List.length t) : Int)) == true) = true → decide (Prod.snd (gp l u) + gi t (Int.toNat (max ((↑u : Int) - (↑k : Int)) ((↑k : Int) - (↑u : Int)))) < Prod.snd (gp l k)) = false → (decide (max ((↑u : Int) - (↑k : Int)) ((↑k : Int) - (↑u : Int)) < (↑(List.length t) : Int)) == true && decide (Prod.snd (gp l u) + gi t (Int.toNat (max ((↑u : Int) - (↑k : Int)) ((↑k : Int) - (↑u : Int)))) < Prod.snd (gp l k)) == false) = true)) (V.gd (decide (max ((↑u : Int) - (↑k : Int)) ((↑k : Int) - (↑u : Int)) < (↑(List.length t) : Int)) == true) (V.b (decide (Prod.snd (gp l u) + gi t (Int.toNat (max ((↑u : Int) - (↑k : Int)) ((↑k : Int) - (↑u : Int)))) < Prod.snd (gp l k)) || decide (Prod.fst (gp l k) < Prod.fst (gp l u) - gi t (Int.toNat (max ((↑u : Int) - (↑k : Int)) ((↑k : Int) - (↑u : Int)))))))), pc (71 : Nat) ((decide (max ((↑u : Int) - (↑k : Int)) ((↑k : Int) - (↑u : Int)) < (↑(List.length t) : Int)) = true → (decide (max ((↑u : Int) - (↑k : Int)) ((↑k : Int) - (↑u : Int)) < (↑(List.length t) : Int)) == true) = true) ∧ True) (V.b (decide (max ((↑u : Int) - (↑k : Int)) ((↑k : Int) - (↑u : Int)) < (↑(List.length t) : Int)) && (decide (Prod.snd (gp l u) + gi t (Int.toNat (max ((↑u : Int) - (↑k : Int)) ((↑k : Int) - (↑u : Int)))) < Prod.snd (gp l k)) || decide (Prod.fst (gp l k) < Prod.fst (gp l u) - gi t (Int.toNat (max ((↑u : Int) - (↑k : Int)) ((↑k : Int) - (↑u : Int))))))))] (by kernel_rfl) (by kernel_rfl) ⟨⟨⟨True.intro, True.intro⟩, (fun _ => True.intro)⟩, ⟨⟨True.intro, True.intro⟩, (fun _ => True.intro)⟩, ⟨⟨(by (exact fun h => h)), ⟨(by (exact fun h => h)), True.intro⟩⟩, (by (intro hg; simp at hg; omega))⟩, ⟨⟨(by (exact fun h => h)), True.intro⟩, (fun _ => True.intro)⟩, ⟨⟨(by (exact fun h => h)), True.intro⟩, (fun _ => True.intro)⟩, ⟨⟨True.intro, True.intro⟩, (fun _ => True.intro)⟩, ⟨⟨True.intro, True.intro⟩, (fun _ => True.intro)⟩, ⟨⟨(by (exact fun h => h)), ⟨(by (exact fun h => h)), True.intro⟩⟩, (by (intro hg; simp at hg; omega))⟩, ⟨⟨(by (exact fun h => h)), True.intro⟩, (fun _ => True.intro)⟩, ⟨⟨(by (exact fun h => h)), True.intro⟩, (fun _ => True.intro)⟩, ⟨⟨True.intro, True.intro⟩, (fun _ => True.intro)⟩, ⟨⟨(by (exact fun h => h)), True.intro⟩, (fun _ => True.intro)⟩, ⟨⟨True.intro, True.intro⟩, (fun _ => True.intro)⟩, ⟨⟨(by (exact fun h => h)), ⟨(by (exact fun h => h)), True.intro⟩⟩, (by (intro hg; simp at hg; omega))⟩, ⟨⟨(by (exact fun h => h)), True.intro⟩, (fun _ => True.intro)⟩, ⟨⟨(by (exact fun h => h)), ⟨(by (exact fun h => h)), True.intro⟩⟩, (by (intro hg; simp at hg; omega))⟩, ⟨⟨(by (exact fun h => h)), ⟨(by (exact fun h => h)), True.intro⟩⟩, (fun _ => True.intro)⟩, ⟨⟨(by (exact fun h => h)), True.intro⟩, (fun _ => True.intro)⟩, ⟨⟨True.intro, True.intro⟩, (fun _ => True.intro)⟩, ⟨⟨True.intro, True.intro⟩, (fun _ => True.intro)⟩, ⟨⟨(by (exact fun h => h)), ⟨(by (exact fun h => h)), True.intro⟩⟩, (by (intro hg; simp at hg; omega))⟩, ⟨⟨(by (exact fun h => h)), True.intro⟩, (fun _ => True.intro)⟩, ⟨⟨(by (exact fun h => h)), True.intro⟩, (fun _ => True.intro)⟩, ⟨⟨True.intro, True.intro⟩, (fun _ => True.intro)⟩, ⟨⟨True.intro, True.intro⟩, (fun _ => True.intro)⟩, ⟨⟨(by (exact fun h => h)), ⟨(by (exact fun h => h)), True.intro⟩⟩, (by (intro hg; simp at hg; omega))⟩, ⟨⟨(by (exact fun h => h)), True.intro⟩, (fun _ => True.intro)⟩, ⟨⟨(by (exact fun h => h)), True.intro⟩, (fun _ => True.intro)⟩, ⟨⟨True.intro, True.intro⟩, (fun _ => True.intro)⟩, ⟨⟨(by (exact fun h => h)), True.intro⟩, (fun _ => True.intro)⟩, ⟨⟨True.intro, True.intro⟩, (fun _ => True.intro)⟩, ⟨⟨(by (exact fun h => h)), ⟨(by (exact fun h => h)), True.intro⟩⟩, (by (intro hg; simp at hg; omega))⟩, ⟨⟨(by (exact fun h => h)), True.intro⟩, (fun _ => True.intro)⟩, ⟨⟨(by (exact fun h => h)), ⟨(by (exact fun h => h)), True.intro⟩⟩, (by (intro hg; simp at hg; omega))⟩, ⟨⟨(by (exact fun h => h)), ⟨(by (exact fun h => h)), True.intro⟩⟩, (fun _ => True.intro)⟩, ⟨(by (exact fun h => h)), ⟨(fun _ => True.intro), (by (simp; omega))⟩⟩, ⟨(by (intro h; rw [h]; rfl)), True.intro⟩, True.intro⟩ ?_
      refine aops_nil ⟨by kernel_rfl, ?_⟩
      refine xt_n ?_
      refine hK _ ?_
      clear hK K
      refine w_cond rfl (fun hc => ?_) (fun hc => ?_)
      · have hm : missB t l k u = true := by rw [missB_form]; exact hc
        refine aw_seq_k fun K hK => ?_
        refine w_region (n' := 5) (by kernel_rfl) (by kernel_rfl) ?_
        refine aops_n hTT (M := []) (n := 5) [pv (72 : Nat) (V.i (↑k : Int)), pv (73 : Nat) (V.i (↑u : Int)), pv (4 : Nat) (V.i (↑k : Int)), pv (5 : Nat) (V.i (↑u : Int)), pv (6 : Nat) (V.b true)] (by kernel_rfl) (by kernel_rfl) True.intro ?_
        refine aops_nil ?_
        refine xt_n ?_
        refine hK _ ?_
        clear hK K
        refine aw_ret ?_
        refine xb_r ?_
        refine xt_r ?_
        refine xt_r ?_
        refine xb_r ?_
        refine xb_r ?_
        refine xt_r ?_
        refine xt_r ?_
        refine xb_r ?_
        refine xt_r ?_
        rw [missI_some h hul hm hbad hrow]
        refine ret_pure (.inr rfl) rfl rfl rfl
      · have hm : missB t l k u = false := by rw [missB_form]; exact hc
        refine aw_skip ?_
        refine xb_n ?_
        refine xt_n ?_
        refine hK _ ?_
        clear hK K
        refine w_region (n' := 5) (by kernel_rfl) (by kernel_rfl) ?_
        refine aops_n hTT (M := []) (n := 3) [pv (20 : Nat) (V.i (↑u : Int)), pc (21 : Nat) ((-9223372036854775808 : Int) ≤ (↑u : Int) + (1 : Int) ∧ (↑u : Int) + (1 : Int) ≤ (9223372036854775807 : Int)) (V.i ((↑u : Int) + (1 : Int))), pv (8 : Nat) (V.i ((↑u : Int) + (1 : Int)))] (by kernel_rfl) (by kernel_rfl) ⟨(by omega), True.intro⟩ ?_
        refine aops_nil ?_
        refine xt_n ?_
        refine ⟨u + 1, ⟨by omega, fun j hj => ?_⟩, le_ren [] (.cons rfl (.cons rfl (.cons rfl (.cons rfl .nil)))) .nil rfl rfl, by omega⟩
        by_cases he : j = u
        · subst he; exact hm
        · exact hbad j (by omega)
    · simp at hul
      have hr : missRow t l k = none := find_none fun j hj => hbad j (by omega)
      refine aw_exit ?_
      refine xt_x ?_
      refine xt_x ?_
      refine xb_same ?_
      refine xb_n ?_
      refine xt_n ?_
      clear hK K
      refine hK _ ?_
      clear hK K
      refine w_region (n' := 3) (by kernel_rfl) (by kernel_rfl) ?_
      refine aops_n hTT (M := []) (n := 3) [pv (14 : Nat) (V.i (↑k : Int)), pc (15 : Nat) ((-9223372036854775808 : Int) ≤ (↑k : Int) + (1 : Int) ∧ (↑k : Int) + (1 : Int) ≤ (9223372036854775807 : Int)) (V.i ((↑k : Int) + (1 : Int))), pv (7 : Nat) (V.i ((↑k : Int) + (1 : Int)))] (by kernel_rfl) (by kernel_rfl) ⟨(by omega), True.intro⟩ ?_
      refine aops_nil ?_
      refine xt_n ?_
      refine ⟨k + 1, ⟨by omega, fun i hi => ?_⟩, le_ren [] (.cons rfl (.cons rfl (.cons rfl .nil))) .nil rfl rfl, by omega⟩
      by_cases he : i = k
      · subst he; exact hr
      · exact hrow i (by omega)
  · simp at h
    refine aw_exit ?_
    refine xt_x ?_
    refine xt_x ?_
    refine xb_same ?_
    refine xt_n ?_
    clear hK K
    refine hK _ ?_
    clear hK K
    refine aw_seq_k fun K hK => ?_
    refine w_region (n' := 3) (by kernel_rfl) (by kernel_rfl) ?_
    refine aops_n hTT (M := []) (n := 3) [pv (4 : Nat) (V.i (0 : Int)), pv (5 : Nat) (V.i (0 : Int)), pv (6 : Nat) (V.b false)] (by kernel_rfl) (by kernel_rfl) True.intro ?_
    refine aops_nil ?_
    refine xt_n ?_
    refine hK _ ?_
    clear hK K
    refine aw_ret ?_
    rw [missI_none fun j hj => hrow j (by omega)]
    refine ret_pure (.inr rfl) rfl rfl rfl

/-- what Miss returns -/
def missO (t : List Int) (l : List Pt) : Int × Int × Int := if checkBoth t l = 0 then missI t l else (0, 0, checkBoth t l)
set_option maxRecDepth 100000 in
theorem Miss_ac (t : List Int) (l : List Pt) (ht : t.length ≤ 4611686018427387904) (hl : l.length ≤ 4611686018427387904) : AC Try.prog 35 [.agg [V.ints t], V.pts l] (.tup [.i (missO t l).1, .i (missO t l).2.1, .i (missO t l).2.2]) [] := by
  refine ac_intro hTT hMX (fn := Try.f35) (N := _) ⟨Try.func35, rfl, Try.ntmps35, by kernel_rfl⟩ (by simp) fun C hC hF => ?_
  refine aw_seq_k fun K hK => ?_
  refine w_region (n' := 2) (by kernel_rfl) (by kernel_rfl) ?_
  refine aops_n hTT (M := []) (n := 4) [pv (2 : Nat) (V.ptr [V.sl (1 : Nat) (List.length t) fun (k : Nat) => [V.i (gi t k)]]), pv (4 : Nat) (V.i (0 : Int)), pv (5 : Nat) (V.i (0 : Int)), pv (6 : Nat) (V.i (0 : Int))] (by kernel_rfl) (by kernel_rfl) True.intro ?_
  refine aops_nil ?_
  refine xt_n ?_
  refine hK _ ?_
  clear hK K
  refine aw_seq_k fun K hK => ?_
  refine aw_seq_k fun K hK => ?_
  refine w_region (n' := 3) (by kernel_rfl) (by kernel_rfl) ?_
  refine aops_n hTT (M := []) (n := 2) [pv (8 : Nat) (V.agg [V.sl (1 : Nat) (List.length t) fun (k : Nat) => [V.i (gi t k)]]), pv (9 : Nat) (V.sl (2 : Nat) (List.length l) fun (k : Nat) => [V.i (Prod.fst (gp l k)), V.i (Prod.snd (gp l k))])] (by kernel_rfl) (by kernel_rfl) True.intro ?_
  refine e_call (check_ac t l ht hl) rfl rfl rfl rfl rfl ?_
  refine aops_n hTT (M := []) (n := 1) [pv (7 : Nat) (V.i (checkBoth t l))] (by kernel_rfl) (by kernel_rfl) True.intro ?_
  refine aops_nil ?_
  refine xt_n ?_
  refine hK _ ?_
  clear hK K
  refine aw_seq_k fun K hK => ?_
  refine w_region (n' := 4) (by kernel_rfl) (by kernel_rfl) ?_
  refine aops_n hTT (M := []) (n := 2) [pv (11 : Nat) (V.i (checkBoth t l)), pv (12 : Nat) (V.b !decide (checkBoth t l = (0 : Int)))] (by kernel_rfl) (by kernel_rfl) True.intro ?_
  refine aops_nil ?_
  refine xt_n ?_
  refine hK _ ?_
  clear hK K
  refine w_cond rfl (fun h => ?_) (fun h => ?_)
  · simp at h
    refine aw_seq_k fun K hK => ?_
    refine w_region (n' := 5) (by kernel_rfl) (by kernel_rfl) ?_
    refine aops_n hTT (M := []) (n := 4) [pv (13 : Nat) (V.i (checkBoth t l)), pv (4 : Nat) (V.i (0 : Int)), pv (5 : Nat) (V.i (0 : Int)), pv (6 : Nat) (V.i (checkBoth t l))] (by kernel_rfl) (by kernel_rfl) True.intro ?_
    refine aops_nil ?_
    refine xt_n ?_
    refine hK _ ?_
    clear hK K
    refine aw_ret ?_
    refine xt_r ?_
    rw [missO, if_neg h]
    refine ret_pure (.inr rfl) rfl rfl rfl
  · simp at h
    refine aw_skip ?_
    refine xt_n ?_
    refine hK _ ?_
    clear hK K
    refine aw_seq_k fun K hK => ?_
    refine w_region (n' := 5) (by kernel_rfl) (by kernel_rfl) ?_
    refine aops_n hTT (M := []) (n := 2) [pv (14 : Nat) (V.agg [V.sl (1 : Nat) (List.length t) fun (k : Nat) => [V.i (gi t k)]]), pv (15 : Nat) (V.sl (2 : Nat) (List.length l) fun (k : Nat) => [V.i (Prod.fst (gp l k)), V.i (Prod.snd (gp l k))])] (by kernel_rfl) (by kernel_rfl) True.intro ?_
    refine e_call (miss_ac t l h) rfl rfl rfl rfl rfl ?_
    refine aops_n hTT (M := []) (n := 6) [pv (17 : Nat) (V.i (Prod.fst (missI t l))), pv (18 : Nat) (V.i (Prod.fst (Prod.snd (missI t l)))), pv (19 : Nat) (V.i (Prod.snd (Prod.snd (missI t l)))), pv (4 : Nat) (V.i (Prod.fst (missI t l))), pv (5 : Nat) (V.i (Prod.fst (Prod.snd (missI t l)))), pv (6 : Nat) (V.i (Prod.snd (Prod.snd (missI t l))))] (by kernel_rfl) (by kernel_rfl) True.intro ?_
    refine aops_nil ?_
    refine xt_n ?_
    refine hK _ ?_
    clear hK K
    refine aw_ret ?_
    rw [missO, if_pos h]
    refine ret_pure (.inr rfl) rfl rfl rfl
theorem missI_cases (t : List Int) (l : List Pt) : (missI t l).2.2 = 0 ∨ missI t l = (0, 0, 5) := by
  unfold missI
  cases missP t l with
  | none => exact .inr rfl
  | some p => exact .inl rfl
set_option maxRecDepth 100000 in
theorem refMiss_ac (t : List Int) (l : List Pt) (ht : t.length ≤ 4611686018427387904) (hl : l.length ≤ 4611686018427387904) : AC Try.prog 36 [.agg [V.ints t], V.pts l] (.tup [.i (missO t l).1, .i (missO t l).2.1, .i (missO t l).2.2]) [] := by
  refine ac_intro hTT hMX (fn := Try.f36) (N := _) ⟨Try.func36, rfl, Try.ntmps36, by kernel_rfl⟩ (by simp) fun C hC hF => ?_
  refine aw_seq_k fun K hK => ?_
  refine w_region (n' := 2) (by kernel_rfl) (by kernel_rfl) ?_
  refine aops_n hTT (M := []) (n := 4) [pv (2 : Nat) (V.ptr [V.sl (1 : Nat) (List.length t) fun (k : Nat) => [V.i (gi t k)]]), pv (4 : Nat) (V.i (0 : Int)), pv (5 : Nat) (V.i (0 : Int)), pv (6 : Nat) (V.i (0 : Int))] (by kernel_rfl) (by kernel_rfl) True.intro ?_
  refine aops_nil ?_
  refine xt_n ?_
  refine hK _ ?_
  clear hK K
  refine aw_seq_k fun K hK => ?_
  refine w_region (n' := 3) (by kernel_rfl) (by kernel_rfl) ?_
  refine aops_n hTT (M := []) (n := 2) [pv (11 : Nat) (V.agg [V.sl (1 : Nat) (List.length t) fun (k : Nat) => [V.i (gi t k)]]), pv (12 : Nat) (V.sl (2 : Nat) (List.length l) fun (k : Nat) => [V.i (Prod.fst (gp l k)), V.i (Prod.snd (gp l k))])] (by kernel_rfl) (by kernel_rfl) True.intro ?_
  refine e_call (both_ac t l ht hl) rfl rfl rfl rfl rfl ?_
  refine aops_n hTT (M := []) (n := 1) [pv (7 : Nat) (V.i (checkBoth t l))] (by kernel_rfl) (by kernel_rfl) True.intro ?_
  refine aops_nil ?_
  refine xt_n ?_
  refine hK _ ?_
  clear hK K
  refine aw_seq_k fun K hK => ?_
  refine aw_seq_k fun K hK => ?_
  refine w_region (n' := 4) (by kernel_rfl) (by kernel_rfl) ?_
  refine aops_n hTT (M := []) (n := 2) [pv (14 : Nat) (V.i (checkBoth t l)), pv (15 : Nat) (V.b !decide (checkBoth t l = (0 : Int)))] (by kernel_rfl) (by kernel_rfl) True.intro ?_
  refine aops_nil ?_
  refine xt_n ?_
  refine hK _ ?_
  clear hK K
  refine w_cond rfl (fun h => ?_) (fun h => ?_)
  · simp at h
    refine aw_seq_k fun K hK => ?_
    refine w_region (n' := 5) (by kernel_rfl) (by kernel_rfl) ?_
    refine aops_n hTT (M := []) (n := 4) [pv (16 : Nat) (V.i (checkBoth t l)), pv (4 : Nat) (V.i (0 : Int)), pv (5 : Nat) (V.i (0 : Int)), pv (6 : Nat) (V.i (checkBoth t l))] (by kernel_rfl) (by kernel_rfl) True.intro ?_
    refine aops_nil ?_
    refine xt_n ?_
    refine hK _ ?_
    clear hK K
    refine aw_ret ?_
    refine xt_r ?_
    rw [missO, if_neg h]
    refine ret_pure (.inr rfl) rfl rfl rfl
  · simp at h
    refine aw_skip ?_
    refine xt_n ?_
    refine hK _ ?_
    clear hK K
    refine aw_seq_k fun K hK => ?_
    refine w_region (n' := 5) (by kernel_rfl) (by kernel_rfl) ?_
    refine aops_n hTT (M := []) (n := 2) [pv (18 : Nat) (V.agg [V.sl (1 : Nat) (List.length t) fun (k : Nat) => [V.i (gi t k)]]), pv (19 : Nat) (V.sl (2 : Nat) (List.length l) fun (k : Nat) => [V.i (Prod.fst (gp l k)), V.i (Prod.snd (gp l k))])] (by kernel_rfl) (by kernel_rfl) True.intro ?_
    refine e_call (refmiss_ac t l h) rfl rfl rfl rfl rfl ?_
    refine aops_n hTT (M := []) (n := 7) [pv (17 : Nat) (V.tup [V.i (Prod.fst (missI t l)), V.i (Prod.fst (Prod.snd (missI t l))), V.b (decide (Prod.snd (Prod.snd (missI t l)) = (0 : Int)))]), pv (21 : Nat) (V.i (Prod.fst (missI t l))), pv (22 : Nat) (V.i (Prod.fst (Prod.snd (missI t l)))), pv (23 : Nat) (V.b (decide (Prod.snd (Prod.snd (missI t l)) = (0 : Int)))), pv (8 : Nat) (V.i (Prod.fst (missI t l))), pv (9 : Nat) (V.i (Prod.fst (Prod.snd (missI t l)))), pv (10 : Nat) (V.b (decide (Prod.snd (Prod.snd (missI t l)) = (0 : Int))))] (by kernel_rfl) (by kernel_rfl) True.intro ?_
    refine aops_nil ?_
    refine xt_n ?_
    refine hK _ ?_
    clear hK K
    refine aw_seq_k fun K hK => ?_
    refine aw_seq_k fun K hK => ?_
    refine w_region (n' := 6) (by kernel_rfl) (by kernel_rfl) ?_
    refine aops_n hTT (M := []) (n := 2) [pv (24 : Nat) (V.b (decide (Prod.snd (Prod.snd (missI t l)) = (0 : Int)))), pv (25 : Nat) (V.b !decide (Prod.snd (Prod.snd (missI t l)) = (0 : Int)))] (by kernel_rfl) (by kernel_rfl) True.intro ?_
    refine aops_nil ?_
    refine xt_n ?_
    refine hK _ ?_
    clear hK K
    refine w_cond rfl (fun h2 => ?_) (fun h2 => ?_)
    · simp at h2
      have h3 := (missI_cases t l).resolve_left h2
      refine aw_seq_k fun K hK => ?_
      refine w_region (n' := 7) (by kernel_rfl) (by kernel_rfl) ?_
      refine aops_n hTT (M := []) (n := 3) [pv (4 : Nat) (V.i (0 : Int)), pv (5 : Nat) (V.i (0 : Int)), pv (6 : Nat) (V.i (5 : Int))] (by kernel_rfl) (by kernel_rfl) True.intro ?_
      refine aops_nil ?_
      refine xt_n ?_
      refine hK _ ?_
      clear hK K
      refine aw_ret ?_
      refine xt_r ?_
      rw [missO, if_pos h, h3]
      refine ret_pure (.inr rfl) rfl rfl rfl
    · simp at h2
      refine aw_skip ?_
      refine xt_n ?_
      refine hK _ ?_
      clear hK K
      refine aw_seq_k fun K hK => ?_
      refine w_region (n' := 7) (by kernel_rfl) (by kernel_rfl) ?_
      refine aops_n hTT (M := []) (n := 5) [pv (26 : Nat) (V.i (Prod.fst (missI t l))), pv (27 : Nat) (V.i (Prod.fst (Prod.snd (missI t l)))), pv (4 : Nat) (V.i (Prod.fst (missI t l))), pv (5 : Nat) (V.i (Prod.fst (Prod.snd (missI t l)))), pv (6 : Nat) (V.i (0 : Int))] (by kernel_rfl) (by kernel_rfl) True.intro ?_
      refine aops_nil ?_
      refine xt_n ?_
      refine hK _ ?_
      clear hK K
      refine aw_ret ?_
      rw [missO, if_pos h, h2]
      refine ret_pure (.inr rfl) rfl rfl rfl
end Go.Proofs.Ytlfaaddoemcokaa
