/-
  FilterCausal: the walk of the law. No condition.
-/
import Derived.Test.YtblipieipldanaaWUndone
namespace Go.Proofs.Ytblipieipldanaa
open Go.Ab Go.RowKit Go.Dw Go.Shelf

theorem AllLe.take {m : Int} {l : List Int} (h : AllLe m l) (n : Nat) : AllLe m (l.take n) := fun x hx => h x (List.mem_of_mem_take hx)
theorem sigE_take {l : List Int} (h : sigE l = 0) (n : Nat) : sigE (l.take n) = 0 := by
  obtain ⟨h1, h2⟩ := sigE_ok.1 h
  exact sigE_ok.2 ⟨by rw [List.length_take]; omega, h2.take n⟩
theorem sigE_zeros {l : List Int} {z : Nat} (h : sigE l = 0) (h2 : z + l.length ≤ 4096) : sigE (List.replicate z 0 ++ l) = 0 := by
  obtain ⟨_, h3⟩ := sigE_ok.1 h
  refine sigE_ok.2 ⟨by simp; omega, fun x hx => ?_⟩
  rcases List.mem_append.1 hx with hx | hx
  · rw [(List.mem_replicate.1 hx).2]; decide
  · exact h3 x hx
theorem runI_zeros {c : Cv} {l : List Int} {z : Nat} : runI c false 32767 (List.replicate z 0 ++ l) = (runI c false 32767 l).map (List.replicate z 0 ++ ·) := by
  have e : ((resL c false (List.replicate z 0 ++ l)).any fun n => bey n 32767) = (resL c false l).any fun n => bey n 32767 := by
    rw [resL_later, List.any_append, Bool.or_eq_right_iff_imp]
    intro h
    rw [List.any_eq_true] at h
    obtain ⟨x, hx, hb⟩ := h
    rw [(List.mem_replicate.1 hx).2] at hb
    exact absurd hb (by decide)
  unfold runI
  rw [e, resL_later]
  split <;> rfl
theorem runI_take {c : Cv} {u : Bool} {m : Int} {l r : List Int} (h : runI c u m l = some r) (n : Nat) : runI c u m (l.take n) = some (r.take n) := by
  obtain ⟨h1, rfl⟩ := runI_eq.1 h
  exact runI_eq.2 ⟨h1.take n, (resL_take c u l n).symm⟩
set_option maxRecDepth 100000 in
theorem causal_law (c : Cv) (x : List Int) (n z : Int) (hc : cvL c) (hx : x.length ≤ bigL) (hn : 0 ≤ n ∧ n ≤ 65535) (hz : 0 ≤ z ∧ z ≤ 255) : AC Try.prog 4 [V.cv c, V.ints x, .c (.int .u16 n), .c (.int .u8 z)] (.b true) [] := by
  have hx' : x.length ≤ 4611686018427387904 := hx
  refine ac_intro hTT hMX (fn := Try.f4) (N := _) ⟨Try.func4, rfl, Try.ntmps4, by kernel_rfl⟩ (by simp) fun C hC hF => ?_
  refine aw_seq_k fun K hK => ?_
  refine w_region (n' := 2) (by kernel_rfl) (by kernel_rfl) ?_
  refine aops_n hTT (M := []) (n := 2) [pv (4 : Nat) (V.ptr [V.sl (1 : Nat) (List.length (Cv.feed c)) fun (k : Nat) => [V.i (gi (Cv.feed c) k)], V.sl (1 : Nat) (List.length (Cv.back c)) fun (k : Nat) => [V.i (gi (Cv.back c) k)], V.i (Cv.share c)]), pv (8 : Nat) (V.b false)] (by kernel_rfl) (by kernel_rfl) True.intro ?_
  refine aops_nil ?_
  refine xt_n ?_
  refine hK _ ?_
  clear hK K
  refine aw_seq_k fun K hK => ?_
  refine aw_seq_k fun K hK => ?_
  refine w_region (n' := 3) (by kernel_rfl) (by kernel_rfl) ?_
  refine aops_n hTT (M := []) (n := 2) [pv (17 : Nat) (V.agg [V.sl (1 : Nat) (List.length (Cv.feed c)) fun (k : Nat) => [V.i (gi (Cv.feed c) k)], V.sl (1 : Nat) (List.length (Cv.back c)) fun (k : Nat) => [V.i (gi (Cv.back c) k)], V.i (Cv.share c)]), pv (18 : Nat) (V.sl (1 : Nat) (List.length x) fun (k : Nat) => [V.i (gi x k)])] (by kernel_rfl) (by kernel_rfl) True.intro ?_
  refine e_call (first := []) (caps := []) (valid_ac c x 200 hc hx) (by kernel_rfl) (by kernel_rfl) (by kernel_rfl) (by kernel_rfl) (by kernel_rfl) ?_
  refine aops_n hTT (M := []) (n := 1) [pv (20 : Nat) (V.b !validB c x (200 : Int))] (by kernel_rfl) (by kernel_rfl) True.intro ?_
  refine aops_nil ?_
  refine xt_n ?_
  refine hK _ ?_
  clear hK K
  refine w_cond (t := !validB c x (200 : Int)) (by kernel_rfl) (fun c1 => ?_) (fun c1 => ?_)
  · refine aw_seq_k fun K hK => ?_
    refine w_region (n' := 4) (by kernel_rfl) (by kernel_rfl) ?_
    refine e_call (first := []) (caps := []) (works_ac) (by kernel_rfl) (by kernel_rfl) (by kernel_rfl) (by kernel_rfl) (by kernel_rfl) ?_
    refine aops_n hTT (M := []) (n := 1) [pv (8 : Nat) (V.b true)] (by kernel_rfl) (by kernel_rfl) True.intro ?_
    refine aops_nil ?_
    refine xt_n ?_
    refine hK _ ?_
    clear hK K
    refine aw_ret ?_
    refine xt_r ?_
    refine ret_pure (v' := V.b true) (.inr rfl) (by kernel_rfl) (by kernel_rfl) (by kernel_rfl)
  have hv : validB c x 200 = true := by simpa using c1
  obtain ⟨v1, v2, v3⟩ := validB_ok hv
  have A1 := Apply_ac c x hc hx
  have hk : 0 ≤ n.tmod ((x.length : Int) + 1) ∧ n.tmod ((x.length : Int) + 1) ≤ x.length := by
    have h1 := Int.tmod_nonneg ((x.length : Int) + 1) hn.1
    have h2 := Int.tmod_lt_of_pos n (b := (x.length : Int) + 1) (by omega)
    omega
  obtain ⟨k, hk2⟩ : ∃ k : Nat, n.tmod ((x.length : Int) + 1) = k := ⟨_, (Int.toNat_of_nonneg hk.1).symm⟩
  have hk3 : k ≤ x.length := by omega
  obtain ⟨zn, rfl⟩ : ∃ zn : Nat, z = zn := ⟨_, (Int.toNat_of_nonneg hz.1).symm⟩
  have hxs := sigE_ok.1 v3
  have A2 := Apply_ac c (x.take k) hc (by rw [List.length_take]; unfold bigL; omega)
  have A3 := (Apply_ac c (List.replicate zn 0 ++ x) hc (by unfold bigL; simp; omega))
  have sz : sigE (List.replicate zn 0 ++ x) = 0 := sigE_zeros v3 (by omega)
  have hrow : ∀ i, appRow zn (fun _ => [V.c (.int .i64 0)]) (fun i => [V.i (gi x i)]) i = [V.i (gi (List.replicate zn 0 ++ x) i)] := fun i => by
    rw [gi_append, appRow]
    simp only [List.length_replicate]
    split
    · rw [gi_replicate]
    · rfl
  have A4 : AM Try.prog 23 [V.cv c, .own 500] [.row 2 1 (zn + x.length) fun k => [.i (gi (List.replicate zn 0 ++ x) k)]] (.tup [V.ints (apR c false (List.replicate zn 0 ++ x)).2, .i (apR c false (List.replicate zn 0 ++ x)).1]) [none] [] :=
    A3.row 2 (row := fun k => [.i (gi (List.replicate zn 0 ++ x) k)]) rfl rfl (by simp) (by simp) (fun i hi => rfl) fun i => rfl
  rcases apR_or (u := false) v2 v3 with ⟨e1, r1⟩ | ⟨y, e1, r1, _, _⟩
  · rw [apR_3 v2 sz (by rw [runI_zeros, r1]; rfl)] at A4
    rw [e1] at A1
    have hf : (apR c false (x.take k)).1 = 0 ∨ (apR c false (x.take k)).1 = 4 := by
      rcases apR_or (u := false) v2 (sigE_take v3 k) with ⟨e, _⟩ | ⟨z, e, _⟩
      · rw [e]; exact .inr rfl
      · rw [e]; exact .inl rfl
    refine aw_skip ?_
    refine xt_n ?_
    refine hK _ ?_
    clear hK K
    refine aw_seq_k fun K hK => ?_
    refine w_region (n' := 4) (by kernel_rfl) (by kernel_rfl) ?_
    refine aops_n hTT (M := []) (n := 2) [pv (23 : Nat) (V.agg [V.sl (1 : Nat) (List.length (Cv.feed c)) fun (k : Nat) => [V.i (gi (Cv.feed c) k)], V.sl (1 : Nat) (List.length (Cv.back c)) fun (k : Nat) => [V.i (gi (Cv.back c) k)], V.i (Cv.share c)]), pv (24 : Nat) (V.sl (1 : Nat) (List.length x) fun (k : Nat) => [V.i (gi x k)])] (by kernel_rfl) (by kernel_rfl) True.intro ?_
    refine e_call (first := []) (caps := []) (A1) (by kernel_rfl) (by kernel_rfl) (by kernel_rfl) (by kernel_rfl) (by kernel_rfl) ?_
    refine aops_n hTT (M := []) (n := 5) [pv (22 : Nat) (V.tup [V.sl (1 : Nat) (0 : Nat) fun (k : Nat) => [V.i (gi [] k)], V.i (4 : Int)]), pv (26 : Nat) (V.sl (1 : Nat) (0 : Nat) fun (k : Nat) => [V.i (gi [] k)]), pv (27 : Nat) (V.i (4 : Int)), pv (9 : Nat) (V.sl (1 : Nat) (0 : Nat) fun (k : Nat) => [V.i (gi [] k)]), pv (10 : Nat) (V.i (4 : Int))] (by kernel_rfl) (by kernel_rfl) True.intro ?_
    refine aops_nil ?_
    refine xt_n ?_
    refine hK _ ?_
    clear hK K
    refine aw_seq_k fun K hK => ?_
    refine w_region (n' := 5) (by kernel_rfl) (by kernel_rfl) ?_
    refine aops_n hTT (M := []) (n := 7) [pv (28 : Nat) (V.c (Value.int IntKind.u16 n)), pc (29 : Nat) ((-9223372036854775808 : Int) ≤ n ∧ n ≤ (9223372036854775807 : Int)) (V.i n), pv (30 : Nat) (V.sl (1 : Nat) (List.length x) fun (k : Nat) => [V.i (gi x k)]), pv (31 : Nat) (V.i (↑(List.length x) : Int)), pc (32 : Nat) ((-9223372036854775808 : Int) ≤ (↑(List.length x) : Int) + (1 : Int) ∧ (↑(List.length x) : Int) + (1 : Int) ≤ (9223372036854775807 : Int)) (V.i ((↑(List.length x) : Int) + (1 : Int))), pc (33 : Nat) ((↑(List.length x) : Int) + (1 : Int) ≠ (0 : Int)) (V.i (Int.tmod n ((↑(List.length x) : Int) + (1 : Int)))), pv (11 : Nat) (V.i (Int.tmod n ((↑(List.length x) : Int) + (1 : Int))))] (by kernel_rfl) (by kernel_rfl) ⟨(by omega), (by omega), (by omega), True.intro⟩ ?_
    refine aops_nil ?_
    refine xt_n ?_
    refine hK _ ?_
    clear hK K
    refine aw_seq_k fun K hK => ?_
    refine w_regionD (n' := 6) (by kernel_rfl) (by kernel_rfl) ?_
    refine aops_n hTT (M := []) (n := 4) [pv (35 : Nat) (V.agg [V.sl (1 : Nat) (List.length (Cv.feed c)) fun (k : Nat) => [V.i (gi (Cv.feed c) k)], V.sl (1 : Nat) (List.length (Cv.back c)) fun (k : Nat) => [V.i (gi (Cv.back c) k)], V.i (Cv.share c)]), pv (36 : Nat) (V.sl (1 : Nat) (List.length x) fun (k : Nat) => [V.i (gi x k)]), pv (37 : Nat) (V.i (Int.tmod n ((↑(List.length x) : Int) + (1 : Int)))), pc (38 : Nat) ((0 : Int) ≤ (0 : Int) ∧ (0 : Int) ≤ Int.tmod n ((↑(List.length x) : Int) + (1 : Int)) ∧ Int.tmod n ((↑(List.length x) : Int) + (1 : Int)) ≤ (↑(List.length x) : Int)) (V.sl (1 : Nat) (Int.toNat (Int.tmod n ((↑(List.length x) : Int) + (1 : Int))) - (0 : Nat)) fun (i : Nat) => [V.i (gi x (i + (0 : Nat)))])] (by kernel_rfl) (by kernel_rfl) ⟨⟨(by omega), (by omega)⟩, True.intro⟩ ?_
    refine e_call (first := []) (caps := []) (AC.conv (A2) (args' := [V.agg [V.sl (1 : Nat) (List.length (Cv.feed c)) fun (k : Nat) => [V.i (gi (Cv.feed c) k)], V.sl (1 : Nat) (List.length (Cv.back c)) fun (k : Nat) => [V.i (gi (Cv.back c) k)], V.i (Cv.share c)], V.sl (1 : Nat) (Int.toNat (Int.tmod n ((↑(List.length x) : Int) + (1 : Int))) - (0 : Nat)) fun (i : Nat) => [V.i (gi x (i + (0 : Nat)))]]) ⟨RImp.refl _, ?_, trivial⟩) (by kernel_rfl) (by kernel_rfl) (by kernel_rfl) (by kernel_rfl) (by kernel_rfl) ?_
    · refine RImp.rows (by rw [List.length_take]; omega) fun i hi => ?_
      rw [gi_take (by omega)]
      rfl
    refine aops_n hTT (M := []) (n := 5) [pv (34 : Nat) (V.tup [V.sl (1 : Nat) (List.length (Prod.snd (apR c false (List.take k x)))) fun (k_1 : Nat) => [V.i (gi (Prod.snd (apR c false (List.take k x))) k_1)], V.i (Prod.fst (apR c false (List.take k x)))]), pv (40 : Nat) (V.sl (1 : Nat) (List.length (Prod.snd (apR c false (List.take k x)))) fun (k_1 : Nat) => [V.i (gi (Prod.snd (apR c false (List.take k x))) k_1)]), pv (41 : Nat) (V.i (Prod.fst (apR c false (List.take k x)))), pv (12 : Nat) (V.sl (1 : Nat) (List.length (Prod.snd (apR c false (List.take k x)))) fun (k_1 : Nat) => [V.i (gi (Prod.snd (apR c false (List.take k x))) k_1)]), pv (13 : Nat) (V.i (Prod.fst (apR c false (List.take k x))))] (by kernel_rfl) (by kernel_rfl) True.intro ?_
    refine aops_nil ⟨by kernel_rfl, ?_⟩
    refine xt_n ?_
    refine hK _ ?_
    clear hK K
    refine aw_seq_k fun K hK => ?_
    refine w_regionD (n' := 7) (by kernel_rfl) (by kernel_rfl) ?_
    refine aops_n hTT (M := []) (n := 5) [pv (43 : Nat) (V.agg [V.sl (1 : Nat) (List.length (Cv.feed c)) fun (k : Nat) => [V.i (gi (Cv.feed c) k)], V.sl (1 : Nat) (List.length (Cv.back c)) fun (k : Nat) => [V.i (gi (Cv.back c) k)], V.i (Cv.share c)]), pv (44 : Nat) (V.c (Value.int IntKind.u8 (↑zn : Int))), PR.mk (some (45 : Nat)) (some ((0 : Int) ≤ (↑zn : Int) ∧ (↑zn : Int) ≤ (↑zn : Int) ∧ (↑zn : Int) ≤ (1099511627776 : Int))) (V.own (600045 : Nat)) [((600045 : Nat), some (Ob.row (2 : Nat) (1 : Nat) zn fun (x : Nat) => [V.c (Value.int IntKind.i64 (0 : Int))]))] false, pv (46 : Nat) (V.sl (1 : Nat) (List.length x) fun (k : Nat) => [V.i (gi x k)]), PR.mk (some (47 : Nat)) (some (zn + List.length x ≤ (1099511627776 : Nat))) (V.own (600047 : Nat)) [((600045 : Nat), none), ((600047 : Nat), some (Ob.row (2 : Nat) (1 : Nat) (zn + List.length x) (appRow zn (fun (x : Nat) => [V.c (Value.int IntKind.i64 (0 : Int))]) fun (k : Nat) => [V.i (gi x k)])))] false] (by kernel_rfl) (by kernel_rfl) ⟨⟨(by omega), (by omega)⟩, (by omega), True.intro⟩ ?_
    refine aops_callM [600047] (first := []) (caps := []) (ins' := [Ob.row (2 : Nat) (1 : Nat) (zn + List.length x) (appRow zn (fun (x : Nat) => [V.c (Value.int IntKind.i64 (0 : Int))]) fun (k : Nat) => [V.i (gi x k)])]) (v' := V.tup [V.sl (1 : Nat) (0 : Nat) fun (k : Nat) => [V.i (gi [] k)], V.i (4 : Int)]) (δ := [(600047, Option.none)]) (kp := [600047]) (A4) (by kernel_rfl) (by kernel_rfl) (by kernel_rfl) (by kernel_rfl) (by kernel_rfl) (by kernel_rfl) rfl rfl (by kernel_rfl) (.row (by kernel_rfl) ?_ (fun _ _ => rfl) .nil) (by kernel_rfl) (by kernel_rfl) (by kernel_rfl) ?_
    · intro i hi
      exact hrow i
    refine aops_n hTT (M := []) (n := 5) [pv (42 : Nat) (V.tup [V.sl (1 : Nat) (0 : Nat) fun (k : Nat) => [V.i (gi [] k)], V.i (4 : Int)]), pv (49 : Nat) (V.sl (1 : Nat) (0 : Nat) fun (k : Nat) => [V.i (gi [] k)]), pv (50 : Nat) (V.i (4 : Int)), pv (14 : Nat) (V.sl (1 : Nat) (0 : Nat) fun (k : Nat) => [V.i (gi [] k)]), pv (15 : Nat) (V.i (4 : Int))] (by kernel_rfl) (by kernel_rfl) True.intro ?_
    refine aops_nil ⟨by kernel_rfl, ?_⟩
    refine xt_n ?_
    refine hK _ ?_
    clear hK K
    refine aw_seq_k fun K hK => ?_
    refine aw_seq_k fun K hK => ?_
    refine w_region (n' := 8) (by kernel_rfl) (by kernel_rfl) ?_
    refine aops_n hTT (M := []) (n := 3) [pv (51 : Nat) (V.i (4 : Int)), pv (52 : Nat) (V.i (4 : Int)), pv (53 : Nat) (V.b false)] (by kernel_rfl) (by kernel_rfl) True.intro ?_
    refine aops_nil ?_
    refine xt_n ?_
    refine hK _ ?_
    clear hK K
    refine w_false (t := false) (by kernel_rfl) rfl ?_
    refine aw_skip ?_
    refine xt_n ?_
    refine hK _ ?_
    clear hK K
    refine aw_seq_k fun K hK => ?_
    refine aw_seq_k fun K hK => ?_
    refine w_region (n' := 9) (by kernel_rfl) (by kernel_rfl) ?_
    refine aops_n hTT (M := []) (n := 2) [pv (54 : Nat) (V.i (4 : Int)), pv (55 : Nat) (V.b true)] (by kernel_rfl) (by kernel_rfl) True.intro ?_
    refine aops_nil ?_
    refine xt_n ?_
    refine hK _ ?_
    clear hK K
    refine w_true (t := true) (by kernel_rfl) rfl ?_
    refine aw_seq_k fun K hK => ?_
    refine w_region (n' := 10) (by kernel_rfl) (by kernel_rfl) ?_
    refine aops_n hTT (M := []) (n := 11) [pv (56 : Nat) (V.i (4 : Int)), pv (57 : Nat) (V.b true), pv (58 : Nat) (V.b true), pc (59 : Nat) ((True ∧ True) ∧ ((true == true) = true → True)) (V.gd (true == true) (V.i (Prod.fst (apR c false (List.take k x))))), pc (60 : Nat) ((((true == true) = true → (true == true) = true) ∧ True ∧ True) ∧ ((true == true) = true → True)) (V.gd (true == true) (V.b (decide (Prod.fst (apR c false (List.take k x)) = (0 : Int))))), pc (61 : Nat) ((((true == true) = true → (true == true) = true) ∧ True) ∧ ((true == true) = true → True)) (V.gd (true == true) (V.b (decide (Prod.fst (apR c false (List.take k x)) = (0 : Int))))), pc (62 : Nat) ((True ∧ True) ∧ ((true == true && decide (Prod.fst (apR c false (List.take k x)) = (0 : Int)) == false) = true → True)) (V.gd (true == true && decide (Prod.fst (apR c false (List.take k x)) = (0 : Int)) == false) (V.i (Prod.fst (apR c false (List.take k x))))), pc (63 : Nat) ((((true == true && decide (Prod.fst (apR c false (List.take k x)) = (0 : Int)) == false) = true → (true == true && decide (Prod.fst (apR c false (List.take k x)) = (0 : Int)) == false) = true) ∧ True ∧ True) ∧ ((true == true && decide (Prod.fst (apR c false (List.take k x)) = (0 : Int)) == false) = true → True)) (V.gd (true == true && decide (Prod.fst (apR c false (List.take k x)) = (0 : Int)) == false) (V.b (decide (Prod.fst (apR c false (List.take k x)) = (4 : Int))))), pc (64 : Nat) (((true == true) = true → (true == true) = true) ∧ ((true == true) = true → True) ∧ ((true == true) = true → decide (Prod.fst (apR c false (List.take k x)) = (0 : Int)) = false → (true == true && decide (Prod.fst (apR c false (List.take k x)) = (0 : Int)) == false) = true)) (V.gd (true == true) (V.b (decide (Prod.fst (apR c false (List.take k x)) = (0 : Int)) || decide (Prod.fst (apR c false (List.take k x)) = (4 : Int))))), pc (65 : Nat) ((true = true → (true == true) = true) ∧ True) (V.b (decide (Prod.fst (apR c false (List.take k x)) = (0 : Int)) || decide (Prod.fst (apR c false (List.take k x)) = (4 : Int)))), pv (66 : Nat) (V.b (decide (Prod.fst (apR c false (List.take k x)) = (0 : Int)) || decide (Prod.fst (apR c false (List.take k x)) = (4 : Int))))] (by kernel_rfl) (by kernel_rfl) ⟨⟨⟨True.intro, True.intro⟩, (fun _ => True.intro)⟩, ⟨⟨(by (exact fun h => h)), ⟨True.intro, True.intro⟩⟩, (fun _ => True.intro)⟩, ⟨⟨(by (exact fun h => h)), True.intro⟩, (fun _ => True.intro)⟩, ⟨⟨True.intro, True.intro⟩, (fun _ => True.intro)⟩, ⟨⟨(by (exact fun h => h)), ⟨True.intro, True.intro⟩⟩, (fun _ => True.intro)⟩, ⟨(by (exact fun h => h)), ⟨(fun _ => True.intro), (by (intro _; simp; done))⟩⟩, ⟨(by (exact fun h => h)), True.intro⟩, True.intro⟩ ?_
    refine e_callG 0 (g := (decide (Prod.fst (apR c false (List.take k x)) = (0 : Int)) || decide (Prod.fst (apR c false (List.take k x)) = (4 : Int))) == true) (first := []) (caps := []) (by kernel_rfl) (fun h => works_ac) (by kernel_rfl) (by kernel_rfl) (by kernel_rfl) (by kernel_rfl) (by kernel_rfl) (by kernel_rfl) ?_
    refine aops_n hTT (M := []) (n := 2) [pc (68 : Nat) (((decide (Prod.fst (apR c false (List.take k x)) = (0 : Int)) || decide (Prod.fst (apR c false (List.take k x)) = (4 : Int))) = true → ((decide (Prod.fst (apR c false (List.take k x)) = (0 : Int)) || decide (Prod.fst (apR c false (List.take k x)) = (4 : Int))) == true) = true) ∧ True) (V.b ((decide (Prod.fst (apR c false (List.take k x)) = (0 : Int)) || decide (Prod.fst (apR c false (List.take k x)) = (4 : Int))) && true)), pv (8 : Nat) (V.b ((decide (Prod.fst (apR c false (List.take k x)) = (0 : Int)) || decide (Prod.fst (apR c false (List.take k x)) = (4 : Int))) && true))] (by kernel_rfl) (by kernel_rfl) ⟨⟨(by (intro h; rw [h]; rfl)), True.intro⟩, True.intro⟩ ?_
    refine aops_nil ?_
    refine xt_n ?_
    refine hK _ ?_
    clear hK K
    refine aw_ret ?_
    refine xt_r ?_
    refine ret_pure (v' := V.b ((decide (Prod.fst (apR c false (List.take k x)) = (0 : Int)) || decide (Prod.fst (apR c false (List.take k x)) = (4 : Int))) && true)) (.inr rfl) (by kernel_rfl) ?_ (by kernel_rfl)
    simp [hf]
  · have ly : y.length = x.length := runI_len r1
    rw [apR_4 v2 sz (by rw [runI_zeros, r1]; rfl)] at A4
    rw [apR_4 v2 (sigE_take v3 k) (runI_take r1 k)] at A2
    rw [e1] at A1
    refine aw_skip ?_
    refine xt_n ?_
    refine hK _ ?_
    clear hK K
    refine aw_seq_k fun K hK => ?_
    refine w_region (n' := 4) (by kernel_rfl) (by kernel_rfl) ?_
    refine aops_n hTT (M := []) (n := 2) [pv (23 : Nat) (V.agg [V.sl (1 : Nat) (List.length (Cv.feed c)) fun (k : Nat) => [V.i (gi (Cv.feed c) k)], V.sl (1 : Nat) (List.length (Cv.back c)) fun (k : Nat) => [V.i (gi (Cv.back c) k)], V.i (Cv.share c)]), pv (24 : Nat) (V.sl (1 : Nat) (List.length x) fun (k : Nat) => [V.i (gi x k)])] (by kernel_rfl) (by kernel_rfl) True.intro ?_
    refine e_call (first := []) (caps := []) (A1) (by kernel_rfl) (by kernel_rfl) (by kernel_rfl) (by kernel_rfl) (by kernel_rfl) ?_
    refine aops_n hTT (M := []) (n := 5) [pv (22 : Nat) (V.tup [V.sl (1 : Nat) (List.length y) fun (k : Nat) => [V.i (gi y k)], V.i (0 : Int)]), pv (26 : Nat) (V.sl (1 : Nat) (List.length y) fun (k : Nat) => [V.i (gi y k)]), pv (27 : Nat) (V.i (0 : Int)), pv (9 : Nat) (V.sl (1 : Nat) (List.length y) fun (k : Nat) => [V.i (gi y k)]), pv (10 : Nat) (V.i (0 : Int))] (by kernel_rfl) (by kernel_rfl) True.intro ?_
    refine aops_nil ?_
    refine xt_n ?_
    refine hK _ ?_
    clear hK K
    refine aw_seq_k fun K hK => ?_
    refine w_region (n' := 5) (by kernel_rfl) (by kernel_rfl) ?_
    refine aops_n hTT (M := []) (n := 7) [pv (28 : Nat) (V.c (Value.int IntKind.u16 n)), pc (29 : Nat) ((-9223372036854775808 : Int) ≤ n ∧ n ≤ (9223372036854775807 : Int)) (V.i n), pv (30 : Nat) (V.sl (1 : Nat) (List.length x) fun (k : Nat) => [V.i (gi x k)]), pv (31 : Nat) (V.i (↑(List.length x) : Int)), pc (32 : Nat) ((-9223372036854775808 : Int) ≤ (↑(List.length x) : Int) + (1 : Int) ∧ (↑(List.length x) : Int) + (1 : Int) ≤ (9223372036854775807 : Int)) (V.i ((↑(List.length x) : Int) + (1 : Int))), pc (33 : Nat) ((↑(List.length x) : Int) + (1 : Int) ≠ (0 : Int)) (V.i (Int.tmod n ((↑(List.length x) : Int) + (1 : Int)))), pv (11 : Nat) (V.i (Int.tmod n ((↑(List.length x) : Int) + (1 : Int))))] (by kernel_rfl) (by kernel_rfl) ⟨(by omega), (by omega), (by omega), True.intro⟩ ?_
    refine aops_nil ?_
    refine xt_n ?_
    refine hK _ ?_
    clear hK K
    refine aw_seq_k fun K hK => ?_
    refine w_regionD (n' := 6) (by kernel_rfl) (by kernel_rfl) ?_
    refine aops_n hTT (M := []) (n := 4) [pv (35 : Nat) (V.agg [V.sl (1 : Nat) (List.length (Cv.feed c)) fun (k : Nat) => [V.i (gi (Cv.feed c) k)], V.sl (1 : Nat) (List.length (Cv.back c)) fun (k : Nat) => [V.i (gi (Cv.back c) k)], V.i (Cv.share c)]), pv (36 : Nat) (V.sl (1 : Nat) (List.length x) fun (k : Nat) => [V.i (gi x k)]), pv (37 : Nat) (V.i (Int.tmod n ((↑(List.length x) : Int) + (1 : Int)))), pc (38 : Nat) ((0 : Int) ≤ (0 : Int) ∧ (0 : Int) ≤ Int.tmod n ((↑(List.length x) : Int) + (1 : Int)) ∧ Int.tmod n ((↑(List.length x) : Int) + (1 : Int)) ≤ (↑(List.length x) : Int)) (V.sl (1 : Nat) (Int.toNat (Int.tmod n ((↑(List.length x) : Int) + (1 : Int))) - (0 : Nat)) fun (i : Nat) => [V.i (gi x (i + (0 : Nat)))])] (by kernel_rfl) (by kernel_rfl) ⟨⟨(by omega), (by omega)⟩, True.intro⟩ ?_
    refine e_call (first := []) (caps := []) (AC.conv (A2) (args' := [V.agg [V.sl (1 : Nat) (List.length (Cv.feed c)) fun (k : Nat) => [V.i (gi (Cv.feed c) k)], V.sl (1 : Nat) (List.length (Cv.back c)) fun (k : Nat) => [V.i (gi (Cv.back c) k)], V.i (Cv.share c)], V.sl (1 : Nat) (Int.toNat (Int.tmod n ((↑(List.length x) : Int) + (1 : Int))) - (0 : Nat)) fun (i : Nat) => [V.i (gi x (i + (0 : Nat)))]]) ⟨RImp.refl _, ?_, trivial⟩) (by kernel_rfl) (by kernel_rfl) (by kernel_rfl) (by kernel_rfl) (by kernel_rfl) ?_
    · refine RImp.rows (by rw [List.length_take]; omega) fun i hi => ?_
      rw [gi_take (by omega)]
      rfl
    refine aops_n hTT (M := []) (n := 5) [pv (34 : Nat) (V.tup [V.sl (1 : Nat) (List.length (List.take k y)) fun (k_1 : Nat) => [V.i (gi (List.take k y) k_1)], V.i (0 : Int)]), pv (40 : Nat) (V.sl (1 : Nat) (List.length (List.take k y)) fun (k_1 : Nat) => [V.i (gi (List.take k y) k_1)]), pv (41 : Nat) (V.i (0 : Int)), pv (12 : Nat) (V.sl (1 : Nat) (List.length (List.take k y)) fun (k_1 : Nat) => [V.i (gi (List.take k y) k_1)]), pv (13 : Nat) (V.i (0 : Int))] (by kernel_rfl) (by kernel_rfl) True.intro ?_
    refine aops_nil ⟨by kernel_rfl, ?_⟩
    refine xt_n ?_
    refine hK _ ?_
    clear hK K
    refine aw_seq_k fun K hK => ?_
    refine w_regionD (n' := 7) (by kernel_rfl) (by kernel_rfl) ?_
    refine aops_n hTT (M := []) (n := 5) [pv (43 : Nat) (V.agg [V.sl (1 : Nat) (List.length (Cv.feed c)) fun (k : Nat) => [V.i (gi (Cv.feed c) k)], V.sl (1 : Nat) (List.length (Cv.back c)) fun (k : Nat) => [V.i (gi (Cv.back c) k)], V.i (Cv.share c)]), pv (44 : Nat) (V.c (Value.int IntKind.u8 (↑zn : Int))), PR.mk (some (45 : Nat)) (some ((0 : Int) ≤ (↑zn : Int) ∧ (↑zn : Int) ≤ (↑zn : Int) ∧ (↑zn : Int) ≤ (1099511627776 : Int))) (V.own (600045 : Nat)) [((600045 : Nat), some (Ob.row (2 : Nat) (1 : Nat) zn fun (x : Nat) => [V.c (Value.int IntKind.i64 (0 : Int))]))] false, pv (46 : Nat) (V.sl (1 : Nat) (List.length x) fun (k : Nat) => [V.i (gi x k)]), PR.mk (some (47 : Nat)) (some (zn + List.length x ≤ (1099511627776 : Nat))) (V.own (600047 : Nat)) [((600045 : Nat), none), ((600047 : Nat), some (Ob.row (2 : Nat) (1 : Nat) (zn + List.length x) (appRow zn (fun (x : Nat) => [V.c (Value.int IntKind.i64 (0 : Int))]) fun (k : Nat) => [V.i (gi x k)])))] false] (by kernel_rfl) (by kernel_rfl) ⟨⟨(by omega), (by omega)⟩, (by omega), True.intro⟩ ?_
    refine aops_callM [600047] (first := []) (caps := []) (ins' := [Ob.row (2 : Nat) (1 : Nat) (zn + List.length x) (appRow zn (fun (x : Nat) => [V.c (Value.int IntKind.i64 (0 : Int))]) fun (k : Nat) => [V.i (gi x k)])]) (v' := V.tup [V.sl (1 : Nat) (List.length (List.replicate zn (0 : Int) ++ y)) fun (k : Nat) => [V.i (gi (List.replicate zn (0 : Int) ++ y) k)], V.i (0 : Int)]) (δ := [(600047, Option.none)]) (kp := [600047]) (A4) (by kernel_rfl) (by kernel_rfl) (by kernel_rfl) (by kernel_rfl) (by kernel_rfl) (by kernel_rfl) rfl rfl (by kernel_rfl) (.row (by kernel_rfl) ?_ (fun _ _ => rfl) .nil) (by kernel_rfl) (by kernel_rfl) (by kernel_rfl) ?_
    · intro i hi
      exact hrow i
    refine aops_n hTT (M := []) (n := 5) [pv (42 : Nat) (V.tup [V.sl (1 : Nat) (List.length (List.replicate zn (0 : Int) ++ y)) fun (k : Nat) => [V.i (gi (List.replicate zn (0 : Int) ++ y) k)], V.i (0 : Int)]), pv (49 : Nat) (V.sl (1 : Nat) (List.length (List.replicate zn (0 : Int) ++ y)) fun (k : Nat) => [V.i (gi (List.replicate zn (0 : Int) ++ y) k)]), pv (50 : Nat) (V.i (0 : Int)), pv (14 : Nat) (V.sl (1 : Nat) (List.length (List.replicate zn (0 : Int) ++ y)) fun (k : Nat) => [V.i (gi (List.replicate zn (0 : Int) ++ y) k)]), pv (15 : Nat) (V.i (0 : Int))] (by kernel_rfl) (by kernel_rfl) True.intro ?_
    refine aops_nil ⟨by kernel_rfl, ?_⟩
    refine xt_n ?_
    refine hK _ ?_
    clear hK K
    refine aw_seq_k fun K hK => ?_
    refine aw_seq_k fun K hK => ?_
    refine w_region (n' := 8) (by kernel_rfl) (by kernel_rfl) ?_
    refine aops_n hTT (M := []) (n := 3) [pv (51 : Nat) (V.i (0 : Int)), pv (52 : Nat) (V.i (0 : Int)), pv (53 : Nat) (V.b false)] (by kernel_rfl) (by kernel_rfl) True.intro ?_
    refine aops_nil ?_
    refine xt_n ?_
    refine hK _ ?_
    clear hK K
    refine w_false (t := false) (by kernel_rfl) rfl ?_
    refine aw_skip ?_
    refine xt_n ?_
    refine hK _ ?_
    clear hK K
    refine aw_seq_k fun K hK => ?_
    refine aw_seq_k fun K hK => ?_
    refine w_region (n' := 9) (by kernel_rfl) (by kernel_rfl) ?_
    refine aops_n hTT (M := []) (n := 2) [pv (54 : Nat) (V.i (0 : Int)), pv (55 : Nat) (V.b false)] (by kernel_rfl) (by kernel_rfl) True.intro ?_
    refine aops_nil ?_
    refine xt_n ?_
    refine hK _ ?_
    clear hK K
    refine w_false (t := false) (by kernel_rfl) rfl ?_
    refine aw_skip ?_
    refine xt_n ?_
    refine hK _ ?_
    clear hK K
    refine aw_seq_k fun K hK => ?_
    refine aw_seq_k fun K hK => ?_
    refine w_region (n' := 10) (by kernel_rfl) (by kernel_rfl) ?_
    refine aops_n hTT (M := []) (n := 19) [pv (69 : Nat) (V.i (0 : Int)), pv (70 : Nat) (V.b false), pv (71 : Nat) (V.b false), pc (72 : Nat) ((True ∧ True) ∧ ((false == false) = true → True)) (V.gd (false == false) (V.sl (1 : Nat) (List.length y) fun (k : Nat) => [V.i (gi y k)])), pc (73 : Nat) ((((false == false) = true → (false == false) = true) ∧ True) ∧ ((false == false) = true → True)) (V.gd (false == false) (V.i (↑(List.length y) : Int))), pc (74 : Nat) ((True ∧ True) ∧ ((false == false) = true → True)) (V.gd (false == false) (V.sl (1 : Nat) (List.length x) fun (k : Nat) => [V.i (gi x k)])), pc (75 : Nat) ((((false == false) = true → (false == false) = true) ∧ True) ∧ ((false == false) = true → True)) (V.gd (false == false) (V.i (↑(List.length x) : Int))), pc (76 : Nat) ((((false == false) = true → (false == false) = true) ∧ ((false == false) = true → (false == false) = true) ∧ True) ∧ ((false == false) = true → True)) (V.gd (false == false) (V.b !decide ((↑(List.length y) : Int) = (↑(List.length x) : Int)))), pc (77 : Nat) (True ∧ (false = false → (false == false) = true)) (V.b !decide ((↑(List.length y) : Int) = (↑(List.length x) : Int))), pv (78 : Nat) (V.b !decide ((↑(List.length y) : Int) = (↑(List.length x) : Int))), pc (79 : Nat) ((True ∧ True) ∧ (((!decide ((↑(List.length y) : Int) = (↑(List.length x) : Int))) == false) = true → True)) (V.gd ((!decide ((↑(List.length y) : Int) = (↑(List.length x) : Int))) == false) (V.sl (1 : Nat) (List.length (List.replicate zn (0 : Int) ++ y)) fun (k : Nat) => [V.i (gi (List.replicate zn (0 : Int) ++ y) k)])), pc (80 : Nat) (((((!decide ((↑(List.length y) : Int) = (↑(List.length x) : Int))) == false) = true → ((!decide ((↑(List.length y) : Int) = (↑(List.length x) : Int))) == false) = true) ∧ True) ∧ (((!decide ((↑(List.length y) : Int) = (↑(List.length x) : Int))) == false) = true → True)) (V.gd ((!decide ((↑(List.length y) : Int) = (↑(List.length x) : Int))) == false) (V.i (↑(List.length (List.replicate zn (0 : Int) ++ y)) : Int))), pc (81 : Nat) ((True ∧ True) ∧ (((!decide ((↑(List.length y) : Int) = (↑(List.length x) : Int))) == false) = true → True)) (V.gd ((!decide ((↑(List.length y) : Int) = (↑(List.length x) : Int))) == false) (V.sl (1 : Nat) (List.length x) fun (k : Nat) => [V.i (gi x k)])), pc (82 : Nat) (((((!decide ((↑(List.length y) : Int) = (↑(List.length x) : Int))) == false) = true → ((!decide ((↑(List.length y) : Int) = (↑(List.length x) : Int))) == false) = true) ∧ True) ∧ (((!decide ((↑(List.length y) : Int) = (↑(List.length x) : Int))) == false) = true → True)) (V.gd ((!decide ((↑(List.length y) : Int) = (↑(List.length x) : Int))) == false) (V.i (↑(List.length x) : Int))), pc (83 : Nat) ((True ∧ True) ∧ (((!decide ((↑(List.length y) : Int) = (↑(List.length x) : Int))) == false) = true → True)) (V.gd ((!decide ((↑(List.length y) : Int) = (↑(List.length x) : Int))) == false) (V.c (Value.int IntKind.u8 (↑zn : Int)))), pc (84 : Nat) (((((!decide ((↑(List.length y) : Int) = (↑(List.length x) : Int))) == false) = true → ((!decide ((↑(List.length y) : Int) = (↑(List.length x) : Int))) == false) = true) ∧ True) ∧ (((!decide ((↑(List.length y) : Int) = (↑(List.length x) : Int))) == false) = true → (-9223372036854775808 : Int) ≤ (↑zn : Int) ∧ (↑zn : Int) ≤ (9223372036854775807 : Int))) (V.gd ((!decide ((↑(List.length y) : Int) = (↑(List.length x) : Int))) == false) (V.i (↑zn : Int))), pc (85 : Nat) (((((!decide ((↑(List.length y) : Int) = (↑(List.length x) : Int))) == false) = true → ((!decide ((↑(List.length y) : Int) = (↑(List.length x) : Int))) == false) = true) ∧ (((!decide ((↑(List.length y) : Int) = (↑(List.length x) : Int))) == false) = true → ((!decide ((↑(List.length y) : Int) = (↑(List.length x) : Int))) == false) = true) ∧ True) ∧ (((!decide ((↑(List.length y) : Int) = (↑(List.length x) : Int))) == false) = true → (-9223372036854775808 : Int) ≤ (↑(List.length x) : Int) + (↑zn : Int) ∧ (↑(List.length x) : Int) + (↑zn : Int) ≤ (9223372036854775807 : Int))) (V.gd ((!decide ((↑(List.length y) : Int) = (↑(List.length x) : Int))) == false) (V.i ((↑(List.length x) : Int) + (↑zn : Int)))), pc (86 : Nat) (((((!decide ((↑(List.length y) : Int) = (↑(List.length x) : Int))) == false) = true → ((!decide ((↑(List.length y) : Int) = (↑(List.length x) : Int))) == false) = true) ∧ (((!decide ((↑(List.length y) : Int) = (↑(List.length x) : Int))) == false) = true → ((!decide ((↑(List.length y) : Int) = (↑(List.length x) : Int))) == false) = true) ∧ True) ∧ (((!decide ((↑(List.length y) : Int) = (↑(List.length x) : Int))) == false) = true → True)) (V.gd ((!decide ((↑(List.length y) : Int) = (↑(List.length x) : Int))) == false) (V.b !decide ((↑(List.length (List.replicate zn (0 : Int) ++ y)) : Int) = (↑(List.length x) : Int) + (↑zn : Int)))), pc (87 : Nat) (True ∧ ((!decide ((↑(List.length y) : Int) = (↑(List.length x) : Int))) = false → ((!decide ((↑(List.length y) : Int) = (↑(List.length x) : Int))) == false) = true)) (V.b (!decide ((↑(List.length y) : Int) = (↑(List.length x) : Int)) || !decide ((↑(List.length (List.replicate zn (0 : Int) ++ y)) : Int) = (↑(List.length x) : Int) + (↑zn : Int))))] (by kernel_rfl) (by kernel_rfl) ⟨⟨⟨True.intro, True.intro⟩, (fun _ => True.intro)⟩, ⟨⟨(by (exact fun h => h)), True.intro⟩, (fun _ => True.intro)⟩, ⟨⟨True.intro, True.intro⟩, (fun _ => True.intro)⟩, ⟨⟨(by (exact fun h => h)), True.intro⟩, (fun _ => True.intro)⟩, ⟨⟨(by (exact fun h => h)), ⟨(by (exact fun h => h)), True.intro⟩⟩, (fun _ => True.intro)⟩, ⟨True.intro, (by (intro h; rw [h]; rfl))⟩, ⟨⟨True.intro, True.intro⟩, (fun _ => True.intro)⟩, ⟨⟨(by (exact fun h => h)), True.intro⟩, (fun _ => True.intro)⟩, ⟨⟨True.intro, True.intro⟩, (fun _ => True.intro)⟩, ⟨⟨(by (exact fun h => h)), True.intro⟩, (fun _ => True.intro)⟩, ⟨⟨True.intro, True.intro⟩, (fun _ => True.intro)⟩, ⟨⟨(by (exact fun h => h)), True.intro⟩, (by (intro hg; simp at hg; omega))⟩, ⟨⟨(by (exact fun h => h)), ⟨(by (exact fun h => h)), True.intro⟩⟩, (by (intro hg; simp at hg; omega))⟩, ⟨⟨(by (exact fun h => h)), ⟨(by (exact fun h => h)), True.intro⟩⟩, (fun _ => True.intro)⟩, ⟨True.intro, (by (intro h; rw [h]; rfl))⟩, True.intro⟩ ?_
    refine aops_nil ?_
    refine xt_n ?_
    refine hK _ ?_
    clear hK K
    refine w_cond (t := !decide ((↑(List.length y) : Int) = (↑(List.length x) : Int)) || !decide ((↑(List.length (List.replicate zn (0 : Int) ++ y)) : Int) = (↑(List.length x) : Int) + (↑zn : Int))) (by kernel_rfl) (fun c3 => ?_) (fun c3 => ?_)
    · simp [ly] at c3
      omega
    refine aw_skip ?_
    refine xt_n ?_
    refine hK _ ?_
    clear hK K
    refine aw_seq_k fun K hK => ?_
    refine aw_seq_k fun K hK => ?_
    refine w_region (n' := 11) (by kernel_rfl) (by kernel_rfl) ?_
    refine aops_n hTT (M := []) (n := 1) [pv (16 : Nat) (V.i (0 : Int))] (by kernel_rfl) (by kernel_rfl) True.intro ?_
    refine aops_nil ?_
    refine xt_n ?_
    refine hK _ ?_
    clear hK K
    refine aw_block ?_
    have hyb : y.length ≤ bigL := by rw [ly]; exact hx
    have hyb' : y.length ≤ 4611686018427387904 := hyb
    refine w_loop (ι := Nat) (fun i => [(3, .c (.int .u8 zn)), (9, V.ints y), (11, .i (n.tmod ((x.length : Int) + 1))), (12, V.ints (y.take k)), (14, V.ints (List.replicate zn 0 ++ y)), (16, .i i)]) (fun _ => []) (fun i => i ≤ zn) (fun i => zn - i) 0 (Nat.zero_le _) ?_ ?_
    · refine le_ren [] (.cons (by kernel_rfl) (.cons (by kernel_rfl) (.cons (by kernel_rfl) (.cons (by kernel_rfl) (.cons (by kernel_rfl) (.cons (by kernel_rfl) .nil)))))) .nil (by kernel_rfl) (by kernel_rfl)
    intro i hi
    have hlz : (List.replicate zn (0 : Int) ++ y).length = zn + y.length := by simp
    refine aw_seq_k fun K hK => ?_
    refine aw_seq_k fun K hK => ?_
    refine w_region (n' := 2) (by kernel_rfl) (by kernel_rfl) ?_
    refine aops_n hTT (M := []) (n := 4) [pv (88 : Nat) (V.i (↑i : Int)), pv (89 : Nat) (V.c (Value.int IntKind.u8 (↑zn : Int))), pc (90 : Nat) ((-9223372036854775808 : Int) ≤ (↑zn : Int) ∧ (↑zn : Int) ≤ (9223372036854775807 : Int)) (V.i (↑zn : Int)), pv (91 : Nat) (V.b (decide ((↑i : Int) < (↑zn : Int))))] (by kernel_rfl) (by kernel_rfl) ⟨(by omega), True.intro⟩ ?_
    refine aops_nil ?_
    refine xt_n ?_
    refine hK _ ?_
    clear hK K
    refine w_cond (t := decide ((↑i : Int) < (↑zn : Int))) (by kernel_rfl) (fun c4 => ?_) (fun c4 => ?_)
    · simp at c4
      have h0 : gi (List.replicate zn 0 ++ y) i = 0 := by rw [gi_append, if_pos (by simpa using c4), gi_replicate]
      refine aw_skip ?_
      refine xt_n ?_
      refine hK _ ?_
      clear hK K
      refine aw_seq_k fun K hK => ?_
      refine aw_block ?_
      refine aw_seq_k fun K hK => ?_
      refine w_region (n' := 3) (by kernel_rfl) (by kernel_rfl) ?_
      refine aops_n hTT (M := []) (n := 5) [pv (94 : Nat) (V.sl (1 : Nat) (List.length (List.replicate zn (0 : Int) ++ y)) fun (k : Nat) => [V.i (gi (List.replicate zn (0 : Int) ++ y) k)]), pv (95 : Nat) (V.i (↑i : Int)), pc (96 : Nat) ((0 : Int) ≤ (↑i : Int) ∧ (↑i : Int) < (↑(List.length (List.replicate zn (0 : Int) ++ y)) : Int)) (V.ptr [V.i (gi (List.replicate zn (0 : Int) ++ y) i)]), pv (97 : Nat) (V.i (gi (List.replicate zn (0 : Int) ++ y) i)), pv (98 : Nat) (V.b !decide (gi (List.replicate zn (0 : Int) ++ y) i = (0 : Int)))] (by kernel_rfl) (by kernel_rfl) ⟨(by omega), True.intro⟩ ?_
      refine aops_nil ?_
      refine xt_n ?_
      refine hK _ ?_
      clear hK K
      refine w_cond (t := !decide (gi (List.replicate zn (0 : Int) ++ y) i = (0 : Int))) (by kernel_rfl) (fun c5 => ?_) (fun c5 => ?_)
      · rw [h0] at c5
        simp at c5
      refine aw_skip ?_
      refine xb_n ?_
      refine xt_n ?_
      refine hK _ ?_
      clear hK K
      refine w_region (n' := 4) (by kernel_rfl) (by kernel_rfl) ?_
      refine aops_n hTT (M := []) (n := 3) [pv (92 : Nat) (V.i (↑i : Int)), pc (93 : Nat) ((-9223372036854775808 : Int) ≤ (↑i : Int) + (1 : Int) ∧ (↑i : Int) + (1 : Int) ≤ (9223372036854775807 : Int)) (V.i ((↑i : Int) + (1 : Int))), pv (16 : Nat) (V.i ((↑i : Int) + (1 : Int)))] (by kernel_rfl) (by kernel_rfl) ⟨(by omega), True.intro⟩ ?_
      refine aops_nil ?_
      refine xt_n ?_
      exact ⟨i + 1, by omega, by refine le_ren [] (.cons (by kernel_rfl) (.cons (by kernel_rfl) (.cons (by kernel_rfl) (.cons (by kernel_rfl) (.cons (by kernel_rfl) (.cons (by kernel_rfl) .nil)))))) .nil (by kernel_rfl) (by kernel_rfl), by omega⟩
    · simp at c4
      refine aw_exit ?_
      refine xt_x ?_
      refine xt_x ?_
      refine xb_same ?_
      refine xt_n ?_
      clear hK K
      refine hK _ ?_
      clear hK K
      refine aw_seq_k fun K hK => ?_
      refine w_region (n' := 3) (by kernel_rfl) (by kernel_rfl) ?_
      refine aops_n hTT (M := []) (n := 4) [pv (99 : Nat) (V.sl (1 : Nat) (List.length (List.take k y)) fun (k_1 : Nat) => [V.i (gi (List.take k y) k_1)]), pv (100 : Nat) (V.sl (1 : Nat) (List.length y) fun (k : Nat) => [V.i (gi y k)]), pv (101 : Nat) (V.i (Int.tmod n ((↑(List.length x) : Int) + (1 : Int)))), pc (102 : Nat) ((0 : Int) ≤ (0 : Int) ∧ (0 : Int) ≤ Int.tmod n ((↑(List.length x) : Int) + (1 : Int)) ∧ Int.tmod n ((↑(List.length x) : Int) + (1 : Int)) ≤ (↑(List.length y) : Int)) (V.sl (1 : Nat) (Int.toNat (Int.tmod n ((↑(List.length x) : Int) + (1 : Int))) - (0 : Nat)) fun (i : Nat) => [V.i (gi y (i + (0 : Nat)))])] (by kernel_rfl) (by kernel_rfl) ⟨⟨(by omega), (by omega)⟩, True.intro⟩ ?_
      refine e_call (first := []) (caps := []) (AC.conv (refSame_ac (y.take k) (y.take k) (by rw [List.length_take]; unfold bigL; omega) (by rw [List.length_take]; unfold bigL; omega)) (args' := [V.sl (1 : Nat) (List.length (List.take k y)) fun (k_1 : Nat) => [V.i (gi (List.take k y) k_1)], V.sl (1 : Nat) (Int.toNat (Int.tmod n ((↑(List.length x) : Int) + (1 : Int))) - (0 : Nat)) fun (i : Nat) => [V.i (gi y (i + (0 : Nat)))]]) ⟨RImp.refl _, ?_, trivial⟩) (by kernel_rfl) (by kernel_rfl) (by kernel_rfl) (by kernel_rfl) (by kernel_rfl) ?_
      · refine RImp.rows (by rw [List.length_take]; omega) fun i hi => ?_
        rw [gi_take (by omega)]
        rfl
      refine aops_n hTT (M := []) (n := 5) [pv (104 : Nat) (V.b (decide (List.take k y = List.take k y))), pc (105 : Nat) ((True ∧ True) ∧ ((decide (List.take k y = List.take k y) == true) = true → True)) (V.gd (decide (List.take k y = List.take k y) == true) (V.sl (1 : Nat) (List.length (List.replicate zn (0 : Int) ++ y)) fun (k : Nat) => [V.i (gi (List.replicate zn (0 : Int) ++ y) k)])), pc (106 : Nat) ((True ∧ True) ∧ ((decide (List.take k y = List.take k y) == true) = true → True)) (V.gd (decide (List.take k y = List.take k y) == true) (V.c (Value.int IntKind.u8 (↑zn : Int)))), pc (107 : Nat) ((((decide (List.take k y = List.take k y) == true) = true → (decide (List.take k y = List.take k y) == true) = true) ∧ ((decide (List.take k y = List.take k y) == true) = true → (decide (List.take k y = List.take k y) == true) = true) ∧ True) ∧ ((decide (List.take k y = List.take k y) == true) = true → (0 : Int) ≤ (↑zn : Int) ∧ (↑zn : Int) ≤ (↑(List.length (List.replicate zn (0 : Int) ++ y)) : Int) ∧ (↑(List.length (List.replicate zn (0 : Int) ++ y)) : Int) ≤ (↑(List.length (List.replicate zn (0 : Int) ++ y)) : Int))) (V.gd (decide (List.take k y = List.take k y) == true) (V.sl (1 : Nat) (List.length (List.replicate zn (0 : Int) ++ y) - zn) fun (i : Nat) => [V.i (gi (List.replicate zn (0 : Int) ++ y) (i + zn))])), pc (108 : Nat) ((True ∧ True) ∧ ((decide (List.take k y = List.take k y) == true) = true → True)) (V.gd (decide (List.take k y = List.take k y) == true) (V.sl (1 : Nat) (List.length y) fun (k : Nat) => [V.i (gi y k)]))] (by kernel_rfl) (by kernel_rfl) ⟨⟨⟨True.intro, True.intro⟩, (fun _ => True.intro)⟩, ⟨⟨True.intro, True.intro⟩, (fun _ => True.intro)⟩, ⟨⟨(by (exact fun h => h)), ⟨(by (exact fun h => h)), True.intro⟩⟩, (by (simp only [inR]; omega))⟩, ⟨⟨True.intro, True.intro⟩, (fun _ => True.intro)⟩, True.intro⟩ ?_
      refine e_callG 2 (g := decide (List.take k y = List.take k y) == true) (first := []) (caps := []) (by kernel_rfl) (fun h => AC.conv (refSame_ac y y hyb hyb) (args' := [V.sl (1 : Nat) (List.length (List.replicate zn (0 : Int) ++ y) - zn) fun (i : Nat) => [V.i (gi (List.replicate zn (0 : Int) ++ y) (i + zn))], V.sl (1 : Nat) (List.length y) fun (k : Nat) => [V.i (gi y k)]]) ⟨?_, RImp.refl _, trivial⟩) (by kernel_rfl) (by kernel_rfl) (by kernel_rfl) (by kernel_rfl) (by kernel_rfl) (by kernel_rfl) ?_
      · refine RImp.rows (by rw [hlz]; omega) fun i hi => ?_
        rw [show gi y i = gi (List.replicate zn 0 ++ y) (i + zn) by rw [gi_append, if_neg (by simp), List.length_replicate, Nat.add_sub_cancel]]
      refine aops_n hTT (M := []) (n := 2) [pc (110 : Nat) ((decide (List.take k y = List.take k y) = true → (decide (List.take k y = List.take k y) == true) = true) ∧ True) (V.b (decide (List.take k y = List.take k y) && decide (y = y))), pv (111 : Nat) (V.b (decide (List.take k y = List.take k y) && decide (y = y)))] (by kernel_rfl) (by kernel_rfl) ⟨⟨(by (intro h; rw [h]; rfl)), True.intro⟩, True.intro⟩ ?_
      refine e_callG 0 (g := (decide (List.take k y = List.take k y) && decide (y = y)) == true) (first := []) (caps := []) (by kernel_rfl) (fun h => works_ac) (by kernel_rfl) (by kernel_rfl) (by kernel_rfl) (by kernel_rfl) (by kernel_rfl) (by kernel_rfl) ?_
      refine aops_n hTT (M := []) (n := 2) [pc (113 : Nat) (((decide (List.take k y = List.take k y) && decide (y = y)) = true → ((decide (List.take k y = List.take k y) && decide (y = y)) == true) = true) ∧ True) (V.b (decide (List.take k y = List.take k y) && decide (y = y) && true)), pv (8 : Nat) (V.b (decide (List.take k y = List.take k y) && decide (y = y) && true))] (by kernel_rfl) (by kernel_rfl) ⟨⟨(by (intro h; rw [h]; rfl)), True.intro⟩, True.intro⟩ ?_
      refine aops_nil ?_
      refine xt_n ?_
      refine hK _ ?_
      clear hK K
      refine aw_ret ?_
      refine ret_pure (v' := V.b (decide (List.take k y = List.take k y) && decide (y = y) && true)) (.inr rfl) (by kernel_rfl) ?_ (by kernel_rfl)
      simp
def causalSh : List Sh := [(.fld (.sl (.int .i64)) (.fld (.sl (.int .i64)) (.lst (.int .i64)))), (.sl (.int .i64)), (.int .u16), (.int .u8)]
theorem causal_all (x : TL causalSh) (hx : wfL causalSh x) : AC Try.prog 4 (valL causalSh x) (V.b true) [] := by
  obtain ⟨⟨f, b, s⟩, l, n, z, _⟩ := x
  obtain ⟨⟨⟨h1, _⟩, ⟨h2, _⟩, h3⟩, ⟨h4, _⟩, h5, h6, _⟩ := hx
  exact causal_law ⟨f, b, s⟩ l n z ⟨h1, h2⟩ h4 (wf_u16 h5) (wf_u8 h6)
end Go.Proofs.Ytblipieipldanaa
