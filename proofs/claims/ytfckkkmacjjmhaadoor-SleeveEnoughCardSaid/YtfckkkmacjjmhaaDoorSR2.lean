/-
  Folds: the document's check. No condition.
-/
import Derived.Test.YtfckkkmacjjmhaaDoorSN9
namespace Go.Proofs.YtfckkkmacjjmhaaDoor
open Go.Ab Go.RowKit Go.Dw Go.Shelf

/-- both arms of a condition go on in one state -/
theorem join_k {P : Program} {N : Nat} {C : Cx P N} {c rest : Code} {Q : Exit → S → Prop} {s : S} {K : S → Prop} (hK : ∀ s', AW C rest Q s' → K s') (J : S) (hJ : AW C rest Q J)
    (hc : AW C c (XThen (fun s' => ∃ y : Unit, y = () ∧ Le s' J) fun _ _ => False) s) : AW C c (XThen K Q) s :=
  aw_mono hc fun e s' h => by
    cases e <;> first | (obtain ⟨_, _, h⟩ := h; exact hK s' (aw_le h hJ)) | exact h.elim
set_option maxRecDepth 100000 in
theorem rCheckFolds_ac (f : List Int) (hl : f.length ≤ 4611686018427387904) : AC Tryd.prog 20 [V.ints f] (.i (chkF f)) [] := by
  refine ac_intro hTT hMX (fn := Tryd.f20) (N := _) ⟨Tryd.func20, rfl, Tryd.ntmps20, by kernel_rfl⟩ (by simp) fun C hC hF => ?_
  refine aw_seq_k fun K hK => ?_
  refine w_region (n' := 2) (by kernel_rfl) (by kernel_rfl) ?_
  refine aops_n hTT (M := []) (n := 1) [pv (2 : Nat) (V.i (0 : Int))] (by kernel_rfl) (by kernel_rfl) True.intro ?_
  refine aops_nil ?_
  refine xt_n ?_
  refine hK _ ?_
  clear hK K
  refine aw_seq_k fun K hK => ?_
  refine aw_seq_k fun K hK => ?_
  refine w_region (n' := 3) (by kernel_rfl) (by kernel_rfl) ?_
  refine aops_n hTT (M := []) (n := 8) [pv (4 : Nat) (V.sl (1 : Nat) (List.length f) fun (k : Nat) => [V.i (gi f k)]), pv (5 : Nat) (V.i (↑(List.length f) : Int)), pv (6 : Nat) (V.b (decide ((↑(List.length f) : Int) = (0 : Int)))), pv (7 : Nat) (V.b (decide ((↑(List.length f) : Int) = (0 : Int)))), pc (8 : Nat) ((True ∧ True) ∧ ((decide ((↑(List.length f) : Int) = (0 : Int)) == false) = true → True)) (V.gd (decide ((↑(List.length f) : Int) = (0 : Int)) == false) (V.sl (1 : Nat) (List.length f) fun (k : Nat) => [V.i (gi f k)])), pc (9 : Nat) ((((decide ((↑(List.length f) : Int) = (0 : Int)) == false) = true → (decide ((↑(List.length f) : Int) = (0 : Int)) == false) = true) ∧ True) ∧ ((decide ((↑(List.length f) : Int) = (0 : Int)) == false) = true → True)) (V.gd (decide ((↑(List.length f) : Int) = (0 : Int)) == false) (V.i (↑(List.length f) : Int))), pc (10 : Nat) ((((decide ((↑(List.length f) : Int) = (0 : Int)) == false) = true → (decide ((↑(List.length f) : Int) = (0 : Int)) == false) = true) ∧ True ∧ True) ∧ ((decide ((↑(List.length f) : Int) = (0 : Int)) == false) = true → True)) (V.gd (decide ((↑(List.length f) : Int) = (0 : Int)) == false) (V.b (decide ((5 : Int) < (↑(List.length f) : Int))))), pc (11 : Nat) (True ∧ (decide ((↑(List.length f) : Int) = (0 : Int)) = false → (decide ((↑(List.length f) : Int) = (0 : Int)) == false) = true)) (V.b (decide ((↑(List.length f) : Int) = (0 : Int)) || decide ((5 : Int) < (↑(List.length f) : Int))))] (by kernel_rfl) (by kernel_rfl) ⟨⟨⟨True.intro, True.intro⟩, (fun _ => True.intro)⟩, ⟨⟨(by (exact fun h => h)), True.intro⟩, (fun _ => True.intro)⟩, ⟨⟨(by (exact fun h => h)), ⟨True.intro, True.intro⟩⟩, (fun _ => True.intro)⟩, ⟨True.intro, (by (intro h; rw [h]; rfl))⟩, True.intro⟩ ?_
  refine aops_nil ?_
  refine xt_n ?_
  refine hK _ ?_
  clear hK K
  refine w_cond (t := decide ((↑(List.length f) : Int) = (0 : Int)) || decide ((5 : Int) < (↑(List.length f) : Int))) (by kernel_rfl) (fun c1 => ?_) (fun c1 => ?_)
  · refine aw_seq_k fun K hK => ?_
    refine w_region (n' := 4) (by kernel_rfl) (by kernel_rfl) ?_
    refine aops_n hTT (M := []) (n := 1) [pv (2 : Nat) (V.i (6 : Int))] (by kernel_rfl) (by kernel_rfl) True.intro ?_
    refine aops_nil ?_
    refine xt_n ?_
    refine hK _ ?_
    clear hK K
    refine aw_ret ?_
    refine xt_r ?_
    rw [chkF_many (by simp at c1; rcases c1 with c1 | c1; exact .inl (by rw [c1]; rfl); exact .inr (by omega))]
    refine ret_pure (v' := V.i (6 : Int)) (.inr rfl) (by kernel_rfl) (by kernel_rfl) (by kernel_rfl)
  have h1 : ¬ (f.length = 0 ∨ 5 < f.length) := by
    simp at c1
    intro h
    rcases h with h | h
    · exact c1.1 (List.length_eq_zero_iff.1 h)
    · omega
  refine aw_skip ?_
  refine xt_n ?_
  refine hK _ ?_
  clear hK K
  refine aw_seq_k fun K hK => ?_
  refine aw_seq_k fun K hK => ?_
  refine w_region (n' := 4) (by kernel_rfl) (by kernel_rfl) ?_
  refine aops_n hTT (M := []) (n := 1) [pv (3 : Nat) (V.i (0 : Int))] (by kernel_rfl) (by kernel_rfl) True.intro ?_
  refine aops_nil ?_
  refine xt_n ?_
  refine hK _ ?_
  clear hK K
  refine aw_block ?_
  refine w_loop (ι := Nat) (fun k => [(0, V.ints f), (3, .i k)]) (fun _ => []) (fun k => k ≤ f.length ∧ ∀ i, i < k → folB (gi f i) = false) (fun k => f.length - k) 0 ⟨Nat.zero_le _, fun i hi => by omega⟩ ?_ ?_
  · refine le_ren [] (.cons (by kernel_rfl) (.cons (by kernel_rfl) .nil)) .nil (by kernel_rfl) (by kernel_rfl)
  rintro k ⟨hk, hb⟩
  refine aw_seq_k fun K hK => ?_
  refine aw_seq_k fun K hK => ?_
  refine w_region (n' := 2) (by kernel_rfl) (by kernel_rfl) ?_
  refine aops_n hTT (M := []) (n := 4) [pv (12 : Nat) (V.i (↑k : Int)), pv (13 : Nat) (V.sl (1 : Nat) (List.length f) fun (k : Nat) => [V.i (gi f k)]), pv (14 : Nat) (V.i (↑(List.length f) : Int)), pv (15 : Nat) (V.b (decide ((↑k : Int) < (↑(List.length f) : Int))))] (by kernel_rfl) (by kernel_rfl) True.intro ?_
  refine aops_nil ?_
  refine xt_n ?_
  refine hK _ ?_
  clear hK K
  refine w_cond (t := decide ((↑k : Int) < (↑(List.length f) : Int))) (by kernel_rfl) (fun c2 => ?_) (fun c2 => ?_)
  · simp at c2
    refine aw_skip ?_
    refine xt_n ?_
    refine hK _ ?_
    clear hK K
    refine aw_seq_k fun K hK => ?_
    refine aw_block ?_
    refine aw_seq_k fun K hK => ?_
    refine w_region (n' := 3) (by kernel_rfl) (by kernel_rfl) ?_
    refine aops_n hTT (M := []) (n := 12) [pv (18 : Nat) (V.sl (1 : Nat) (List.length f) fun (k : Nat) => [V.i (gi f k)]), pv (19 : Nat) (V.i (↑k : Int)), pc (20 : Nat) ((0 : Int) ≤ (↑k : Int) ∧ (↑k : Int) < (↑(List.length f) : Int)) (V.ptr [V.i (gi f k)]), pv (21 : Nat) (V.i (gi f k)), pv (22 : Nat) (V.b !decide (gi f k = (1 : Int))), pv (23 : Nat) (V.b !decide (gi f k = (1 : Int))), pc (24 : Nat) ((True ∧ True) ∧ (((!decide (gi f k = (1 : Int))) == true) = true → True)) (V.gd ((!decide (gi f k = (1 : Int))) == true) (V.sl (1 : Nat) (List.length f) fun (k : Nat) => [V.i (gi f k)])), pc (25 : Nat) ((True ∧ True) ∧ (((!decide (gi f k = (1 : Int))) == true) = true → True)) (V.gd ((!decide (gi f k = (1 : Int))) == true) (V.i (↑k : Int))), pc (26 : Nat) (((((!decide (gi f k = (1 : Int))) == true) = true → ((!decide (gi f k = (1 : Int))) == true) = true) ∧ (((!decide (gi f k = (1 : Int))) == true) = true → ((!decide (gi f k = (1 : Int))) == true) = true) ∧ True) ∧ (((!decide (gi f k = (1 : Int))) == true) = true → (0 : Int) ≤ (↑k : Int) ∧ (↑k : Int) < (↑(List.length f) : Int))) (V.gd ((!decide (gi f k = (1 : Int))) == true) (V.ptr [V.i (gi f k)])), pc (27 : Nat) (((((!decide (gi f k = (1 : Int))) == true) = true → ((!decide (gi f k = (1 : Int))) == true) = true) ∧ True) ∧ (((!decide (gi f k = (1 : Int))) == true) = true → True)) (V.gd ((!decide (gi f k = (1 : Int))) == true) (V.i (gi f k))), pc (28 : Nat) (((((!decide (gi f k = (1 : Int))) == true) = true → ((!decide (gi f k = (1 : Int))) == true) = true) ∧ True ∧ True) ∧ (((!decide (gi f k = (1 : Int))) == true) = true → True)) (V.gd ((!decide (gi f k = (1 : Int))) == true) (V.b !decide (gi f k = (2 : Int)))), pc (29 : Nat) (((!decide (gi f k = (1 : Int))) = true → ((!decide (gi f k = (1 : Int))) == true) = true) ∧ True) (V.b (!decide (gi f k = (1 : Int)) && !decide (gi f k = (2 : Int))))] (by kernel_rfl) (by kernel_rfl) ⟨(by omega), ⟨⟨True.intro, True.intro⟩, (fun _ => True.intro)⟩, ⟨⟨True.intro, True.intro⟩, (fun _ => True.intro)⟩, ⟨⟨(by (exact fun h => h)), ⟨(by (exact fun h => h)), True.intro⟩⟩, (by (intro hg; simp at hg; omega))⟩, ⟨⟨(by (exact fun h => h)), True.intro⟩, (fun _ => True.intro)⟩, ⟨⟨(by (exact fun h => h)), ⟨True.intro, True.intro⟩⟩, (fun _ => True.intro)⟩, ⟨(by (intro h; rw [h]; rfl)), True.intro⟩, True.intro⟩ ?_
    refine aops_nil ?_
    refine xt_n ?_
    refine hK _ ?_
    clear hK K
    refine w_cond (t := !decide (gi f k = (1 : Int)) && !decide (gi f k = (2 : Int))) (by kernel_rfl) (fun c3 => ?_) (fun c3 => ?_)
    · refine aw_seq_k fun K hK => ?_
      refine w_region (n' := 4) (by kernel_rfl) (by kernel_rfl) ?_
      refine aops_n hTT (M := []) (n := 1) [pv (2 : Nat) (V.i (2 : Int))] (by kernel_rfl) (by kernel_rfl) True.intro ?_
      refine aops_nil ?_
      refine xt_n ?_
      refine hK _ ?_
      clear hK K
      refine aw_ret ?_
      refine xb_r ?_
      refine xt_r ?_
      refine xt_r ?_
      refine xb_r ?_
      refine xt_r ?_
      rw [chkF_bad h1 c2 (by simp [folB]; simp at c3; omega)]
      refine ret_pure (v' := V.i (2 : Int)) (.inr rfl) (by kernel_rfl) (by kernel_rfl) (by kernel_rfl)
    refine aw_skip ?_
    refine xb_n ?_
    refine xt_n ?_
    refine hK _ ?_
    clear hK K
    refine w_region (n' := 4) (by kernel_rfl) (by kernel_rfl) ?_
    refine aops_n hTT (M := []) (n := 3) [pv (16 : Nat) (V.i (↑k : Int)), pc (17 : Nat) ((-9223372036854775808 : Int) ≤ (↑k : Int) + (1 : Int) ∧ (↑k : Int) + (1 : Int) ≤ (9223372036854775807 : Int)) (V.i ((↑k : Int) + (1 : Int))), pv (3 : Nat) (V.i ((↑k : Int) + (1 : Int)))] (by kernel_rfl) (by kernel_rfl) ⟨(by omega), True.intro⟩ ?_
    refine aops_nil ?_
    refine xt_n ?_
    refine ⟨k + 1, ⟨by omega, fun i hi => ?_⟩, by refine le_ren [] (.cons (by kernel_rfl) (.cons (by kernel_rfl) .nil)) .nil (by kernel_rfl) (by kernel_rfl), by omega⟩
    by_cases he : i = k
    · subst he; simp [folB]; simp at c3; omega
    · exact hb i (by omega)
  simp at c2
  obtain rfl : k = f.length := by omega
  refine aw_exit ?_
  refine xt_x ?_
  refine xt_x ?_
  refine xb_same ?_
  refine xt_n ?_
  clear hK K
  refine hK _ ?_
  clear hK K
  refine aw_seq_k fun K hK => ?_
  refine w_region (n' := 3) (by kernel_rfl) (by kernel_rfl) ?_
  refine aops_n hTT (M := []) (n := 1) [pv (2 : Nat) (V.i (0 : Int))] (by kernel_rfl) (by kernel_rfl) True.intro ?_
  refine aops_nil ?_
  refine xt_n ?_
  refine hK _ ?_
  clear hK K
  refine aw_ret ?_
  rw [chkF_ok h1 hb]
  refine ret_pure (v' := V.i (0 : Int)) (.inr rfl) (by kernel_rfl) (by kernel_rfl) (by kernel_rfl)
end Go.Proofs.YtfckkkmacjjmhaaDoor
