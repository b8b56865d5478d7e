/-
  Programmes that are equal; what the laws of gains ask ahead. Condition: as many elements as a slice can have.
-/
import Derived.Test.YtblipieipldanaaFA13
namespace Go.Proofs.Ytblipieipldanaa
open Go.Ab Go.RowKit Go.Dw Go.Shelf

theorem ext_gp {l m : List Pt} (h : l.length = m.length) (hk : ∀ k, k < l.length → gp l k = gp m k) : l = m := by
  refine List.ext_getElem h fun k h1 h2 => ?_
  have := hk k h1
  rwa [gp_eq h1, gp_eq h2] at this
set_option maxRecDepth 100000 in
theorem refSamePrograms_ac (a b : List Pt) (ha : a.length ≤ bigL) (hb : b.length ≤ bigL) : AC Try.prog 41 [V.pts a, V.pts b] (.b (decide (a = b))) [] := by
  unfold bigL at ha hb
  refine ac_intro hTT hMX (fn := Try.f41) (N := _) ⟨Try.func41, rfl, Try.ntmps41, by kernel_rfl⟩ (by simp) fun C hC hF => ?_
  refine aw_seq_k fun K hK => ?_
  refine w_region (n' := 2) (by kernel_rfl) (by kernel_rfl) ?_
  refine aops_n hTT (M := []) (n := 1) [pv (4 : Nat) (V.b false)] (by kernel_rfl) (by kernel_rfl) True.intro ?_
  refine aops_nil ?_
  refine xt_n ?_
  refine hK _ ?_
  clear hK K
  refine aw_seq_k fun K hK => ?_
  refine aw_seq_k fun K hK => ?_
  refine w_region (n' := 3) (by kernel_rfl) (by kernel_rfl) ?_
  refine aops_n hTT (M := []) (n := 5) [pv (6 : Nat) (V.sl (2 : Nat) (List.length a) fun (k : Nat) => [V.i (Prod.fst (gp a k)), V.i (Prod.snd (gp a k))]), pv (7 : Nat) (V.i (↑(List.length a) : Int)), pv (8 : Nat) (V.sl (2 : Nat) (List.length b) fun (k : Nat) => [V.i (Prod.fst (gp b k)), V.i (Prod.snd (gp b k))]), pv (9 : Nat) (V.i (↑(List.length b) : Int)), pv (10 : Nat) (V.b !decide ((↑(List.length a) : Int) = (↑(List.length b) : Int)))] (by kernel_rfl) (by kernel_rfl) True.intro ?_
  refine aops_nil ?_
  refine xt_n ?_
  refine hK _ ?_
  clear hK K
  refine w_cond (t := !decide ((↑(List.length a) : Int) = (↑(List.length b) : Int))) (by kernel_rfl) (fun c1 => ?_) (fun c1 => ?_)
  · simp at c1
    refine aw_seq_k fun K hK => ?_
    refine w_region (n' := 4) (by kernel_rfl) (by kernel_rfl) ?_
    refine aops_n hTT (M := []) (n := 1) [pv (4 : Nat) (V.b false)] (by kernel_rfl) (by kernel_rfl) True.intro ?_
    refine aops_nil ?_
    refine xt_n ?_
    refine hK _ ?_
    clear hK K
    refine aw_ret ?_
    refine xt_r ?_
    rw [show decide (a = b) = false by simp; rintro rfl; omega]
    refine ret_pure (v' := V.b false) (.inr rfl) (by kernel_rfl) (by kernel_rfl) (by kernel_rfl)
  simp at c1
  refine aw_skip ?_
  refine xt_n ?_
  refine hK _ ?_
  clear hK K
  refine aw_seq_k fun K hK => ?_
  refine aw_seq_k fun K hK => ?_
  refine w_region (n' := 4) (by kernel_rfl) (by kernel_rfl) ?_
  refine aops_n hTT (M := []) (n := 1) [pv (5 : Nat) (V.i (0 : Int))] (by kernel_rfl) (by kernel_rfl) True.intro ?_
  refine aops_nil ?_
  refine xt_n ?_
  refine hK _ ?_
  clear hK K
  refine aw_block ?_
  refine w_loop (ι := Nat) (fun k => [(0, V.pts a), (1, V.pts b), (5, .i k)]) (fun _ => []) (fun k => k ≤ a.length ∧ ∀ j, j < k → gp a j = gp b j) (fun k => a.length - k) 0 ⟨Nat.zero_le _, fun j hj => by omega⟩ ?_ ?_
  · refine le_ren [] (.cons (by kernel_rfl) (.cons (by kernel_rfl) (.cons (by kernel_rfl) .nil))) .nil (by kernel_rfl) (by kernel_rfl)
  rintro k ⟨hk, hj⟩
  refine aw_seq_k fun K hK => ?_
  refine aw_seq_k fun K hK => ?_
  refine w_region (n' := 2) (by kernel_rfl) (by kernel_rfl) ?_
  refine aops_n hTT (M := []) (n := 4) [pv (11 : Nat) (V.i (↑k : Int)), pv (12 : Nat) (V.sl (2 : Nat) (List.length a) fun (k : Nat) => [V.i (Prod.fst (gp a k)), V.i (Prod.snd (gp a k))]), pv (13 : Nat) (V.i (↑(List.length a) : Int)), pv (14 : Nat) (V.b (decide ((↑k : Int) < (↑(List.length a) : Int))))] (by kernel_rfl) (by kernel_rfl) True.intro ?_
  refine aops_nil ?_
  refine xt_n ?_
  refine hK _ ?_
  clear hK K
  refine w_cond (t := decide ((↑k : Int) < (↑(List.length a) : Int))) (by kernel_rfl) (fun c2 => ?_) (fun c2 => ?_)
  · simp at c2
    refine aw_skip ?_
    refine xt_n ?_
    refine hK _ ?_
    clear hK K
    refine aw_seq_k fun K hK => ?_
    refine aw_block ?_
    refine aw_seq_k fun K hK => ?_
    refine w_regionD (n' := 3) (by kernel_rfl) (by kernel_rfl) ?_
    refine aops_n hTT (M := []) (n := 9) [pv (17 : Nat) (V.sl (2 : Nat) (List.length a) fun (k : Nat) => [V.i (Prod.fst (gp a k)), V.i (Prod.snd (gp a k))]), pv (18 : Nat) (V.i (↑k : Int)), pc (19 : Nat) ((0 : Int) ≤ (↑k : Int) ∧ (↑k : Int) < (↑(List.length a) : Int)) (V.ptr [V.i (Prod.fst (gp a k)), V.i (Prod.snd (gp a k))]), pv (20 : Nat) (V.agg [V.i (Prod.fst (gp a k)), V.i (Prod.snd (gp a k))]), pv (21 : Nat) (V.sl (2 : Nat) (List.length b) fun (k : Nat) => [V.i (Prod.fst (gp b k)), V.i (Prod.snd (gp b k))]), pv (22 : Nat) (V.i (↑k : Int)), pc (23 : Nat) ((0 : Int) ≤ (↑k : Int) ∧ (↑k : Int) < (↑(List.length b) : Int)) (V.ptr [V.i (Prod.fst (gp b k)), V.i (Prod.snd (gp b k))]), pv (24 : Nat) (V.agg [V.i (Prod.fst (gp b k)), V.i (Prod.snd (gp b k))]), pv (25 : Nat) (V.b !(decide (Prod.fst (gp a k) = Prod.fst (gp b k)) && (decide (Prod.snd (gp a k) = Prod.snd (gp b k)) && true)))] (by kernel_rfl) (by kernel_rfl) ⟨(by omega), (by omega), True.intro⟩ ?_
    refine aops_nil ⟨by kernel_rfl, ?_⟩
    refine xt_n ?_
    refine hK _ ?_
    clear hK K
    refine w_cond (t := !(decide (Prod.fst (gp a k) = Prod.fst (gp b k)) && (decide (Prod.snd (gp a k) = Prod.snd (gp b k)) && true))) (by kernel_rfl) (fun c3 => ?_) (fun c3 => ?_)
    · simp at c3
      refine aw_seq_k fun K hK => ?_
      refine w_region (n' := 4) (by kernel_rfl) (by kernel_rfl) ?_
      refine aops_n hTT (M := []) (n := 1) [pv (4 : Nat) (V.b false)] (by kernel_rfl) (by kernel_rfl) True.intro ?_
      refine aops_nil ?_
      refine xt_n ?_
      refine hK _ ?_
      clear hK K
      refine aw_ret ?_
      refine xb_r ?_
      refine xt_r ?_
      refine xt_r ?_
      refine xb_r ?_
      refine xt_r ?_
      rw [show decide (a = b) = false by simp; rintro rfl; simp at c3]
      refine ret_pure (v' := V.b false) (.inr rfl) (by kernel_rfl) (by kernel_rfl) (by kernel_rfl)
    · simp at c3
      refine aw_skip ?_
      refine xb_n ?_
      refine xt_n ?_
      refine hK _ ?_
      clear hK K
      refine w_region (n' := 4) (by kernel_rfl) (by kernel_rfl) ?_
      refine aops_n hTT (M := []) (n := 3) [pv (15 : Nat) (V.i (↑k : Int)), pc (16 : Nat) ((-9223372036854775808 : Int) ≤ (↑k : Int) + (1 : Int) ∧ (↑k : Int) + (1 : Int) ≤ (9223372036854775807 : Int)) (V.i ((↑k : Int) + (1 : Int))), pv (5 : Nat) (V.i ((↑k : Int) + (1 : Int)))] (by kernel_rfl) (by kernel_rfl) ⟨(by omega), True.intro⟩ ?_
      refine aops_nil ?_
      refine xt_n ?_
      refine ⟨k + 1, ⟨by omega, fun j hjk => ?_⟩, by refine le_ren [] (.cons (by kernel_rfl) (.cons (by kernel_rfl) (.cons (by kernel_rfl) .nil))) .nil (by kernel_rfl) (by kernel_rfl), by omega⟩
      by_cases h : j < k
      · exact hj j h
      · obtain rfl : j = k := by omega
        exact Prod.ext c3.1 c3.2
  · simp at c2
    refine aw_exit ?_
    refine xt_x ?_
    refine xt_x ?_
    refine xb_same ?_
    refine xt_n ?_
    clear hK K
    refine hK _ ?_
    clear hK K
    refine aw_seq_k fun K hK => ?_
    refine w_region (n' := 3) (by kernel_rfl) (by kernel_rfl) ?_
    refine aops_n hTT (M := []) (n := 1) [pv (4 : Nat) (V.b true)] (by kernel_rfl) (by kernel_rfl) True.intro ?_
    refine aops_nil ?_
    refine xt_n ?_
    refine hK _ ?_
    clear hK K
    refine aw_ret ?_
    rw [show decide (a = b) = true by simp; exact ext_gp (by omega) fun k hk => hj k (by omega)]
    refine ret_pure (v' := V.b true) (.inr rfl) (by kernel_rfl) (by kernel_rfl) (by kernel_rfl)
def limitsB (p : List Pt) (c s : Int) : Bool := decide ((p.length : Int) ≤ 100) && decide (progE p = 0) && decide (1 ≤ c) && decide (c ≤ 32767) && decide (0 ≤ s) && decide (s ≤ 256)
set_option maxRecDepth 100000 in
theorem limits_ac (p : List Pt) (c s : Int) (hl : p.length ≤ bigL) : AC Try.prog 37 [V.pts p, .i c, .i s] (.b (limitsB p c s)) [] := by
  refine ac_intro hTT hMX (fn := Try.f37) (N := _) ⟨Try.func37, rfl, Try.ntmps37, by kernel_rfl⟩ (by simp) fun C hC hF => ?_
  refine aw_seq_k fun K hK => ?_
  refine w_region (n' := 2) (by kernel_rfl) (by kernel_rfl) ?_
  refine aops_n hTT (M := []) (n := 1) [pv (6 : Nat) (V.b false)] (by kernel_rfl) (by kernel_rfl) True.intro ?_
  refine aops_nil ?_
  refine xt_n ?_
  refine hK _ ?_
  clear hK K
  refine aw_seq_k fun K hK => ?_
  refine w_region (n' := 3) (by kernel_rfl) (by kernel_rfl) ?_
  refine aops_n hTT (M := []) (n := 5) [pv (7 : Nat) (V.sl (2 : Nat) (List.length p) fun (k : Nat) => [V.i (Prod.fst (gp p k)), V.i (Prod.snd (gp p k))]), pv (8 : Nat) (V.i (↑(List.length p) : Int)), pv (9 : Nat) (V.b (decide ((↑(List.length p) : Int) ≤ (100 : Int)))), pv (10 : Nat) (V.b (decide ((↑(List.length p) : Int) ≤ (100 : Int)))), pc (11 : Nat) ((True ∧ True) ∧ ((decide ((↑(List.length p) : Int) ≤ (100 : Int)) == true) = true → True)) (V.gd (decide ((↑(List.length p) : Int) ≤ (100 : Int)) == true) (V.sl (2 : Nat) (List.length p) fun (k : Nat) => [V.i (Prod.fst (gp p k)), V.i (Prod.snd (gp p k))]))] (by kernel_rfl) (by kernel_rfl) ⟨⟨⟨True.intro, True.intro⟩, (fun _ => True.intro)⟩, True.intro⟩ ?_
  refine e_callG 1 (g := decide ((↑(List.length p) : Int) ≤ (100 : Int)) == true) (first := []) (caps := []) (by kernel_rfl) (fun h => refProgramme_ac p hl) (by kernel_rfl) (by kernel_rfl) (by kernel_rfl) (by kernel_rfl) (by kernel_rfl) (by kernel_rfl) ?_
  refine aops_n hTT (M := []) (n := 19) [pc (13 : Nat) ((((decide ((↑(List.length p) : Int) ≤ (100 : Int)) == true) = true → (decide ((↑(List.length p) : Int) ≤ (100 : Int)) == true) = true) ∧ True ∧ True) ∧ ((decide ((↑(List.length p) : Int) ≤ (100 : Int)) == true) = true → True)) (V.gd (decide ((↑(List.length p) : Int) ≤ (100 : Int)) == true) (V.b (decide (progE p = (0 : Int))))), pc (14 : Nat) ((decide ((↑(List.length p) : Int) ≤ (100 : Int)) = true → (decide ((↑(List.length p) : Int) ≤ (100 : Int)) == true) = true) ∧ True) (V.b (decide ((↑(List.length p) : Int) ≤ (100 : Int)) && decide (progE p = (0 : Int)))), pv (15 : Nat) (V.b (decide ((↑(List.length p) : Int) ≤ (100 : Int)) && decide (progE p = (0 : Int)))), pc (16 : Nat) ((True ∧ True) ∧ (((decide ((↑(List.length p) : Int) ≤ (100 : Int)) && decide (progE p = (0 : Int))) == true) = true → True)) (V.gd ((decide ((↑(List.length p) : Int) ≤ (100 : Int)) && decide (progE p = (0 : Int))) == true) (V.i c)), pc (17 : Nat) (((((decide ((↑(List.length p) : Int) ≤ (100 : Int)) && decide (progE p = (0 : Int))) == true) = true → ((decide ((↑(List.length p) : Int) ≤ (100 : Int)) && decide (progE p = (0 : Int))) == true) = true) ∧ True ∧ True) ∧ (((decide ((↑(List.length p) : Int) ≤ (100 : Int)) && decide (progE p = (0 : Int))) == true) = true → True)) (V.gd ((decide ((↑(List.length p) : Int) ≤ (100 : Int)) && decide (progE p = (0 : Int))) == true) (V.b (decide ((1 : Int) ≤ c)))), pc (18 : Nat) (((decide ((↑(List.length p) : Int) ≤ (100 : Int)) && decide (progE p = (0 : Int))) = true → ((decide ((↑(List.length p) : Int) ≤ (100 : Int)) && decide (progE p = (0 : Int))) == true) = true) ∧ True) (V.b (decide ((↑(List.length p) : Int) ≤ (100 : Int)) && decide (progE p = (0 : Int)) && decide ((1 : Int) ≤ c))), pv (19 : Nat) (V.b (decide ((↑(List.length p) : Int) ≤ (100 : Int)) && decide (progE p = (0 : Int)) && decide ((1 : Int) ≤ c))), pc (20 : Nat) ((True ∧ True) ∧ (((decide ((↑(List.length p) : Int) ≤ (100 : Int)) && decide (progE p = (0 : Int)) && decide ((1 : Int) ≤ c)) == true) = true → True)) (V.gd ((decide ((↑(List.length p) : Int) ≤ (100 : Int)) && decide (progE p = (0 : Int)) && decide ((1 : Int) ≤ c)) == true) (V.i c)), pc (21 : Nat) (((((decide ((↑(List.length p) : Int) ≤ (100 : Int)) && decide (progE p = (0 : Int)) && decide ((1 : Int) ≤ c)) == true) = true → ((decide ((↑(List.length p) : Int) ≤ (100 : Int)) && decide (progE p = (0 : Int)) && decide ((1 : Int) ≤ c)) == true) = true) ∧ True ∧ True) ∧ (((decide ((↑(List.length p) : Int) ≤ (100 : Int)) && decide (progE p = (0 : Int)) && decide ((1 : Int) ≤ c)) == true) = true → True)) (V.gd ((decide ((↑(List.length p) : Int) ≤ (100 : Int)) && decide (progE p = (0 : Int)) && decide ((1 : Int) ≤ c)) == true) (V.b (decide (c ≤ (32767 : Int))))), pc (22 : Nat) (((decide ((↑(List.length p) : Int) ≤ (100 : Int)) && decide (progE p = (0 : Int)) && decide ((1 : Int) ≤ c)) = true → ((decide ((↑(List.length p) : Int) ≤ (100 : Int)) && decide (progE p = (0 : Int)) && decide ((1 : Int) ≤ c)) == true) = true) ∧ True) (V.b (decide ((↑(List.length p) : Int) ≤ (100 : Int)) && decide (progE p = (0 : Int)) && decide ((1 : Int) ≤ c) && decide (c ≤ (32767 : Int)))), pv (23 : Nat) (V.b (decide ((↑(List.length p) : Int) ≤ (100 : Int)) && decide (progE p = (0 : Int)) && decide ((1 : Int) ≤ c) && decide (c ≤ (32767 : Int)))), pc (24 : Nat) ((True ∧ True) ∧ (((decide ((↑(List.length p) : Int) ≤ (100 : Int)) && decide (progE p = (0 : Int)) && decide ((1 : Int) ≤ c) && decide (c ≤ (32767 : Int))) == true) = true → True)) (V.gd ((decide ((↑(List.length p) : Int) ≤ (100 : Int)) && decide (progE p = (0 : Int)) && decide ((1 : Int) ≤ c) && decide (c ≤ (32767 : Int))) == true) (V.i s)), pc (25 : Nat) (((((decide ((↑(List.length p) : Int) ≤ (100 : Int)) && decide (progE p = (0 : Int)) && decide ((1 : Int) ≤ c) && decide (c ≤ (32767 : Int))) == true) = true → ((decide ((↑(List.length p) : Int) ≤ (100 : Int)) && decide (progE p = (0 : Int)) && decide ((1 : Int) ≤ c) && decide (c ≤ (32767 : Int))) == true) = true) ∧ True ∧ True) ∧ (((decide ((↑(List.length p) : Int) ≤ (100 : Int)) && decide (progE p = (0 : Int)) && decide ((1 : Int) ≤ c) && decide (c ≤ (32767 : Int))) == true) = true → True)) (V.gd ((decide ((↑(List.length p) : Int) ≤ (100 : Int)) && decide (progE p = (0 : Int)) && decide ((1 : Int) ≤ c) && decide (c ≤ (32767 : Int))) == true) (V.b (decide ((0 : Int) ≤ s)))), pc (26 : Nat) (((decide ((↑(List.length p) : Int) ≤ (100 : Int)) && decide (progE p = (0 : Int)) && decide ((1 : Int) ≤ c) && decide (c ≤ (32767 : Int))) = true → ((decide ((↑(List.length p) : Int) ≤ (100 : Int)) && decide (progE p = (0 : Int)) && decide ((1 : Int) ≤ c) && decide (c ≤ (32767 : Int))) == true) = true) ∧ True) (V.b (decide ((↑(List.length p) : Int) ≤ (100 : Int)) && decide (progE p = (0 : Int)) && decide ((1 : Int) ≤ c) && decide (c ≤ (32767 : Int)) && decide ((0 : Int) ≤ s))), pv (27 : Nat) (V.b (decide ((↑(List.length p) : Int) ≤ (100 : Int)) && decide (progE p = (0 : Int)) && decide ((1 : Int) ≤ c) && decide (c ≤ (32767 : Int)) && decide ((0 : Int) ≤ s))), pc (28 : Nat) ((True ∧ True) ∧ (((decide ((↑(List.length p) : Int) ≤ (100 : Int)) && decide (progE p = (0 : Int)) && decide ((1 : Int) ≤ c) && decide (c ≤ (32767 : Int)) && decide ((0 : Int) ≤ s)) == true) = true → True)) (V.gd ((decide ((↑(List.length p) : Int) ≤ (100 : Int)) && decide (progE p = (0 : Int)) && decide ((1 : Int) ≤ c) && decide (c ≤ (32767 : Int)) && decide ((0 : Int) ≤ s)) == true) (V.i s)), pc (29 : Nat) (((((decide ((↑(List.length p) : Int) ≤ (100 : Int)) && decide (progE p = (0 : Int)) && decide ((1 : Int) ≤ c) && decide (c ≤ (32767 : Int)) && decide ((0 : Int) ≤ s)) == true) = true → ((decide ((↑(List.length p) : Int) ≤ (100 : Int)) && decide (progE p = (0 : Int)) && decide ((1 : Int) ≤ c) && decide (c ≤ (32767 : Int)) && decide ((0 : Int) ≤ s)) == true) = true) ∧ True ∧ True) ∧ (((decide ((↑(List.length p) : Int) ≤ (100 : Int)) && decide (progE p = (0 : Int)) && decide ((1 : Int) ≤ c) && decide (c ≤ (32767 : Int)) && decide ((0 : Int) ≤ s)) == true) = true → True)) (V.gd ((decide ((↑(List.length p) : Int) ≤ (100 : Int)) && decide (progE p = (0 : Int)) && decide ((1 : Int) ≤ c) && decide (c ≤ (32767 : Int)) && decide ((0 : Int) ≤ s)) == true) (V.b (decide (s ≤ (256 : Int))))), pc (30 : Nat) (((decide ((↑(List.length p) : Int) ≤ (100 : Int)) && decide (progE p = (0 : Int)) && decide ((1 : Int) ≤ c) && decide (c ≤ (32767 : Int)) && decide ((0 : Int) ≤ s)) = true → ((decide ((↑(List.length p) : Int) ≤ (100 : Int)) && decide (progE p = (0 : Int)) && decide ((1 : Int) ≤ c) && decide (c ≤ (32767 : Int)) && decide ((0 : Int) ≤ s)) == true) = true) ∧ True) (V.b (decide ((↑(List.length p) : Int) ≤ (100 : Int)) && decide (progE p = (0 : Int)) && decide ((1 : Int) ≤ c) && decide (c ≤ (32767 : Int)) && decide ((0 : Int) ≤ s) && decide (s ≤ (256 : Int)))), pv (6 : Nat) (V.b (decide ((↑(List.length p) : Int) ≤ (100 : Int)) && decide (progE p = (0 : Int)) && decide ((1 : Int) ≤ c) && decide (c ≤ (32767 : Int)) && decide ((0 : Int) ≤ s) && decide (s ≤ (256 : Int))))] (by kernel_rfl) (by kernel_rfl) ⟨⟨⟨(by (exact fun h => h)), ⟨True.intro, True.intro⟩⟩, (fun _ => True.intro)⟩, ⟨(by (intro h; rw [h]; rfl)), True.intro⟩, ⟨⟨True.intro, True.intro⟩, (fun _ => True.intro)⟩, ⟨⟨(by (exact fun h => h)), ⟨True.intro, True.intro⟩⟩, (fun _ => True.intro)⟩, ⟨(by (intro h; rw [h]; rfl)), True.intro⟩, ⟨⟨True.intro, True.intro⟩, (fun _ => True.intro)⟩, ⟨⟨(by (exact fun h => h)), ⟨True.intro, True.intro⟩⟩, (fun _ => True.intro)⟩, ⟨(by (intro h; rw [h]; rfl)), True.intro⟩, ⟨⟨True.intro, True.intro⟩, (fun _ => True.intro)⟩, ⟨⟨(by (exact fun h => h)), ⟨True.intro, True.intro⟩⟩, (fun _ => True.intro)⟩, ⟨(by (intro h; rw [h]; rfl)), True.intro⟩, ⟨⟨True.intro, True.intro⟩, (fun _ => True.intro)⟩, ⟨⟨(by (exact fun h => h)), ⟨True.intro, True.intro⟩⟩, (fun _ => True.intro)⟩, ⟨(by (intro h; rw [h]; rfl)), True.intro⟩, True.intro⟩ ?_
  refine aops_nil ?_
  refine xt_n ?_
  refine hK _ ?_
  clear hK K
  refine aw_ret ?_
  refine ret_pure (v' := V.b (decide ((↑(List.length p) : Int) ≤ (100 : Int)) && decide (progE p = (0 : Int)) && decide ((1 : Int) ≤ c) && decide (c ≤ (32767 : Int)) && decide ((0 : Int) ≤ s) && decide (s ≤ (256 : Int)))) (.inr rfl) (by kernel_rfl) (by kernel_rfl) (by kernel_rfl)
theorem limitsB_ok {p : List Pt} {c s : Int} (h : limitsB p c s = true) : p.length ≤ 100 ∧ gainE p c s = 0 := by
  simp only [limitsB, Bool.and_eq_true, decide_eq_true_eq] at h
  obtain ⟨⟨⟨⟨⟨h1, h2⟩, h3⟩, h4⟩, h5⟩, h6⟩ := h
  exact ⟨by omega, gainE_ok.2 ⟨needE_ok.2 ⟨h2, h3, h4⟩, h5, h6⟩⟩
theorem needR_len {p : List Pt} {c : Int} : (needL p c).length = p.length := needL_len p c
/-- needs, or nothing -/
def needR (p : List Pt) (c : Int) : List Int := if needE p c = 0 then needL p c else []
theorem needR_big {p : List Pt} {c : Int} (hl : p.length ≤ bigL) : (needR p c).length ≤ bigL := by
  unfold needR
  split
  · rw [needL_len]; exact hl
  · exact Nat.zero_le _
theorem limR_big {p : List Pt} {c s : Int} (hl : p.length ≤ bigL) : (limR p c s).length ≤ bigL := by
  unfold limR
  split
  · rw [limL_len]; exact hl
  · exact Nat.zero_le _
end Go.Proofs.Ytblipieipldanaa
