/-
  Chains: the reference's copy. Condition: as many elements as a slice can have.
-/
import Derived.Test.YtblipieipldanaaWUndone
namespace Go.Proofs.Ytblipieipldanaa
open Go.Ab Go.RowKit Go.Dw Go.Shelf

theorem sig_run {c : Cv} {u : Bool} {y r : List Int} (h : sigE y = 0) (hr : runI c u 32767 y = some r) : sigE r = 0 :=
  sigE_ok.2 ⟨by rw [runI_len hr]; exact (sigE_ok.1 h).1, (runI_eq.1 hr).1⟩
/-- the chain so far -/
def chOk (l : List Cv) (u : Bool) (x : List Int) (k : Nat) : Option (List Int) → Prop
  | some y => sigE y = 0 ∧ y.length ≤ bigL ∧ foldI u 32767 ((seqC l u).take k) (some x) = some y
  | none => chainI l u 32767 x = none
def eOf (y : Option (List Int)) : Int := match y with | some _ => 0 | none => 4
def lOf (y : Option (List Int)) : List Int := match y with | some y => y | none => []
theorem chR_end {l : List Cv} {u : Bool} {x : List Int} (h : chE l = 0) (h2 : sigE x = 0) {y : Option (List Int)} (hy : chOk l u x l.length y) : chR l u x = (eOf y, lOf y) := by
  cases y with
  | none => exact chR_3 h h2 hy
  | some y =>
    obtain ⟨_, _, h3⟩ := hy
    rw [List.take_of_length_le (by rw [seqC_len]; omega)] at h3
    exact chR_4 h h2 ((chainI_fold l u 32767 x).trans h3)
theorem sig_big {y : List Int} (h : sigE y = 0) : y.length ≤ bigL := by unfold bigL; have := (sigE_ok.1 h).1; omega
theorem chOk_next {l : List Cv} {u : Bool} {x : List Int} {k : Nat} {y : List Int} (hk : k < l.length) (h : chOk l u x k (some y)) : chOk l u x (k + 1) (runI (gc (seqC l u) k) u 32767 y) := by
  obtain ⟨h1, h2, h3⟩ := h
  have hs := foldI_snoc (u := u) (m := 32767) (l := seqC l u) (by rw [seqC_len]; exact hk) h3
  cases hr : runI (gc (seqC l u) k) u 32767 y with
  | none => exact (chainI_fold l u 32767 x).trans (foldI_stop (by rw [hs, hr]))
  | some z => exact ⟨sig_run h1 hr, sig_big (sig_run h1 hr), by rw [hs, hr]⟩
set_option maxRecDepth 100000 in
theorem refApplyAll_ac (l : List Cv) (x : List Int) (hl : cvsL l) (hx : x.length ≤ bigL) : AC Try.prog 32 [V.cvs l, V.ints x] (.tup [V.ints (chR l false x).2, .i (chR l false x).1]) [] := by
  refine ac_intro hTT hMX (fn := Try.f32) (N := _) ⟨Try.func32, rfl, Try.ntmps32, by kernel_rfl⟩ (by simp) fun C hC hF => ?_
  refine aw_seq_k fun K hK => ?_
  refine w_region (n' := 2) (by kernel_rfl) (by kernel_rfl) ?_
  refine aops_n hTT (M := []) (n := 2) [pv (4 : Nat) V.nil, pv (5 : Nat) (V.i (0 : Int))] (by kernel_rfl) (by kernel_rfl) True.intro ?_
  refine aops_nil ?_
  refine xt_n ?_
  refine hK _ ?_
  clear hK K
  refine aw_seq_k fun K hK => ?_
  refine w_region (n' := 3) (by kernel_rfl) (by kernel_rfl) ?_
  refine aops_n hTT (M := []) (n := 1) [pv (8 : Nat) (V.sl (3 : Nat) (List.length l) fun (k : Nat) => [V.ints (Cv.feed (gc l k)), V.ints (Cv.back (gc l k)), V.i (Cv.share (gc l k))])] (by kernel_rfl) (by kernel_rfl) True.intro ?_
  refine e_call (first := []) (caps := []) (refCheckChain_ac l hl) (by kernel_rfl) (by kernel_rfl) (by kernel_rfl) (by kernel_rfl) (by kernel_rfl) ?_
  refine aops_n hTT (M := []) (n := 1) [pv (6 : Nat) (V.i (chE l))] (by kernel_rfl) (by kernel_rfl) True.intro ?_
  refine aops_nil ?_
  refine xt_n ?_
  refine hK _ ?_
  clear hK K
  refine aw_seq_k fun K hK => ?_
  refine aw_seq_k fun K hK => ?_
  refine w_region (n' := 4) (by kernel_rfl) (by kernel_rfl) ?_
  refine aops_n hTT (M := []) (n := 2) [pv (10 : Nat) (V.i (chE l)), pv (11 : Nat) (V.b !decide (chE l = (0 : Int)))] (by kernel_rfl) (by kernel_rfl) True.intro ?_
  refine aops_nil ?_
  refine xt_n ?_
  refine hK _ ?_
  clear hK K
  refine w_cond (t := !decide (chE l = (0 : Int))) (by kernel_rfl) (fun c1 => ?_) (fun c1 => ?_)
  · simp at c1
    refine aw_seq_k fun K hK => ?_
    refine w_region (n' := 5) (by kernel_rfl) (by kernel_rfl) ?_
    refine aops_n hTT (M := []) (n := 3) [pv (12 : Nat) (V.i (chE l)), pv (4 : Nat) V.nil, pv (5 : Nat) (V.i (chE l))] (by kernel_rfl) (by kernel_rfl) True.intro ?_
    refine aops_nil ?_
    refine xt_n ?_
    refine hK _ ?_
    clear hK K
    refine aw_ret ?_
    refine xt_r ?_
    rw [chR_1 c1]
    refine ret_of_le (le_nil 4 (sz := 1) 0 (fun k => [.i (gi [] k)]) (by kernel_rfl) ?_) ?_
    · rfl
    refine ret_pure (v' := V.tup [V.sl (1 : Nat) (0 : Nat) fun (k : Nat) => [V.i (gi [] k)], V.i (chE l)]) (.inr rfl) (by kernel_rfl) (by kernel_rfl) (by kernel_rfl)
  simp at c1
  obtain ⟨g3, g4⟩ := chE_ok.1 c1
  have S := refSignal_ac x hx
  by_cases c2 : sigE x = 0
  · have g1 := (sigE_ok.1 c2).1
    rw [c2] at S
    refine aw_skip ?_
    refine xt_n ?_
    refine hK _ ?_
    clear hK K
    refine aw_seq_k fun K hK => ?_
    refine w_region (n' := 5) (by kernel_rfl) (by kernel_rfl) ?_
    refine aops_n hTT (M := []) (n := 1) [pv (13 : Nat) (V.sl (1 : Nat) (List.length x) fun (k : Nat) => [V.i (gi x k)])] (by kernel_rfl) (by kernel_rfl) True.intro ?_
    refine e_call (first := []) (caps := []) (S) (by kernel_rfl) (by kernel_rfl) (by kernel_rfl) (by kernel_rfl) (by kernel_rfl) ?_
    refine aops_n hTT (M := []) (n := 1) [pv (6 : Nat) (V.i (0 : Int))] (by kernel_rfl) (by kernel_rfl) True.intro ?_
    refine aops_nil ?_
    refine xt_n ?_
    refine hK _ ?_
    clear hK K
    refine aw_seq_k fun K hK => ?_
    refine aw_seq_k fun K hK => ?_
    refine w_region (n' := 6) (by kernel_rfl) (by kernel_rfl) ?_
    refine aops_n hTT (M := []) (n := 1) [pv (7 : Nat) (V.i (0 : Int))] (by kernel_rfl) (by kernel_rfl) True.intro ?_
    refine aops_nil ?_
    refine xt_n ?_
    refine hK _ ?_
    clear hK K
    refine aw_block ?_
    refine w_loop (ι := Nat × Option (List Int)) (fun y => [(0, V.cvs l), (1, V.ints (lOf y.2)), (6, .i (eOf y.2)), (7, .i y.1)]) (fun _ => []) (fun y => y.1 ≤ l.length ∧ chOk l false x y.1 y.2) (fun y => l.length - y.1) (0, some x) ⟨Nat.zero_le _, c2, hx, rfl⟩ ?_ ?_
    · show Le _ ⟨mkT [(0, V.cvs l), (1, V.ints x), (6, .i 0), (7, .i 0)], mkS [], 1⟩
      refine le_ren [] (.cons (by kernel_rfl) (.cons (by kernel_rfl) (.cons (by kernel_rfl) (.cons (by kernel_rfl) .nil)))) .nil (by kernel_rfl) (by kernel_rfl)
    rintro ⟨k, y⟩ ⟨hk, hy⟩
    simp only at hk hy ⊢
    cases y with
    | none =>
      simp only [lOf, eOf]
      refine aw_seq_k fun K hK => ?_
      refine aw_seq_k fun K hK => ?_
      refine w_region (n' := 2) (by kernel_rfl) (by kernel_rfl) ?_
      refine aops_n hTT (M := []) (n := 8) [pv (15 : Nat) (V.i (↑k : Int)), pv (16 : Nat) (V.sl (3 : Nat) (List.length l) fun (k : Nat) => [V.ints (Cv.feed (gc l k)), V.ints (Cv.back (gc l k)), V.i (Cv.share (gc l k))]), pv (17 : Nat) (V.i (↑(List.length l) : Int)), pv (18 : Nat) (V.b (decide ((↑k : Int) < (↑(List.length l) : Int)))), pv (19 : Nat) (V.b (decide ((↑k : Int) < (↑(List.length l) : Int)))), pc (20 : Nat) ((True ∧ True) ∧ ((decide ((↑k : Int) < (↑(List.length l) : Int)) == true) = true → True)) (V.gd (decide ((↑k : Int) < (↑(List.length l) : Int)) == true) (V.i (4 : Int))), pc (21 : Nat) ((((decide ((↑k : Int) < (↑(List.length l) : Int)) == true) = true → (decide ((↑k : Int) < (↑(List.length l) : Int)) == true) = true) ∧ True ∧ True) ∧ ((decide ((↑k : Int) < (↑(List.length l) : Int)) == true) = true → True)) (V.gd (decide ((↑k : Int) < (↑(List.length l) : Int)) == true) (V.b false)), pc (22 : Nat) ((decide ((↑k : Int) < (↑(List.length l) : Int)) = true → (decide ((↑k : Int) < (↑(List.length l) : Int)) == true) = true) ∧ True) (V.b (decide ((↑k : Int) < (↑(List.length l) : Int)) && false))] (by kernel_rfl) (by kernel_rfl) ⟨⟨⟨True.intro, True.intro⟩, (fun _ => True.intro)⟩, ⟨⟨(by (exact fun h => h)), ⟨True.intro, True.intro⟩⟩, (fun _ => True.intro)⟩, ⟨(by (intro h; rw [h]; rfl)), True.intro⟩, True.intro⟩ ?_
      refine aops_nil ?_
      refine xt_n ?_
      refine hK _ ?_
      clear hK K
      refine w_cond (t := decide ((↑k : Int) < (↑(List.length l) : Int)) && false) (by kernel_rfl) (fun c3 => ?_) (fun c3 => ?_)
      · simp at c3
      refine aw_exit ?_
      refine xt_x ?_
      refine xt_x ?_
      refine xb_same ?_
      refine xt_n ?_
      clear hK K
      refine hK _ ?_
      clear hK K
      refine aw_seq_k fun K hK => ?_
      refine aw_seq_k fun K hK => ?_
      refine w_region (n' := 3) (by kernel_rfl) (by kernel_rfl) ?_
      refine aops_n hTT (M := []) (n := 2) [pv (34 : Nat) (V.i (4 : Int)), pv (35 : Nat) (V.b true)] (by kernel_rfl) (by kernel_rfl) True.intro ?_
      refine aops_nil ?_
      refine xt_n ?_
      refine hK _ ?_
      clear hK K
      refine w_true (t := true) (by kernel_rfl) rfl ?_
      refine aw_seq_k fun K hK => ?_
      refine w_region (n' := 4) (by kernel_rfl) (by kernel_rfl) ?_
      refine aops_n hTT (M := []) (n := 3) [pv (36 : Nat) (V.i (4 : Int)), pv (4 : Nat) V.nil, pv (5 : Nat) (V.i (4 : Int))] (by kernel_rfl) (by kernel_rfl) True.intro ?_
      refine aops_nil ?_
      refine xt_n ?_
      refine hK _ ?_
      clear hK K
      refine aw_ret ?_
      refine xt_r ?_
      rw [chR_3 c1 c2 hy]
      refine ret_of_le (le_nil 4 (sz := 1) 0 (fun k => [.i (gi [] k)]) (by kernel_rfl) ?_) ?_
      · rfl
      refine ret_pure (v' := V.tup [V.sl (1 : Nat) (0 : Nat) fun (k : Nat) => [V.i (gi [] k)], V.i (4 : Int)]) (.inr rfl) (by kernel_rfl) (by kernel_rfl) (by kernel_rfl)
    | some y =>
      have hya := hy.2.2
      simp only [lOf, eOf]
      refine aw_seq_k fun K hK => ?_
      refine aw_seq_k fun K hK => ?_
      refine w_region (n' := 2) (by kernel_rfl) (by kernel_rfl) ?_
      refine aops_n hTT (M := []) (n := 8) [pv (15 : Nat) (V.i (↑k : Int)), pv (16 : Nat) (V.sl (3 : Nat) (List.length l) fun (k : Nat) => [V.ints (Cv.feed (gc l k)), V.ints (Cv.back (gc l k)), V.i (Cv.share (gc l k))]), pv (17 : Nat) (V.i (↑(List.length l) : Int)), pv (18 : Nat) (V.b (decide ((↑k : Int) < (↑(List.length l) : Int)))), pv (19 : Nat) (V.b (decide ((↑k : Int) < (↑(List.length l) : Int)))), pc (20 : Nat) ((True ∧ True) ∧ ((decide ((↑k : Int) < (↑(List.length l) : Int)) == true) = true → True)) (V.gd (decide ((↑k : Int) < (↑(List.length l) : Int)) == true) (V.i (0 : Int))), pc (21 : Nat) ((((decide ((↑k : Int) < (↑(List.length l) : Int)) == true) = true → (decide ((↑k : Int) < (↑(List.length l) : Int)) == true) = true) ∧ True ∧ True) ∧ ((decide ((↑k : Int) < (↑(List.length l) : Int)) == true) = true → True)) (V.gd (decide ((↑k : Int) < (↑(List.length l) : Int)) == true) (V.b true)), pc (22 : Nat) ((decide ((↑k : Int) < (↑(List.length l) : Int)) = true → (decide ((↑k : Int) < (↑(List.length l) : Int)) == true) = true) ∧ True) (V.b (decide ((↑k : Int) < (↑(List.length l) : Int)) && true))] (by kernel_rfl) (by kernel_rfl) ⟨⟨⟨True.intro, True.intro⟩, (fun _ => True.intro)⟩, ⟨⟨(by (exact fun h => h)), ⟨True.intro, True.intro⟩⟩, (fun _ => True.intro)⟩, ⟨(by (intro h; rw [h]; rfl)), True.intro⟩, True.intro⟩ ?_
      refine aops_nil ?_
      refine xt_n ?_
      refine hK _ ?_
      clear hK K
      refine w_cond (t := decide ((↑k : Int) < (↑(List.length l) : Int)) && true) (by kernel_rfl) (fun c3 => ?_) (fun c3 => ?_)
      · simp at c3
        have hkl : k < l.length := by omega
        have hki : k < l.length := hkl
        have hq : gc (seqC l false) k = gc l k := rfl
        have A := refApply_ac (gc l k) y (hl.2 _ hki) hy.2.1
        have hn := chOk_next hkl hy
        rw [hq] at hn
        rcases apR_or (u := false) (g4 _ hki) hy.1 with ⟨e1, r1⟩ | ⟨z, e1, r1, hz, _⟩
        · rw [e1] at A
          rw [r1] at hn
          refine aw_skip ?_
          refine xt_n ?_
          refine hK _ ?_
          clear hK K
          refine aw_seq_k fun K hK => ?_
          refine aw_block ?_
          refine w_region (n' := 3) (by kernel_rfl) (by kernel_rfl) ?_
          refine aops_n hTT (M := []) (n := 5) [pv (26 : Nat) (V.sl (3 : Nat) (List.length l) fun (k : Nat) => [V.ints (Cv.feed (gc l k)), V.ints (Cv.back (gc l k)), V.i (Cv.share (gc l k))]), pv (27 : Nat) (V.i (↑k : Int)), pc (28 : Nat) ((0 : Int) ≤ (↑k : Int) ∧ (↑k : Int) < (↑(List.length l) : Int)) (V.ptr [V.sl (1 : Nat) (List.length (Cv.feed (gc l k))) fun (k_1 : Nat) => [V.i (gi (Cv.feed (gc l k)) k_1)], V.sl (1 : Nat) (List.length (Cv.back (gc l k))) fun (k_1 : Nat) => [V.i (gi (Cv.back (gc l k)) k_1)], V.i (Cv.share (gc l k))]), pv (29 : Nat) (V.agg [V.sl (1 : Nat) (List.length (Cv.feed (gc l k))) fun (k_1 : Nat) => [V.i (gi (Cv.feed (gc l k)) k_1)], V.sl (1 : Nat) (List.length (Cv.back (gc l k))) fun (k_1 : Nat) => [V.i (gi (Cv.back (gc l k)) k_1)], V.i (Cv.share (gc l k))]), pv (30 : Nat) (V.sl (1 : Nat) (List.length y) fun (k : Nat) => [V.i (gi y k)])] (by kernel_rfl) (by kernel_rfl) ⟨(by omega), True.intro⟩ ?_
          refine e_call (first := []) (caps := []) (A) (by kernel_rfl) (by kernel_rfl) (by kernel_rfl) (by kernel_rfl) (by kernel_rfl) ?_
          refine aops_n hTT (M := []) (n := 5) [pv (25 : Nat) (V.tup [V.sl (1 : Nat) (0 : Nat) fun (k : Nat) => [V.i (gi [] k)], V.i (4 : Int)]), pv (32 : Nat) (V.sl (1 : Nat) (0 : Nat) fun (k : Nat) => [V.i (gi [] k)]), pv (33 : Nat) (V.i (4 : Int)), pv (1 : Nat) (V.sl (1 : Nat) (0 : Nat) fun (k : Nat) => [V.i (gi [] k)]), pv (6 : Nat) (V.i (4 : Int))] (by kernel_rfl) (by kernel_rfl) True.intro ?_
          refine aops_nil ?_
          refine xb_n ?_
          refine xt_n ?_
          refine hK _ ?_
          clear hK K
          refine w_region (n' := 4) (by kernel_rfl) (by kernel_rfl) ?_
          refine aops_n hTT (M := []) (n := 3) [pv (23 : Nat) (V.i (↑k : Int)), pc (24 : Nat) ((-9223372036854775808 : Int) ≤ (↑k : Int) + (1 : Int) ∧ (↑k : Int) + (1 : Int) ≤ (9223372036854775807 : Int)) (V.i ((↑k : Int) + (1 : Int))), pv (7 : Nat) (V.i ((↑k : Int) + (1 : Int)))] (by kernel_rfl) (by kernel_rfl) ⟨(by omega), True.intro⟩ ?_
          refine aops_nil ?_
          refine xt_n ?_
          refine ⟨(k + 1, none), ⟨hkl, hn⟩, ?_, by simp only; omega⟩
          show Le _ ⟨mkT [(0, V.cvs l), (1, V.ints []), (6, .i 4), (7, .i (k + 1 : Nat))], mkS [], 1⟩
          skip
          refine le_ren [] (.cons (by kernel_rfl) (.cons (by kernel_rfl) (.cons (by kernel_rfl) (.cons (by kernel_rfl) .nil)))) .nil (by kernel_rfl) (by kernel_rfl)
        · rw [e1] at A
          rw [r1] at hn
          refine aw_skip ?_
          refine xt_n ?_
          refine hK _ ?_
          clear hK K
          refine aw_seq_k fun K hK => ?_
          refine aw_block ?_
          refine w_region (n' := 3) (by kernel_rfl) (by kernel_rfl) ?_
          refine aops_n hTT (M := []) (n := 5) [pv (26 : Nat) (V.sl (3 : Nat) (List.length l) fun (k : Nat) => [V.ints (Cv.feed (gc l k)), V.ints (Cv.back (gc l k)), V.i (Cv.share (gc l k))]), pv (27 : Nat) (V.i (↑k : Int)), pc (28 : Nat) ((0 : Int) ≤ (↑k : Int) ∧ (↑k : Int) < (↑(List.length l) : Int)) (V.ptr [V.sl (1 : Nat) (List.length (Cv.feed (gc l k))) fun (k_1 : Nat) => [V.i (gi (Cv.feed (gc l k)) k_1)], V.sl (1 : Nat) (List.length (Cv.back (gc l k))) fun (k_1 : Nat) => [V.i (gi (Cv.back (gc l k)) k_1)], V.i (Cv.share (gc l k))]), pv (29 : Nat) (V.agg [V.sl (1 : Nat) (List.length (Cv.feed (gc l k))) fun (k_1 : Nat) => [V.i (gi (Cv.feed (gc l k)) k_1)], V.sl (1 : Nat) (List.length (Cv.back (gc l k))) fun (k_1 : Nat) => [V.i (gi (Cv.back (gc l k)) k_1)], V.i (Cv.share (gc l k))]), pv (30 : Nat) (V.sl (1 : Nat) (List.length y) fun (k : Nat) => [V.i (gi y k)])] (by kernel_rfl) (by kernel_rfl) ⟨(by omega), True.intro⟩ ?_
          refine e_call (first := []) (caps := []) (A) (by kernel_rfl) (by kernel_rfl) (by kernel_rfl) (by kernel_rfl) (by kernel_rfl) ?_
          refine aops_n hTT (M := []) (n := 5) [pv (25 : Nat) (V.tup [V.sl (1 : Nat) (List.length z) fun (k : Nat) => [V.i (gi z k)], V.i (0 : Int)]), pv (32 : Nat) (V.sl (1 : Nat) (List.length z) fun (k : Nat) => [V.i (gi z k)]), pv (33 : Nat) (V.i (0 : Int)), pv (1 : Nat) (V.sl (1 : Nat) (List.length z) fun (k : Nat) => [V.i (gi z k)]), pv (6 : Nat) (V.i (0 : Int))] (by kernel_rfl) (by kernel_rfl) True.intro ?_
          refine aops_nil ?_
          refine xb_n ?_
          refine xt_n ?_
          refine hK _ ?_
          clear hK K
          refine w_region (n' := 4) (by kernel_rfl) (by kernel_rfl) ?_
          refine aops_n hTT (M := []) (n := 3) [pv (23 : Nat) (V.i (↑k : Int)), pc (24 : Nat) ((-9223372036854775808 : Int) ≤ (↑k : Int) + (1 : Int) ∧ (↑k : Int) + (1 : Int) ≤ (9223372036854775807 : Int)) (V.i ((↑k : Int) + (1 : Int))), pv (7 : Nat) (V.i ((↑k : Int) + (1 : Int)))] (by kernel_rfl) (by kernel_rfl) ⟨(by omega), True.intro⟩ ?_
          refine aops_nil ?_
          refine xt_n ?_
          refine ⟨(k + 1, some z), ⟨hkl, hn⟩, ?_, by simp only; omega⟩
          show Le _ ⟨mkT [(0, V.cvs l), (1, V.ints z), (6, .i 0), (7, .i (k + 1 : Nat))], mkS [], 1⟩
          skip
          refine le_ren [] (.cons (by kernel_rfl) (.cons (by kernel_rfl) (.cons (by kernel_rfl) (.cons (by kernel_rfl) .nil)))) .nil (by kernel_rfl) (by kernel_rfl)
      · simp at c3
        obtain rfl : k = l.length := by omega
        have hyl := (sigE_ok.1 hy.1).1
        have hend : chR l false x = (0, y) := chR_end c1 c2 hy
        refine aw_exit ?_
        refine xt_x ?_
        refine xt_x ?_
        refine xb_same ?_
        refine xt_n ?_
        clear hK K
        refine hK _ ?_
        clear hK K
        refine aw_seq_k fun K hK => ?_
        refine aw_seq_k fun K hK => ?_
        refine w_region (n' := 3) (by kernel_rfl) (by kernel_rfl) ?_
        refine aops_n hTT (M := [37]) (n := 2) [pv (34 : Nat) (V.i (0 : Int)), pv (35 : Nat) (V.b false)] (by kernel_rfl) (by kernel_rfl) True.intro ?_
        refine aops_nil ?_
        refine xt_n ?_
        refine hK _ ?_
        clear hK K
        refine w_false (t := false) (by kernel_rfl) rfl ?_
        refine aw_skip ?_
        refine xt_n ?_
        refine hK _ ?_
        clear hK K
        refine aw_seq_k fun K hK => ?_
        refine w_region (n' := 4) (by kernel_rfl) (by kernel_rfl) ?_
        refine aops_n hTT (M := [37]) (n := 5) [pn (37 : Nat) (V.own (300037 : Nat)) (300037 : Nat) (Ob.row (2 : Nat) (1 : Nat) (0 : Nat) fun (i : Nat) => List.take (1 : Nat) (List.drop (i * (1 : Nat)) (repV (0 : Nat) [V.c (Value.int IntKind.i64 (0 : Int))]))), pv (38 : Nat) (V.sl (1 : Nat) (List.length y) fun (k : Nat) => [V.i (gi y k)]), PR.mk (some (39 : Nat)) (some ((0 : Nat) + List.length y ≤ (1099511627776 : Nat))) (V.own (300039 : Nat)) [((300037 : Nat), none), ((300039 : Nat), some (Ob.row (2 : Nat) (1 : Nat) ((0 : Nat) + List.length y) (appRow (0 : Nat) (fun (i : Nat) => List.take (1 : Nat) (List.drop (i * (1 : Nat)) (repV (0 : Nat) [V.c (Value.int IntKind.i64 (0 : Int))]))) fun (k : Nat) => [V.i (gi y k)])))] false, pv (4 : Nat) (V.own (300039 : Nat)), pv (5 : Nat) (V.i (0 : Int))] (by kernel_rfl) (by kernel_rfl) ⟨(by omega), True.intro⟩ ?_
        refine aops_nil ?_
        refine xt_n ?_
        refine hK _ ?_
        clear hK K
        refine aw_ret ?_
        rw [hend]
        refine ret_of_le (le_shut 4 300039 (e := (2 : Nat)) (sz := (1 : Nat)) (n := (0 : Nat) + List.length y) (n' := y.length) (row := appRow (0 : Nat) (fun (i : Nat) => List.take (1 : Nat) (List.drop (i * (1 : Nat)) (repV (0 : Nat) [V.c (Value.int IntKind.i64 (0 : Int))]))) fun (k : Nat) => [V.i (gi y k)]) (row' := (fun k => [.i (gi y k)])) (by kernel_rfl) (by kernel_rfl) (fun _ _ => rfl) ?_ ?_) ?_
        · omega
        · intro i hi
          rw [appRow, if_neg (by omega), Nat.sub_zero]
        refine ret_pure (v' := V.tup [V.sl (1 : Nat) (List.length y) fun (k : Nat) => [V.i (gi y k)], V.i (0 : Int)]) (.inr rfl) (by kernel_rfl) ?_ (by kernel_rfl)
        rfl
  · refine aw_skip ?_
    refine xt_n ?_
    refine hK _ ?_
    clear hK K
    refine aw_seq_k fun K hK => ?_
    refine w_region (n' := 5) (by kernel_rfl) (by kernel_rfl) ?_
    refine aops_n hTT (M := []) (n := 1) [pv (13 : Nat) (V.sl (1 : Nat) (List.length x) fun (k : Nat) => [V.i (gi x k)])] (by kernel_rfl) (by kernel_rfl) True.intro ?_
    refine e_call (first := []) (caps := []) (S) (by kernel_rfl) (by kernel_rfl) (by kernel_rfl) (by kernel_rfl) (by kernel_rfl) ?_
    refine aops_n hTT (M := []) (n := 1) [pv (6 : Nat) (V.i (sigE x))] (by kernel_rfl) (by kernel_rfl) True.intro ?_
    refine aops_nil ?_
    refine xt_n ?_
    refine hK _ ?_
    clear hK K
    refine aw_seq_k fun K hK => ?_
    refine aw_seq_k fun K hK => ?_
    refine w_region (n' := 6) (by kernel_rfl) (by kernel_rfl) ?_
    refine aops_n hTT (M := []) (n := 1) [pv (7 : Nat) (V.i (0 : Int))] (by kernel_rfl) (by kernel_rfl) True.intro ?_
    refine aops_nil ?_
    refine xt_n ?_
    refine hK _ ?_
    clear hK K
    refine aw_block ?_
    refine w_loop (ι := Unit) (fun _ => [(0, V.cvs l), (1, V.ints x), (6, .i (sigE x)), (7, .i 0)]) (fun _ => []) (fun _ => True) (fun _ => 0) () trivial ?_ ?_
    · refine le_ren [] (.cons (by kernel_rfl) (.cons (by kernel_rfl) (.cons (by kernel_rfl) (.cons (by kernel_rfl) .nil)))) .nil (by kernel_rfl) (by kernel_rfl)
    intro _ _
    refine aw_seq_k fun K hK => ?_
    refine aw_seq_k fun K hK => ?_
    refine w_region (n' := 2) (by kernel_rfl) (by kernel_rfl) ?_
    refine aops_n hTT (M := []) (n := 8) [pv (15 : Nat) (V.i (0 : Int)), pv (16 : Nat) (V.sl (3 : Nat) (List.length l) fun (k : Nat) => [V.ints (Cv.feed (gc l k)), V.ints (Cv.back (gc l k)), V.i (Cv.share (gc l k))]), pv (17 : Nat) (V.i (↑(List.length l) : Int)), pv (18 : Nat) (V.b (decide ((0 : Int) < (↑(List.length l) : Int)))), pv (19 : Nat) (V.b (decide ((0 : Int) < (↑(List.length l) : Int)))), pc (20 : Nat) ((True ∧ True) ∧ ((decide ((0 : Int) < (↑(List.length l) : Int)) == true) = true → True)) (V.gd (decide ((0 : Int) < (↑(List.length l) : Int)) == true) (V.i (sigE x))), pc (21 : Nat) ((((decide ((0 : Int) < (↑(List.length l) : Int)) == true) = true → (decide ((0 : Int) < (↑(List.length l) : Int)) == true) = true) ∧ True ∧ True) ∧ ((decide ((0 : Int) < (↑(List.length l) : Int)) == true) = true → True)) (V.gd (decide ((0 : Int) < (↑(List.length l) : Int)) == true) (V.b (decide (sigE x = (0 : Int))))), pc (22 : Nat) ((decide ((0 : Int) < (↑(List.length l) : Int)) = true → (decide ((0 : Int) < (↑(List.length l) : Int)) == true) = true) ∧ True) (V.b (decide ((0 : Int) < (↑(List.length l) : Int)) && decide (sigE x = (0 : Int))))] (by kernel_rfl) (by kernel_rfl) ⟨⟨⟨True.intro, True.intro⟩, (fun _ => True.intro)⟩, ⟨⟨(by (exact fun h => h)), ⟨True.intro, True.intro⟩⟩, (fun _ => True.intro)⟩, ⟨(by (intro h; rw [h]; rfl)), True.intro⟩, True.intro⟩ ?_
    refine aops_nil ?_
    refine xt_n ?_
    refine hK _ ?_
    clear hK K
    refine w_cond (t := decide ((0 : Int) < (↑(List.length l) : Int)) && decide (sigE x = (0 : Int))) (by kernel_rfl) (fun c3 => ?_) (fun c3 => ?_)
    · simp [c2] at c3
    refine aw_exit ?_
    refine xt_x ?_
    refine xt_x ?_
    refine xb_same ?_
    refine xt_n ?_
    clear hK K
    refine hK _ ?_
    clear hK K
    refine aw_seq_k fun K hK => ?_
    refine aw_seq_k fun K hK => ?_
    refine w_region (n' := 3) (by kernel_rfl) (by kernel_rfl) ?_
    refine aops_n hTT (M := []) (n := 2) [pv (34 : Nat) (V.i (sigE x)), pv (35 : Nat) (V.b !decide (sigE x = (0 : Int)))] (by kernel_rfl) (by kernel_rfl) True.intro ?_
    refine aops_nil ?_
    refine xt_n ?_
    refine hK _ ?_
    clear hK K
    refine w_cond (t := !decide (sigE x = (0 : Int))) (by kernel_rfl) (fun c4 => ?_) (fun c4 => ?_)
    · refine aw_seq_k fun K hK => ?_
      refine w_region (n' := 4) (by kernel_rfl) (by kernel_rfl) ?_
      refine aops_n hTT (M := []) (n := 3) [pv (36 : Nat) (V.i (sigE x)), pv (4 : Nat) V.nil, pv (5 : Nat) (V.i (sigE x))] (by kernel_rfl) (by kernel_rfl) True.intro ?_
      refine aops_nil ?_
      refine xt_n ?_
      refine hK _ ?_
      clear hK K
      refine aw_ret ?_
      refine xt_r ?_
      rw [chR_2 c1 c2]
      refine ret_of_le (le_nil 4 (sz := 1) 0 (fun k => [.i (gi [] k)]) (by kernel_rfl) ?_) ?_
      · rfl
      refine ret_pure (v' := V.tup [V.sl (1 : Nat) (0 : Nat) fun (k : Nat) => [V.i (gi [] k)], V.i (sigE x)]) (.inr rfl) (by kernel_rfl) (by kernel_rfl) (by kernel_rfl)
    · simp at c4
      exact absurd c4 c2
set_option maxRecDepth 100000 in
theorem refUndoAll_ac (l : List Cv) (x : List Int) (hl : cvsL l) (hx : x.length ≤ bigL) : AC Try.prog 34 [V.cvs l, V.ints x] (.tup [V.ints (chR l true x).2, .i (chR l true x).1]) [] := by
  refine ac_intro hTT hMX (fn := Try.f34) (N := _) ⟨Try.func34, rfl, Try.ntmps34, by kernel_rfl⟩ (by simp) fun C hC hF => ?_
  refine aw_seq_k fun K hK => ?_
  refine w_region (n' := 2) (by kernel_rfl) (by kernel_rfl) ?_
  refine aops_n hTT (M := []) (n := 2) [pv (4 : Nat) V.nil, pv (5 : Nat) (V.i (0 : Int))] (by kernel_rfl) (by kernel_rfl) True.intro ?_
  refine aops_nil ?_
  refine xt_n ?_
  refine hK _ ?_
  clear hK K
  refine aw_seq_k fun K hK => ?_
  refine w_region (n' := 3) (by kernel_rfl) (by kernel_rfl) ?_
  refine aops_n hTT (M := []) (n := 1) [pv (8 : Nat) (V.sl (3 : Nat) (List.length l) fun (k : Nat) => [V.ints (Cv.feed (gc l k)), V.ints (Cv.back (gc l k)), V.i (Cv.share (gc l k))])] (by kernel_rfl) (by kernel_rfl) True.intro ?_
  refine e_call (first := []) (caps := []) (refCheckChain_ac l hl) (by kernel_rfl) (by kernel_rfl) (by kernel_rfl) (by kernel_rfl) (by kernel_rfl) ?_
  refine aops_n hTT (M := []) (n := 1) [pv (6 : Nat) (V.i (chE l))] (by kernel_rfl) (by kernel_rfl) True.intro ?_
  refine aops_nil ?_
  refine xt_n ?_
  refine hK _ ?_
  clear hK K
  refine aw_seq_k fun K hK => ?_
  refine aw_seq_k fun K hK => ?_
  refine w_region (n' := 4) (by kernel_rfl) (by kernel_rfl) ?_
  refine aops_n hTT (M := []) (n := 2) [pv (10 : Nat) (V.i (chE l)), pv (11 : Nat) (V.b !decide (chE l = (0 : Int)))] (by kernel_rfl) (by kernel_rfl) True.intro ?_
  refine aops_nil ?_
  refine xt_n ?_
  refine hK _ ?_
  clear hK K
  refine w_cond (t := !decide (chE l = (0 : Int))) (by kernel_rfl) (fun c1 => ?_) (fun c1 => ?_)
  · simp at c1
    refine aw_seq_k fun K hK => ?_
    refine w_region (n' := 5) (by kernel_rfl) (by kernel_rfl) ?_
    refine aops_n hTT (M := []) (n := 3) [pv (12 : Nat) (V.i (chE l)), pv (4 : Nat) V.nil, pv (5 : Nat) (V.i (chE l))] (by kernel_rfl) (by kernel_rfl) True.intro ?_
    refine aops_nil ?_
    refine xt_n ?_
    refine hK _ ?_
    clear hK K
    refine aw_ret ?_
    refine xt_r ?_
    rw [chR_1 c1]
    refine ret_of_le (le_nil 4 (sz := 1) 0 (fun k => [.i (gi [] k)]) (by kernel_rfl) ?_) ?_
    · rfl
    refine ret_pure (v' := V.tup [V.sl (1 : Nat) (0 : Nat) fun (k : Nat) => [V.i (gi [] k)], V.i (chE l)]) (.inr rfl) (by kernel_rfl) (by kernel_rfl) (by kernel_rfl)
  simp at c1
  obtain ⟨g3, g4⟩ := chE_ok.1 c1
  have S := refSignal_ac x hx
  by_cases c2 : sigE x = 0
  · have g1 := (sigE_ok.1 c2).1
    rw [c2] at S
    refine aw_skip ?_
    refine xt_n ?_
    refine hK _ ?_
    clear hK K
    refine aw_seq_k fun K hK => ?_
    refine w_region (n' := 5) (by kernel_rfl) (by kernel_rfl) ?_
    refine aops_n hTT (M := []) (n := 1) [pv (13 : Nat) (V.sl (1 : Nat) (List.length x) fun (k : Nat) => [V.i (gi x k)])] (by kernel_rfl) (by kernel_rfl) True.intro ?_
    refine e_call (first := []) (caps := []) (S) (by kernel_rfl) (by kernel_rfl) (by kernel_rfl) (by kernel_rfl) (by kernel_rfl) ?_
    refine aops_n hTT (M := []) (n := 1) [pv (6 : Nat) (V.i (0 : Int))] (by kernel_rfl) (by kernel_rfl) True.intro ?_
    refine aops_nil ?_
    refine xt_n ?_
    refine hK _ ?_
    clear hK K
    refine aw_seq_k fun K hK => ?_
    refine aw_seq_k fun K hK => ?_
    refine w_region (n' := 6) (by kernel_rfl) (by kernel_rfl) ?_
    refine aops_n hTT (M := []) (n := 4) [pv (15 : Nat) (V.sl (3 : Nat) (List.length l) fun (k : Nat) => [V.ints (Cv.feed (gc l k)), V.ints (Cv.back (gc l k)), V.i (Cv.share (gc l k))]), pv (16 : Nat) (V.i (↑(List.length l) : Int)), pc (17 : Nat) ((-9223372036854775808 : Int) ≤ (↑(List.length l) : Int) - (1 : Int) ∧ (↑(List.length l) : Int) - (1 : Int) ≤ (9223372036854775807 : Int)) (V.i ((↑(List.length l) : Int) - (1 : Int))), pv (7 : Nat) (V.i ((↑(List.length l) : Int) - (1 : Int)))] (by kernel_rfl) (by kernel_rfl) ⟨(by omega), True.intro⟩ ?_
    refine aops_nil ?_
    refine xt_n ?_
    refine hK _ ?_
    clear hK K
    refine aw_block ?_
    refine w_loop (ι := Nat × Option (List Int)) (fun y => [(0, V.cvs l), (1, V.ints (lOf y.2)), (6, .i (eOf y.2)), (7, .i ((l.length : Int) - 1 - (y.1 : Int)))]) (fun _ => []) (fun y => y.1 ≤ l.length ∧ chOk l true x y.1 y.2) (fun y => l.length - y.1) (0, some x) ⟨Nat.zero_le _, c2, hx, rfl⟩ ?_ ?_
    · show Le _ ⟨mkT [(0, V.cvs l), (1, V.ints x), (6, .i 0), (7, .i ((l.length : Int) - 1 - ((0 : Nat) : Int)))], mkS [], 1⟩
      rw [show ((l.length : Int) - 1 - ((0 : Nat) : Int)) = (l.length : Int) - 1 by omega]
      show Le _ ⟨mkT [(0, V.cvs l), (1, V.ints x), (6, .i 0), (7, .i ((l.length : Int) - 1))], mkS [], 1⟩
      refine le_ren [] (.cons (by kernel_rfl) (.cons (by kernel_rfl) (.cons (by kernel_rfl) (.cons (by kernel_rfl) .nil)))) .nil (by kernel_rfl) (by kernel_rfl)
    rintro ⟨k, y⟩ ⟨hk, hy⟩
    simp only at hk hy ⊢
    cases y with
    | none =>
      simp only [lOf, eOf]
      refine aw_seq_k fun K hK => ?_
      refine aw_seq_k fun K hK => ?_
      refine w_region (n' := 2) (by kernel_rfl) (by kernel_rfl) ?_
      refine aops_n hTT (M := []) (n := 6) [pv (18 : Nat) (V.i ((↑(List.length l) : Int) - (1 : Int) - (↑k : Int))), pv (19 : Nat) (V.b (decide ((0 : Int) ≤ (↑(List.length l) : Int) - (1 : Int) - (↑k : Int)))), pv (20 : Nat) (V.b (decide ((0 : Int) ≤ (↑(List.length l) : Int) - (1 : Int) - (↑k : Int)))), pc (21 : Nat) ((True ∧ True) ∧ ((decide ((0 : Int) ≤ (↑(List.length l) : Int) - (1 : Int) - (↑k : Int)) == true) = true → True)) (V.gd (decide ((0 : Int) ≤ (↑(List.length l) : Int) - (1 : Int) - (↑k : Int)) == true) (V.i (4 : Int))), pc (22 : Nat) ((((decide ((0 : Int) ≤ (↑(List.length l) : Int) - (1 : Int) - (↑k : Int)) == true) = true → (decide ((0 : Int) ≤ (↑(List.length l) : Int) - (1 : Int) - (↑k : Int)) == true) = true) ∧ True ∧ True) ∧ ((decide ((0 : Int) ≤ (↑(List.length l) : Int) - (1 : Int) - (↑k : Int)) == true) = true → True)) (V.gd (decide ((0 : Int) ≤ (↑(List.length l) : Int) - (1 : Int) - (↑k : Int)) == true) (V.b false)), pc (23 : Nat) ((decide ((0 : Int) ≤ (↑(List.length l) : Int) - (1 : Int) - (↑k : Int)) = true → (decide ((0 : Int) ≤ (↑(List.length l) : Int) - (1 : Int) - (↑k : Int)) == true) = true) ∧ True) (V.b (decide ((0 : Int) ≤ (↑(List.length l) : Int) - (1 : Int) - (↑k : Int)) && false))] (by kernel_rfl) (by kernel_rfl) ⟨⟨⟨True.intro, True.intro⟩, (fun _ => True.intro)⟩, ⟨⟨(by (exact fun h => h)), ⟨True.intro, True.intro⟩⟩, (fun _ => True.intro)⟩, ⟨(by (intro h; rw [h]; rfl)), True.intro⟩, True.intro⟩ ?_
      refine aops_nil ?_
      refine xt_n ?_
      refine hK _ ?_
      clear hK K
      refine w_cond (t := decide ((0 : Int) ≤ (↑(List.length l) : Int) - (1 : Int) - (↑k : Int)) && false) (by kernel_rfl) (fun c3 => ?_) (fun c3 => ?_)
      · simp at c3
      refine aw_exit ?_
      refine xt_x ?_
      refine xt_x ?_
      refine xb_same ?_
      refine xt_n ?_
      clear hK K
      refine hK _ ?_
      clear hK K
      refine aw_seq_k fun K hK => ?_
      refine aw_seq_k fun K hK => ?_
      refine w_region (n' := 3) (by kernel_rfl) (by kernel_rfl) ?_
      refine aops_n hTT (M := []) (n := 2) [pv (35 : Nat) (V.i (4 : Int)), pv (36 : Nat) (V.b true)] (by kernel_rfl) (by kernel_rfl) True.intro ?_
      refine aops_nil ?_
      refine xt_n ?_
      refine hK _ ?_
      clear hK K
      refine w_true (t := true) (by kernel_rfl) rfl ?_
      refine aw_seq_k fun K hK => ?_
      refine w_region (n' := 4) (by kernel_rfl) (by kernel_rfl) ?_
      refine aops_n hTT (M := []) (n := 3) [pv (37 : Nat) (V.i (4 : Int)), pv (4 : Nat) V.nil, pv (5 : Nat) (V.i (4 : Int))] (by kernel_rfl) (by kernel_rfl) True.intro ?_
      refine aops_nil ?_
      refine xt_n ?_
      refine hK _ ?_
      clear hK K
      refine aw_ret ?_
      refine xt_r ?_
      rw [chR_3 c1 c2 hy]
      refine ret_of_le (le_nil 4 (sz := 1) 0 (fun k => [.i (gi [] k)]) (by kernel_rfl) ?_) ?_
      · rfl
      refine ret_pure (v' := V.tup [V.sl (1 : Nat) (0 : Nat) fun (k : Nat) => [V.i (gi [] k)], V.i (4 : Int)]) (.inr rfl) (by kernel_rfl) (by kernel_rfl) (by kernel_rfl)
    | some y =>
      have hya := hy.2.2
      simp only [lOf, eOf]
      refine aw_seq_k fun K hK => ?_
      refine aw_seq_k fun K hK => ?_
      refine w_region (n' := 2) (by kernel_rfl) (by kernel_rfl) ?_
      refine aops_n hTT (M := []) (n := 6) [pv (18 : Nat) (V.i ((↑(List.length l) : Int) - (1 : Int) - (↑k : Int))), pv (19 : Nat) (V.b (decide ((0 : Int) ≤ (↑(List.length l) : Int) - (1 : Int) - (↑k : Int)))), pv (20 : Nat) (V.b (decide ((0 : Int) ≤ (↑(List.length l) : Int) - (1 : Int) - (↑k : Int)))), pc (21 : Nat) ((True ∧ True) ∧ ((decide ((0 : Int) ≤ (↑(List.length l) : Int) - (1 : Int) - (↑k : Int)) == true) = true → True)) (V.gd (decide ((0 : Int) ≤ (↑(List.length l) : Int) - (1 : Int) - (↑k : Int)) == true) (V.i (0 : Int))), pc (22 : Nat) ((((decide ((0 : Int) ≤ (↑(List.length l) : Int) - (1 : Int) - (↑k : Int)) == true) = true → (decide ((0 : Int) ≤ (↑(List.length l) : Int) - (1 : Int) - (↑k : Int)) == true) = true) ∧ True ∧ True) ∧ ((decide ((0 : Int) ≤ (↑(List.length l) : Int) - (1 : Int) - (↑k : Int)) == true) = true → True)) (V.gd (decide ((0 : Int) ≤ (↑(List.length l) : Int) - (1 : Int) - (↑k : Int)) == true) (V.b true)), pc (23 : Nat) ((decide ((0 : Int) ≤ (↑(List.length l) : Int) - (1 : Int) - (↑k : Int)) = true → (decide ((0 : Int) ≤ (↑(List.length l) : Int) - (1 : Int) - (↑k : Int)) == true) = true) ∧ True) (V.b (decide ((0 : Int) ≤ (↑(List.length l) : Int) - (1 : Int) - (↑k : Int)) && true))] (by kernel_rfl) (by kernel_rfl) ⟨⟨⟨True.intro, True.intro⟩, (fun _ => True.intro)⟩, ⟨⟨(by (exact fun h => h)), ⟨True.intro, True.intro⟩⟩, (fun _ => True.intro)⟩, ⟨(by (intro h; rw [h]; rfl)), True.intro⟩, True.intro⟩ ?_
      refine aops_nil ?_
      refine xt_n ?_
      refine hK _ ?_
      clear hK K
      refine w_cond (t := decide ((0 : Int) ≤ (↑(List.length l) : Int) - (1 : Int) - (↑k : Int)) && true) (by kernel_rfl) (fun c3 => ?_) (fun c3 => ?_)
      · simp at c3
        have hkl : k < l.length := by omega
        have hki : ((l.length : Int) - 1 - (k : Int)).toNat < l.length := by omega
        have hq : gc (seqC l true) k = gc l ((l.length : Int) - 1 - (k : Int)).toNat := by
          rw [seqC_gc hkl, if_pos rfl]
          congr 1
          omega
        have A := refUndo_ac (gc l ((l.length : Int) - 1 - (k : Int)).toNat) y (hl.2 _ hki) hy.2.1
        have hn := chOk_next hkl hy
        rw [hq] at hn
        rcases apR_or (u := true) (g4 _ hki) hy.1 with ⟨e1, r1⟩ | ⟨z, e1, r1, hz, _⟩
        · rw [e1] at A
          rw [r1] at hn
          refine aw_skip ?_
          refine xt_n ?_
          refine hK _ ?_
          clear hK K
          refine aw_seq_k fun K hK => ?_
          refine aw_block ?_
          refine w_region (n' := 3) (by kernel_rfl) (by kernel_rfl) ?_
          refine aops_n hTT (M := []) (n := 5) [pv (27 : Nat) (V.sl (3 : Nat) (List.length l) fun (k : Nat) => [V.ints (Cv.feed (gc l k)), V.ints (Cv.back (gc l k)), V.i (Cv.share (gc l k))]), pv (28 : Nat) (V.i ((↑(List.length l) : Int) - (1 : Int) - (↑k : Int))), pc (29 : Nat) ((0 : Int) ≤ (↑(List.length l) : Int) - (1 : Int) - (↑k : Int) ∧ (↑(List.length l) : Int) - (1 : Int) - (↑k : Int) < (↑(List.length l) : Int)) (V.ptr [V.sl (1 : Nat) (List.length (Cv.feed (gc l (Int.toNat ((↑(List.length l) : Int) - (1 : Int) - (↑k : Int)))))) fun (k_1 : Nat) => [V.i (gi (Cv.feed (gc l (Int.toNat ((↑(List.length l) : Int) - (1 : Int) - (↑k : Int))))) k_1)], V.sl (1 : Nat) (List.length (Cv.back (gc l (Int.toNat ((↑(List.length l) : Int) - (1 : Int) - (↑k : Int)))))) fun (k_1 : Nat) => [V.i (gi (Cv.back (gc l (Int.toNat ((↑(List.length l) : Int) - (1 : Int) - (↑k : Int))))) k_1)], V.i (Cv.share (gc l (Int.toNat ((↑(List.length l) : Int) - (1 : Int) - (↑k : Int)))))]), pv (30 : Nat) (V.agg [V.sl (1 : Nat) (List.length (Cv.feed (gc l (Int.toNat ((↑(List.length l) : Int) - (1 : Int) - (↑k : Int)))))) fun (k_1 : Nat) => [V.i (gi (Cv.feed (gc l (Int.toNat ((↑(List.length l) : Int) - (1 : Int) - (↑k : Int))))) k_1)], V.sl (1 : Nat) (List.length (Cv.back (gc l (Int.toNat ((↑(List.length l) : Int) - (1 : Int) - (↑k : Int)))))) fun (k_1 : Nat) => [V.i (gi (Cv.back (gc l (Int.toNat ((↑(List.length l) : Int) - (1 : Int) - (↑k : Int))))) k_1)], V.i (Cv.share (gc l (Int.toNat ((↑(List.length l) : Int) - (1 : Int) - (↑k : Int)))))]), pv (31 : Nat) (V.sl (1 : Nat) (List.length y) fun (k : Nat) => [V.i (gi y k)])] (by kernel_rfl) (by kernel_rfl) ⟨(by omega), True.intro⟩ ?_
          refine e_call (first := []) (caps := []) (A) (by kernel_rfl) (by kernel_rfl) (by kernel_rfl) (by kernel_rfl) (by kernel_rfl) ?_
          refine aops_n hTT (M := []) (n := 5) [pv (26 : Nat) (V.tup [V.sl (1 : Nat) (0 : Nat) fun (k : Nat) => [V.i (gi [] k)], V.i (4 : Int)]), pv (33 : Nat) (V.sl (1 : Nat) (0 : Nat) fun (k : Nat) => [V.i (gi [] k)]), pv (34 : Nat) (V.i (4 : Int)), pv (1 : Nat) (V.sl (1 : Nat) (0 : Nat) fun (k : Nat) => [V.i (gi [] k)]), pv (6 : Nat) (V.i (4 : Int))] (by kernel_rfl) (by kernel_rfl) True.intro ?_
          refine aops_nil ?_
          refine xb_n ?_
          refine xt_n ?_
          refine hK _ ?_
          clear hK K
          refine w_region (n' := 4) (by kernel_rfl) (by kernel_rfl) ?_
          refine aops_n hTT (M := []) (n := 3) [pv (24 : Nat) (V.i ((↑(List.length l) : Int) - (1 : Int) - (↑k : Int))), pc (25 : Nat) ((-9223372036854775808 : Int) ≤ (↑(List.length l) : Int) - (1 : Int) - (↑k : Int) - (1 : Int) ∧ (↑(List.length l) : Int) - (1 : Int) - (↑k : Int) - (1 : Int) ≤ (9223372036854775807 : Int)) (V.i ((↑(List.length l) : Int) - (1 : Int) - (↑k : Int) - (1 : Int))), pv (7 : Nat) (V.i ((↑(List.length l) : Int) - (1 : Int) - (↑k : Int) - (1 : Int)))] (by kernel_rfl) (by kernel_rfl) ⟨(by omega), True.intro⟩ ?_
          refine aops_nil ?_
          refine xt_n ?_
          refine ⟨(k + 1, none), ⟨hkl, hn⟩, ?_, by simp only; omega⟩
          show Le _ ⟨mkT [(0, V.cvs l), (1, V.ints []), (6, .i 4), (7, .i ((l.length : Int) - 1 - ((k + 1 : Nat) : Int)))], mkS [], 1⟩
          rw [show (l.length : Int) - 1 - ((k + 1 : Nat) : Int) = (l.length : Int) - 1 - (k : Int) - 1 by omega]
          refine le_ren [] (.cons (by kernel_rfl) (.cons (by kernel_rfl) (.cons (by kernel_rfl) (.cons (by kernel_rfl) .nil)))) .nil (by kernel_rfl) (by kernel_rfl)
        · rw [e1] at A
          rw [r1] at hn
          refine aw_skip ?_
          refine xt_n ?_
          refine hK _ ?_
          clear hK K
          refine aw_seq_k fun K hK => ?_
          refine aw_block ?_
          refine w_region (n' := 3) (by kernel_rfl) (by kernel_rfl) ?_
          refine aops_n hTT (M := []) (n := 5) [pv (27 : Nat) (V.sl (3 : Nat) (List.length l) fun (k : Nat) => [V.ints (Cv.feed (gc l k)), V.ints (Cv.back (gc l k)), V.i (Cv.share (gc l k))]), pv (28 : Nat) (V.i ((↑(List.length l) : Int) - (1 : Int) - (↑k : Int))), pc (29 : Nat) ((0 : Int) ≤ (↑(List.length l) : Int) - (1 : Int) - (↑k : Int) ∧ (↑(List.length l) : Int) - (1 : Int) - (↑k : Int) < (↑(List.length l) : Int)) (V.ptr [V.sl (1 : Nat) (List.length (Cv.feed (gc l (Int.toNat ((↑(List.length l) : Int) - (1 : Int) - (↑k : Int)))))) fun (k_1 : Nat) => [V.i (gi (Cv.feed (gc l (Int.toNat ((↑(List.length l) : Int) - (1 : Int) - (↑k : Int))))) k_1)], V.sl (1 : Nat) (List.length (Cv.back (gc l (Int.toNat ((↑(List.length l) : Int) - (1 : Int) - (↑k : Int)))))) fun (k_1 : Nat) => [V.i (gi (Cv.back (gc l (Int.toNat ((↑(List.length l) : Int) - (1 : Int) - (↑k : Int))))) k_1)], V.i (Cv.share (gc l (Int.toNat ((↑(List.length l) : Int) - (1 : Int) - (↑k : Int)))))]), pv (30 : Nat) (V.agg [V.sl (1 : Nat) (List.length (Cv.feed (gc l (Int.toNat ((↑(List.length l) : Int) - (1 : Int) - (↑k : Int)))))) fun (k_1 : Nat) => [V.i (gi (Cv.feed (gc l (Int.toNat ((↑(List.length l) : Int) - (1 : Int) - (↑k : Int))))) k_1)], V.sl (1 : Nat) (List.length (Cv.back (gc l (Int.toNat ((↑(List.length l) : Int) - (1 : Int) - (↑k : Int)))))) fun (k_1 : Nat) => [V.i (gi (Cv.back (gc l (Int.toNat ((↑(List.length l) : Int) - (1 : Int) - (↑k : Int))))) k_1)], V.i (Cv.share (gc l (Int.toNat ((↑(List.length l) : Int) - (1 : Int) - (↑k : Int)))))]), pv (31 : Nat) (V.sl (1 : Nat) (List.length y) fun (k : Nat) => [V.i (gi y k)])] (by kernel_rfl) (by kernel_rfl) ⟨(by omega), True.intro⟩ ?_
          refine e_call (first := []) (caps := []) (A) (by kernel_rfl) (by kernel_rfl) (by kernel_rfl) (by kernel_rfl) (by kernel_rfl) ?_
          refine aops_n hTT (M := []) (n := 5) [pv (26 : Nat) (V.tup [V.sl (1 : Nat) (List.length z) fun (k : Nat) => [V.i (gi z k)], V.i (0 : Int)]), pv (33 : Nat) (V.sl (1 : Nat) (List.length z) fun (k : Nat) => [V.i (gi z k)]), pv (34 : Nat) (V.i (0 : Int)), pv (1 : Nat) (V.sl (1 : Nat) (List.length z) fun (k : Nat) => [V.i (gi z k)]), pv (6 : Nat) (V.i (0 : Int))] (by kernel_rfl) (by kernel_rfl) True.intro ?_
          refine aops_nil ?_
          refine xb_n ?_
          refine xt_n ?_
          refine hK _ ?_
          clear hK K
          refine w_region (n' := 4) (by kernel_rfl) (by kernel_rfl) ?_
          refine aops_n hTT (M := []) (n := 3) [pv (24 : Nat) (V.i ((↑(List.length l) : Int) - (1 : Int) - (↑k : Int))), pc (25 : Nat) ((-9223372036854775808 : Int) ≤ (↑(List.length l) : Int) - (1 : Int) - (↑k : Int) - (1 : Int) ∧ (↑(List.length l) : Int) - (1 : Int) - (↑k : Int) - (1 : Int) ≤ (9223372036854775807 : Int)) (V.i ((↑(List.length l) : Int) - (1 : Int) - (↑k : Int) - (1 : Int))), pv (7 : Nat) (V.i ((↑(List.length l) : Int) - (1 : Int) - (↑k : Int) - (1 : Int)))] (by kernel_rfl) (by kernel_rfl) ⟨(by omega), True.intro⟩ ?_
          refine aops_nil ?_
          refine xt_n ?_
          refine ⟨(k + 1, some z), ⟨hkl, hn⟩, ?_, by simp only; omega⟩
          show Le _ ⟨mkT [(0, V.cvs l), (1, V.ints z), (6, .i 0), (7, .i ((l.length : Int) - 1 - ((k + 1 : Nat) : Int)))], mkS [], 1⟩
          rw [show (l.length : Int) - 1 - ((k + 1 : Nat) : Int) = (l.length : Int) - 1 - (k : Int) - 1 by omega]
          refine le_ren [] (.cons (by kernel_rfl) (.cons (by kernel_rfl) (.cons (by kernel_rfl) (.cons (by kernel_rfl) .nil)))) .nil (by kernel_rfl) (by kernel_rfl)
      · simp at c3
        obtain rfl : k = l.length := by omega
        have hyl := (sigE_ok.1 hy.1).1
        have hend : chR l true x = (0, y) := chR_end c1 c2 hy
        refine aw_exit ?_
        refine xt_x ?_
        refine xt_x ?_
        refine xb_same ?_
        refine xt_n ?_
        clear hK K
        refine hK _ ?_
        clear hK K
        refine aw_seq_k fun K hK => ?_
        refine aw_seq_k fun K hK => ?_
        refine w_region (n' := 3) (by kernel_rfl) (by kernel_rfl) ?_
        refine aops_n hTT (M := [38]) (n := 2) [pv (35 : Nat) (V.i (0 : Int)), pv (36 : Nat) (V.b false)] (by kernel_rfl) (by kernel_rfl) True.intro ?_
        refine aops_nil ?_
        refine xt_n ?_
        refine hK _ ?_
        clear hK K
        refine w_false (t := false) (by kernel_rfl) rfl ?_
        refine aw_skip ?_
        refine xt_n ?_
        refine hK _ ?_
        clear hK K
        refine aw_seq_k fun K hK => ?_
        refine w_region (n' := 4) (by kernel_rfl) (by kernel_rfl) ?_
        refine aops_n hTT (M := [38]) (n := 5) [pn (38 : Nat) (V.own (300038 : Nat)) (300038 : Nat) (Ob.row (2 : Nat) (1 : Nat) (0 : Nat) fun (i : Nat) => List.take (1 : Nat) (List.drop (i * (1 : Nat)) (repV (0 : Nat) [V.c (Value.int IntKind.i64 (0 : Int))]))), pv (39 : Nat) (V.sl (1 : Nat) (List.length y) fun (k : Nat) => [V.i (gi y k)]), PR.mk (some (40 : Nat)) (some ((0 : Nat) + List.length y ≤ (1099511627776 : Nat))) (V.own (300040 : Nat)) [((300038 : Nat), none), ((300040 : Nat), some (Ob.row (2 : Nat) (1 : Nat) ((0 : Nat) + List.length y) (appRow (0 : Nat) (fun (i : Nat) => List.take (1 : Nat) (List.drop (i * (1 : Nat)) (repV (0 : Nat) [V.c (Value.int IntKind.i64 (0 : Int))]))) fun (k : Nat) => [V.i (gi y k)])))] false, pv (4 : Nat) (V.own (300040 : Nat)), pv (5 : Nat) (V.i (0 : Int))] (by kernel_rfl) (by kernel_rfl) ⟨(by omega), True.intro⟩ ?_
        refine aops_nil ?_
        refine xt_n ?_
        refine hK _ ?_
        clear hK K
        refine aw_ret ?_
        rw [hend]
        refine ret_of_le (le_shut 4 300040 (e := (2 : Nat)) (sz := (1 : Nat)) (n := (0 : Nat) + List.length y) (n' := y.length) (row := appRow (0 : Nat) (fun (i : Nat) => List.take (1 : Nat) (List.drop (i * (1 : Nat)) (repV (0 : Nat) [V.c (Value.int IntKind.i64 (0 : Int))]))) fun (k : Nat) => [V.i (gi y k)]) (row' := (fun k => [.i (gi y k)])) (by kernel_rfl) (by kernel_rfl) (fun _ _ => rfl) ?_ ?_) ?_
        · omega
        · intro i hi
          rw [appRow, if_neg (by omega), Nat.sub_zero]
        refine ret_pure (v' := V.tup [V.sl (1 : Nat) (List.length y) fun (k : Nat) => [V.i (gi y k)], V.i (0 : Int)]) (.inr rfl) (by kernel_rfl) ?_ (by kernel_rfl)
        rfl
  · refine aw_skip ?_
    refine xt_n ?_
    refine hK _ ?_
    clear hK K
    refine aw_seq_k fun K hK => ?_
    refine w_region (n' := 5) (by kernel_rfl) (by kernel_rfl) ?_
    refine aops_n hTT (M := []) (n := 1) [pv (13 : Nat) (V.sl (1 : Nat) (List.length x) fun (k : Nat) => [V.i (gi x k)])] (by kernel_rfl) (by kernel_rfl) True.intro ?_
    refine e_call (first := []) (caps := []) (S) (by kernel_rfl) (by kernel_rfl) (by kernel_rfl) (by kernel_rfl) (by kernel_rfl) ?_
    refine aops_n hTT (M := []) (n := 1) [pv (6 : Nat) (V.i (sigE x))] (by kernel_rfl) (by kernel_rfl) True.intro ?_
    refine aops_nil ?_
    refine xt_n ?_
    refine hK _ ?_
    clear hK K
    refine aw_seq_k fun K hK => ?_
    refine aw_seq_k fun K hK => ?_
    refine w_region (n' := 6) (by kernel_rfl) (by kernel_rfl) ?_
    refine aops_n hTT (M := []) (n := 4) [pv (15 : Nat) (V.sl (3 : Nat) (List.length l) fun (k : Nat) => [V.ints (Cv.feed (gc l k)), V.ints (Cv.back (gc l k)), V.i (Cv.share (gc l k))]), pv (16 : Nat) (V.i (↑(List.length l) : Int)), pc (17 : Nat) ((-9223372036854775808 : Int) ≤ (↑(List.length l) : Int) - (1 : Int) ∧ (↑(List.length l) : Int) - (1 : Int) ≤ (9223372036854775807 : Int)) (V.i ((↑(List.length l) : Int) - (1 : Int))), pv (7 : Nat) (V.i ((↑(List.length l) : Int) - (1 : Int)))] (by kernel_rfl) (by kernel_rfl) ⟨(by omega), True.intro⟩ ?_
    refine aops_nil ?_
    refine xt_n ?_
    refine hK _ ?_
    clear hK K
    refine aw_block ?_
    refine w_loop (ι := Unit) (fun _ => [(0, V.cvs l), (1, V.ints x), (6, .i (sigE x)), (7, .i ((l.length : Int) - 1))]) (fun _ => []) (fun _ => True) (fun _ => 0) () trivial ?_ ?_
    · refine le_ren [] (.cons (by kernel_rfl) (.cons (by kernel_rfl) (.cons (by kernel_rfl) (.cons (by kernel_rfl) .nil)))) .nil (by kernel_rfl) (by kernel_rfl)
    intro _ _
    refine aw_seq_k fun K hK => ?_
    refine aw_seq_k fun K hK => ?_
    refine w_region (n' := 2) (by kernel_rfl) (by kernel_rfl) ?_
    refine aops_n hTT (M := []) (n := 6) [pv (18 : Nat) (V.i ((↑(List.length l) : Int) - (1 : Int))), pv (19 : Nat) (V.b (decide ((0 : Int) ≤ (↑(List.length l) : Int) - (1 : Int)))), pv (20 : Nat) (V.b (decide ((0 : Int) ≤ (↑(List.length l) : Int) - (1 : Int)))), pc (21 : Nat) ((True ∧ True) ∧ ((decide ((0 : Int) ≤ (↑(List.length l) : Int) - (1 : Int)) == true) = true → True)) (V.gd (decide ((0 : Int) ≤ (↑(List.length l) : Int) - (1 : Int)) == true) (V.i (sigE x))), pc (22 : Nat) ((((decide ((0 : Int) ≤ (↑(List.length l) : Int) - (1 : Int)) == true) = true → (decide ((0 : Int) ≤ (↑(List.length l) : Int) - (1 : Int)) == true) = true) ∧ True ∧ True) ∧ ((decide ((0 : Int) ≤ (↑(List.length l) : Int) - (1 : Int)) == true) = true → True)) (V.gd (decide ((0 : Int) ≤ (↑(List.length l) : Int) - (1 : Int)) == true) (V.b (decide (sigE x = (0 : Int))))), pc (23 : Nat) ((decide ((0 : Int) ≤ (↑(List.length l) : Int) - (1 : Int)) = true → (decide ((0 : Int) ≤ (↑(List.length l) : Int) - (1 : Int)) == true) = true) ∧ True) (V.b (decide ((0 : Int) ≤ (↑(List.length l) : Int) - (1 : Int)) && decide (sigE x = (0 : Int))))] (by kernel_rfl) (by kernel_rfl) ⟨⟨⟨True.intro, True.intro⟩, (fun _ => True.intro)⟩, ⟨⟨(by (exact fun h => h)), ⟨True.intro, True.intro⟩⟩, (fun _ => True.intro)⟩, ⟨(by (intro h; rw [h]; rfl)), True.intro⟩, True.intro⟩ ?_
    refine aops_nil ?_
    refine xt_n ?_
    refine hK _ ?_
    clear hK K
    refine w_cond (t := decide ((0 : Int) ≤ (↑(List.length l) : Int) - (1 : Int)) && decide (sigE x = (0 : Int))) (by kernel_rfl) (fun c3 => ?_) (fun c3 => ?_)
    · simp [c2] at c3
    refine aw_exit ?_
    refine xt_x ?_
    refine xt_x ?_
    refine xb_same ?_
    refine xt_n ?_
    clear hK K
    refine hK _ ?_
    clear hK K
    refine aw_seq_k fun K hK => ?_
    refine aw_seq_k fun K hK => ?_
    refine w_region (n' := 3) (by kernel_rfl) (by kernel_rfl) ?_
    refine aops_n hTT (M := []) (n := 2) [pv (35 : Nat) (V.i (sigE x)), pv (36 : Nat) (V.b !decide (sigE x = (0 : Int)))] (by kernel_rfl) (by kernel_rfl) True.intro ?_
    refine aops_nil ?_
    refine xt_n ?_
    refine hK _ ?_
    clear hK K
    refine w_cond (t := !decide (sigE x = (0 : Int))) (by kernel_rfl) (fun c4 => ?_) (fun c4 => ?_)
    · refine aw_seq_k fun K hK => ?_
      refine w_region (n' := 4) (by kernel_rfl) (by kernel_rfl) ?_
      refine aops_n hTT (M := []) (n := 3) [pv (37 : Nat) (V.i (sigE x)), pv (4 : Nat) V.nil, pv (5 : Nat) (V.i (sigE x))] (by kernel_rfl) (by kernel_rfl) True.intro ?_
      refine aops_nil ?_
      refine xt_n ?_
      refine hK _ ?_
      clear hK K
      refine aw_ret ?_
      refine xt_r ?_
      rw [chR_2 c1 c2]
      refine ret_of_le (le_nil 4 (sz := 1) 0 (fun k => [.i (gi [] k)]) (by kernel_rfl) ?_) ?_
      · rfl
      refine ret_pure (v' := V.tup [V.sl (1 : Nat) (0 : Nat) fun (k : Nat) => [V.i (gi [] k)], V.i (sigE x)]) (.inr rfl) (by kernel_rfl) (by kernel_rfl) (by kernel_rfl)
    · simp at c4
      exact absurd c4 c2
end Go.Proofs.Ytblipieipldanaa
