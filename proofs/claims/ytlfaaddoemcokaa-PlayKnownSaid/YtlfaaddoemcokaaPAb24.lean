/-
  The greatest radius: both copies. Condition: as many points as a slice can have.
-/
import Derived.Test.YtlfaaddoemcokaaPAb23
import Derived.Test.YtlfaaddoemcokaaPAb7
import Derived.Test.YtlfaaddoemcokaaPAb14
namespace Go.Proofs.Ytlfaaddoemcokaa
open Go.Ab Go.RowKit Go.Dw Go.Shelf

/-- the greatest radius up to m with which a groove is read exactly -/
def best (l : List Pt) (a : Int) : Nat → Int
  | 0 => 0
  | m + 1 => if exactB l a ((m + 1 : Nat) : Int) then ((m + 1 : Nat) : Int) else best l a m
theorem best_spec (l : List Pt) {a : Int} (ha : 1 ≤ a) (m : Nat) : 0 ≤ best l a m ∧ best l a m ≤ m ∧ exactB l a (best l a m) = true ∧ ∀ r : Int, best l a m < r → r ≤ m → exactB l a r = false := by
  induction m with
  | zero => exact ⟨by simp [best], by simp [best], by rw [best]; exact exact_zero ha, fun r h1 h2 => by rw [best] at h1; omega⟩
  | succ m ih =>
    rw [best]
    split
    · rename_i h
      exact ⟨by omega, by omega, h, fun r h1 h2 => by omega⟩
    · rename_i h
      refine ⟨ih.1, by omega, ih.2.2.1, fun r h1 h2 => ?_⟩
      by_cases hr : r = ((m + 1 : Nat) : Int)
      · rw [hr]; simpa using h
      · exact ih.2.2.2 r h1 (by omega)
theorem best_uniq {l : List Pt} {a : Int} (ha : 1 ≤ a) {m : Nat} {r : Int} (h0 : 0 ≤ r) (h1 : r ≤ m) (h2 : exactB l a r = true) (h3 : ∀ r' : Int, r < r' → r' ≤ m → exactB l a r' = false) : r = best l a m := by
  obtain ⟨b0, b1, b2, b3⟩ := best_spec l ha m
  by_cases h4 : r < best l a m
  · rw [h3 _ h4 b1] at b2; cases b2
  · by_cases h5 : best l a m < r
    · rw [b3 _ h5 h1] at h2; cases h2
    · omega
theorem exact_le {l : List Pt} {a r r' : Int} (hr : 0 ≤ r) (ha : 1 ≤ a) (h : r ≤ r') (he : exactB l a r' = true) : exactB l a r = true :=
  exact_down (r' - r).toNat hr ha (by rw [show r + ((r' - r).toNat : Int) = r' by omega]; exact he)
theorem roundE_le {r r' a : Int} (h0 : 0 ≤ r) (h : r ≤ r') (he : roundE r' a = 0) : roundE r a = 0 := by
  obtain ⟨h1, h2, h3, h4, h5⟩ := roundE_ok.1 he
  have := eltN_mono h0 h3 h
  exact roundE_ok.2 ⟨h0, by omega, h3, h4, by omega⟩
def greatE (l : List Pt) (a m : Int) : Int := if checkPts l = 0 then roundE m a else checkPts l
def greatR (l : List Pt) (a m : Int) : Int := if greatE l a m = 0 then best l a m.toNat else 0
theorem great_1 {l : List Pt} {a m : Int} (h : ¬ checkPts l = 0) : greatE l a m = checkPts l ∧ greatR l a m = 0 := by
  have e : greatE l a m = checkPts l := by rw [greatE, if_neg h]
  exact ⟨e, by rw [greatR, e, if_neg h]⟩
theorem great_2 {l : List Pt} {a m : Int} (h : checkPts l = 0) (h2 : ¬ roundE m a = 0) : greatE l a m = roundE m a ∧ greatR l a m = 0 := by
  have e : greatE l a m = roundE m a := by rw [greatE, if_pos h]
  exact ⟨e, by rw [greatR, e, if_neg h2]⟩
theorem great_3 {l : List Pt} {a m : Int} (h : checkPts l = 0) (h2 : roundE m a = 0) : greatE l a m = 0 ∧ greatR l a m = best l a m.toNat := by
  have e : greatE l a m = 0 := by rw [greatE, if_pos h, h2]
  exact ⟨e, by rw [greatR, e, if_pos rfl]⟩
set_option maxRecDepth 100000 in
theorem Greatest_ac (l : List Pt) (a m : Int) (hl : l.length ≤ 4611686018427387904) : AC Try.prog 52 [V.pts l, .i a, .i m] (.tup [.i (greatR l a m), .i (greatE l a m)]) [] := by
  refine ac_intro hTT hMX (fn := Try.f52) (N := _) ⟨Try.func52, rfl, Try.ntmps52, by kernel_rfl⟩ (by simp) fun C hC hF => ?_
  refine aw_seq_k fun K hK => ?_
  refine w_region (n' := 2) (by kernel_rfl) (by kernel_rfl) ?_
  refine aops_n hTT (M := []) (n := 2) [pv (6 : Nat) (V.i (0 : Int)), pv (7 : Nat) (V.i (0 : Int))] (by kernel_rfl) (by kernel_rfl) True.intro ?_
  refine aops_nil ?_
  refine xt_n ?_
  refine hK _ ?_
  clear hK K
  refine aw_scope ?_
  refine aw_seq_k fun K hK => ?_
  refine aw_seq_k fun K hK => ?_
  refine w_region (n' := 3) (by kernel_rfl) (by kernel_rfl) ?_
  refine aops_n hTT (M := []) (n := 1) [pv (19 : Nat) (V.sl (2 : Nat) (List.length l) fun (k : Nat) => [V.i (Prod.fst (gp l k)), V.i (Prod.snd (gp l k))])] (by kernel_rfl) (by kernel_rfl) True.intro ?_
  refine e_call (first := []) (caps := []) (checkPts_ac l hl) (by kernel_rfl) (by kernel_rfl) (by kernel_rfl) (by kernel_rfl) (by kernel_rfl) ?_
  refine aops_n hTT (M := []) (n := 1) [pv (8 : Nat) (V.i (checkPts l))] (by kernel_rfl) (by kernel_rfl) True.intro ?_
  refine aops_nil ?_
  refine xt_n ?_
  refine hK _ ?_
  clear hK K
  refine aw_seq_k fun K hK => ?_
  refine w_region (n' := 4) (by kernel_rfl) (by kernel_rfl) ?_
  refine aops_n hTT (M := []) (n := 2) [pv (21 : Nat) (V.i (checkPts l)), pv (22 : Nat) (V.b !decide (checkPts l = (0 : Int)))] (by kernel_rfl) (by kernel_rfl) True.intro ?_
  refine aops_nil ?_
  refine xt_n ?_
  refine hK _ ?_
  clear hK K
  refine w_cond (t := !decide (checkPts l = (0 : Int))) (by kernel_rfl) (fun c1 => ?_) (fun c1 => ?_)
  · simp at c1
    refine aw_seq_k fun K hK => ?_
    refine w_region (n' := 5) (by kernel_rfl) (by kernel_rfl) ?_
    refine aops_n hTT (M := []) (n := 3) [pv (23 : Nat) (V.i (checkPts l)), pv (6 : Nat) (V.i (0 : Int)), pv (7 : Nat) (V.i (checkPts l))] (by kernel_rfl) (by kernel_rfl) True.intro ?_
    refine aops_nil ?_
    refine xt_n ?_
    refine hK _ ?_
    clear hK K
    refine aw_ret ?_
    refine xt_r ?_
    refine xs_r ?_
    rw [(great_1 (a := a) (m := m) c1).1, (great_1 (a := a) (m := m) c1).2]
    refine ret_pure (v' := V.tup [V.i (0 : Int), V.i (checkPts l)]) (.inr rfl) (by kernel_rfl) (by kernel_rfl) (by kernel_rfl)
  simp at c1
  by_cases hR : roundE m a = 0
  · obtain ⟨h1, h2, h3, h4, h5⟩ := roundE_ok.1 hR
    refine aw_skip ?_
    refine xt_n ?_
    refine hK _ ?_
    clear hK K
    refine aw_seq_k fun K hK => ?_
    refine aw_seq_k fun K hK => ?_
    refine w_region (n' := 5) (by kernel_rfl) (by kernel_rfl) ?_
    refine aops_n hTT (M := []) (n := 2) [pv (25 : Nat) (V.i m), pv (26 : Nat) (V.i a)] (by kernel_rfl) (by kernel_rfl) True.intro ?_
    refine e_call (first := []) (caps := []) (Round_ok m a false hR) (by kernel_rfl) (by kernel_rfl) (by kernel_rfl) (by kernel_rfl) (by kernel_rfl) ?_
    refine aops_n hTT (M := []) (n := 6) [pv (24 : Nat) (V.tup [V.agg [V.sl (1 : Nat) (List.length (eltL m a false)) fun (k : Nat) => [V.i (gi (eltL m a false) k)]], V.i (0 : Int)]), pv (28 : Nat) (V.agg [V.sl (1 : Nat) (List.length (eltL m a false)) fun (k : Nat) => [V.i (gi (eltL m a false) k)]]), pv (29 : Nat) (V.i (0 : Int)), pn (9 : Nat) (V.ref (400009 : Nat) (0 : Nat)) (400009 : Nat) (Ob.box (24 : Nat) [V.nil]), pw ((0 : Nat) + (1 : Nat) ≤ (1 : Nat)) (400009 : Nat) (Ob.box (24 : Nat) [V.sl (1 : Nat) (List.length (eltL m a false)) fun (k : Nat) => [V.i (gi (eltL m a false) k)]]), pv (10 : Nat) (V.i (0 : Int))] (by kernel_rfl) (by kernel_rfl) ⟨(by omega), True.intro⟩ ?_
    refine aops_nil ?_
    refine xt_n ?_
    refine hK _ ?_
    clear hK K
    refine aw_seq_k fun K hK => ?_
    refine w_region (n' := 6) (by kernel_rfl) (by kernel_rfl) ?_
    refine aops_n hTT (M := []) (n := 2) [pv (30 : Nat) (V.i (0 : Int)), pv (31 : Nat) (V.b false)] (by kernel_rfl) (by kernel_rfl) True.intro ?_
    refine aops_nil ?_
    refine xt_n ?_
    refine hK _ ?_
    clear hK K
    refine w_false (t := false) (by kernel_rfl) rfl ?_
    refine aw_skip ?_
    refine xt_n ?_
    refine hK _ ?_
    clear hK K
    refine aw_seq_k fun K hK => ?_
    refine w_region (n' := 7) (by kernel_rfl) (by kernel_rfl) ?_
    refine aops_n hTT (M := []) (n := 3) [pv (33 : Nat) (V.i m), pv (11 : Nat) (V.i (0 : Int)), pv (12 : Nat) (V.i m)] (by kernel_rfl) (by kernel_rfl) True.intro ?_
    refine aops_nil ?_
    refine xt_n ?_
    refine hK _ ?_
    clear hK K
    refine aw_seq_k fun K hK => ?_
    refine aw_label ?_
    refine xt_n ?_
    refine hK _ ?_
    clear hK K
    refine aw_seq_k fun K hK => ?_
    refine aw_block ?_
    refine w_loop (ι := Int × Int) (fun x => [(0, V.pts l), (1, .i a), (11, .i x.1), (12, .i x.2)]) (fun _ => []) (fun x => 0 ≤ x.1 ∧ x.1 ≤ x.2 ∧ x.2 ≤ m ∧ exactB l a x.1 = true ∧ ∀ r, x.2 < r → r ≤ m → exactB l a r = false) (fun x => (x.2 - x.1).toNat) (0, m) ⟨Int.le_refl 0, h1, Int.le_refl _, exact_zero h3, fun r h6 h7 => by simp only at h6; omega⟩ ?_ ?_
    · show Le _ ⟨mkT [(0, V.pts l), (1, .i a), (11, .i 0), (12, .i m)], mkS [], 1⟩
      refine le_ren [] (.cons (by kernel_rfl) (.cons (by kernel_rfl) (.cons (by kernel_rfl) (.cons (by kernel_rfl) .nil)))) .nil (by kernel_rfl) (by kernel_rfl)
    rintro ⟨lo, hi⟩ ⟨g0, g1, g2, g3, g4⟩
    simp only at g0 g1 g2 g3 g4 ⊢
    have hm := tdiv_bd (lo + hi + 1) (m := 2) (by decide)
    have hm1 : (lo + hi + 1).tdiv 2 = (lo + hi + 1) / 2 := Int.tdiv_eq_ediv_of_nonneg (by omega)
    refine aw_block ?_
    refine aw_seq_k fun K hK => ?_
    refine aw_seq_k fun K hK => ?_
    refine w_region (n' := 2) (by kernel_rfl) (by kernel_rfl) ?_
    refine aops_n hTT (M := []) (n := 3) [pv (34 : Nat) (V.i lo), pv (35 : Nat) (V.i hi), pv (36 : Nat) (V.b (decide (lo = hi)))] (by kernel_rfl) (by kernel_rfl) True.intro ?_
    refine aops_nil ?_
    refine xt_n ?_
    refine hK _ ?_
    clear hK K
    refine w_cond (t := decide (lo = hi)) (by kernel_rfl) (fun c3 => ?_) (fun c3 => ?_)
    · simp at c3
      subst c3
      refine aw_exit ?_
      refine xt_x ?_
      refine xb_ne rfl ?_
      refine xt_x ?_
      refine xb_same ?_
      refine xt_n ?_
      clear hK K
      refine hK _ ?_
      clear hK K
      refine aw_seq_k fun K hK => ?_
      refine w_region (n' := 3) (by kernel_rfl) (by kernel_rfl) ?_
      refine aops_n hTT (M := []) (n := 3) [pv (60 : Nat) (V.i lo), pv (6 : Nat) (V.i lo), pv (7 : Nat) (V.i (0 : Int))] (by kernel_rfl) (by kernel_rfl) True.intro ?_
      refine aops_nil ?_
      refine xt_n ?_
      refine hK _ ?_
      clear hK K
      refine aw_ret ?_
      refine xs_r ?_
      rw [(great_3 c1 hR).1, (great_3 c1 hR).2, ← best_uniq h3 g0 (by omega) g3 (fun r h6 h7 => g4 r h6 (by omega))]
      refine ret_pure (v' := V.tup [V.i lo, V.i (0 : Int)]) (.inr rfl) (by kernel_rfl) (by kernel_rfl) (by kernel_rfl)
    · simp at c3
      have hRk : roundE ((lo + hi + 1).tdiv 2) a = 0 := roundE_le (by omega) (by omega) hR
      obtain ⟨k1, k2, k3, k4, k5⟩ := roundE_ok.1 hRk
      refine aw_skip ?_
      refine xt_n ?_
      refine hK _ ?_
      clear hK K
      refine aw_seq_k fun K hK => ?_
      refine w_region (n' := 3) (by kernel_rfl) (by kernel_rfl) ?_
      refine aops_n hTT (M := []) (n := 6) [pv (37 : Nat) (V.i lo), pv (38 : Nat) (V.i hi), pc (39 : Nat) ((-9223372036854775808 : Int) ≤ lo + hi ∧ lo + hi ≤ (9223372036854775807 : Int)) (V.i (lo + hi)), pc (40 : Nat) ((-9223372036854775808 : Int) ≤ lo + hi + (1 : Int) ∧ lo + hi + (1 : Int) ≤ (9223372036854775807 : Int)) (V.i (lo + hi + (1 : Int))), pc (41 : Nat) ((0 : Int) < (2 : Int) ∧ (-9223372036854775808 : Int) ≤ lo + hi + (1 : Int) ∧ lo + hi + (1 : Int) ≤ (9223372036854775807 : Int)) (V.i (Int.tdiv (lo + hi + (1 : Int)) (2 : Int))), pv (13 : Nat) (V.i (Int.tdiv (lo + hi + (1 : Int)) (2 : Int)))] (by kernel_rfl) (by kernel_rfl) ⟨(by omega), (by omega), ⟨(by omega), (by omega)⟩, True.intro⟩ ?_
      refine aops_nil ?_
      refine xt_n ?_
      refine hK _ ?_
      clear hK K
      refine aw_seq_k fun K hK => ?_
      refine w_region (n' := 4) (by kernel_rfl) (by kernel_rfl) ?_
      refine aops_n hTT (M := []) (n := 2) [pv (43 : Nat) (V.i (Int.tdiv (lo + hi + (1 : Int)) (2 : Int))), pv (44 : Nat) (V.i a)] (by kernel_rfl) (by kernel_rfl) True.intro ?_
      refine e_call (first := []) (caps := []) (round_ac ((lo + hi + 1).tdiv 2) a false ⟨k1, k2⟩ ⟨k3, k4⟩ k5) (by kernel_rfl) (by kernel_rfl) (by kernel_rfl) (by kernel_rfl) (by kernel_rfl) ?_
      refine aops_n hTT (M := []) (n := 6) [pv (42 : Nat) (V.tup [V.agg [V.sl (1 : Nat) (List.length (eltL (Int.tdiv (lo + hi + (1 : Int)) (2 : Int)) a false)) fun (k : Nat) => [V.i (gi (eltL (Int.tdiv (lo + hi + (1 : Int)) (2 : Int)) a false) k)]], V.i (0 : Int)]), pv (46 : Nat) (V.agg [V.sl (1 : Nat) (List.length (eltL (Int.tdiv (lo + hi + (1 : Int)) (2 : Int)) a false)) fun (k : Nat) => [V.i (gi (eltL (Int.tdiv (lo + hi + (1 : Int)) (2 : Int)) a false) k)]]), pv (47 : Nat) (V.i (0 : Int)), pn (14 : Nat) (V.ref (300014 : Nat) (0 : Nat)) (300014 : Nat) (Ob.box (24 : Nat) [V.nil]), pw ((0 : Nat) + (1 : Nat) ≤ (1 : Nat)) (300014 : Nat) (Ob.box (24 : Nat) [V.sl (1 : Nat) (List.length (eltL (Int.tdiv (lo + hi + (1 : Int)) (2 : Int)) a false)) fun (k : Nat) => [V.i (gi (eltL (Int.tdiv (lo + hi + (1 : Int)) (2 : Int)) a false) k)]]), pv (15 : Nat) (V.i (0 : Int))] (by kernel_rfl) (by kernel_rfl) ⟨(by omega), True.intro⟩ ?_
      refine aops_nil ?_
      refine xt_n ?_
      refine hK _ ?_
      clear hK K
      refine aw_seq_k fun K hK => ?_
      refine aw_seq_k fun K hK => ?_
      refine w_region (n' := 5) (by kernel_rfl) (by kernel_rfl) ?_
      refine aops_n hTT (M := []) (n := 2) [pc (49 : Nat) ((0 : Nat) ≤ (1 : Nat)) (V.agg [V.sl (1 : Nat) (List.length (eltL (Int.tdiv (lo + hi + (1 : Int)) (2 : Int)) a false)) fun (k : Nat) => [V.i (gi (eltL (Int.tdiv (lo + hi + (1 : Int)) (2 : Int)) a false) k)]]), pv (50 : Nat) (V.sl (2 : Nat) (List.length l) fun (k : Nat) => [V.i (Prod.fst (gp l k)), V.i (Prod.snd (gp l k))])] (by kernel_rfl) (by kernel_rfl) ⟨(by omega), True.intro⟩ ?_
      refine e_call (first := []) (caps := []) (miss_ac (eltL ((lo + hi + 1).tdiv 2) a false) l (checkBoth_of (checkTip_round hRk) c1)) (by kernel_rfl) (by kernel_rfl) (by kernel_rfl) (by kernel_rfl) (by kernel_rfl) ?_
      refine aops_n hTT (M := []) (n := 7) [pv (48 : Nat) (V.tup [V.i (Prod.fst (missI (eltL (Int.tdiv (lo + hi + (1 : Int)) (2 : Int)) a false) l)), V.i (Prod.fst (Prod.snd (missI (eltL (Int.tdiv (lo + hi + (1 : Int)) (2 : Int)) a false) l))), V.i (Prod.snd (Prod.snd (missI (eltL (Int.tdiv (lo + hi + (1 : Int)) (2 : Int)) a false) l)))]), pv (52 : Nat) (V.i (Prod.fst (missI (eltL (Int.tdiv (lo + hi + (1 : Int)) (2 : Int)) a false) l))), pv (53 : Nat) (V.i (Prod.fst (Prod.snd (missI (eltL (Int.tdiv (lo + hi + (1 : Int)) (2 : Int)) a false) l)))), pv (54 : Nat) (V.i (Prod.snd (Prod.snd (missI (eltL (Int.tdiv (lo + hi + (1 : Int)) (2 : Int)) a false) l)))), pv (16 : Nat) (V.i (Prod.fst (missI (eltL (Int.tdiv (lo + hi + (1 : Int)) (2 : Int)) a false) l))), pv (17 : Nat) (V.i (Prod.fst (Prod.snd (missI (eltL (Int.tdiv (lo + hi + (1 : Int)) (2 : Int)) a false) l)))), pv (18 : Nat) (V.i (Prod.snd (Prod.snd (missI (eltL (Int.tdiv (lo + hi + (1 : Int)) (2 : Int)) a false) l))))] (by kernel_rfl) (by kernel_rfl) True.intro ?_
      refine aops_nil ?_
      refine xt_n ?_
      refine hK _ ?_
      clear hK K
      refine aw_seq_k fun K hK => ?_
      refine w_region (n' := 6) (by kernel_rfl) (by kernel_rfl) ?_
      refine aops_n hTT (M := []) (n := 2) [pv (55 : Nat) (V.i (Prod.snd (Prod.snd (missI (eltL (Int.tdiv (lo + hi + (1 : Int)) (2 : Int)) a false) l)))), pv (56 : Nat) (V.b (decide (Prod.snd (Prod.snd (missI (eltL (Int.tdiv (lo + hi + (1 : Int)) (2 : Int)) a false) l)) = (5 : Int))))] (by kernel_rfl) (by kernel_rfl) True.intro ?_
      refine aops_nil ?_
      refine xt_n ?_
      refine hK _ ?_
      clear hK K
      refine w_cond (t := decide (Prod.snd (Prod.snd (missI (eltL (Int.tdiv (lo + hi + (1 : Int)) (2 : Int)) a false) l)) = (5 : Int))) (by kernel_rfl) (fun c4 => ?_) (fun c4 => ?_)
      · refine aw_seq_k fun K hK => ?_
        refine w_region (n' := 7) (by kernel_rfl) (by kernel_rfl) ?_
        refine aops_n hTT (M := []) (n := 2) [pv (57 : Nat) (V.i (Int.tdiv (lo + hi + (1 : Int)) (2 : Int))), pv (11 : Nat) (V.i (Int.tdiv (lo + hi + (1 : Int)) (2 : Int)))] (by kernel_rfl) (by kernel_rfl) True.intro ?_
        refine aops_nil ?_
        refine xt_n ?_
        refine hK _ ?_
        clear hK K
        refine aw_exit ?_
        refine xt_x ?_
        refine xb_same ?_
        refine xt_n ?_
        refine ⟨((lo + hi + 1).tdiv 2, hi), ⟨by simp only; omega, by simp only; omega, g2, c4, g4⟩, ?_, by simp only; omega⟩
        show Le _ ⟨mkT [(0, V.pts l), (1, .i a), (11, .i ((lo + hi + 1).tdiv 2)), (12, .i hi)], mkS [], 1⟩
        refine le_ren [] (.cons (by kernel_rfl) (.cons (by kernel_rfl) (.cons (by kernel_rfl) (.cons (by kernel_rfl) .nil)))) .nil (by kernel_rfl) (by kernel_rfl)
      · refine aw_skip ?_
        refine xt_n ?_
        refine hK _ ?_
        clear hK K
        refine w_region (n' := 7) (by kernel_rfl) (by kernel_rfl) ?_
        refine aops_n hTT (M := []) (n := 3) [pv (58 : Nat) (V.i (Int.tdiv (lo + hi + (1 : Int)) (2 : Int))), pc (59 : Nat) ((-9223372036854775808 : Int) ≤ Int.tdiv (lo + hi + (1 : Int)) (2 : Int) - (1 : Int) ∧ Int.tdiv (lo + hi + (1 : Int)) (2 : Int) - (1 : Int) ≤ (9223372036854775807 : Int)) (V.i (Int.tdiv (lo + hi + (1 : Int)) (2 : Int) - (1 : Int))), pv (12 : Nat) (V.i (Int.tdiv (lo + hi + (1 : Int)) (2 : Int) - (1 : Int)))] (by kernel_rfl) (by kernel_rfl) ⟨(by omega), True.intro⟩ ?_
        refine aops_nil ?_
        refine xb_n ?_
        refine xt_n ?_
        refine ⟨(lo, (lo + hi + 1).tdiv 2 - 1), ⟨g0, by simp only; omega, by simp only; omega, g3, fun r h6 h7 => ?_⟩, ?_, by simp only; omega⟩
        · simp only at h6
          cases hx : exactB l a r with
          | false => rfl
          | true =>
            have := exact_le (r := (lo + hi + 1).tdiv 2) k1 h3 (by omega) hx
            have c5 : exactB l a ((lo + hi + 1).tdiv 2) = false := c4
            rw [c5] at this
            cases this
        · show Le _ ⟨mkT [(0, V.pts l), (1, .i a), (11, .i lo), (12, .i ((lo + hi + 1).tdiv 2 - 1))], mkS [], 1⟩
          refine le_ren [] (.cons (by kernel_rfl) (.cons (by kernel_rfl) (.cons (by kernel_rfl) (.cons (by kernel_rfl) .nil)))) .nil (by kernel_rfl) (by kernel_rfl)
  · refine aw_skip ?_
    refine xt_n ?_
    refine hK _ ?_
    clear hK K
    refine aw_seq_k fun K hK => ?_
    refine aw_seq_k fun K hK => ?_
    refine w_region (n' := 5) (by kernel_rfl) (by kernel_rfl) ?_
    refine aops_n hTT (M := []) (n := 2) [pv (25 : Nat) (V.i m), pv (26 : Nat) (V.i a)] (by kernel_rfl) (by kernel_rfl) True.intro ?_
    refine e_call (first := []) (caps := []) (Round_no m a false hR) (by kernel_rfl) (by kernel_rfl) (by kernel_rfl) (by kernel_rfl) (by kernel_rfl) ?_
    refine aops_n hTT (M := []) (n := 6) [pv (24 : Nat) (V.tup [V.agg [V.nil], V.i (roundE m a)]), pv (28 : Nat) (V.agg [V.nil]), pv (29 : Nat) (V.i (roundE m a)), pn (9 : Nat) (V.ref (400009 : Nat) (0 : Nat)) (400009 : Nat) (Ob.box (24 : Nat) [V.nil]), pw ((0 : Nat) + (1 : Nat) ≤ (1 : Nat)) (400009 : Nat) (Ob.box (24 : Nat) [V.nil]), pv (10 : Nat) (V.i (roundE m a))] (by kernel_rfl) (by kernel_rfl) ⟨(by omega), True.intro⟩ ?_
    refine aops_nil ?_
    refine xt_n ?_
    refine hK _ ?_
    clear hK K
    refine aw_seq_k fun K hK => ?_
    refine w_region (n' := 6) (by kernel_rfl) (by kernel_rfl) ?_
    refine aops_n hTT (M := []) (n := 2) [pv (30 : Nat) (V.i (roundE m a)), pv (31 : Nat) (V.b !decide (roundE m a = (0 : Int)))] (by kernel_rfl) (by kernel_rfl) True.intro ?_
    refine aops_nil ?_
    refine xt_n ?_
    refine hK _ ?_
    clear hK K
    refine w_cond (t := !decide (roundE m a = (0 : Int))) (by kernel_rfl) (fun c2 => ?_) (fun c2 => ?_)
    · refine aw_seq_k fun K hK => ?_
      refine w_region (n' := 7) (by kernel_rfl) (by kernel_rfl) ?_
      refine aops_n hTT (M := []) (n := 3) [pv (32 : Nat) (V.i (roundE m a)), pv (6 : Nat) (V.i (0 : Int)), pv (7 : Nat) (V.i (roundE m a))] (by kernel_rfl) (by kernel_rfl) True.intro ?_
      refine aops_nil ?_
      refine xt_n ?_
      refine hK _ ?_
      clear hK K
      refine aw_ret ?_
      refine xt_r ?_
      refine xs_r ?_
      rw [(great_2 c1 hR).1, (great_2 c1 hR).2]
      refine ret_pure (v' := V.tup [V.i (0 : Int), V.i (roundE m a)]) (.inr rfl) (by kernel_rfl) (by kernel_rfl) (by kernel_rfl)
    · simp at c2
      exact (hR c2).elim
end Go.Proofs.Ytlfaaddoemcokaa
